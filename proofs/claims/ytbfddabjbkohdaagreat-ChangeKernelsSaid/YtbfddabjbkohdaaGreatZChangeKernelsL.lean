/- An epoll, and a kqueue, to which all changes were said, of descriptors that are open, say no error, and want what is wanted: the law ChangeKernels answers true, whatever its input, and its arguments read behind the call as before. No condition. -/
import Derived.Lib.SmallJoins
import Derived.Test.YtbfddabjbkohdaaGreatZChangeKernelsK
set_option linter.unusedSimpArgs false
set_option linter.unusedVariables false
set_option linter.unnecessarySimpa false
set_option maxRecDepth 8000
set_option maxHeartbeats 2000000
open Go.RX.Hd (yv y2 n1 fk sk sr tH callE heldK qo qk qn qt qz qv endH thenN slots)
namespace Go.Proofs.YtbfddabjbkohdaaGreat
open Go.RX Go.ChangeShapes Go.WideShapes Go.ChangeAt Go.RowKit
theorem Tryz.own : ownKnob Tryz.prog.godebug = none := by kernel_rfl
theorem Tryz.laidOut : laidOutB Tryz.prog = true := by kernel_rfl
set_option maxRecDepth 100000 in
theorem ChangeKernels_lifted (os : Os) (started : os.Started) (H : Type) (enc : TypeId × Value → H) :
  ReturnsInHanded {} Tryz.checked os 12 .any (Rows.changeKernelsSpec.pre6 enc Tryz.prog Tryz.f12 Rows.changeKernelsRow.domain false) (Rows.changeKernelsSpec.post enc Tryz.prog Tryz.f12 false true false false) := by
 refine returnsInHanded_of_change (C := Tryz.checked) Tryz.own started kq Tryz.func12
  (ChangeSpec.witness6 (enc := enc) (C := Tryz.checked) false ⟨#[], #[.slice none 0 0, .slice none 0 0], []⟩ 8 kq kq kq kq) ?_
 intro W base args ds gs before hval0 hW hcnd _
 have hval : ∀ (j : Nat) t v, Tryz.f12.params[j]? = some t → args[j]? = some v → Value.okWide Tryz.prog W .any base t v := hval0
 have hW' := hW
 obtain ⟨p, q, hA0, hV, rfl, hfz, hnd⟩ := hW
 have hA : DataW.TrodAll enc Tryz.prog W 0 (fun _ => true) true Tryz.f12.params.toList args.toList ds p := hA0
 obtain ⟨rfl, rfl⟩ := trodVars_none hV
 simp only [List.append_nil] at hW'
 have hA1 := hA
 rw [Tryz.params12] at hA hval
 obtain ⟨v0, l0, d0, ds0, p0, q0, ha0, rfl, rfl, h0, hA⟩ := trodAll_cons hA
 obtain ⟨v1, l1, d1, ds1, p1, q1, rfl, rfl, rfl, h1, hA⟩ := trodAll_cons hA
 obtain ⟨rfl, rfl, rfl⟩ := trodAll_nil hA
 obtain rfl : args = #[v0, v1] := by cases args; simp_all
 obtain ⟨x0, e0, o0⟩ := open_arg (s := .slice shO) kq (hval 0 _ _ rfl rfl) h0
 have e0 := okW_one (s := .slice shO) kq rfl (hval 0 _ _ rfl rfl) e0
 simp only [Sh.enc, List.cons.injEq, and_true] at e0; subst e0
 obtain ⟨x1, e1, o1⟩ := open_arg (s := .slice shC) kq (hval 1 _ _ rfl rfl) h1
 have e1 := okW_one (s := .slice shC) kq rfl (hval 1 _ _ rfl rfl) e1
 simp only [Sh.enc, List.cons.injEq, and_true] at e1; subst e1; refine (law_calls (by have := Cl.kernels_ct [Old W] x0.ad x0.cap (x0.l.map cvO) (rd_ops o0) (ops_ok o0) x1.ad x1.cap (x1.l.map cvC) (rd_cs o1) (cs_ok o1); rwa [List.length_map, List.length_map] at this)).mono fun e W' ⟨he, hb⟩ => ?_
 subst he; exact ⟨_, rfl, law_post Tryz.laidOut rfl Tryz.underlying4 rfl rfl (of_decide_eq_true kq) hW' hA1 hb⟩
theorem ChangeKernels_two {a b : Bool} (ha : a = true) (hb : b = true) : (a && b) = true := by rw [ha, hb]; rfl
theorem ChangeKernels_fact0 : mapsRowed Tryz.pinned.checked.prog = true := by kernel_rfl
theorem ChangeKernels_fact1 : (Tryz.pinned.checked.prog.stops == []) = true := by kernel_rfl
theorem ChangeKernels_fact2 : (Tryz.pinned.checked.prog.stopKnobs == []) = true := by kernel_rfl
theorem ChangeKernels_fact3 : (Rows.changeKernelsRow.inPlace == Tryz.pinned.checked.prog.inPlace 12) = true := by kernel_rfl
theorem ChangeKernels_fact4 : (Rows.changeKernelsRow.unfollowed == Tryz.pinned.checked.prog.unfollowed 12) = true := by kernel_rfl
theorem ChangeKernels_fact5 : (Rows.changeKernelsRow.recurses == Tryz.pinned.checked.prog.recurses 12) = true := by kernel_rfl
theorem ChangeKernels_fact6 : (Rows.changeKernelsRow.named == Tryz.pinned.checked.prog.varsNamed 12) = true := by kernel_rfl
theorem ChangeKernels_fact7 : (Rows.changeKernelsRow.plainKeys == Tryz.pinned.checked.prog.plainKeys) = true := by kernel_rfl
theorem ChangeKernels_fact8 : Tryz.pinned.checked.prog.stopsHeard = true := by kernel_rfl
theorem ChangeKernels_fact9 : Tryz.pinned.checked.prog.mayEnter = true := by kernel_rfl
theorem ChangeKernels_fact10 : (Rows.changeKernelsRow.lifted == Tryz.pinned.checked.prog.liftsFinal) = true := by kernel_rfl
theorem ChangeKernels_fact11 : (Tryz.pinned.checked.prog.make == some Rows.changeKernelsRow.make) = true := by kernel_rfl
theorem ChangeKernels_facts : joinedFacts Tryz.pinned.checked.prog 12 Tryz.f12 Rows.changeKernelsSpec Rows.changeKernelsRow = true := by
 unfold joinedFacts
 repeat' (with_reducible refine ChangeKernels_two ?_ ?_)
 all_goals first | with_reducible exact Tryz.laidOut | with_reducible exact ChangeKernels_fact0 | with_reducible exact ChangeKernels_fact1 | with_reducible exact ChangeKernels_fact2 | with_reducible exact ChangeKernels_fact3 | with_reducible exact ChangeKernels_fact4 | with_reducible exact ChangeKernels_fact5 | with_reducible exact ChangeKernels_fact6 | with_reducible exact ChangeKernels_fact7 | with_reducible exact ChangeKernels_fact8 | with_reducible exact ChangeKernels_fact9 | with_reducible exact ChangeKernels_fact10 | with_reducible exact ChangeKernels_fact11 | kernel_rfl
theorem ChangeKernels_holds : Rows.ChangeKernelsSaid :=
 OpenClaim.holds_of_wide 12 Tryz.f12 rfl rfl rfl rfl rfl rfl rfl ⟨rfl, rfl, rfl, rfl, rfl⟩ rfl rfl rfl rfl rfl kq Tryz.func12 ChangeKernels_facts
  (of_decide_eq_true kq) (by unfold Func.isWrapper; first | (rw [if_pos (by decide +kernel)]; kernel_rfl) | (rw [if_neg (by decide +kernel)]; exact ⟨rfl, rfl⟩))
  (fun os started H enc _ => ChangeKernels_lifted os started H enc)
end Go.Proofs.YtbfddabjbkohdaaGreat
