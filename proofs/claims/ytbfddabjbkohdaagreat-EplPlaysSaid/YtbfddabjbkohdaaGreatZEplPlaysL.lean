/- Whatever is wanted, of whichever descriptors, and whatever becomes of the world, epoll reports what the document says: the law EplPlays answers true, whatever its input, and its arguments read behind the call as before. No condition. -/
import Derived.Lib.SmallJoins
import Derived.Test.YtbfddabjbkohdaaGreatZEplPlaysK
set_option linter.unusedSimpArgs false
set_option linter.unusedVariables false
set_option linter.unnecessarySimpa false
namespace Go.Proofs.YtbfddabjbkohdaaGreat
set_option maxHeartbeats 2000000
open Go.RX.Hd (yv y2 n1 fk sk sr tH callE heldK onlyH endH thenN slots)
open Go.RX Go.ChangeShapes Go.WideShapes Go.ChangeAt Go.RowKit
theorem Tryz.own : ownKnob Tryz.prog.godebug = none := by kernel_rfl
theorem Tryz.laidOut : laidOutB Tryz.prog = true := by kernel_rfl
set_option maxRecDepth 100000 in
theorem EplPlays_lifted (os : Os) (started : os.Started) (H : Type) (enc : TypeId × Value → H) :
  ReturnsInHanded {} Tryz.checked os 6 .any (Rows.eplPlaysSpec.pre6 enc Tryz.prog Tryz.f6 Rows.eplPlaysRow.domain false) (Rows.eplPlaysSpec.post enc Tryz.prog Tryz.f6 false true false false) := by
 refine returnsInHanded_of_change (C := Tryz.checked) Tryz.own started kq Tryz.func6
  (ChangeSpec.witness6 (enc := enc) (C := Tryz.checked) false ⟨#[], #[.int .u8 0, .slice none 0 0, .slice none 0 0], []⟩ 8 kq kq kq kq) ?_
 intro W base args ds gs before hval0 hW hcnd _
 have hval : ∀ (j : Nat) t v, Tryz.f6.params[j]? = some t → args[j]? = some v → Value.okWide Tryz.prog W .any base t v := hval0
 have hW' := hW
 obtain ⟨p, q, hA0, hV, rfl, hfz, hnd⟩ := hW
 have hA : DataW.TrodAll enc Tryz.prog W 0 (fun _ => true) true Tryz.f6.params.toList args.toList ds p := hA0
 obtain ⟨rfl, rfl⟩ := trodVars_none hV
 simp only [List.append_nil] at hW'
 have hA1 := hA
 rw [Tryz.params6] at hA hval
 obtain ⟨v0, l0, d0, ds0, p0, q0, ha0, rfl, rfl, h0, hA⟩ := trodAll_cons hA
 obtain ⟨v1, l1, d1, ds1, p1, q1, rfl, rfl, rfl, h1, hA⟩ := trodAll_cons hA
 obtain ⟨v2, l2, d2, ds2, p2, q2, rfl, rfl, rfl, h2, hA⟩ := trodAll_cons hA
 obtain ⟨rfl, rfl, rfl⟩ := trodAll_nil hA
 obtain rfl : args = #[v0, v1, v2] := by cases args; simp_all
 obtain ⟨x0, e0, o0⟩ := open_arg (s := .int .u8) kq (hval 0 _ _ rfl rfl) h0
 have e0 := okW_one (s := .int .u8) kq rfl (hval 0 _ _ rfl rfl) e0
 simp only [Sh.enc, List.cons.injEq, and_true] at e0; subst e0
 obtain ⟨x1, e1, o1⟩ := open_arg (s := .slice shO) kq (hval 1 _ _ rfl rfl) h1
 have e1 := okW_one (s := .slice shO) kq rfl (hval 1 _ _ rfl rfl) e1
 simp only [Sh.enc, List.cons.injEq, and_true] at e1; subst e1
 obtain ⟨x2, e2, o2⟩ := open_arg (s := .slice shP) kq (hval 2 _ _ rfl rfl) h2
 have e2 := okW_one (s := .slice shP) kq rfl (hval 2 _ _ rfl rfl) e2
 simp only [Sh.enc, List.cons.injEq, and_true] at e2; subst e2; refine (law_calls (by have := Ep.plays15_ct [Old W] x0 o0 x1.ad x1.cap (x1.l.map cvO) (rd_ops o1) (ops_ok o1) x2.ad x2.cap (x2.l.map cvP) (rd_ps o2) (ps_ok o2); rwa [List.length_map, List.length_map] at this)).mono fun e W' ⟨he, hb⟩ => ?_
 subst he; exact ⟨_, rfl, law_post Tryz.laidOut rfl Tryz.underlying4 rfl rfl (of_decide_eq_true kq) hW' hA1 hb⟩
theorem EplPlays_holds : Rows.EplPlaysSaid :=
 OpenClaim.holds_of_wide 6 Tryz.f6 rfl rfl rfl rfl rfl rfl rfl ⟨rfl, rfl, rfl, rfl, rfl⟩ rfl rfl rfl rfl rfl kq Tryz.func6 kq
  (of_decide_eq_true kq) (by unfold Func.isWrapper; first | (rw [if_pos (by decide +kernel)]; kernel_rfl) | (rw [if_neg (by decide +kernel)]; exact ⟨rfl, rfl⟩))
  (fun os started H enc _ => EplPlays_lifted os started H enc)
end Go.Proofs.YtbfddabjbkohdaaGreat
