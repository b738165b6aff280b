/- As long as nothing happens, notes that are neither clear nor oneshot are reported again and again, in whatever order, others once: the law KquAgain answers true, whatever its input, and its arguments read behind the call as before. No condition. -/
import Derived.Lib.SmallJoins
import Derived.Test.YtbfddabjbkohdaaGreatZKquAgainK
namespace Go.Proofs.YtbfddabjbkohdaaGreat
set_option maxHeartbeats 2000000
open Go.RX.Hd (yv y2 n1 fk sk sr tH callE heldK onlyH endH thenN slots)
set_option linter.unusedSimpArgs false
set_option linter.unusedVariables false
set_option linter.unnecessarySimpa false
open Go.RX Go.ChangeShapes Go.WideShapes Go.ChangeAt Go.RowKit
theorem Tryz.own : ownKnob Tryz.prog.godebug = none := by kernel_rfl
theorem Tryz.laidOut : laidOutB Tryz.prog = true := by kernel_rfl
set_option maxRecDepth 100000 in
theorem KquAgain_lifted (os : Os) (started : os.Started) (H : Type) (enc : TypeId × Value → H) :
  ReturnsInHanded {} Tryz.checked os 8 .any (Rows.kquAgainSpec.pre6 enc Tryz.prog Tryz.f8 Rows.kquAgainRow.domain false) (Rows.kquAgainSpec.post enc Tryz.prog Tryz.f8 false true false false) := by
 refine returnsInHanded_of_change (C := Tryz.checked) Tryz.own started kq Tryz.func8
  (ChangeSpec.witness6 (enc := enc) (C := Tryz.checked) false ⟨#[], #[.slice none 0 0, .slice none 0 0, .agg #[.slice none 0 0, .slice none 0 0, .slice none 0 0]], []⟩ 8 kq kq kq kq) ?_
 intro W base args ds gs before hval0 hW hcnd _
 have hval : ∀ (j : Nat) t v, Tryz.f8.params[j]? = some t → args[j]? = some v → Value.okWide Tryz.prog W .any base t v := hval0
 have hW' := hW
 obtain ⟨p, q, hA0, hV, rfl, hfz, hnd⟩ := hW
 have hA : DataW.TrodAll enc Tryz.prog W 0 (fun _ => true) true Tryz.f8.params.toList args.toList ds p := hA0
 obtain ⟨rfl, rfl⟩ := trodVars_none hV
 simp only [List.append_nil] at hW'
 have hA1 := hA
 rw [Tryz.params8] at hA hval
 obtain ⟨v0, l0, d0, ds0, p0, q0, ha0, rfl, rfl, h0, hA⟩ := trodAll_cons hA
 obtain ⟨v1, l1, d1, ds1, p1, q1, rfl, rfl, rfl, h1, hA⟩ := trodAll_cons hA
 obtain ⟨v2, l2, d2, ds2, p2, q2, rfl, rfl, rfl, h2, hA⟩ := trodAll_cons hA
 obtain ⟨rfl, rfl, rfl⟩ := trodAll_nil hA
 obtain rfl : args = #[v0, v1, v2] := by cases args; simp_all
 obtain ⟨x0, e0, o0⟩ := open_arg (s := .slice shO) kq (hval 0 _ _ rfl rfl) h0
 have e0 := okW_one (s := .slice shO) kq rfl (hval 0 _ _ rfl rfl) e0
 simp only [Sh.enc, List.cons.injEq, and_true] at e0; subst e0
 obtain ⟨x1, e1, o1⟩ := open_arg (s := .slice shN) kq (hval 1 _ _ rfl rfl) h1
 have e1 := okW_one (s := .slice shN) kq rfl (hval 1 _ _ rfl rfl) e1
 simp only [Sh.enc, List.cons.injEq, and_true] at e1; subst e1
 obtain ⟨x2, e2, o2⟩ := open_arr3 (s := (Sh.slice (.int .i64))) Tryz.underlying75 kq kq kq (hval 2 _ _ rfl rfl) h2
 subst e2; refine (law_calls (by have := Kq.again16_ct [Old W] x0.ad x0.cap (x0.l.map cvO) (rd_ops o0) (ops_ok o0) x1.ad x1.cap (x1.l.map cvN) (rd_ns o1) (ns_ok o1) (fun i => (x2 i).ad) (fun i => (x2 i).cap) (fun i => (x2 i).l) (fun i hi => rd_int (o2 i hi)); rw [List.length_map, List.length_map] at this; exact this)).mono fun e W' ⟨he, hb⟩ => ?_
 subst he; exact ⟨_, rfl, law_post Tryz.laidOut rfl Tryz.underlying4 rfl rfl (of_decide_eq_true kq) hW' hA1 hb⟩
theorem KquAgain_holds : Rows.KquAgainSaid :=
 OpenClaim.holds_of_wide 8 Tryz.f8 rfl rfl rfl rfl rfl rfl rfl ⟨rfl, rfl, rfl, rfl, rfl⟩ rfl rfl rfl rfl rfl kq Tryz.func8 kq
  (of_decide_eq_true kq) (by unfold Func.isWrapper; first | (rw [if_pos (by decide +kernel)]; kernel_rfl) | (rw [if_neg (by decide +kernel)]; exact ⟨rfl, rfl⟩))
  (fun os started H enc _ => KquAgain_lifted os started H enc)
end Go.Proofs.YtbfddabjbkohdaaGreat
