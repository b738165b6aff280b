/- Of fewer notes than are due those are reported that are the first ones of all, in the same order: the law KquMost answers true, whatever its input, and its arguments read behind the call as before. No condition. -/
import Derived.Lib.SmallJoins
import Derived.Test.YtbfddabjbkohdaaGreatZKquMostK
namespace Go.Proofs.YtbfddabjbkohdaaGreat
set_option maxHeartbeats 2000000
open Go.RX.Hd (yv y2 n1 fk sk sr tH callE heldK onlyH endH thenN slots)
set_option linter.unusedSimpArgs false
set_option linter.unusedVariables false
set_option linter.unnecessarySimpa false
open Go.RX Go.ChangeShapes Go.WideShapes Go.ChangeAt Go.RowKit
theorem Tryz.own : ownKnob Tryz.prog.godebug = none := by kernel_rfl
theorem Tryz.laidOut : laidOutB Tryz.prog = true := by kernel_rfl
set_option maxRecDepth 100000 in
theorem KquMost_lifted (os : Os) (started : os.Started) (H : Type) (enc : TypeId × Value → H) :
  ReturnsInHanded {} Tryz.checked os 7 .any (Rows.kquMostSpec.pre6 enc Tryz.prog Tryz.f7 Rows.kquMostRow.domain false) (Rows.kquMostSpec.post enc Tryz.prog Tryz.f7 false true false false) := by
 refine returnsInHanded_of_change (C := Tryz.checked) Tryz.own started kq Tryz.func7
  (ChangeSpec.witness6 (enc := enc) (C := Tryz.checked) false ⟨#[], #[.slice none 0 0, .slice none 0 0, .int .u8 0, .slice none 0 0], []⟩ 8 kq kq kq kq) ?_
 intro W base args ds gs before hval0 hW hcnd _
 have hval : ∀ (j : Nat) t v, Tryz.f7.params[j]? = some t → args[j]? = some v → Value.okWide Tryz.prog W .any base t v := hval0
 have hW' := hW
 obtain ⟨p, q, hA0, hV, rfl, hfz, hnd⟩ := hW
 have hA : DataW.TrodAll enc Tryz.prog W 0 (fun _ => true) true Tryz.f7.params.toList args.toList ds p := hA0
 obtain ⟨rfl, rfl⟩ := trodVars_none hV
 simp only [List.append_nil] at hW'
 have hA1 := hA
 rw [Tryz.params7] at hA hval
 obtain ⟨v0, l0, d0, ds0, p0, q0, ha0, rfl, rfl, h0, hA⟩ := trodAll_cons hA
 obtain ⟨v1, l1, d1, ds1, p1, q1, rfl, rfl, rfl, h1, hA⟩ := trodAll_cons hA
 obtain ⟨v2, l2, d2, ds2, p2, q2, rfl, rfl, rfl, h2, hA⟩ := trodAll_cons hA
 obtain ⟨v3, l3, d3, ds3, p3, q3, rfl, rfl, rfl, h3, hA⟩ := trodAll_cons hA
 obtain ⟨rfl, rfl, rfl⟩ := trodAll_nil hA
 obtain rfl : args = #[v0, v1, v2, v3] := by cases args; simp_all
 obtain ⟨x0, e0, o0⟩ := open_arg (s := .slice shO) kq (hval 0 _ _ rfl rfl) h0
 have e0 := okW_one (s := .slice shO) kq rfl (hval 0 _ _ rfl rfl) e0
 simp only [Sh.enc, List.cons.injEq, and_true] at e0; subst e0
 obtain ⟨x1, e1, o1⟩ := open_arg (s := .slice shN) kq (hval 1 _ _ rfl rfl) h1
 have e1 := okW_one (s := .slice shN) kq rfl (hval 1 _ _ rfl rfl) e1
 simp only [Sh.enc, List.cons.injEq, and_true] at e1; subst e1
 obtain ⟨x2, e2, o2⟩ := open_arg (s := .int .u8) kq (hval 2 _ _ rfl rfl) h2
 have e2 := okW_one (s := .int .u8) kq rfl (hval 2 _ _ rfl rfl) e2
 simp only [Sh.enc, List.cons.injEq, and_true] at e2; subst e2
 obtain ⟨x3, e3, o3⟩ := open_arg (s := .slice (.int .i64)) kq (hval 3 _ _ rfl rfl) h3
 have e3 := okW_one (s := .slice (.int .i64)) kq rfl (hval 3 _ _ rfl rfl) e3
 simp only [Sh.enc, List.cons.injEq, and_true] at e3; subst e3; refine (law_calls (by have := Kq.most_ct [Old W] x0.ad x0.cap (x0.l.map cvO) (rd_ops o0) (ops_ok o0) x1.ad x1.cap (x1.l.map cvN) (rd_ns o1) x2 o2 x3.ad x3.cap x3.l (rd_int o3); rwa [List.length_map, List.length_map] at this)).mono fun e W' ⟨he, hb⟩ => ?_
 subst he; exact ⟨_, rfl, law_post Tryz.laidOut rfl Tryz.underlying4 rfl rfl (of_decide_eq_true kq) hW' hA1 hb⟩
theorem KquMost_holds : Rows.KquMostSaid :=
 OpenClaim.holds_of_wide 7 Tryz.f7 rfl rfl rfl rfl rfl rfl rfl ⟨rfl, rfl, rfl, rfl, rfl⟩ rfl rfl rfl rfl rfl kq Tryz.func7 kq
  (of_decide_eq_true kq) (by unfold Func.isWrapper; first | (rw [if_pos (by decide +kernel)]; kernel_rfl) | (rw [if_neg (by decide +kernel)]; exact ⟨rfl, rfl⟩))
  (fun os started H enc _ => KquMost_lifted os started H enc)
end Go.Proofs.YtbfddabjbkohdaaGreat
