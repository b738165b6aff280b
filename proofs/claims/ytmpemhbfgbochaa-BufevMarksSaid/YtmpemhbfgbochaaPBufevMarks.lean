/- The input never has more bytes than the high mark given at first, and Read is told at the low mark or above, only when bytes came: the law BufevMarks answers true, whatever its input, and its arguments read behind the call as before. No condition. -/
import Derived.Test.YtmpemhbfgbochaaBu16
import Derived.Test.YtmpemhbfgbochaaBu17
import Derived.Lib.SmallJoins
namespace Go.Proofs.Ytmpemhbfgbochaa
set_option linter.unusedSimpArgs false
set_option linter.unusedVariables false
set_option linter.unnecessarySimpa false
open Go.RX Go.ChangeShapes Go.WideShapes Go.ChangeAt Go.RowKit

theorem Try.own : ownKnob Try.prog.godebug = none := by kernel_rfl
theorem Try.laidOut : laidOutB Try.prog = true := by kernel_rfl
set_option maxRecDepth 100000 in
theorem BufevMarks_lifted (os : Os) (started : os.Started) (H : Type) (enc : TypeId × Value → H) :
    ReturnsInHanded {} Try.checked os 3 .any (Rows.bufevMarksSpec.pre6 enc Try.prog Try.f3 Rows.bufevMarksRow.domain false) (Rows.bufevMarksSpec.post enc Try.prog Try.f3 false true false false) := by
  refine returnsInHanded_of_change (C := Try.checked) Try.own started (by kernel_rfl) Try.func3
    (ChangeSpec.witness6 (enc := enc) (C := Try.checked) false ⟨#[], #[.int .i64 0, .int .i64 0, .int .i64 0, .slice none 0 0], []⟩ 8 (by kernel_rfl) (by kernel_rfl) (by kernel_rfl) (by kernel_rfl)) ?_
  intro W base args ds gs before hval0 hW hcnd _
  have hval : ∀ (j : Nat) t v, Try.f3.params[j]? = some t → args[j]? = some v → Value.okWide Try.prog W .any base t v := hval0
  have hW' := hW
  obtain ⟨p, q, hA0, hV, rfl, hfz, hnd⟩ := hW
  have hA : DataW.TrodAll enc Try.prog W 0 (fun _ => true) true Try.f3.params.toList args.toList ds p := hA0
  obtain ⟨rfl, rfl⟩ := trodVars_none hV
  simp only [List.append_nil] at hW'
  have hA1 := hA
  rw [Try.params3] at hA hval
  obtain ⟨v0, l0, d0, ds0, p0, q0, ha0, rfl, rfl, h0, hA⟩ := trodAll_cons hA
  obtain ⟨v1, l1, d1, ds1, p1, q1, rfl, rfl, rfl, h1, hA⟩ := trodAll_cons hA
  obtain ⟨v2, l2, d2, ds2, p2, q2, rfl, rfl, rfl, h2, hA⟩ := trodAll_cons hA
  obtain ⟨v3, l3, d3, ds3, p3, q3, rfl, rfl, rfl, h3, hA⟩ := trodAll_cons hA
  obtain ⟨rfl, rfl, rfl⟩ := trodAll_nil hA
  obtain rfl : args = #[v0, v1, v2, v3] := by cases args; simp_all
  obtain ⟨x0, e0, o0⟩ := open_arg (s := .int .i64) (by kernel_rfl) (hval 0 _ _ rfl rfl) h0
  have e0 := okW_one (s := .int .i64) (by kernel_rfl) rfl (hval 0 _ _ rfl rfl) e0
  simp only [Sh.enc, List.cons.injEq, and_true] at e0
  subst e0
  obtain ⟨x1, e1, o1⟩ := open_arg (s := .int .i64) (by kernel_rfl) (hval 1 _ _ rfl rfl) h1
  have e1 := okW_one (s := .int .i64) (by kernel_rfl) rfl (hval 1 _ _ rfl rfl) e1
  simp only [Sh.enc, List.cons.injEq, and_true] at e1
  subst e1
  obtain ⟨x2, e2, o2⟩ := open_arg (s := .int .i64) (by kernel_rfl) (hval 2 _ _ rfl rfl) h2
  have e2 := okW_one (s := .int .i64) (by kernel_rfl) rfl (hval 2 _ _ rfl rfl) e2
  simp only [Sh.enc, List.cons.injEq, and_true] at e2
  subst e2
  obtain ⟨x3, e3, o3⟩ := open_arg (s := .slice shC) (by kernel_rfl) (hval 3 _ _ rfl rfl) h3
  have e3 := okW_one (s := .slice shC) (by kernel_rfl) rfl (hval 3 _ _ rfl rfl) e3
  simp only [Sh.enc, List.cons.injEq, and_true] at e3
  subst e3
  refine (law_calls (by have := Bu.bmarks_ct [Old W] x0 x1 x2 x3.ad x3.cap (x3.l.map cvC) (rd_calls o3) (calls_ok o3); rwa [List.length_map] at this)).mono fun e W' ⟨he, hb⟩ => ?_
  subst he
  exact ⟨_, rfl, law_post Try.laidOut rfl Try.underlying4 rfl rfl (of_decide_eq_true (by kernel_rfl)) hW' hA1 hb⟩

theorem BufevMarks_holds : Rows.BufevMarksSaid :=
  OpenClaim.holds_of_wide 3 Try.f3 rfl rfl rfl rfl rfl rfl rfl ⟨rfl, rfl, rfl, rfl, rfl⟩ rfl rfl rfl rfl rfl (by kernel_rfl) Try.func3 (by kernel_rfl)
    (of_decide_eq_true (by kernel_rfl)) (by unfold Func.isWrapper; first | (rw [if_pos (by decide +kernel)]; kernel_rfl) | (rw [if_neg (by decide +kernel)]; exact ⟨rfl, rfl⟩))
    (fun os started H enc _ => BufevMarks_lifted os started H enc)
end Go.Proofs.Ytmpemhbfgbochaa
