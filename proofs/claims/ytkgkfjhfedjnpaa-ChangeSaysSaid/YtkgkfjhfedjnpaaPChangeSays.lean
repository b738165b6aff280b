/- For every change, what package change says of it to epoll and to kqueue is what the document's text says: the law ChangeSays answers true, whatever its input, and its argument reads behind the call as before. No condition. -/
import Derived.Test.YtkgkfjhfedjnpaaCh1
import Derived.Test.YtkgkfjhfedjnpaaRxL
import Derived.Lib.SmallJoins
namespace Go.Proofs.Ytkgkfjhfedjnpaa
set_option linter.unusedSimpArgs false
set_option linter.unusedVariables false
set_option linter.unnecessarySimpa false
open Go.RX Go.ChangeShapes Go.WideShapes Go.ChangeAt Go.RowKit

theorem Try.own : ownKnob Try.prog.godebug = none := by kernel_rfl
theorem Try.laidOut : laidOutB Try.prog = true := by kernel_rfl
set_option maxRecDepth 100000 in
theorem says_lifted (os : Os) (started : os.Started) (H : Type) (enc : TypeId × Value → H) :
    ReturnsInHanded {} Try.checked os 4 .any (Rows.changeSaysSpec.pre6 enc Try.prog Try.f4 Rows.changeSaysRow.domain false) (Rows.changeSaysSpec.post enc Try.prog Try.f4 false true false false) := by
  refine returnsInHanded_of_change (C := Try.checked) Try.own started (by kernel_rfl) Try.func4
    (ChangeSpec.witness6 (enc := enc) (C := Try.checked) false ⟨#[], #[.agg #[.int .i64 0, .int .i64 0, .int .i64 0]], []⟩ 8 (by kernel_rfl) (by kernel_rfl) (by kernel_rfl) (by kernel_rfl)) ?_
  intro W base args ds gs before hval0 hW hcnd _
  have hval : ∀ (j : Nat) t v, Try.f4.params[j]? = some t → args[j]? = some v → Value.okWide Try.prog W .any base t v := hval0
  have hW' := hW
  obtain ⟨p, q, hA0, hV, rfl, hfz, hnd⟩ := hW
  have hA : DataW.TrodAll enc Try.prog W 0 (fun _ => true) true Try.f4.params.toList args.toList ds p := hA0
  obtain ⟨rfl, rfl⟩ := trodVars_none hV
  simp only [List.append_nil] at hW'
  have hA1 := hA
  rw [Try.params4] at hA hval
  obtain ⟨v0, d0, rfl, rfl, h0⟩ := trodAll_one hA
  obtain ⟨u0, u1, u2, y0, y1, y2, n, rfl, hd, hp, e0, e1, e2⟩ := Joins.open_agg3 Try.underlying27 (by kernel_rfl) (by kernel_rfl) (hval 0 _ _ rfl rfl) h0
  obtain ⟨a, ha, -, -⟩ := DataW.trod_int Try.underlying3 e0
  obtain rfl : u0 = .int .i64 a := by simpa using ha
  obtain ⟨b, hb, -, -⟩ := DataW.trod_int Try.underlying3 e1
  obtain rfl : u1 = .int .i64 b := by simpa using hb
  obtain ⟨c, hc, -, -⟩ := DataW.trod_int Try.underlying3 e2
  obtain rfl : u2 = .int .i64 c := by simpa using hc
  refine (law_calls (says_ct [Old W] a b c)).mono fun e W' ⟨he, hb⟩ => ?_
  subst he
  exact ⟨_, rfl, law_post Try.laidOut rfl Try.underlying4 rfl rfl (of_decide_eq_true (by kernel_rfl)) hW' hA1 hb⟩

theorem ChangeSays_holds : Rows.ChangeSaysSaid :=
  OpenClaim.holds_of_wide 4 Try.f4 rfl rfl rfl rfl rfl rfl rfl ⟨rfl, rfl, rfl, rfl, rfl⟩ rfl rfl rfl rfl rfl (by kernel_rfl) Try.func4 (by kernel_rfl)
    (of_decide_eq_true (by kernel_rfl)) (by unfold Func.isWrapper; first | (rw [if_pos (by decide +kernel)]; kernel_rfl) | (rw [if_neg (by decide +kernel)]; exact ⟨rfl, rfl⟩))
    (fun os started H enc _ => says_lifted os started H enc)
end Go.Proofs.Ytkgkfjhfedjnpaa
