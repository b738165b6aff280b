/-
  Heaps in plain words: an item taken out and put in again (as in He16, without its law).
-/
import Derived.Test.YtdjoofidicoimaaHe10
namespace Go.Proofs.Ytdjoofidicoimaa
set_option linter.unusedSimpArgs false
set_option linter.unusedVariables false
set_option linter.unnecessarySimpa false
open Go.RX Fx
namespace Hp
theorem findI_id {s : List It} {id : Int} {x : It} (h : findI id s = some x) : x.id = id ∧ x ∈ s := by
  unfold findI at h
  have h1 := List.find?_some h
  exact ⟨by simpa using h1, List.mem_of_find?_eq_some h⟩
theorem findI_rem (s : List It) (id : Int) : findI id (remI id s) = none := by
  refine (findI_none fun x hx => ?_).1
  have := (List.mem_filter.1 hx).2
  simpa using this
theorem remI_len_of {s : List It} (hF : HpF s) {id : Int} {x : It} (h : findI id s = some x) : (remI id s).length + 1 = s.length := by
  have h1 := findI_id h
  have h2 := (findI_some hF.nd h1.2 h1.1).2.length_eq
  simp at h2; omega
/-- taken out and put in again -/
theorem ins_rem {s : List It} (hF : HpF s) {x : It} (h : x ∈ s) : insI x (remI x.id s) = s := by
  have h1 := (findI_some hF.nd h rfl).2
  refine srt_eq (insI_srt (remI_srt hF.srt _) (fun y hy e => ?_)) hF.srt ((insI_perm _ _).trans h1.symm)
  have := (List.mem_filter.1 hy).2
  rw [e] at this; simp at this
theorem push_back {s : List It} (hF : HpF s) {id : Int} {x : It} (h : findI id s = some x) : pushV (remI id s) x = 0 ∧ pushS (remI id s) x = s := by
  have h1 := findI_id h
  have h2 : findI x.id (remI id s) = none := by rw [h1.1]; exact findI_rem s id
  refine ⟨by unfold pushV; rw [h2]; rfl, ?_⟩
  unfold pushS; rw [h2]
  show insI x (remI id s) = s
  rw [← h1.1]; exact ins_rem hF h1.2
theorem move_back {s : List It} (hF : HpF s) {id : Int} {x : It} (h : findI id s = some x) : moveV s x.id = 0 ∧ moveS s x = s := by
  have h1 := findI_id h
  rw [← h1.1] at h
  refine ⟨by unfold moveV; rw [h]; rfl, ?_⟩
  unfold moveS; rw [h]
  exact ins_rem hF h1.2
end Hp
end Go.Proofs.Ytdjoofidicoimaa
