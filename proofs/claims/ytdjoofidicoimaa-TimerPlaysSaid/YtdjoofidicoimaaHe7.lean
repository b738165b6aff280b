/-
  Heaps: what is due, one by one, and all.
-/
import Derived.Test.YtdjoofidicoimaaHe6
import Derived.Test.YtdjoofidicoimaaRxJ
namespace Go.Proofs.Ytdjoofidicoimaa
set_option linter.unusedSimpArgs false
set_option linter.unusedVariables false
set_option linter.unnecessarySimpa false
open Go.RX Fx
namespace Hp
set_option maxRecDepth 8000
structure HpF (s : List It) : Prop where
  srt : s.Pairwise ltI
  nd : (s.map It.id).Nodup
  len : s.length ≤ 1000000
theorem Hd.hpF {E : World} {n : Nat} {ds : List Deferred} {st : List (Nat × Value)} {L L' : List SP} {K : Act → World → Prop} {b : Nat} {s : List It} (p : Pick L (HpA b s) L') (h : HpF s → Hd E n ds st L K) : Hd E n ds st L K := fun a w f hs => by
  refine h ?_ a w f hs
  obtain ⟨h1, s1, x⟩ := sep.one p hs.2.2.2
  obtain ⟨q, x⟩ := x
  obtain ⟨k1, k2, _, _, _, y, _⟩ := x
  exact ⟨HpOk.srt y, HpOk.nd y, HpOk.len y⟩
def dueI (now : Int) (s : List It) : List It := s.takeWhile fun x => decide (x.at_ ≤ now)
def restI (now : Int) (s : List It) : List It := s.dropWhile fun x => decide (x.at_ ≤ now)
theorem due_of {now : Int} : ∀ {pre rest : List It}, (∀ x ∈ pre, x.at_ ≤ now) → (∀ x r, rest = x :: r → ¬ x.at_ ≤ now) → dueI now (pre ++ rest) = pre ∧ restI now (pre ++ rest) = rest
  | [], rest, _, h => by
    cases rest with
    | nil => exact ⟨rfl, rfl⟩
    | cons x r => have := h x r rfl; unfold dueI restI; simp [this]
  | p :: pre, rest, h1, h2 => by
    have ih := due_of (now := now) (pre := pre) (rest := rest) (fun x hx => h1 x (List.mem_cons.2 (.inr hx))) h2
    have hp := h1 p (List.mem_cons.2 (.inl rfl))
    unfold dueI restI at *
    simp only [List.cons_append, List.takeWhile_cons, List.dropWhile_cons, hp, decide_true, if_true]
    exact ⟨by rw [ih.1], ih.2⟩
theorem due_rest (now : Int) (s : List It) : s.drop (dueI now s).length = restI now s := by
  have h : s = dueI now s ++ restI now s := (List.takeWhile_append_dropWhile ..).symm
  conv => lhs; arg 2; rw [h]
  rw [List.drop_left]
abbrev encA (x : It) : List Value := [aggI x]

/-- the items one behind the other in a slice, held in a block -/
abbrev OutI (b : Nat) (xs : List It) : SP := RX.ex fun i : Option Addr × Nat => [pt b [.slice i.1 xs.length i.2] 77, OwI i.1 xs.length i.2 xs]

end Hp
end Go.Proofs.Ytdjoofidicoimaa
