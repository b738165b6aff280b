/-
  Chains: Find, Line.
-/
import Derived.Test.YtmpemhbfgbochaaBc7
namespace Go.Proofs.Ytmpemhbfgbochaa
set_option linter.unusedSimpArgs false
set_option linter.unusedVariables false
set_option linter.unnecessarySimpa false
open Go.RX Fx
namespace Bc
/-- the bytes w stand in all at a -/
def Mt (all w : List UInt8) (a : Nat) : Prop := (all.drop a).take w.length = w
instance (all w : List UInt8) (a : Nat) : Decidable (Mt all w a) := by unfold Mt; infer_instance
theorem mt_iff {all w : List UInt8} {a : Nat} (h : a + w.length ≤ all.length) : Mt all w a ↔ ∀ j, j < w.length → all[a + j]? = w[j]? := by
  unfold Mt
  constructor
  · intro e j hj
    have := congrArg (fun l => l[j]?) e
    simp only [List.getElem?_take_of_lt hj, List.getElem?_drop] at this
    exact this
  · intro e
    apply List.ext_getElem?
    intro j
    by_cases hj : j < w.length
    · rw [List.getElem?_take_of_lt hj, List.getElem?_drop]; exact e j hj
    · rw [List.getElem?_eq_none (by simp; omega), List.getElem?_eq_none (by omega)]
theorem bsl_at {l : List UInt8} {i : Nat} (h : i < l.length) : (bsl l)[i * 1]? = some (B l[i]) := by simp [h]
theorem B_ne {x y : UInt8} : ((x.toNat : Int) = (y.toNat : Int)) ↔ x = y := by
  constructor
  · intro h; exact UInt8.toNat_inj.1 (by omega)
  · intro h; rw [h]

/-- where bytes stand first, from a place on -/
def FndS (all w : List UInt8) (f : Int) : Option Nat → Prop
  | some a => 0 ≤ f ∧ f ≤ (a : Int) ∧ a + w.length ≤ all.length ∧ Mt all w a ∧ ∀ j : Nat, f ≤ (j : Int) → j < a → ¬ Mt all w j
  | none => f < 0 ∨ ∀ j : Nat, f ≤ (j : Int) → j + w.length ≤ all.length → ¬ Mt all w j
theorem fnd_one {all w : List UInt8} {f : Int} : ∀ {r1 r2 : Option Nat}, FndS all w f r1 → FndS all w f r2 → r1 = r2
  | none, none, _, _ => rfl
  | some a, none, h1, h2 => by
    rcases h2 with h | h
    · exact absurd h1.1 (by omega)
    · exact absurd h1.2.2.2.1 (h a h1.2.1 h1.2.2.1)
  | none, some a, h2, h1 => by
    rcases h2 with h | h
    · exact absurd h1.1 (by omega)
    · exact absurd h1.2.2.2.1 (h a h1.2.1 h1.2.2.1)
  | some a, some c, h1, h2 => by
    rcases Nat.lt_trichotomy a c with h | h | h
    · exact absurd h1.2.2.2.1 (h2.2.2.2.2 a h1.2.1 h)
    · rw [h]
    · exact absurd h2.2.2.2.1 (h1.2.2.2.2 c h2.2.1 h)


end Bc
end Go.Proofs.Ytmpemhbfgbochaa
