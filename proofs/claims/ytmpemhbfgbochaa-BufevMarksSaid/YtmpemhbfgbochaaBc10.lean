/-
  The chapter's first examples; bytes in pieces; whether a chain is whole.
-/
import Derived.Test.YtmpemhbfgbochaaBc9
namespace Go.Proofs.Ytmpemhbfgbochaa
set_option linter.unusedSimpArgs false
set_option linter.unusedVariables false
set_option linter.unnecessarySimpa false
open Go.RX Fx
namespace Bc
theorem mayE_ok {a m : Nat} (h : m ≤ 1048576 - a) : mayE a m = 0 := mayE_zero.2 h
theorem mvE_ok {l1 l2 : Nat} {n : Int} (h0 : 0 ≤ n) (h : min n.toNat l1 ≤ 1048576 - l2) : mvE l1 l2 n = 0 := by unfold mvE; rw [if_neg (by omega)]; exact mayE_ok h
theorem mvK_ok {l1 l2 : Nat} {n : Int} (h0 : 0 ≤ n) (h : min n.toNat l1 ≤ 1048576 - l2) : mvK l1 l2 n = min n.toNat l1 := by unfold mvK; rw [if_pos (mvE_ok h0 h)]
section
variable {E : World} {n : Nat} {ds : List Deferred} {st : List (Nat × Value)} {L L' L2 : List SP} {K : Act → World → Prop}
abbrev KdC (b : Nat) : SP := kd b 2 89
theorem mkCh_sep {b : Nat} (p : Pick L (pt b [.slice none 0 0, .int .i64 0] 89) L') (k : PH) (s : sep L k) : sep (Ch b 0 [] :: KdC b :: L') k := by
  have s1 := pt_open (p.sep s)
  exact Ent.sep (.ex (none, 0) (.pick .here (.ownNil (.pick .here .same)))) k (rows_nil s1 |> fun h => Ent.sep (.pick (.there .here) (.pick .here .same)) k h)
theorem Hd.mkCh {b : Nat} (p : Pick L (pt b [.slice none 0 0, .int .i64 0] 89) L') (h : Hd E n ds st (Ch b 0 [] :: KdC b :: L') K) : Hd E n ds st L K := Hd.heap _ (fun k s => mkCh_sep p k s) h
end
theorem good_nil : Good [] := ⟨fun r hr => (by cases hr), by simp [flat]⟩
def fndB (all w : List UInt8) (f : Int) : Option Nat → Bool
  | some a => decide (0 ≤ f) && decide (f ≤ (a : Int)) && decide (a + w.length ≤ all.length) && decide (Mt all w a) && (List.range a).all fun j => !(decide (f ≤ (j : Int)) && decide (Mt all w j))
  | none => decide (f < 0) || (List.range (all.length + 1)).all fun j => !(decide (f ≤ (j : Int)) && decide (j + w.length ≤ all.length) && decide (Mt all w j))
theorem fnd_of {all w : List UInt8} {f : Int} : ∀ {r : Option Nat}, fndB all w f r = true → FndS all w f r
  | some a, h => by
    simp only [fndB, Bool.and_eq_true, decide_eq_true_eq] at h
    refine ⟨h.1.1.1.1, h.1.1.1.2, h.1.1.2, h.1.2, fun j h1 h2 h3 => ?_⟩
    have := List.all_eq_true.1 h.2 j (List.mem_range.2 h2)
    simp [h1, h3] at this
  | none, h => by
    simp only [fndB, Bool.or_eq_true, decide_eq_true_eq] at h
    rcases h with h | h
    · exact .inl h
    · refine .inr fun j h1 h2 h3 => ?_
      have := List.all_eq_true.1 h j (List.mem_range.2 (by omega))
      simp [h1, h2, h3] at this




end Bc
end Go.Proofs.Ytmpemhbfgbochaa
