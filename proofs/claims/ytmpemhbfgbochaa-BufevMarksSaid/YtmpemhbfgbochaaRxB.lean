/-
  Plain facts on bits of an int, as the walk's laws speak of them. No program is named here.
-/
import Derived.Test.YtmpemhbfgbochaaRx5
namespace Go.RX
set_option linter.unusedSimpArgs false
set_option linter.unusedVariables false
set_option linter.unnecessarySimpa false
/-- the bits of an int -/
def bv (a : Int) : BitVec 64 := BitVec.ofInt 64 a
theorem wrap_i64 (m : Int) : IntKind.i64.wrap m = (m + 9223372036854775808) % 18446744073709551616 - 9223372036854775808 := IntKind.wrap_i64 m
theorem bv_wrap (v : BitVec 64) : bv (IntKind.i64.wrap (v.toNat : Int)) = v := by
  unfold bv
  apply BitVec.eq_of_toNat_eq
  rw [BitVec.toNat_ofInt, wrap_i64]
  have := v.isLt
  omega
theorem wrap_zero (v : BitVec 64) : IntKind.i64.wrap (v.toNat : Int) = 0 ↔ v = 0#64 := by
  constructor
  · intro h
    have := bv_wrap v
    rw [h] at this
    rw [← this]; rfl
  · intro h; subst h; rfl
theorem bv_and (a b : Int) : bv (bits .and .i64 a b) = bv a &&& bv b := by unfold bits; exact bv_wrap _
theorem bv_or (a b : Int) : bv (bits .or .i64 a b) = bv a ||| bv b := by unfold bits; exact bv_wrap _
theorem bv_xor (a b : Int) : bv (bits .xor .i64 a b) = bv a ^^^ bv b := by unfold bits; exact bv_wrap _
theorem bv_andNot (a b : Int) : bv (bits .andNot .i64 a b) = bv a &&& ~~~bv b := by unfold bits; exact bv_wrap _
theorem bits_and_zero (a b : Int) : bits .and .i64 a b = 0 ↔ bv a &&& bv b = 0#64 := by unfold bits; exact wrap_zero _
theorem bits_andNot_zero (a b : Int) : bits .andNot .i64 a b = 0 ↔ bv a &&& ~~~bv b = 0#64 := by unfold bits; exact wrap_zero _
theorem bv_of_nat (m : Nat) (h : m < 64) : bv (2 ^ m : Nat) = BitVec.twoPow 64 m := by
  unfold bv
  rw [BitVec.ofInt_natCast]
  apply BitVec.eq_of_toNat_eq
  rw [BitVec.toNat_ofNat, BitVec.toNat_twoPow]
theorem hasBit (a : Int) (m : Nat) (h : m < 64) (b : Int) (hb : b = (2 ^ m : Nat)) : decide (bits .and .i64 a b ≠ 0) = (bv a).getLsbD m := by
  subst hb
  rw [Bool.eq_iff_iff, decide_eq_true_eq, ne_eq, bits_and_zero, bv_of_nat m h, BitVec.and_twoPow]
  cases (bv a).getLsbD m with
  | true =>
    simp only [if_true, iff_true]
    intro e
    have := congrArg (fun v => BitVec.getLsbD v m) e
    simp [h] at this
  | false => simp
theorem bv_inj {a b : Int} (ha : -9223372036854775808 ≤ a ∧ a ≤ 9223372036854775807) (hb : -9223372036854775808 ≤ b ∧ b ≤ 9223372036854775807) (h : bv a = bv b) : a = b := by
  unfold bv at h
  have := congrArg BitVec.toInt h
  rw [BitVec.toInt_ofInt, BitVec.toInt_ofInt, Int.bmod_def, Int.bmod_def] at this
  simp at this
  omega
end Go.RX
