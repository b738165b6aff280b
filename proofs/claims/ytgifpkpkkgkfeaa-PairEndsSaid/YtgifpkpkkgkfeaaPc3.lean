/-
  The law PairBytes: what holds of the bytes, in plain words.
-/
import Derived.Test.YtgifpkpkkgkfeaaPc1
namespace Go.Proofs.Ytgifpkpkkgkfeaa
set_option linter.unusedSimpArgs false
set_option linter.unusedVariables false
set_option linter.unnecessarySimpa false
open Go.RX Fx
namespace Pa
open Bc
set_option maxRecDepth 8000
abbrev Sts := Nat → List UInt8
def InvB (A : Nat → AE) (W R : Sts) : Prop := ∀ n, n < 2 → R n ++ (A n).i ++ (A (1 - n)).u = W (1 - n)
def kOf (x : Int) : Nat := ((x.tmod 2 + 2).tmod 2).toNat
theorem kOf_lt (x : Int) : kOf x < 2 := by unfold kOf; have := Int.tmod_lt_of_pos (x.tmod 2 + 2) (show (0 : Int) < 2 by decide); omega
theorem two_cases {n j : Nat} (hn : n < 2) (hj : j < 2) : j = n ∨ (j = 1 - n ∧ n = 1 - j ∧ j ≠ n) := by omega
theorem InvB.same {A A' : Nat → AE} {W R : Sts} (h : InvB A W R) (h1 : ∀ n, n < 2 → (A' n).i = (A n).i ∧ (A' n).u = (A n).u) : InvB A' W R := fun n hn => by
  rw [(h1 n hn).1, (h1 (1 - n) (by omega)).2]; exact h n hn
theorem aTurn_iu {A : Nat → AE} {k s : Int} {t : Bool} (n : Nat) : (aTurn A k s t n).i = (A n).i ∧ (aTurn A k s t n).u = (A n).u := by
  unfold aTurn; split
  · unfold upd
    try dsimp only
    split
    · rename_i h; rw [h]; exact ⟨rfl, rfl⟩
    · exact ⟨rfl, rfl⟩
  · exact ⟨rfl, rfl⟩
theorem aMarks_iu {A : Nat → AE} {k s l h : Int} (n : Nat) : (aMarks A k s l h n).i = (A n).i ∧ (aMarks A k s l h n).u = (A n).u := by
  unfold aMarks; split
  · unfold upd AE.marks
    try dsimp only
    split
    · rename_i h; rw [h]; split <;> exact ⟨rfl, rfl⟩
    · exact ⟨rfl, rfl⟩
  · exact ⟨rfl, rfl⟩
theorem aFinish_iu {A : Nat → AE} {k : Int} (n : Nat) : (aFinish A k n).i = (A n).i ∧ (aFinish A k n).u = (A n).u := by
  unfold aFinish; split
  · unfold upd
    try dsimp only
    split
    · rename_i h; rw [h]; exact ⟨rfl, rfl⟩
    · exact ⟨rfl, rfl⟩
  · exact ⟨rfl, rfl⟩
theorem isE_nat {n : Nat} (hn : n < 2) : isE (n : Int) := by unfold isE; omega
theorem aWrite_ok {A : Nat → AE} {n : Nat} (hn : n < 2) {l : List UInt8} (h : aWriteV A n l = 0) : aWrite A n l = upd A n { A n with u := (A n).u ++ l } := by
  unfold aWrite; rw [if_pos ⟨isE_nat hn, h⟩, Int.toNat_natCast]
theorem aWrite_no {A : Nat → AE} {n : Nat} {l : List UInt8} (h : ¬ aWriteV A n l = 0) : aWrite A n l = A := by
  unfold aWrite; rw [if_neg (fun q => h q.2)]
theorem aRead_at {A : Nat → AE} {n : Nat} (hn : n < 2) (x : Int) : aRead A n x = upd A n { A n with i := (A n).i.drop x.toNat } := by
  unfold aRead; rw [if_pos (isE_nat hn), Int.toNat_natCast]
theorem aReadV_at {A : Nat → AE} {n : Nat} (hn : n < 2) (x : Int) : aReadV A n x = (A n).i.take x.toNat := by
  unfold aReadV; rw [if_pos (isE_nat hn), Int.toNat_natCast]
theorem aFlush_at {A : Nat → AE} {n : Nat} (hn : n < 2) : aFlush A n = (aS0 A).pass true n := by
  unfold aFlush; rw [if_pos (isE_nat hn), Int.toNat_natCast]
theorem upd_ne {α : Type} {A : Nat → α} {n j : Nat} (h : j ≠ n) {x : α} : upd A n x j = A j := if_neg h
theorem InvB.write {A : Nat → AE} {W R : Sts} (h : InvB A W R) {n : Nat} (hn : n < 2) (l : List UInt8) : InvB (upd A n { A n with u := (A n).u ++ l }) (upd W n (W n ++ l)) R := fun j hj => by
  rcases two_cases hn hj with rfl | ⟨h1, h2, h3⟩
  · rw [upd_same, upd_other hn, upd_other hn]; exact h j hj
  · rw [upd_ne h3, ← h2, upd_same, upd_same]
    have := h j hj
    rw [← h2] at this
    rw [← this]; simp [List.append_assoc]
theorem InvB.read {A : Nat → AE} {W R : Sts} (h : InvB A W R) {n : Nat} (hn : n < 2) (m : Nat) : InvB (upd A n { A n with i := (A n).i.drop m }) W (upd R n (R n ++ (A n).i.take m)) := fun j hj => by
  rcases two_cases hn hj with rfl | ⟨h1, h2, h3⟩
  · rw [upd_same, upd_same, upd_other hn, List.append_assoc (R j), List.take_append_drop]; exact h j hj
  · rw [upd_ne h3, upd_ne h3, ← h2, upd_same]
    have := h j hj
    rw [← h2] at this
    exact this
theorem InvB.pass {S : AS} {W R : Sts} (h : InvB S.e W R) (fl : Bool) {n : Nat} (hn : n < 2) : InvB (S.pass fl n).e W R := fun j hj => by
  have hp := S.pass_n fl n
  have ho := S.pass_o fl hn
  rcases two_cases hn hj with rfl | ⟨h1, h2, h3⟩
  · rw [hp.1, ho.1]; exact h j hj
  · have := h j hj
    subst h1
    rw [← h2] at this ⊢
    rw [hp.1, ho.1]
    simpa [List.append_assoc] using this
theorem InvB.step {A : Nat → AE} {W R : Sts} (h : InvB A W R) : InvB (aStep A).e W R := (InvB.pass (S := (aS0 A).pass false 0) (InvB.pass (S := aS0 A) h false (by omega)) false (by omega))
theorem InvB.flush {A : Nat → AE} {W R : Sts} (h : InvB A W R) {n : Nat} (hn : n < 2) : InvB (aFlush A n).e W R := by
  rw [aFlush_at hn]; exact InvB.pass (S := aS0 A) h true hn
theorem InvB.len {A : Nat → AE} {W R : Sts} (h : InvB A W R) {n : Nat} (hn : n < 2) : (R n).length + (A n).i.length + (A (1 - n)).u.length = (W (1 - n)).length := by
  rw [← h n hn]; simp [Nat.add_assoc]
/-! the end -/
abbrev rd1 (A : Nat → AE) (k : Nat) : Nat → AE := aRead A k ((A k).i.length : Int)
abbrev rd2 (A : Nat → AE) (k : Nat) : Nat → AE := aTurn (rd1 A k) k 2 true
abbrev rd3 (A : Nat → AE) (k : Nat) : Nat → AE := aTurn (rd2 A k) ((1 - k : Nat) : Int) 4 true
abbrev rd4 (A : Nat → AE) (k : Nat) : Nat → AE := (aFlush (rd3 A k) ((1 - k : Nat) : Int)).e
abbrev rd5 (A : Nat → AE) (k : Nat) : Nat → AE := aRead (rd4 A k) k 1048576
theorem last_round {A : Nat → AE} {k : Nat} (hk : k < 2) (hu : (A (1 - k)).u.length ≤ 1048576) :
    aReadV A k ((A k).i.length : Int) = (A k).i ∧ aReadV (rd4 A k) k 1048576 = (A (1 - k)).u ∧ (rd5 A k (1 - k)).i = (A (1 - k)).i ∧ (rd5 A k k).u = (A k).u := by
  have hj : 1 - k < 2 := by omega
  have hkk : 1 - (1 - k) = k := by omega
  have hne : (1 - k) ≠ k := by omega
  have e1 : rd1 A k = upd A k { A k with i := [] } := by
    unfold rd1; rw [aRead_at hk, Int.toNat_natCast, List.drop_of_length_le (Nat.le_refl _)]
  have e2 : rd2 A k = upd (rd1 A k) k ((rd1 A k k).turn 2 true) := by
    unfold rd2 aTurn; rw [if_pos ⟨isE_nat hk, by decide⟩, Int.toNat_natCast]
  have e3 : rd3 A k = upd (rd2 A k) (1 - k) ((rd2 A k (1 - k)).turn 4 true) := by
    unfold rd3 aTurn; rw [if_pos ⟨isE_nat hj, by decide⟩, Int.toNat_natCast]
  have e4 : rd4 A k = ((aS0 (rd3 A k)).pass true (1 - k)).e := by unfold rd4; rw [aFlush_at hj]
  have hp := (aS0 (rd3 A k)).pass_n true (1 - k)
  have ho := (aS0 (rd3 A k)).pass_o true hj
  rw [hkk] at hp ho
  have hj3 : rd3 A k (1 - k) = (A (1 - k)).turn 4 true := by
    rw [e3, upd_same, e2, upd_ne hne, e1, upd_ne hne]
  have hk3 : rd3 A k k = AE.turn { A k with i := [] } 2 true := by
    rw [e3, upd_ne (Ne.symm hne), e2, upd_same, e1, upd_same]
  have hm : aMany (rd3 A k (1 - k)) (rd3 A k k) true = (A (1 - k)).u.length := by
    rw [hj3, hk3]
    unfold aMany AE.turn
    simp
    omega
  have h4j : rd4 A k (1 - k) = { rd3 A k (1 - k) with u := [] } := by
    rw [e4, hp.1]
    show ({ rd3 A k (1 - k) with u := (rd3 A k (1 - k)).u.drop (aMany (rd3 A k (1 - k)) (rd3 A k k) true) } : AE) = _
    have hd : (rd3 A k (1 - k)).u.drop (A (1 - k)).u.length = [] := by rw [hj3]; exact List.drop_of_length_le (Nat.le_refl _)
    rw [hm, hd]
  have h4k : (rd4 A k k).i = (A (1 - k)).u ∧ (rd4 A k k).u = (A k).u := by
    rw [e4, ho.1]
    show (rd3 A k k).i ++ (rd3 A k (1 - k)).u.take (aMany (rd3 A k (1 - k)) (rd3 A k k) true) = _ ∧ (rd3 A k k).u = _
    rw [hm, hj3, hk3]
    refine ⟨?_, rfl⟩
    show [] ++ (A (1 - k)).u.take (A (1 - k)).u.length = _
    rw [List.take_of_length_le (Nat.le_refl _), List.nil_append]
  refine ⟨?_, ?_, ?_, ?_⟩
  · rw [aReadV_at hk, Int.toNat_natCast, List.take_of_length_le (Nat.le_refl _)]
  · rw [aReadV_at hk, h4k.1]; exact List.take_of_length_le hu
  · unfold rd5; rw [aRead_at hk, upd_ne hne, h4j, hj3]; rfl
  · unfold rd5; rw [aRead_at hk, upd_same]; exact h4k.2
/-! two strings in a block -/
abbrev encS (W : Sts) : List Value := [.string (str (W 0)), .string (str (W 1))]
theorem encS_at {W : Sts} {n : Nat} (hn : n < 2) : (encS W)[0 + n * 1]? = some (.string (str (W n))) := by
  rcases (show n = 0 ∨ n = 1 by omega) with rfl | rfl <;> rfl
theorem encS_set {W : Sts} {n : Nat} (hn : n < 2) (l : List UInt8) : (encS W).set (0 + n * 1) (.string (str l)) = encS (upd W n l) := by
  rcases (show n = 0 ∨ n = 1 by omega) with rfl | rfl <;> rfl
end Pa
end Go.Proofs.Ytgifpkpkkgkfeaa
