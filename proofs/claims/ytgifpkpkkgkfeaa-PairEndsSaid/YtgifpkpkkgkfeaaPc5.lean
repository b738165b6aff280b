/-
  The law PairEnds: what holds of the ends, in plain words.
-/
import Derived.Test.YtgifpkpkkgkfeaaPc3
namespace Go.Proofs.Ytgifpkpkkgkfeaa
set_option linter.unusedSimpArgs false
set_option linter.unusedVariables false
set_option linter.unnecessarySimpa false
open Go.RX Fx
namespace Pa
open Bc
set_option maxRecDepth 8000
/-- who was told, the other one has finished and is empty -/
def InvE (A : Nat → AE) : Prop := ∀ n, n < 2 → (A n).tol = true → (A (1 - n)).fin = true ∧ (A (1 - n)).u = []
structure EndR (st : Prop) (A : Nat → AE) (S : AS) (n : Nat) : Prop where
  a : (A n).tol = true → (S.t n).inn = 0
  b : (S.t n).ev ≠ 0 → (A n).tol = false ∧ (S.e (1 - n)).fin = true ∧ (S.e (1 - n)).u = []
  c : (S.t n).inn = (S.t (1 - n)).out
  d : (S.e n).tol = ((A n).tol || decide ((S.t n).ev ≠ 0))
  e : st → 0 < (S.t n).inn → 0 < (S.e n).high → ((S.e n).i.length : Int) ≤ (S.e n).high
def EndsR (st : Prop) (A : Nat → AE) (S : AS) : Prop := (∀ n, n < 2 → EndR st A S n) ∧ InvE S.e
theorem ends_quiet {st : Prop} {A A2 : Nat → AE} (h : InvE A2) (ht : ∀ n, n < 2 → (A2 n).tol = (A n).tol) : EndsR st A ⟨A2, fun _ => t0⟩ :=
  ⟨fun n hn => ⟨fun _ => rfl, fun q => absurd rfl q, rfl, by show (A2 n).tol = _; rw [ht n hn]; simp [t0], fun _ q => absurd q (show ¬ (0 : Int) < 0 by decide)⟩, h⟩
/-- no bytes have gone from n, since A -/
structure Fresh (A : Nat → AE) (S : AS) (n : Nat) : Prop where
  o : (S.t n).out = 0
  i : (S.t (1 - n)).inn = 0
  v : (S.t (1 - n)).ev = 0
  tol : (S.e (1 - n)).tol = (A (1 - n)).tol
  u : (S.e n).u = (A n).u
  f : (S.e n).fin = (A n).fin
/-- what holds of the bytes that went from n, and of what the other one was told -/
structure Gone (fl : Bool) (A : Nat → AE) (S : AS) (n : Nat) : Prop where
  c : (S.t (1 - n)).inn = (S.t n).out
  a : (A (1 - n)).tol = true → (S.t (1 - n)).inn = 0
  b : (S.t (1 - n)).ev ≠ 0 → (A (1 - n)).tol = false ∧ (S.e n).fin = true ∧ (S.e n).u = []
  d : (S.e (1 - n)).tol = ((A (1 - n)).tol || decide ((S.t (1 - n)).ev ≠ 0))
  e : fl = false → 0 < (S.t (1 - n)).inn → 0 < (S.e (1 - n)).high → ((S.e (1 - n)).i.length : Int) ≤ (S.e (1 - n)).high
  f : (S.e n).fin = (A n).fin
  u : (A (1 - n)).tol = true → (S.e n).u = []
theorem fresh0 (A : Nat → AE) (n : Nat) : Fresh A (aS0 A) n := ⟨rfl, rfl, rfl, rfl, rfl, rfl⟩
theorem pass_keep (S : AS) (fl : Bool) {n j : Nat} (hn : n < 2) (hj : j < 2) : ((S.pass fl n).e j).fin = (S.e j).fin ∧ ((S.pass fl n).e j).high = (S.e j).high := by
  rcases two_cases hn hj with rfl | ⟨rfl, _, _⟩
  · rw [(S.pass_n fl j).1]; exact ⟨rfl, rfl⟩
  · rw [(S.pass_o fl hn).1]; exact ⟨rfl, rfl⟩
theorem Fresh.gone {fl : Bool} {A : Nat → AE} {S : AS} {n : Nat} (hn : n < 2) (h : Fresh A S n) (hI : InvE A) : Gone fl A S n :=
  ⟨by rw [h.i, h.o], fun _ => h.i, fun q => absurd h.v q, by rw [h.tol, h.v]; simp, fun _ q => by rw [h.i] at q; exact absurd q (by decide), h.f,
    fun q => by rw [h.u]; have := (hI (1 - n) (by omega) q).2; rwa [show 1 - (1 - n) = n by omega] at this⟩
theorem Fresh.pass {fl : Bool} {A : Nat → AE} {S : AS} {n : Nat} (hn : n < 2) (h : Fresh A S n) (hI : InvE A) : Gone fl A (S.pass fl n) n := by
  have hp := S.pass_n fl n
  have ho := S.pass_o fl hn
  have hu : (A (1 - n)).tol = true → (S.e n).u = [] := fun q => by rw [h.u]; have := (hI (1 - n) (by omega) q).2; rwa [show 1 - (1 - n) = n by omega] at this
  have hmu := aMany_le (S.e n) (S.e (1 - n)) fl
  have hmh : fl = false → 0 < (S.e (1 - n)).high → 0 < aMany (S.e n) (S.e (1 - n)) fl → ((S.e (1 - n)).i.length : Int) + (aMany (S.e n) (S.e (1 - n)) fl : Nat) ≤ (S.e (1 - n)).high := by
    intro q1 q2 q3
    unfold aMany at q3 ⊢
    split at q3
    · exact absurd q3 (by decide)
    · rename_i hc
      rw [if_pos ⟨q2, q1⟩] at q3
      rw [if_neg hc, if_pos ⟨q2, q1⟩]
      omega
  generalize aMany (S.e n) (S.e (1 - n)) fl = m at hp ho hmu hmh
  have e1 : ((S.pass fl n).t (1 - n)).inn = if 0 < m then (m : Int) else 0 := by
    rw [ho.2]; show (aTvT _ m _).inn = _; unfold aTvT; split
    · rfl
    · exact h.i
  have e2 : ((S.pass fl n).t n).out = if 0 < m then (m : Int) else 0 := by
    rw [hp.2]; unfold aTvF; split
    · rfl
    · exact h.o
  have e3 : ((S.pass fl n).t (1 - n)).ev = if aEnd (S.e n) (S.e (1 - n)) m = true then 17 else 0 := by
    rw [ho.2]; show (if _ then _ else _) = _
    split
    · rfl
    · unfold aTvT; split <;> exact h.v
  have e4 : ((S.pass fl n).e n).u = (S.e n).u.drop m := by rw [hp.1]
  have e5 : ((S.pass fl n).e (1 - n)).tol = ((S.e (1 - n)).tol || aEnd (S.e n) (S.e (1 - n)) m) := by rw [ho.1]
  have e6 : ((S.pass fl n).e n).fin = (S.e n).fin := by rw [hp.1]
  have e7 : ((S.pass fl n).e (1 - n)).i = (S.e (1 - n)).i ++ (S.e n).u.take m := by rw [ho.1]
  have e8 : ((S.pass fl n).e (1 - n)).high = (S.e (1 - n)).high := by rw [ho.1]
  refine ⟨by rw [e1, e2], fun q => ?_, fun q => ?_, ?_, fun q1 q2 q3 => ?_, by rw [e6, h.f], fun q => by rw [e4, hu q]; simp⟩
  · have h0 := hu q
    rw [h0] at hmu
    have : m = 0 := by simpa using hmu.1
    rw [e1, this]; rfl
  · rw [e3] at q
    by_cases hE : aEnd (S.e n) (S.e (1 - n)) m = true
    · unfold aEnd at hE
      simp only [Bool.and_eq_true, decide_eq_true_eq, Bool.not_eq_true'] at hE
      refine ⟨by rw [← h.tol]; exact hE.2.2.2, by rw [e6]; exact hE.1, ?_⟩
      rw [e4, ← hE.2.1, List.drop_length]
    · rw [if_neg hE] at q; exact absurd rfl q
  · rw [e5, e3, h.tol]
    cases aEnd (S.e n) (S.e (1 - n)) m <;> simp
  · rw [e1] at q2
    rw [e8] at q3 ⊢
    by_cases hm : 0 < m
    · rw [e7, List.length_append, List.length_take]
      have := hmh q1 q3 hm
      omega
    · rw [if_neg hm] at q2; exact absurd q2 (by decide)
theorem Fresh.other {fl : Bool} {A : Nat → AE} {S : AS} {n : Nat} (hn : n < 2) (h : Fresh A S n) : Fresh A (S.pass fl (1 - n)) n := by
  have hj : 1 - n < 2 := by omega
  have hkk : 1 - (1 - n) = n := by omega
  have hp := S.pass_n fl (1 - n)
  have ho := S.pass_o fl hj
  rw [hkk] at hp ho
  refine ⟨?_, ?_, ?_, by rw [hp.1]; exact h.tol, by rw [ho.1]; exact h.u, by rw [ho.1]; exact h.f⟩
  · rw [ho.2]; show (aTvT _ _ _).out = 0; unfold aTvT; split <;> exact h.o
  · rw [hp.2]; unfold aTvF; split <;> exact h.i
  · rw [hp.2]; unfold aTvF; split <;> exact h.v
theorem Gone.other {fl fl' : Bool} {A : Nat → AE} {S : AS} {n : Nat} (hn : n < 2) (h : Gone fl A S n) : Gone fl A (S.pass fl' (1 - n)) n := by
  have hj : 1 - n < 2 := by omega
  have hkk : 1 - (1 - n) = n := by omega
  have hp := S.pass_n fl' (1 - n)
  have ho := S.pass_o fl' hj
  rw [hkk] at hp ho
  have e1 : ((S.pass fl' (1 - n)).t n).out = (S.t n).out := by rw [ho.2]; show (aTvT _ _ _).out = _; unfold aTvT; split <;> rfl
  have e2 : ((S.pass fl' (1 - n)).t (1 - n)).inn = (S.t (1 - n)).inn := by rw [hp.2]; unfold aTvF; split <;> rfl
  have e3 : ((S.pass fl' (1 - n)).t (1 - n)).ev = (S.t (1 - n)).ev := by rw [hp.2]; unfold aTvF; split <;> rfl
  have e4 : ((S.pass fl' (1 - n)).e n).u = (S.e n).u ∧ ((S.pass fl' (1 - n)).e n).fin = (S.e n).fin := by rw [ho.1]; exact ⟨rfl, rfl⟩
  have e5 : ((S.pass fl' (1 - n)).e (1 - n)).tol = (S.e (1 - n)).tol ∧ ((S.pass fl' (1 - n)).e (1 - n)).high = (S.e (1 - n)).high ∧ ((S.pass fl' (1 - n)).e (1 - n)).i = (S.e (1 - n)).i := by rw [hp.1]; exact ⟨rfl, rfl, rfl⟩
  refine ⟨by rw [e1, e2]; exact h.c, by rw [e2]; exact h.a, by rw [e3, e4.1, e4.2]; exact h.b, by rw [e5.1, e3]; exact h.d, by rw [e2, e5.2.1, e5.2.2]; exact h.e, by rw [e4.2]; exact h.f, by rw [e4.1]; exact h.u⟩
theorem Gone.ends {fl : Bool} {st : Prop} {A : Nat → AE} {S : AS} (hst : st → fl = false) (hI : InvE A) (h0 : Gone fl A S 0) (h1 : Gone fl A S 1) : EndsR st A S := by
  have key : ∀ n, n < 2 → Gone fl A S (1 - n) := fun n hn => by
    rcases (show n = 0 ∨ n = 1 by omega) with rfl | rfl
    · exact h1
    · exact h0
  refine ⟨fun n hn => ?_, fun n hn q => ?_⟩
  · have h := key n hn
    have hkk : 1 - (1 - n) = n := by omega
    obtain ⟨c, a, b, d, e, f, u⟩ := h
    rw [hkk] at c a b d e u
    exact ⟨a, b, c, d, fun s => e (hst s)⟩
  · have h := key n hn
    have hkk : 1 - (1 - n) = n := by omega
    obtain ⟨c, a, b, d, e, f, u⟩ := h
    rw [hkk] at c a b d e u
    rw [d] at q
    cases ht : (A n).tol with
    | true => exact ⟨by rw [f]; exact (hI n hn ht).1, u ht⟩
    | false =>
      rw [ht] at q
      have : (S.t n).ev ≠ 0 := by simpa using q
      exact (b this).2
theorem ends_step {A : Nat → AE} (hI : InvE A) : EndsR True A (aStep A) := by
  have f0 := fresh0 A 0
  have f1 := fresh0 A 1
  have g0 := f0.pass (fl := false) (by omega) hI
  have f1' : Fresh A ((aS0 A).pass false 0) 1 := f1.other (fl := false) (by omega)
  have g1 := f1'.pass (fl := false) (by omega) hI
  have g0' : Gone false A (((aS0 A).pass false 0).pass false 1) 0 := g0.other (fl' := false) (by omega)
  exact Gone.ends (fl := false) (fun _ => rfl) hI g0' g1
theorem ends_flush {A : Nat → AE} (hI : InvE A) {n : Nat} (hn : n < 2) : EndsR False A (aFlush A n) := by
  rw [aFlush_at hn]
  rcases (show n = 0 ∨ n = 1 by omega) with rfl | rfl
  · have g1 : Gone true A ((aS0 A).pass true 0) 1 := ((fresh0 A 1).other (fl := true) (by omega)).gone (by omega) hI
    exact Gone.ends (fl := true) (fun h => h.elim) hI ((fresh0 A 0).pass (by omega) hI) g1
  · have g0 : Gone true A ((aS0 A).pass true 1) 0 := ((fresh0 A 0).other (fl := true) (by omega)).gone (by omega) hI
    exact Gone.ends (fl := true) (fun h => h.elim) hI g0 ((fresh0 A 1).pass (by omega) hI)
/-! the other calls -/
theorem aTurn_ftu {A : Nat → AE} {k s : Int} {t : Bool} (n : Nat) : (aTurn A k s t n).fin = (A n).fin ∧ (aTurn A k s t n).tol = (A n).tol ∧ (aTurn A k s t n).u = (A n).u ∧ (aTurn A k s t n).high = (A n).high := by
  unfold aTurn; split
  · unfold upd
    try dsimp only
    split
    · rename_i h; rw [h]; exact ⟨rfl, rfl, rfl, rfl⟩
    · exact ⟨rfl, rfl, rfl, rfl⟩
  · exact ⟨rfl, rfl, rfl, rfl⟩
theorem aMarks_ftu {A : Nat → AE} {k s l h : Int} (n : Nat) : (aMarks A k s l h n).fin = (A n).fin ∧ (aMarks A k s l h n).tol = (A n).tol ∧ (aMarks A k s l h n).u = (A n).u := by
  unfold aMarks; split
  · unfold upd AE.marks
    try dsimp only
    split
    · rename_i h; rw [h]; split <;> exact ⟨rfl, rfl, rfl⟩
    · exact ⟨rfl, rfl, rfl⟩
  · exact ⟨rfl, rfl, rfl⟩
theorem aMarks_high {A : Nat → AE} {k : Nat} (hk : k < 2) {s l h : Int} (n : Nat) : (aMarks A k s l h n).high = if aMarksV k s l h = 0 ∧ s = 2 then (upd (fun j => (A j).high) k h) n else (A n).high := by
  have hV : aMarksV k s l h = if mkOk s l h then 0 else 2 := by unfold aMarksV; simp [isE_nat hk]
  have hA : aMarks A k s l h = if mkOk s l h then upd A k ((A k).marks s l h) else A := by unfold aMarks; simp [isE_nat hk]
  rw [hV, hA]
  by_cases hm : mkOk s l h
  · by_cases hs : s = 2
    · subst hs
      simp only [if_pos hm, and_self, if_true, AE.marks]
      unfold upd
      by_cases e : n = k
      · rw [if_pos e, if_pos e]
      · rw [if_neg e, if_neg e]
    · simp only [if_pos hm, hs, and_false, if_false, AE.marks]
      unfold upd
      by_cases e : n = k
      · rw [if_pos e, e]
      · rw [if_neg e]
  · simp [hm]
theorem InvE.same {A A' : Nat → AE} (h : InvE A) (h1 : ∀ n, n < 2 → (A' n).fin = (A n).fin ∧ (A' n).tol = (A n).tol ∧ (A' n).u = (A n).u) : InvE A' := fun n hn q => by
  rw [(h1 n hn).2.1] at q
  rw [(h1 (1 - n) (by omega)).1, (h1 (1 - n) (by omega)).2.2]
  exact h n hn q
theorem InvE.write {A : Nat → AE} (h : InvE A) {n : Nat} (hn : n < 2) (l : List UInt8) : InvE (aWrite A n l) ∧ ∀ j, j < 2 → (aWrite A n l j).fin = (A j).fin ∧ (aWrite A n l j).tol = (A j).tol ∧ (aWrite A n l j).high = (A j).high := by
  by_cases hv : aWriteV A n l = 0
  · rw [aWrite_ok hn hv]
    have hf : (A n).fin = false := by
      unfold aWriteV at hv
      rw [if_pos (isE_nat hn), Int.toNat_natCast] at hv
      cases hq : (A n).fin with
      | false => rfl
      | true => rw [hq, if_pos rfl] at hv; cases hv
    refine ⟨fun j hj q => ?_, fun j hj => ?_⟩
    · rcases two_cases hn hj with rfl | ⟨e1, e2, e3⟩
      · rw [upd_same] at q
        rw [upd_other hn]
        exact h j hj q
      · rw [upd_ne e3] at q
        have := (h j hj q).1
        rw [← e2, hf] at this; cases this
    · unfold upd; split
      · rename_i e; rw [e]; exact ⟨rfl, rfl, rfl⟩
      · exact ⟨rfl, rfl, rfl⟩
  · rw [aWrite_no hv]; exact ⟨h, fun _ _ => ⟨rfl, rfl, rfl⟩⟩
theorem aRead_ftu {A : Nat → AE} {k x : Int} (n : Nat) : (aRead A k x n).fin = (A n).fin ∧ (aRead A k x n).tol = (A n).tol ∧ (aRead A k x n).u = (A n).u ∧ (aRead A k x n).high = (A n).high := by
  unfold aRead; split
  · unfold upd
    try dsimp only
    split
    · rename_i h; rw [h]; exact ⟨rfl, rfl, rfl, rfl⟩
    · exact ⟨rfl, rfl, rfl, rfl⟩
  · exact ⟨rfl, rfl, rfl, rfl⟩
theorem aFinish_at {A : Nat → AE} {k : Nat} (hk : k < 2) : aFinish A k = upd A k { A k with fin := true } := by unfold aFinish; rw [if_pos (isE_nat hk), Int.toNat_natCast]
theorem InvE.finish {A : Nat → AE} (h : InvE A) {n : Nat} (hn : n < 2) : InvE (aFinish A n) ∧ ∀ j, j < 2 → (aFinish A n j).fin = upd (fun j => (A j).fin) n true j ∧ (aFinish A n j).tol = (A j).tol ∧ (aFinish A n j).high = (A j).high := by
  rw [aFinish_at hn]
  refine ⟨fun j hj q => ?_, fun j hj => ?_⟩
  · rcases two_cases hn hj with rfl | ⟨e1, e2, e3⟩
    · rw [upd_same] at q
      rw [upd_other hn]
      exact h j hj q
    · rw [upd_ne e3] at q
      have := h j hj q
      rw [← e2] at this ⊢
      rw [upd_same]
      exact ⟨rfl, this.2⟩
  · unfold upd; split
    · rename_i e; rw [e]; exact ⟨rfl, rfl, rfl⟩
    · exact ⟨rfl, rfl, rfl⟩
/-! two numbers, or two flags, in a block -/
abbrev encI2 (H : Nat → Int) : List Value := [.int .i64 (H 0), .int .i64 (H 1)]
abbrev encB2 (T : Nat → Bool) : List Value := [.bool (T 0), .bool (T 1)]
theorem encI2_at {H : Nat → Int} {n : Nat} (hn : n < 2) : (encI2 H)[0 + n * 1]? = some (.int .i64 (H n)) := by
  rcases (show n = 0 ∨ n = 1 by omega) with rfl | rfl <;> rfl
theorem encB2_at {T : Nat → Bool} {n : Nat} (hn : n < 2) : (encB2 T)[0 + n * 1]? = some (.bool (T n)) := by
  rcases (show n = 0 ∨ n = 1 by omega) with rfl | rfl <;> rfl
theorem encI2_set {H : Nat → Int} {n : Nat} (hn : n < 2) (x : Int) : (encI2 H).set (0 + n * 1) (.int .i64 x) = encI2 (upd H n x) := by
  rcases (show n = 0 ∨ n = 1 by omega) with rfl | rfl <;> rfl
theorem encB2_set {T : Nat → Bool} {n : Nat} (hn : n < 2) (x : Bool) : (encB2 T).set (0 + n * 1) (.bool x) = encB2 (upd T n x) := by
  rcases (show n = 0 ∨ n = 1 by omega) with rfl | rfl <;> rfl
theorem encI2_eq {H H' : Nat → Int} (h : ∀ n, n < 2 → H n = H' n) : encI2 H = encI2 H' := by
  unfold encI2; rw [h 0 (by omega), h 1 (by omega)]
theorem encB2_eq {H H' : Nat → Bool} (h : ∀ n, n < 2 → H n = H' n) : encB2 H = encB2 H' := by
  unfold encB2; rw [h 0 (by omega), h 1 (by omega)]
theorem told_at {T : Nat → TV} {n : Nat} (hn : n < 2) (q : Nat) (hq : q < 6) : (encT (T 0) ++ encT (T 1))[0 + n * 6 + q]? = (encT (T n))[q]? := by
  rcases (show n = 0 ∨ n = 1 by omega) with rfl | rfl
  · rw [List.getElem?_append_left (by simp; try omega)]; simp
  · rw [List.getElem?_append_right (by simp; try omega)]; congr 1; simp; try omega
end Pa
end Go.Proofs.Ytgifpkpkkgkfeaa
