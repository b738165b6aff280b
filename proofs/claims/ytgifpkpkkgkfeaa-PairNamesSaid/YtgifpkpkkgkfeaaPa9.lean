/-
  Pairs: what a pair is, in plain words (ends with flat bytes), and what each call makes of it; the contracts over it.
-/
import Derived.Test.YtgifpkpkkgkfeaaPa8
namespace Go.Proofs.Ytgifpkpkkgkfeaa
set_option linter.unusedSimpArgs false
set_option linter.unusedVariables false
set_option linter.unnecessarySimpa false
open Go.RX Fx
namespace Pa
open Bc
set_option maxRecDepth 8000
structure AE where
  i : List UInt8
  u : List UInt8
  r : Bool
  w : Bool
  low : Int
  high : Int
  least : Int
  fin : Bool
  tol : Bool
def onOf (r w : Bool) : Int := (if r then 2 else 0) + (if w then 4 else 0)
structure AbE (e : PE) (a : AE) : Prop where
  ok : EOk e
  i : flat e.i = a.i
  u : flat e.u = a.u
  on : e.on = onOf a.r a.w
  low : e.low = a.low
  high : e.high = a.high
  least : e.least = a.least
  fin : e.fin = a.fin
  tol : e.tol = a.tol
def upd {α : Type} (A : Nat → α) (k : Nat) (x : α) : Nat → α := fun j => if j = k then x else A j
/-- which end, of a number -/
def isE (k : Int) : Prop := k = 0 ∨ k = 1
instance (k : Int) : Decidable (isE k) := by unfold isE; exact inferInstance
theorem isE_cases {k : Int} : (∃ n : Nat, n < 2 ∧ k = (n : Int) ∧ isE k) ∨ ((k < 0 ∨ 1 < k) ∧ ¬ isE k) := by
  unfold isE
  by_cases h : k = 0 ∨ k = 1
  · refine .inl ⟨k.toNat, by omega, by omega, h⟩
  · exact .inr ⟨by omega, h⟩
def sideOk (s : Int) : Prop := s = 0 ∨ s = 2 ∨ s = 4 ∨ s = 6
instance (s : Int) : Decidable (sideOk s) := by unfold sideOk; exact inferInstance
theorem land6 (v : BitVec 64) : (v &&& 6#64).toNat ≤ 6 := by rw [BitVec.toNat_and]; exact Nat.and_le_right
theorem side_iff {x : Int} (hx : InK .i64 x) : bits .andNot .i64 x 6 = 0 ↔ sideOk x := by
  constructor
  · intro h
    have h0 := h
    rw [bits_andNot_zero] at h
    have e : bv x = bv x &&& bv 6 := by
      apply BitVec.eq_of_getLsbD_eq
      intro i hi
      have := congrArg (fun v => BitVec.getLsbD v i) h
      simp only [BitVec.getLsbD_and, BitVec.getLsbD_not, hi, decide_true, Bool.true_and, BitVec.getLsbD_zero] at this
      rw [BitVec.getLsbD_and]
      cases h1 : (bv x).getLsbD i <;> cases h2 : (bv 6).getLsbD i <;> simp_all
    have h1 : (bv x).toNat ≤ 6 := by rw [e]; exact land6 _
    simp only [InK] at hx
    unfold bv at h1
    rw [BitVec.toNat_ofInt] at h1
    have h2 : x = 0 ∨ x = 1 ∨ x = 2 ∨ x = 3 ∨ x = 4 ∨ x = 5 ∨ x = 6 := by omega
    unfold sideOk
    rcases h2 with rfl | rfl | rfl | rfl | rfl | rfl | rfl <;> first | decide | exact absurd h0 (by decide)
  · rintro (rfl | rfl | rfl | rfl) <;> decide
/-! what the calls make of it -/
def AE.turn (a : AE) (s : Int) (t : Bool) : AE := { a with r := if s = 2 ∨ s = 6 then t else a.r, w := if s = 4 ∨ s = 6 then t else a.w }
def aTurnV (k s : Int) : Int := if isE k ∧ sideOk s then 0 else 2
def aTurn (A : Nat → AE) (k s : Int) (t : Bool) : Nat → AE := if isE k ∧ sideOk s then upd A k.toNat ((A k.toNat).turn s t) else A
def AE.marks (e : AE) (side low high : Int) : AE := if side = 2 then { e with low := low, high := high } else { e with least := low }
def aMarksV (k side low high : Int) : Int := if isE k ∧ mkOk side low high then 0 else 2
def aMarks (A : Nat → AE) (k side low high : Int) : Nat → AE := if isE k ∧ mkOk side low high then upd A k.toNat ((A k.toNat).marks side low high) else A
def aWriteV (A : Nat → AE) (k : Int) (l : List UInt8) : Int := if isE k then (if (A k.toNat).fin = true then 114 else mayE (A k.toNat).u.length l.length) else 2
def aWrite (A : Nat → AE) (k : Int) (l : List UInt8) : Nat → AE := if isE k ∧ aWriteV A k l = 0 then upd A k.toNat { A k.toNat with u := (A k.toNat).u ++ l } else A
def aReadV (A : Nat → AE) (k n : Int) : List UInt8 := if isE k then (A k.toNat).i.take n.toNat else []
def aRead (A : Nat → AE) (k n : Int) : Nat → AE := if isE k then upd A k.toNat { A k.toNat with i := (A k.toNat).i.drop n.toNat } else A
def aFinishV (k : Int) : Int := if isE k then 0 else 2
def aFinish (A : Nat → AE) (k : Int) : Nat → AE := if isE k then upd A k.toNat { A k.toNat with fin := true } else A
def aMany (a c : AE) (fl : Bool) : Nat :=
  if a.w = false ∨ c.r = false then 0
  else (if 0 < c.high ∧ fl = false then min ((min a.u.length (1048576 - c.i.length) : Nat) : Int) (c.high - (c.i.length : Int)) else ((min a.u.length (1048576 - c.i.length) : Nat) : Int)).toNat
def aTvF (a : AE) (n : Nat) (x : TV) : TV := if 0 < n then { x with out := (n : Int), wr := decide (((a.u.length - n : Nat) : Int) ≤ a.least) } else x
def aTvT (c : AE) (n : Nat) (y : TV) : TV := if 0 < n then { y with inn := (n : Int), rd := decide (c.low ≤ ((c.i.length + n : Nat) : Int)) } else y
def aEnd (a c : AE) (n : Nat) : Bool := a.fin && (decide (a.u.length = n) && (c.r && !c.tol))
structure AS where
  e : Nat → AE
  t : Nat → TV
/-- a pass from end n -/
def AS.pass (S : AS) (fl : Bool) (n : Nat) : AS :=
  let m := aMany (S.e n) (S.e (1 - n)) fl
  { e := fun j => if j = n then { S.e n with u := (S.e n).u.drop m } else { S.e (1 - n) with i := (S.e (1 - n)).i ++ (S.e n).u.take m, tol := (S.e (1 - n)).tol || aEnd (S.e n) (S.e (1 - n)) m }
    t := fun j => if j = n then aTvF (S.e n) m (S.t n) else { aTvT (S.e (1 - n)) m (S.t (1 - n)) with ev := if aEnd (S.e n) (S.e (1 - n)) m = true then 17 else (aTvT (S.e (1 - n)) m (S.t (1 - n))).ev } }
def aRuns (fl : Bool) : List Nat → AS → AS
  | [], S => S
  | n :: r, S => aRuns fl r (S.pass fl n)
def aS0 (A : Nat → AE) : AS := ⟨A, fun _ => t0⟩
def aMove (A : Nat → AE) (k : Int) (fl : Bool) : AS := aRuns fl (ws k 2) (aS0 A)
def aStep (A : Nat → AE) : AS := aRuns false [0, 1] (aS0 A)
def aFlush (A : Nat → AE) (k : Int) : AS := if isE k then (aS0 A).pass true k.toNat else aS0 A
/-! rows and flat bytes -/
def AbS (S : St) (A : AS) : Prop := (∀ j, j < 2 → AbE (S.e j) (A.e j)) ∧ ∀ j, j < 2 → S.t j = A.t j
theorem on_r {e : PE} {a : AE} (h : AbE e a) : decide (bits .and .i64 e.on 2 ≠ 0) = a.r := by
  rw [h.on]; cases a.r <;> cases a.w <;> decide
theorem on_w {e : PE} {a : AE} (h : AbE e a) : decide (bits .and .i64 e.on 4 ≠ 0) = a.w := by
  rw [h.on]; cases a.r <;> cases a.w <;> decide
theorem many_eq {e f : PE} {a c : AE} (h : AbE e a) (g : AbE f c) (fl : Bool) : manyN e f fl = aMany a c fl := by
  have h1 := on_w h
  have h2 := on_r g
  unfold manyN aMany
  rw [h.u, g.i, g.high]
  have e1 : (bits .and .i64 e.on 4 = 0) ↔ a.w = false := by rw [← h1]; simp
  have e2 : (bits .and .i64 f.on 2 = 0) ↔ c.r = false := by rw [← h2]; simp
  simp only [e1, e2]
theorem endB_eq {e f : PE} {a c : AE} (h : AbE e a) (g : AbE f c) (n : Nat) : endB e f n = aEnd a c n := by
  unfold endB aEnd
  rw [h.fin, h.u, on_r g, g.tol]
theorem tvF_eq {e : PE} {a : AE} (h : AbE e a) (n : Nat) (x : TV) : tvF e n x = aTvF a n x := by
  unfold tvF aTvF; rw [h.u, h.least]
theorem tvT_eq {e : PE} {a : AE} (h : AbE e a) (n : Nat) (x : TV) : tvT e n x = aTvT a n x := by
  unfold tvT aTvT; rw [h.i, h.low]
theorem pass_abs {fl : Bool} {n : Nat} {S S' : St} {A : AS} (hn : n < 2) (h : AbS S A) (p : PassR fl n S S') : AbS S' (A.pass fl n) := by
  have hm : 1 - n < 2 := by omega
  have h1 := h.1 n hn
  have h2 := h.1 (1 - n) hm
  have hk : OkS S := ⟨(h.1 0 (by omega)).ok, (h.1 1 (by omega)).ok⟩
  have ho := p.ok hn hk
  obtain ⟨u2, i2, g1, g2, hu, hi, rfl⟩ := p
  rw [many_eq h1 h2] at hu hi
  have ht1 := h.2 n hn
  have ht2 := h.2 (1 - n) hm
  refine ⟨fun j hj => ?_, fun j hj => ?_⟩
  · rcases (show j = n ∨ j = 1 - n by omega) with rfl | rfl
    · have e1 : (S.pass fl j u2 i2).e j = { S.e j with u := u2 } := if_pos rfl
      have e2 : (A.pass fl j).e j = { A.e j with u := (A.e j).u.drop (aMany (A.e j) (A.e (1 - j)) fl) } := if_pos rfl
      rw [e2]
      have hoj := ho.at hj
      rw [e1] at hoj ⊢
      exact ⟨hoj, h1.i, by rw [hu, h1.u], h1.on, h1.low, h1.high, h1.least, h1.fin, h1.tol⟩
    · have hne : ¬ (1 - n = n) := by omega
      have e1 : (S.pass fl n u2 i2).e (1 - n) = { S.e (1 - n) with i := i2, tol := (S.e (1 - n)).tol || endB (S.e n) (S.e (1 - n)) (manyN (S.e n) (S.e (1 - n)) fl) } := if_neg hne
      have e2 : (A.pass fl n).e (1 - n) = { A.e (1 - n) with i := (A.e (1 - n)).i ++ (A.e n).u.take (aMany (A.e n) (A.e (1 - n)) fl), tol := (A.e (1 - n)).tol || aEnd (A.e n) (A.e (1 - n)) (aMany (A.e n) (A.e (1 - n)) fl) } := if_neg hne
      rw [e2]
      have hoj := ho.at hm
      rw [e1] at hoj ⊢
      exact ⟨hoj, by rw [hi, h1.u, h2.i], h2.u, h2.on, h2.low, h2.high, h2.least, h2.fin, by show (_ || _) = (_ || _); rw [h2.tol, many_eq h1 h2, endB_eq h1 h2]⟩
  · rcases (show j = n ∨ j = 1 - n by omega) with rfl | rfl
    · have e1 : (S.pass fl j u2 i2).t j = tvF (S.e j) (manyN (S.e j) (S.e (1 - j)) fl) (S.t j) := if_pos rfl
      have e2 : (A.pass fl j).t j = aTvF (A.e j) (aMany (A.e j) (A.e (1 - j)) fl) (A.t j) := if_pos rfl
      rw [e1, e2, many_eq h1 h2, ht1, tvF_eq h1]
    · have hne : ¬ (1 - n = n) := by omega
      have e1 : (S.pass fl n u2 i2).t (1 - n) = { tvT (S.e (1 - n)) (manyN (S.e n) (S.e (1 - n)) fl) (S.t (1 - n)) with ev := if endB (S.e n) (S.e (1 - n)) (manyN (S.e n) (S.e (1 - n)) fl) = true then 17 else (tvT (S.e (1 - n)) (manyN (S.e n) (S.e (1 - n)) fl) (S.t (1 - n))).ev } := if_neg hne
      have e2 : (A.pass fl n).t (1 - n) = { aTvT (A.e (1 - n)) (aMany (A.e n) (A.e (1 - n)) fl) (A.t (1 - n)) with ev := if aEnd (A.e n) (A.e (1 - n)) (aMany (A.e n) (A.e (1 - n)) fl) = true then 17 else (aTvT (A.e (1 - n)) (aMany (A.e n) (A.e (1 - n)) fl) (A.t (1 - n))).ev } := if_neg hne
      rw [e1, e2, many_eq h1 h2, ht2, tvT_eq h2, endB_eq h1 h2]
theorem runs_abs {fl : Bool} : ∀ {xs : List Nat} {S S' : St} {A : AS}, (∀ n ∈ xs, n < 2) → AbS S A → Runs fl xs S S' → AbS S' (aRuns fl xs A)
  | [], _, _, _, _, h, p => by subst p; exact h
  | n :: r, _, S2, A, hx, h, ⟨S1, p, q⟩ => runs_abs (xs := r) (S := S1) (A := A.pass fl n) (fun m hm => hx m (List.mem_cons.2 (.inr hm))) (pass_abs (hx n (List.mem_cons_self ..)) h p) q
theorem ws_lt {k : Int} : ∀ n ∈ ws k 2, n < 2 := fun n h => by
  unfold ws at h
  have := (List.mem_filter.1 h).1
  simpa using this
/-! the heap of it -/
def Ens (b : Nat) (S : Nat → PE) : List SP := En b (0 * 10) (S 0) (En b (1 * 10) (S 1) [])
/-- a pair that is this one, its cells in block b -/
def PrA (b : Nat) (A : Nat → AE) : SP := RX.ex fun S : Nat → PE => pu (∀ j, j < 2 → AbE (S j) (A j)) :: Md b :: Ens b S
theorem PrA_eq {b : Nat} {A A' : Nat → AE} (h : A = A') : PrA b A = PrA b A' := by rw [h]
end Pa
end Go.Proofs.Ytgifpkpkkgkfeaa
