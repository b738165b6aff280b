/-
  Bufev's laws: Late.
-/
import Derived.Test.YtmpemhbfgbochaaBu9
namespace Go.Proofs.Ytmpemhbfgbochaa
set_option linter.unusedSimpArgs false
set_option linter.unusedVariables false
set_option linter.unnecessarySimpa false
open Go.RX Fx
namespace Bu
open Wo
set_option maxRecDepth 8000
def lp (r now : Int) : Bool := (decide (r > 0) && decide (r < NV)) && decide (r ≤ now)
def dv (r : Int) : Int := if r = 0 then NV else r
def wI (p q : Bool) : Int := if p = true then (if q = true then 67 else 65) else if q = true then 66 else 0
def oI (p q : Bool) : Int := if p = true then (if q = true then 0 else 4) else if q = true then 2 else 6
abbrev ltX1 : BfA := enB (newB 0) 0 2
abbrev ltX2 : BfA := wrB ltX1 0 [97]
abbrev ltX3 (r w : Int) : BfA := tmB ltX2 0 r w
abbrev ltX4 (r w now : Int) : BfA := effB (ltF now) (ltX3 r w) (sidesA 6)
theorem sd6 : sidesA 6 = [0, 1] := by decide +kernel
theorem lt_s0 {r w : Int} (hr : InK .u64 r) : (ltX3 r w).s 0 = ⟨[], true, false, 0, 0, r, dv r⟩ := by
  have h2 : ltX2.s 0 = ⟨[], true, false, 0, 0, 0, NV⟩ := by rfl
  show (tmB ltX2 0 r w).s 0 = _
  unfold tmB
  rw [bup_ne _ _ (by decide), bup_at, h2]
  simp only [InK] at hr
  unfold setA atV dv dl NV
  simp only [SdA.mk.injEq]
  refine ⟨trivial, trivial, trivial, trivial, trivial, trivial, ?_⟩
  by_cases h : r = 0
  · subst h; simp
  · rw [if_pos (by simpa using h), if_neg (by omega), if_neg h]; omega
theorem lt_s1 {r w : Int} (hw : InK .u64 w) : (ltX3 r w).s 1 = ⟨[97], true, false, 0, 0, w, dv w⟩ := by
  have h2 : ltX2.s 1 = ⟨[97], true, false, 0, 0, 0, NV⟩ := by rfl
  show (tmB ltX2 0 r w).s 1 = _
  unfold tmB
  rw [bup_at, bup_ne _ _ (by decide), h2]
  simp only [InK] at hw
  unfold setA atV dv dl NV
  simp only [SdA.mk.injEq]
  refine ⟨trivial, trivial, trivial, trivial, trivial, trivial, ?_⟩
  by_cases h : w = 0
  · subst h; simp
  · rw [if_pos (by simpa using h), if_neg (by omega), if_neg h]; omega
theorem lateK_dv {r now : Int} (hr : InK .u64 r) {s : SdA} (hs : s.at_ = dv r) : lateK now s = lp r now := by
  simp only [InK] at hr
  unfold lateK lp
  rw [hs]
  unfold dv NV
  by_cases h : r = 0
  · subst h; simp
  · rw [if_neg h, Bool.eq_iff_iff]
    simp only [Bool.not_eq_true', Bool.or_eq_false_iff, decide_eq_false_iff_not, Bool.and_eq_true, decide_eq_true_eq]
    omega
theorem lt_t {r w now : Int} (hr : InK .u64 r) (hw : InK .u64 w) : lateT (ltX3 r w) now (sidesA 6) = wI (lp r now) (lp w now) := by
  have h0 : lateK now ((ltX3 r w).s 0) = lp r now := lateK_dv hr (by rw [lt_s0 hr])
  have h1 : lateK now ((ltX3 r w).s 1) = lp w now := lateK_dv hw (by rw [lt_s1 hw])
  rw [sd6]
  unfold lateT
  simp only [List.foldl_cons, List.foldl_nil]
  rw [h0, h1]
  cases lp r now <;> cases lp w now <;> rfl
theorem ltF_no (now : Int) (k : Nat) (s : SdA) : lateK now (ltF now k s) = false := by
  show lateK now (if lateK now s = true then offF k s else s) = false
  split
  · rfl
  · rename_i h; simpa using h
theorem lt_u (x : BfA) (now : Int) : lateT (effB (ltF now) x (sidesA 6)) now (sidesA 6) = 0 := by
  rw [sd6]
  unfold lateT
  simp only [List.foldl_cons, List.foldl_nil]
  have h0 : lateK now ((effB (ltF now) x [0, 1]).s 0) = false := ltF_no now 0 (x.s 0)
  have h1 : lateK now ((effB (ltF now) x [0, 1]).s 1) = false := ltF_no now 1 (x.s 1)
  rw [h0, h1]; rfl
theorem onM2 (x : BfA) : onM x (sidesA 6) = if (x.s 1).on = true then bits .or .i64 (if (x.s 0).on = true then bits .or .i64 0 (flagA 0) else 0) (flagA 1) else (if (x.s 0).on = true then bits .or .i64 0 (flagA 0) else 0) := by rw [sd6]; rfl
theorem lt_on {r w now : Int} (hr : InK .u64 r) (hw : InK .u64 w) : onM (ltX4 r w now) (sidesA 6) = oI (lp r now) (lp w now) := by
  have h0 : lateK now ((ltX3 r w).s 0) = lp r now := lateK_dv hr (by rw [lt_s0 hr])
  have h1 : lateK now ((ltX3 r w).s 1) = lp w now := lateK_dv hw (by rw [lt_s1 hw])
  have e0 : ((ltX4 r w now).s 0).on = !lp r now := by
    show (if 0 ∈ sidesA 6 then ltF now 0 ((ltX3 r w).s 0) else (ltX3 r w).s 0).on = _
    rw [if_pos (by rw [sd6]; simp)]
    show (if lateK now ((ltX3 r w).s 0) = true then offF 0 ((ltX3 r w).s 0) else (ltX3 r w).s 0).on = _
    rw [h0, lt_s0 hr]
    cases lp r now <;> rfl
  have e1 : ((ltX4 r w now).s 1).on = !lp w now := by
    show (if 1 ∈ sidesA 6 then ltF now 1 ((ltX3 r w).s 1) else (ltX3 r w).s 1).on = _
    rw [if_pos (by rw [sd6]; simp)]
    show (if lateK now ((ltX3 r w).s 1) = true then offF 1 ((ltX3 r w).s 1) else (ltX3 r w).s 1).on = _
    rw [h1, lt_s1 hw]
    cases lp w now <;> rfl
  rw [onM2]
  rw [e0, e1]
  cases lp r now <;> cases lp w now <;> rfl
theorem lt_d {r w now : Int} (hr : InK .u64 r) (hw : InK .u64 w) (hn : InK .u64 now) : (decide (wI (lp r now) (lp w now) = 0)) = (decide (min (dv r) (dv w) > now) || decide (min (dv r) (dv w) = NV)) := by
  simp only [InK] at hr hw hn
  have hp : lp r now = true ↔ ¬ (dv r = NV ∨ dv r > now) := by
    unfold lp dv NV
    simp only [Bool.and_eq_true, decide_eq_true_eq]
    split <;> omega
  have hq : lp w now = true ↔ ¬ (dv w = NV ∨ dv w > now) := by
    unfold lp dv NV
    simp only [Bool.and_eq_true, decide_eq_true_eq]
    split <;> omega
  have hr2 : dv r ≤ NV := by unfold dv NV; split <;> omega
  have hw2 : dv w ≤ NV := by unfold dv NV; split <;> omega
  have hz : wI (lp r now) (lp w now) = 0 ↔ lp r now = false ∧ lp w now = false := by cases lp r now <;> cases lp w now <;> decide
  rw [Bool.eq_iff_iff]
  simp only [Bool.or_eq_true, decide_eq_true_eq]
  rw [hz, ← Bool.not_eq_true, ← Bool.not_eq_true, hp, hq]
  unfold NV at *
  omega
theorem lt_idem (x : BfA) (now : Int) : effB (ltF now) (effB (ltF now) x (sidesA 6)) (sidesA 6) = effB (ltF now) x (sidesA 6) := by
  show BfA.mk _ _ = BfA.mk _ _
  congr 1
  funext j
  show (if j ∈ sidesA 6 then ltF now j (if j ∈ sidesA 6 then ltF now j (x.s j) else x.s j) else (if j ∈ sidesA 6 then ltF now j (x.s j) else x.s j)) = if j ∈ sidesA 6 then ltF now j (x.s j) else x.s j
  by_cases h : j ∈ sidesA 6
  · simp only [if_pos h]; exact if_neg (by rw [ltF_no]; simp)
  · simp only [if_neg h]
end Bu
end Go.Proofs.Ytmpemhbfgbochaa
