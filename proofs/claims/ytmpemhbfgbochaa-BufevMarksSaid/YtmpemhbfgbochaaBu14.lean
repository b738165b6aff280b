/-
  Bufev's laws: Step over a pair, in plain words.
-/
import Derived.Test.YtmpemhbfgbochaaBu13
namespace Go.Proofs.Ytmpemhbfgbochaa
set_option linter.unusedSimpArgs false
set_option linter.unusedVariables false
set_option linter.unnecessarySimpa false
open Go.RX Fx
namespace Bu
open Wo
set_option maxRecDepth 8000
/-- a side that is as it was but for its bytes and its deadline -/
def SmS (s s' : SdA) (c : List UInt8) : Prop := s'.c = c ∧ s'.on = s.on ∧ s'.ended = s.ended ∧ s'.low = s.low ∧ s'.high = s.high ∧ s'.after = s.after
theorem SmS.same {s : SdA} {c : List UInt8} (h : c = s.c) : SmS s s c := ⟨h.symm, rfl, rfl, rfl, rfl, rfl⟩
/-- the wire behind a read of got and a write of went -/
def mvL (l : Nat → List UInt8) (got went : List UInt8) : Nat → List UInt8 := updL (updL l 0 ((l 0).drop got.length)) 1 (l 1 ++ went)
def rdO (x : BfA) (flags : Int) : Bool := decide (bits .and .i64 (stepM x flags) 2 ≠ 0)
def wrO (x : BfA) (flags : Int) : Bool := decide (bits .and .i64 (stepM x flags) 4 ≠ 0)
def stG (x : BfA) (l : Nat → List UInt8) (flags most : Int) : List UInt8 := if rdO x flags = true then gotB (x.s 0) (l 0) most else []
def stW (n : Nat) (x : BfA) (l : Nat → List UInt8) (flags much : Int) : List UInt8 := if wrO x flags = true then wentB n (x.s 1) (l 1) much else []
def stT1 (x : BfA) (got : List UInt8) (t : ToA) : ToA := if got = [] then t else { t with i := (got.length : Int), r := decide ((((x.s 0).c ++ got).length : Int) ≥ (x.s 0).low) }
def stT2 (x : BfA) (went : List UInt8) (t : ToA) : ToA := if went = [] then t else { t with o := (went.length : Int), w := decide (((((x.s 1).c.drop went.length).length : Nat) : Int) ≤ (x.s 1).low) }
structure StepOk (n : Nat) (x : BfA) (l : Nat → List UInt8) (σ : StA) (got went : List UInt8) : Prop where
  s0 : SmS (x.s 0) (σ.x.s 0) ((x.s 0).c ++ got)
  s1 : SmS (x.s 1) (σ.x.s 1) ((x.s 1).c.drop went.length)
  fd : σ.x.fd = x.fd
  w : PrW n σ.w (mvL l got went)
  t : σ.t = stT2 x went (stT1 x got noT)
theorem stepR_pr {n : Nat} {x : BfA} {w : WA} {l : Nat → List UInt8} (h : PrW n w l) (hf : x.fd = 0) (now flags most : Int) :
    SmS (x.s 0) ((stepR x w now flags most).x.s 0) ((x.s 0).c ++ stG x l flags most) ∧ (stepR x w now flags most).x.s 1 = x.s 1 ∧ (stepR x w now flags most).x.fd = x.fd ∧
    PrW n (stepR x w now flags most).w (updL l 0 ((l 0).drop (stG x l flags most).length)) ∧ (stepR x w now flags most).t = stT1 x (stG x l flags most) noT := by
  unfold stepR stG rdO
  simp only [decide_eq_true_eq]
  by_cases h1 : bits .and .i64 (stepM x flags) 2 ≠ 0
  · rw [if_pos h1, if_pos h1]
    obtain ⟨e1, e2, e3⟩ := readS_pr h hf noT now most
    rw [e1, e2]
    unfold stT1
    by_cases h2 : gotB (x.s 0) (l 0) most = []
    · rw [if_pos h2, if_pos h2]
      exact ⟨.same (by rw [h2, List.append_nil]), rfl, rfl, e3, rfl⟩
    · rw [if_neg h2, if_neg h2]
      refine ⟨?_, bup_ne _ _ (by decide), rfl, e3, rfl⟩
      rw [bup_at]
      exact ⟨rfl, rfl, rfl, rfl, rfl, rfl⟩
  · rw [if_neg h1, if_neg h1]
    exact ⟨.same (by rw [List.append_nil]), rfl, rfl, by rw [updL_id (by rfl)]; exact h, rfl⟩
theorem step_pr {n : Nat} {x : BfA} {w : WA} {l : Nat → List UInt8} (h : PrW n w l) (hf : x.fd = 0) (now flags most much : Int) : StepOk n x l (stepS x w now flags most much) (stG x l flags most) (stW n x l flags much) := by
  obtain ⟨a1, a2, a3, a4, a5⟩ := stepR_pr h hf now flags most
  unfold stepS stW wrO
  simp only [decide_eq_true_eq]
  by_cases h1 : bits .and .i64 (stepM x flags) 4 ≠ 0
  · rw [if_pos h1, if_pos h1]
    have hl1 : updL l 0 ((l 0).drop (stG x l flags most).length) 1 = l 1 := updL_ne _ _ (by decide)
    obtain ⟨e1, e2, e3⟩ := writeS_pr a4 (a3.trans hf) (stepR x w now flags most).t now much
    rw [hl1, a2] at e1 e2 e3
    have q : writeS (stepR x w now flags most) now much = writeS ⟨(stepR x w now flags most).x, (stepR x w now flags most).w, (stepR x w now flags most).t⟩ now much := rfl
    rw [q]
    refine ⟨?_, ?_, ?_, e3, ?_⟩
    · rw [e1]
      split
      · exact a1
      · rw [bup_ne _ _ (by decide)]; exact a1
    · rw [e1]
      split
      · rename_i h2; rw [a2, h2]; exact .same rfl
      · rw [bup_at, a2]; exact ⟨rfl, rfl, rfl, rfl, rfl, rfl⟩
    · rw [e1]
      split
      · exact a3
      · exact a3
    · rw [e2, a5]; rfl
  · rw [if_neg h1, if_neg h1]
    refine ⟨a1, by rw [a2]; exact .same rfl, a3, ?_, by rw [a5]; rfl⟩
    unfold mvL
    rw [updL_id (by rw [List.append_nil, updL_ne _ _ (by decide)])]
    exact a4
theorem mvL_0 (l : Nat → List UInt8) (got went : List UInt8) : mvL l got went 0 = (l 0).drop got.length := by unfold mvL; rw [updL_ne _ _ (by decide), updL_at]
theorem mvL_1 (l : Nat → List UInt8) (got went : List UInt8) : mvL l got went 1 = l 1 ++ went := by unfold mvL; rw [updL_at]
theorem stG_pre (x : BfA) (l : Nat → List UInt8) (flags most : Int) : stG x l flags most ++ (l 0).drop (stG x l flags most).length = l 0 := by
  unfold stG
  split
  · exact got_pre _ _ _
  · rfl
theorem stW_pre (n : Nat) (x : BfA) (l : Nat → List UInt8) (flags much : Int) : stW n x l flags much ++ (x.s 1).c.drop (stW n x l flags much).length = (x.s 1).c := by
  unfold stW
  split
  · exact went_pre _ _ _ _
  · rfl
end Bu
end Go.Proofs.Ytmpemhbfgbochaa
