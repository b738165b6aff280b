/-
  Bufev's laws: steps over a pair, in plain words.
-/
import Derived.Test.YtmpemhbfgbochaaBu12
namespace Go.Proofs.Ytmpemhbfgbochaa
set_option linter.unusedSimpArgs false
set_option linter.unusedVariables false
set_option linter.unnecessarySimpa false
open Go.RX Fx
namespace Bu
open Wo
set_option maxRecDepth 8000
/-- what a step reads -/
def gotB (s : SdA) (b : List UInt8) (most : Int) : List UInt8 := b.take (rdN s most).toNat
theorem rdN_le (s : SdA) (most : Int) : rdN s most ≤ 1048576 - (s.c.length : Int) ∧ rdN s most ≤ most ∧ rdN s most ≤ 4096 ∧ (s.high > 0 → rdN s most ≤ s.high - (s.c.length : Int)) := by
  unfold rdN; split <;> omega
theorem readS_pr {n : Nat} {x : BfA} {w : WA} {l : Nat → List UInt8} (h : PrW n w l) (hf : x.fd = 0) (t : ToA) (now most : Int) :
    (readS ⟨x, w, t⟩ now most).x = (if gotB (x.s 0) (l 0) most = [] then x else x.up 0 fun s => setA 0 now { s with c := s.c ++ gotB (x.s 0) (l 0) most }) ∧
    (readS ⟨x, w, t⟩ now most).t = (if gotB (x.s 0) (l 0) most = [] then t else { t with i := ((gotB (x.s 0) (l 0) most).length : Int), r := decide ((((x.s 0).c ++ gotB (x.s 0) (l 0) most).length : Int) ≥ (x.s 0).low) }) ∧
    PrW n (readS ⟨x, w, t⟩ now most).w (updL l 0 ((l 0).drop (gotB (x.s 0) (l 0) most).length)) := by
  have hn := rdN_le (x.s 0) most
  unfold readS
  dsimp only
  by_cases h1 : rdN (x.s 0) most < 1
  · have hg : gotB (x.s 0) (l 0) most = [] := by unfold gotB; rw [show (rdN (x.s 0) most).toNat = 0 by omega]; rfl
    rw [if_pos h1, hg]
    exact ⟨rfl, rfl, by rw [updL_id (by rfl)]; exact h⟩
  · rw [if_neg h1, hf]
    have hr := readR_pr h (k := 0) (by omega) (rdN (x.s 0) most)
    rw [show ((0 : Nat) : Int) = 0 from rfl] at hr
    obtain ⟨⟨⟨bs, eo, ec⟩, w'⟩, hq⟩ : ∃ rr, readR w 0 (rdN (x.s 0) most) = rr := ⟨_, rfl⟩
    rw [hq] at hr ⊢
    dsimp only at hr
    unfold rdV at hr
    rw [if_neg h1] at hr
    by_cases h2 : l 0 = []
    · rw [if_pos h2] at hr
      have hg : gotB (x.s 0) (l 0) most = [] := by unfold gotB; rw [h2, List.take_nil]
      simp only [Prod.mk.injEq] at hr
      obtain ⟨⟨rfl, rfl, rfl⟩, hw⟩ := hr
      rw [hg]
      refine ⟨rfl, rfl, ?_⟩
      rw [h2, List.drop_nil] at hw ⊢
      exact hw
    · rw [if_neg h2] at hr
      simp only [Prod.mk.injEq] at hr
      obtain ⟨⟨hb, rfl, rfl⟩, hw⟩ := hr
      have hg : bs = gotB (x.s 0) (l 0) most := hb
      have hne : ¬ gotB (x.s 0) (l 0) most = [] := by
        unfold gotB
        rw [List.take_eq_nil_iff]
        intro h; rcases h with h | h
        · omega
        · exact h2 h
      rw [if_neg hne, if_neg hne, ← hg]
      have hlen : bs.length ≤ (rdN (x.s 0) most).toNat := by rw [hg]; unfold gotB; rw [List.length_take]; omega
      have ha : addA (x.s 0).c bs = (x.s 0).c ++ bs := by unfold addA; exact if_pos (by omega)
      have hd : (l 0).drop (rdN (x.s 0) most).toNat = (l 0).drop bs.length := by
        rw [hg]; unfold gotB; rw [List.length_take]
        rcases Nat.le_total (rdN (x.s 0) most).toNat (l 0).length with h | h
        · rw [Nat.min_eq_left h]
        · rw [Nat.min_eq_right h, List.drop_length, List.drop_of_length_le h]
      rw [hd] at hw
      have hp : rdP ⟨x, w, t⟩ now ((bs, false, 0), w') = ⟨x.up 0 (getF now bs), w', { t with i := (bs.length : Int), r := decide (((addA (x.s 0).c bs).length : Int) ≥ (x.s 0).low) }⟩ := rfl
      rw [hp]
      refine ⟨?_, ?_, hw⟩
      · show BfA.mk _ _ = BfA.mk _ _
        congr 1
        funext j
        show (if j = 0 then getF now bs (x.s j) else x.s j) = if j = 0 then setA 0 now { x.s j with c := (x.s j).c ++ bs } else x.s j
        by_cases e : j = 0
        · subst e; rw [if_pos rfl, if_pos rfl]; show setA 0 now { x.s 0 with c := addA (x.s 0).c bs } = _; rw [ha]
        · rw [if_neg e, if_neg e]
      · rw [ha]
/-- what a step writes -/
def wentB (n : Nat) (s : SdA) (b : List UInt8) (much : Int) : List UInt8 := (offA s much).take (n - b.length)
theorem offA_pre (s : SdA) (much : Int) : offA s much = s.c.take (min much 4096).toNat := by
  unfold offA Bc.cpy
  split
  · rw [show (min much 4096).toNat = 0 by omega]; rfl
  · rfl
theorem went_pre (n : Nat) (s : SdA) (b : List UInt8) (much : Int) : wentB n s b much ++ s.c.drop (wentB n s b much).length = s.c := by
  have : wentB n s b much = s.c.take (min (n - b.length) (min much 4096).toNat) := by unfold wentB; rw [offA_pre, List.take_take]
  rw [this, List.length_take]
  rcases Nat.le_total (min (n - b.length) (min much 4096).toNat) s.c.length with h | h
  · rw [Nat.min_eq_left h, List.take_append_drop]
  · rw [Nat.min_eq_right h, List.drop_length, List.take_of_length_le h, List.append_nil]
theorem got_pre (s : SdA) (b : List UInt8) (most : Int) : gotB s b most ++ b.drop (gotB s b most).length = b := by
  unfold gotB
  rw [List.length_take]
  rcases Nat.le_total (rdN s most).toNat b.length with h | h
  · rw [Nat.min_eq_left h, List.take_append_drop]
  · rw [Nat.min_eq_right h, List.drop_length, List.take_of_length_le h, List.append_nil]
theorem writeS_pr {n : Nat} {x : BfA} {w : WA} {l : Nat → List UInt8} (h : PrW n w l) (hf : x.fd = 0) (t : ToA) (now much : Int) :
    (writeS ⟨x, w, t⟩ now much).x = (if wentB n (x.s 1) (l 1) much = [] then x else x.up 1 fun s => setA 1 now { s with c := s.c.drop (wentB n (x.s 1) (l 1) much).length }) ∧
    (writeS ⟨x, w, t⟩ now much).t = (if wentB n (x.s 1) (l 1) much = [] then t else { t with o := ((wentB n (x.s 1) (l 1) much).length : Int), w := decide (((((x.s 1).c.drop (wentB n (x.s 1) (l 1) much).length).length : Nat) : Int) ≤ (x.s 1).low) }) ∧
    PrW n (writeS ⟨x, w, t⟩ now much).w (updL l 1 (l 1 ++ wentB n (x.s 1) (l 1) much)) := by
  unfold writeS
  dsimp only
  by_cases h1 : (offA (x.s 1) much).length = 0
  · have hg : wentB n (x.s 1) (l 1) much = [] := by unfold wentB; rw [List.length_eq_zero_iff.1 h1]; simp
    rw [if_pos h1, hg]
    exact ⟨rfl, rfl, by rw [updL_id (by simp)]; exact h⟩
  · rw [if_neg h1, hf]
    have hr := writeR_pr h (k := 0) (by omega) (offA (x.s 1) much)
    rw [show ((0 : Nat) : Int) = 0 from rfl] at hr
    obtain ⟨⟨⟨m, ec⟩, w'⟩, hq⟩ : ∃ rr, writeR w 0 (offA (x.s 1) much) = rr := ⟨_, rfl⟩
    rw [hq] at hr ⊢
    dsimp only [Nat.sub_zero] at hr
    unfold wrV at hr
    rw [if_neg h1] at hr
    have hwl : (wentB n (x.s 1) (l 1) much).length = min (offA (x.s 1) much).length (n - (l 1).length) := by unfold wentB; rw [List.length_take, Nat.min_comm]
    by_cases h2 : min (offA (x.s 1) much).length (n - (l 1).length) = 0
    · rw [if_pos h2] at hr
      simp only [Prod.mk.injEq] at hr
      obtain ⟨⟨rfl, rfl⟩, hw⟩ := hr
      have hg : wentB n (x.s 1) (l 1) much = [] := List.length_eq_zero_iff.1 (by rw [hwl, h2])
      rw [if_pos hg, if_pos hg]
      exact ⟨rfl, rfl, hw⟩
    · rw [if_neg h2] at hr
      simp only [Prod.mk.injEq] at hr
      obtain ⟨⟨rfl, rfl⟩, hw⟩ := hr
      have hne : ¬ wentB n (x.s 1) (l 1) much = [] := fun e => by rw [e] at hwl; simp only [List.length_nil] at hwl; omega
      rw [if_neg hne, if_neg hne, ← hwl]
      refine ⟨rfl, rfl, hw⟩
end Bu
end Go.Proofs.Ytmpemhbfgbochaa
