/-
  Changes said to an epoll and to a kqueue (plain).
-/
import Derived.Test.YtbfddabjbkohdaaGreatZChangeKernelsJ
set_option linter.unusedSimpArgs false
set_option linter.unusedVariables false
set_option linter.unnecessarySimpa false
set_option maxRecDepth 8000
set_option maxHeartbeats 2000000
open Go.RX.Hd (yv y2 n1 fk sk sr tH callE heldK qo qk qn qt qz qv endH thenN slots)
namespace Go.Proofs.YtbfddabjbkohdaaGreat
open Go.RX Fx
namespace Cl
open Wo
theorem land_max (v : BitVec 64) : (v &&& 38#64).toNat ≤ 38 := by rw [BitVec.toNat_and]; exact Nat.and_le_right
theorem may_le {x : Int} (hx : InK .i64 x) (h : bits .andNot .i64 x 38 = 0) : 0 ≤ x ∧ x ≤ 38 := by
 rw [bits_andNot_zero] at h
 have e : bv x = bv x &&& bv 38 := by
  apply BitVec.eq_of_getLsbD_eq; intro i hi
  have := congrArg (fun v => BitVec.getLsbD v i) h
  simp only [BitVec.getLsbD_and, BitVec.getLsbD_not, hi, decide_true, Bool.true_and, BitVec.getLsbD_zero] at this; rw [BitVec.getLsbD_and]
  cases h1 : (bv x).getLsbD i <;> cases h2 : (bv 38).getLsbD i <;> simp_all
 have h1 : (bv x).toNat ≤ 38 := by rw [e]; exact land_max _
 simp only [InK] at hx; unfold bv at h1; rw [BitVec.toNat_ofInt] at h1; omega
def okN (x : Int) : Prop := mayB x = true ∧ 0 ≤ x ∧ x ≤ 38
theorem okN_0 : okN 0 := by unfold okN; decide
theorem okN_may {x : Int} (hx : InK .i64 x) (h : mayB x = true) : okN x := by
 have h0 := h
 unfold mayB at h0; rw [Bool.and_eq_true, decide_eq_true_eq] at h0; exact ⟨h, may_le hx h0.1⟩
def evI (n : Int) : Int := evs (hasB n 2) (hasB n 4) (hasB n 32)
def flI (n : Int) : Int := if hasB n 32 = true then 16 else 0
theorem tab_ev : ∀ k : Nat, k < 39 → mayB k = true → (k : Int) ≠ 0 → evI k ≠ 0 := by decide +kernel
theorem tab_6 : ∀ k : Nat, k < 39 → bits .and .i64 (k : Int) 6 = (if hasB k 2 = true then 2 else 0) + (if hasB k 4 = true then 4 else 0) := by decide +kernel
theorem okN_nat {x : Int} (h : okN x) : ∃ k : Nat, x = (k : Int) ∧ k < 39 := ⟨x.toNat, by have := h.2; omega, by have := h.2; omega⟩
theorem okN_ev {x : Int} (h : okN x) (h0 : x ≠ 0) : evI x ≠ 0 := by
 obtain ⟨k, rfl, hk⟩ := okN_nat h
 exact tab_ev k hk h.1 h0
theorem okN_6 {x : Int} (h : okN x) : bits .and .i64 x 6 = (if hasB x 2 = true then 2 else 0) + (if hasB x 4 = true then 4 else 0) := by
 obtain ⟨k, rfl, hk⟩ := okN_nat h
 exact tab_6 k hk
theorem evs_ok : ∀ a b c, bits .andNot .i64 (evs a b c) 37 = 0 := by decide
theorem hasB_0 (n : Int) : hasB 0 n = false := by
 unfold hasB
 have : bits .and .i64 0 n = 0 := by
  unfold bits; simp
  rfl
 rw [this]; rfl
def SdI (w : WA) (g : Kq.Ky → Option Kq.KnA) (a : Int) (k : Nat) (m : Int) : Prop :=
 (hasB m (sideOf k) = false → g (a, (k : Int) + 1) = none) ∧ (hasB m (sideOf k) = true → ∃ y, g (a, (k : Int) + 1) = some y ∧ y.wire = wireN (w.at a) ∧ y.flags = flI m)
theorem may_k : ∀ k : Nat, k < 2 → ∀ (a : Int) (fl : Int), fl = 17 ∨ fl = 1 ∨ fl = 2 → Kq.mayK (a, (k : Int) + 1, fl, 0) = true := by
 rintro k hk a fl h
 rcases (show k = 0 ∨ k = 1 by omega) with rfl | rfl <;> rcases h with rfl | rfl | rfl
 ·show Kq.mayK (0, 1, 17, 0) = true; decide +kernel
 ·show Kq.mayK (0, 1, 1, 0) = true; decide +kernel
 ·show Kq.mayK (0, 1, 2, 0) = true; decide +kernel
 ·show Kq.mayK (0, 2, 17, 0) = true; decide +kernel
 ·show Kq.mayK (0, 2, 1, 0) = true; decide +kernel
 ·show Kq.mayK (0, 2, 2, 0) = true; decide +kernel
theorem kf_t : ∀ o n o3 n3 : Bool, kflag o n (!(o3 == n3)) n3 = 0 → o = n ∧ (n = true → o3 = n3) := by decide
theorem kf_add : ∀ o n o3 n3 : Bool, kflag o n (!(o3 == n3)) n3 ≠ 0 → n = true → kflag o n (!(o3 == n3)) n3 = (if n3 = true then 16 else 0) + 1 := by decide
theorem kf_del : ∀ o n o3 n3 : Bool, kflag o n (!(o3 == n3)) n3 ≠ 0 → n = false → o = true ∧ kflag o n (!(o3 == n3)) n3 = 2 := by decide
theorem chg_add {w : WA} {g : Kq.Ky → Option Kq.KnA} {a fl : Int} {k : Nat} (hk : k < 2) (ha : w.at a ≠ none) (hf : fl = 17 ∨ fl = 1) :
  ∃ y, Kq.chsK g w [(a, (k : Int) + 1, fl, 0)] = ([], Kq.updK g (a, (k : Int) + 1) (some y)) ∧ y.wire = wireN (w.at a) ∧ y.flags = fl - 1 := by
 have hm : ¬ (Kq.mayK (a, (k : Int) + 1, fl, 0) = false) := by rw [may_k k hk a fl (by omega)]; decide
 have h1 : Kq.hasF (a, (k : Int) + 1, fl, 0) 1 := by
  show bits .and .i64 fl 1 ≠ 0
  rcases hf with rfl | rfl <;> decide
 have hc : Kq.chgK g w (a, (k : Int) + 1, fl, 0) = (0, Kq.updK g (a, (k : Int) + 1) (some (Kq.addK g w (a, (k : Int) + 1, fl, 0)))) := by
  unfold Kq.chgK; rw [if_neg hm, if_neg (fun h => by have h3 : (k : Int) + 1 = 3 := h.1; omega), if_neg (fun h => ha h.2), if_pos h1]
 refine ⟨Kq.addK g w (a, (k : Int) + 1, fl, 0), ?_, ?_, ?_⟩
 ·show (Kq.oneK (Kq.chgK g w _).1 _ ++ [], (Kq.chgK g w _).2) = _
  rw [hc, List.append_nil]; refine Prod.ext ?_ rfl
  show Kq.oneK 0 _ = []
  refine if_pos ⟨rfl, ?_⟩
  show bits .and .i64 fl 64 = 0
  rcases hf with rfl | rfl <;> decide
 ·have : (Kq.addK g w (a, (k : Int) + 1, fl, 0)).wire = Kq.wireK w (a, (k : Int) + 1, fl, 0) := by unfold Kq.addK; split <;> rfl
  rw [this]; exact if_neg (by show ¬ (k : Int) + 1 = 3; omega)
 ·have : (Kq.addK g w (a, (k : Int) + 1, fl, 0)).flags = bits .and .i64 fl 56 := by unfold Kq.addK; split <;> rfl
  rw [this]
  rcases hf with rfl | rfl <;> decide
theorem chg_del {w : WA} {g : Kq.Ky → Option Kq.KnA} {a : Int} {k : Nat} (hk : k < 2) (ha : w.at a ≠ none) {y : Kq.KnA} (hy : g (a, (k : Int) + 1) = some y) (hw : y.wire = wireN (w.at a)) :
  Kq.chsK g w [(a, (k : Int) + 1, 2, 0)] = ([], Kq.updK g (a, (k : Int) + 1) none) := by
 have hm : ¬ (Kq.mayK (a, (k : Int) + 1, 2, 0) = false) := by rw [may_k k hk a 2 (by omega)]; decide
 have h1 : ¬ Kq.hasF (a, (k : Int) + 1, 2, 0) 1 := by
  show ¬ bits .and .i64 2 1 ≠ 0
  decide
 have h2 : Kq.hasF (a, (k : Int) + 1, 2, 0) 2 := by
  show bits .and .i64 2 2 ≠ 0
  decide
 have hi : Kq.isK g w (a, (k : Int) + 1) = true := by
  unfold Kq.isK; rw [hy]; dsimp only; rw [if_neg (by omega), decide_eq_true_eq]; refine ⟨?_, hw.symm⟩
  cases h : w.at a with
  | none => exact absurd h ha
  | some _ => rfl
 have hc : Kq.chgK g w (a, (k : Int) + 1, 2, 0) = (0, Kq.updK g (a, (k : Int) + 1) none) := by
  unfold Kq.chgK; rw [if_neg hm, if_neg (fun h => by have h3 : (k : Int) + 1 = 3 := h.1; omega), if_neg (fun h => ha h.2), if_neg h1, if_neg (by rw [hi]; decide), if_pos h2]
 show (Kq.oneK (Kq.chgK g w _).1 _ ++ [], (Kq.chgK g w _).2) = _
 rw [hc, List.append_nil]; refine Prod.ext ?_ rfl; exact if_pos ⟨rfl, show bits .and .i64 2 64 = 0 by decide⟩
theorem side_step {w : WA} {g : Kq.Ky → Option Kq.KnA} {a o n : Int} {k : Nat} (hk : k < 2) (ha : w.at a ≠ none) (h : SdI w g a k o) :
  ∃ g', Kq.chsK g w (kside a o n k) = ([], g') ∧ SdI w g' a k n ∧ ∀ b, b ≠ (a, (k : Int) + 1) → g' b = g b := by
 unfold kside
 obtain ⟨h0, h1⟩ := h
 by_cases hz : kfl o n k = 0
 ·rw [if_pos hz]
  refine ⟨g, rfl, ?_, fun _ _ => rfl⟩
  obtain ⟨e1, e2⟩ := kf_t _ _ _ _ hz
  refine ⟨fun e => h0 (e1.trans e), fun e => ?_⟩
  obtain ⟨y, hy, hyw, hyf⟩ := h1 (e1.trans e)
  exact ⟨y, hy, hyw, by rw [hyf]; unfold flI; rw [e2 e]⟩
 ·rw [if_neg hz]
  cases hn : hasB n (sideOf k) with
  | true =>
   have hfl : kfl o n k = flI n + 1 := kf_add _ _ _ _ hz hn
   rw [hfl]
   obtain ⟨y, hc, hyw, hyf⟩ := chg_add (g := g) (fl := flI n + 1) hk ha (by unfold flI; split <;> simp)
   exact ⟨_, hc, ⟨fun e => (by rw [hn] at e; cases e), fun _ => ⟨y, Kq.updK_eq _ _ _, hyw, by rw [hyf]; omega⟩⟩, fun b hb => Kq.updK_ne hb⟩
  | false =>
   obtain ⟨ho, hfl⟩ := kf_del _ _ _ _ hz hn
   have hfl2 : kfl o n k = 2 := hfl
   rw [hfl2]
   obtain ⟨y, hy, hyw, _⟩ := h1 ho
   exact ⟨_, chg_del hk ha hy hyw, ⟨fun _ => Kq.updK_eq _ _ _, fun e => (by rw [hn] at e; cases e)⟩, fun b hb => Kq.updK_ne hb⟩
structure KI (w : WA) (H : Int → Int) (f : Int → Option Ep.IxA) (g : Kq.Ky → Option Kq.KnA) : Prop where
 mb : ∀ a, okN (H a)
 op : ∀ a, H a ≠ 0 → w.at a ≠ none
 e0 : ∀ a, H a = 0 → f a = none
 e1 : ∀ a, H a ≠ 0 → ∃ x, f a = some x ∧ x.wire = wireN (w.at a) ∧ x.events = evI (H a)
 sd : ∀ a k, k < 2 → SdI w g a k (H a)
 nk : ∀ a t, t ≠ 1 → t ≠ 2 → g (a, t) = none
def updH (H : Int → Int) (a n : Int) : Int → Int := fun b => if b = a then n else H b
theorem updH_eq (H : Int → Int) (a n : Int) : updH H a n a = n := if_pos rfl
theorem updH_ne {H : Int → Int} {a b n : Int} (h : b ≠ a) : updH H a n b = H b := if_neg h
theorem upf_eq (f : Int → Option Ep.IxA) (a : Int) (o : Option Ep.IxA) : Ep.updF f a o a = o := if_pos rfl
theorem upf_ne {f : Int → Option Ep.IxA} {a b : Int} {o : Option Ep.IxA} (h : b ≠ a) : Ep.updF f a o b = f b := if_neg h
theorem ki_0 (w : WA) : KI w (fun _ => 0) Ep.f0 Kq.k0 where
 mb _ := okN_0
 op _ h := absurd rfl h
 e0 _ _ := rfl
 e1 _ h := absurd rfl h
 sd a k _ := ⟨fun _ => rfl, fun e => by rw [hasB_0] at e; cases e⟩
 nk _ _ _ _ := rfl
theorem KI.step {w : WA} {H : Int → Int} {f : Int → Option Ep.IxA} {g : Kq.Ky → Option Kq.KnA} (h : KI w H f g) {a n : Int} (hn : okN n) (hne : H a ≠ n) (hop : n ≠ 0 → w.at a ≠ none) :
  ∃ f' g', Ep.ctlR 200 f w (opOf (H a) n) a (evI n) = (0, f') ∧ Kq.chsK g w (kqs a (H a) n 2) = ([], g') ∧ KI w (updH H a n) f' g' := by
 have ha : w.at a ≠ none := by
  by_cases h0 : n = 0
  ·exact h.op a (by omega)
  ·exact hop h0
 have hbits : bits .andNot .i64 (evI n) 37 = 0 := evs_ok _ _ _
 have hepl : ∃ f', Ep.ctlR 200 f w (opOf (H a) n) a (evI n) = (0, f') ∧ (∀ b, b ≠ a → f' b = f b) ∧ (n = 0 → f' a = none) ∧ (n ≠ 0 → ∃ x, f' a = some x ∧ x.wire = wireN (w.at a) ∧ x.events = evI n) := by
  unfold Ep.ctlR
  have hop3 : opOf (H a) n = if H a = 0 then 1 else if n = 0 then 3 else 2 := rfl
  have hb : ¬ ((opOf (H a) n < 1 ∨ 3 < opOf (H a) n) ∨ (opOf (H a) n ≠ 3 ∧ bits .andNot .i64 (evI n) 37 ≠ 0)) := by
   rw [hbits, hop3]; rintro (e | e)
   ·split at e
    ·omega
    ·split at e <;> omega
   ·exact e.2 rfl
  rw [if_neg hb, if_neg ha]
  by_cases h0 : H a = 0
  ·have hq : Ep.qE f w a = false := by unfold Ep.qE Ep.findE; rw [h.e0 a h0]; rfl
   rw [hop3, if_pos h0, if_neg (fun e => by rw [hq] at e; exact absurd e.2 (by decide)), if_neg (fun e => by have := Ep.allL_len f w; have := e.2; omega), if_pos rfl]; exact ⟨_, rfl, fun b hb => upf_ne hb, fun e => absurd (h0.trans e.symm) hne, fun _ => ⟨_, upf_eq _ _ _, rfl, rfl⟩⟩
  ·obtain ⟨x, hx, hxw, _⟩ := h.e1 a h0
   have hq : Ep.qE f w a = true := by
    unfold Ep.qE Ep.findE; rw [hx]; dsimp only; rw [if_pos ⟨by cases hh : w.at a with | none => exact absurd hh ha | some _ => rfl, hxw.symm⟩]; rfl
   rw [hop3, if_neg h0]
   by_cases hn0 : n = 0
   ·rw [if_pos hn0, if_neg (by omega), if_neg (by omega), if_neg (by omega), if_neg (by rw [hq]; decide), if_pos rfl]
    exact ⟨_, rfl, fun b hb => upf_ne hb, fun _ => upf_eq _ _ _, fun e => absurd hn0 e⟩
   ·rw [if_neg hn0, if_neg (by omega), if_neg (by omega), if_neg (by omega), if_neg (by rw [hq]; decide), if_neg (by omega)]
    exact ⟨_, rfl, fun b hb => upf_ne hb, fun e => absurd e hn0, fun _ => ⟨_, upf_eq _ _ _, rfl, rfl⟩⟩
 obtain ⟨f', hf, hfo, hf0, hf1⟩ := hepl
 obtain ⟨g1, hg1, hs1, ho1⟩ := side_step (n := n) (k := 0) (by decide) ha (h.sd a 0 (by decide))
 have hsd1 : SdI w g1 a 1 (H a) := by
  have e := ho1 (a, ((1 : Nat) : Int) + 1) (by intro e; have : (1 : Int) + 1 = 0 + 1 := congrArg Prod.snd e; omega)
  unfold SdI; rw [e]; exact h.sd a 1 (by decide)
 obtain ⟨g2, hg2, hs2, ho2⟩ := side_step (n := n) (k := 1) (by decide) ha hsd1
 refine ⟨f', g2, hf, ?_, ⟨fun b => ?_, fun b hb => ?_, fun b hb => ?_, fun b hb => ?_, fun b k hk => ?_, fun b t h1 h2 => ?_⟩⟩
 ·show Kq.chsK g w (([] ++ kside a (H a) n 0) ++ kside a (H a) n 1) = _
  rw [List.nil_append, Kq.chsK_app, hg1]; dsimp only; rw [hg2]; rfl
 ·by_cases e : b = a
  ·subst e; rw [updH_eq]; exact hn
  ·rw [updH_ne e]; exact h.mb b
 ·by_cases e : b = a
  ·subst e; exact ha
  ·rw [updH_ne e] at hb; exact h.op b hb
 ·by_cases e : b = a
  ·subst e; rw [updH_eq] at hb; exact hf0 hb
  ·rw [updH_ne e] at hb; rw [hfo b e]; exact h.e0 b hb
 ·by_cases e : b = a
  ·subst e; rw [updH_eq] at hb ⊢; exact hf1 hb
  ·rw [updH_ne e] at hb ⊢; rw [hfo b e]; exact h.e1 b hb
 ·by_cases e : b = a
  ·subst e
   rw [updH_eq]
   rcases (show k = 0 ∨ k = 1 by omega) with rfl | rfl
   ·have e2 := ho2 (b, ((0 : Nat) : Int) + 1) (by intro e; have : (0 : Int) + 1 = 1 + 1 := congrArg Prod.snd e; omega)
    unfold SdI; rw [e2]; exact hs1
   ·exact hs2
  ·rw [updH_ne e]
   have e2 : ∀ t, g2 (b, t) = g (b, t) := fun t => by
    rw [ho2 _ (fun q => e (congrArg Prod.fst q)), ho1 _ (fun q => e (congrArg Prod.fst q))]
   unfold SdI; rw [e2]; exact h.sd b k hk
 ·rw [ho2 _ (fun q => h2 (by have := congrArg Prod.snd q; exact this)), ho1 _ (fun q => h1 (by have := congrArg Prod.snd q; exact this))]
  exact h.nk b t h1 h2
def foldH (H : Int → Int) (l : List CT) : Int → Int := l.foldl (fun H c => updH H c.1 c.2.2) H
theorem foldH_succ (H : Int → Int) {l : List CT} {j : Nat} {c : CT} (h : l[j]? = some c) : foldH H (l.take (j + 1)) = updH (foldH H (l.take j)) c.1 c.2.2 := by
 unfold foldH; rw [List.take_add_one, h, Option.toList_some, List.foldl_append]; rfl
theorem held_nat (s : LS) {k : Nat} (h : k < 96) : s.held (k : Int) = s.h.getD k 0 := by
 unfold LS.held inB; rw [decide_eq_true (by omega), decide_eq_true (by omega)]; rw [if_pos (by rfl), Int.toNat_natCast]
theorem wants_nat (s : LS) {k : Nat} (h : k < 96) : s.wants (k : Int) = s.w.getD k 0 := by
 unfold LS.wants inB; rw [decide_eq_true (by omega), decide_eq_true (by omega)]; rw [if_pos (by rfl), Int.toNat_natCast]
theorem chs_fold (s : LS) : ∀ k, k ≤ 96 → foldH s.held (s.chs k) = fun a => if 0 ≤ a ∧ a < (k : Int) then s.wants a else s.held a
 | 0, _ => by
  funext a
  show s.held a = _
  rw [if_neg (by omega)]
 | k + 1, hk => by
  have ih := chs_fold s k (by omega)
  show foldH s.held (s.chs k ++ s.chg k) = _
  unfold foldH at ih ⊢; rw [List.foldl_append, ih]; unfold LS.chg
  funext a
  by_cases he : s.h.getD k 0 = s.w.getD k 0
  ·rw [if_pos he]
   show (if 0 ≤ a ∧ a < (k : Int) then s.wants a else s.held a) = _
   by_cases ha : a = (k : Int)
   ·subst ha
    rw [if_neg (by omega), if_pos (by omega), held_nat s (by omega), wants_nat s (by omega), he]
   ·by_cases hb : 0 ≤ a ∧ a < (k : Int)
    ·rw [if_pos hb, if_pos (by omega)]
    ·rw [if_neg hb, if_neg (by omega)]
  ·rw [if_neg he]
   show updH (fun a => if 0 ≤ a ∧ a < (k : Int) then s.wants a else s.held a) (k : Int) (s.w.getD k 0) a = _
   by_cases ha : a = (k : Int)
   ·subst ha
    rw [updH_eq, if_pos (by omega), wants_nat s (by omega)]
   ·rw [updH_ne ha]
    by_cases hb : 0 ≤ a ∧ a < (k : Int)
    ·rw [if_pos hb, if_pos (by omega)]
    ·rw [if_neg hb, if_neg (by omega)]
theorem chs_at (s : LS) : ∀ m, ∀ (j : Nat) (c : CT), (s.chs m)[j]? = some c → ∃ k, k < m ∧ (s.chs m).take j = s.chs k ∧ c = ((k : Int), s.h.getD k 0, s.w.getD k 0) ∧ s.h.getD k 0 ≠ s.w.getD k 0
 | 0, _, _, h => by cases h
 | m + 1, j, c, h => by
  have h' : (s.chs m ++ s.chg m)[j]? = some c := h
  by_cases hj : j < (s.chs m).length
  ·rw [List.getElem?_append_left hj] at h'
   obtain ⟨k, hk, ht, hc, hne⟩ := chs_at s m j c h'
   refine ⟨k, by omega, ?_, hc, hne⟩
   show (s.chs m ++ s.chg m).take j = _
   rw [List.take_append_of_le_length (by omega)]; exact ht
  ·rw [List.getElem?_append_right (by omega)] at h'
   unfold LS.chg at h'
   split at h'
   ·cases h'
   ·rename_i hne
    obtain ⟨hjl, hc⟩ := List.getElem?_eq_some_iff.1 h'
    simp only [List.length_singleton] at hjl; refine ⟨m, by omega, ?_, ?_, hne⟩
    ·show (s.chs m ++ s.chg m).take j = _
     rw [show j = (s.chs m).length by omega, List.take_left]
    ·rw [← hc]; simp
structure WnI (w : WA) (s : LS) : Prop where
 mb : ∀ a, okN (s.wants a)
 op : ∀ a, s.wants a ≠ 0 → w.at a ≠ none
theorem zero_w (a : Int) : LS.zero.wants a = 0 := by
 unfold LS.wants LS.zero
 split
 ·rw [List.getD_eq_getElem?_getD, List.getElem?_replicate]; split <;> rfl
 ·rfl
theorem zero_h : LS.zero.held = fun _ => 0 := by
 funext a
 exact zero_w a
theorem wnI_0 (w : WA) : WnI w LS.zero := ⟨fun a => by rw [zero_w]; exact okN_0, fun a h => absurd (zero_w a) h⟩
theorem WnI.want {w : WA} {s : LS} (h : WnI w s) {fd x : Int} (hx : InK .i64 x) (hf : w.at fd ≠ none) : WnI w (s.want fd x) ∧ (s.want fd x).held = s.held := by
 have hh : (s.want fd x).held = s.held := by funext n; unfold LS.want; split <;> rfl
 unfold LS.want at *
 by_cases hc : (inB fd && mayB x) = true
 ·rw [if_pos hc] at hh ⊢
  rw [Bool.and_eq_true] at hc
  have hw : ∀ a, (s.setw fd.toNat x).wants a = if a = fd then x else s.wants a := fun a => by
   have hb := inB_lt hc.1
   unfold LS.wants
   by_cases hi : inB a = true
   ·have ha := inB_lt hi
    rw [if_pos hi, if_pos hi]
    show (s.w.set fd.toNat x).getD a.toNat 0 = _
    rw [getD_set _ _ _ _ (by rw [s.hw]; exact hb.1)]
    by_cases e : a = fd
    ·subst e; rw [if_pos rfl, if_pos rfl]
    ·rw [if_neg (by omega), if_neg e]
   ·rw [if_neg hi, if_neg hi, if_neg (fun e => hi (by rw [e]; exact hc.1))]
  refine ⟨⟨fun a => ?_, fun a ha => ?_⟩, hh⟩
  ·rw [hw]; split
   ·exact okN_may hx hc.2
   ·exact h.mb a
  ·rw [hw] at ha
   split at ha
   ·rename_i e; rw [e]; exact hf
   ·exact h.op a ha
 ·rw [if_neg hc] at hh ⊢
  exact ⟨h, hh⟩
theorem fold_all (s : LS) : foldH s.held (s.chs 96) = s.wants := by
 rw [chs_fold s 96 (Nat.le_refl _)]
 funext a
 by_cases h : 0 ≤ a ∧ a < ((96 : Nat) : Int)
 ·rw [if_pos h]
 ·rw [if_neg h]
  unfold LS.held LS.wants inB
  have : ¬ (decide (0 ≤ a) && decide (a ≤ 95)) = true := by simp; omega
  rw [if_neg this, if_neg this]
theorem KI.one {w : WA} {s : LS} (hW : WnI w s) {f : Int → Option Ep.IxA} {g : Kq.Ky → Option Kq.KnA} {j : Nat} {c : CT} (hc : (s.chs 96)[j]? = some c) (h : KI w (foldH s.held ((s.chs 96).take j)) f g) :
  ∃ f' g', Ep.ctlR 200 f w (opOf c.2.1 c.2.2) c.1 (evI c.2.2) = (0, f') ∧ Kq.chsK g w (kqs c.1 c.2.1 c.2.2 2) = ([], g') ∧ KI w (foldH s.held ((s.chs 96).take (j + 1))) f' g' := by
 obtain ⟨k, hk, ht, hcc, hne⟩ := chs_at s 96 j c hc
 rw [foldH_succ _ hc]
 have ho : foldH s.held ((s.chs 96).take j) c.1 = c.2.1 := by
  rw [ht, chs_fold s k (by omega), hcc]; dsimp only; rw [if_neg (by omega), held_nat s hk]
 have hwn : c.2.2 = s.wants c.1 := by rw [hcc]; exact (wants_nat s hk).symm
 have := h.step (a := c.1) (n := c.2.2) (by rw [hwn]; exact hW.mb _) (by rw [ho, hcc]; exact hne) (fun e => by rw [hwn] at e; exact hW.op _ e)
 rw [ho] at this; exact this
theorem KI.q {w : WA} {H : Int → Int} {f : Int → Option Ep.IxA} {g : Kq.Ky → Option Kq.KnA} (h : KI w H f g) (a : Int) : Ep.qE f w a = true ↔ H a ≠ 0 := by
 unfold Ep.qE Ep.findE
 by_cases h0 : H a = 0
 ·rw [h.e0 a h0]
  exact ⟨fun e => (by cases e), fun e => absurd h0 e⟩
 ·obtain ⟨x, hx, hxw, _⟩ := h.e1 a h0
  rw [hx]; dsimp only; rw [if_pos ⟨by cases hh : w.at a with | none => exact absurd hh (h.op a h0) | some _ => rfl, hxw.symm⟩]; exact ⟨fun _ => h0, fun _ => rfl⟩
theorem KI.ok {w : WA} {H : Int → Int} {f : Int → Option Ep.IxA} {g : Kq.Ky → Option Kq.KnA} (h : KI w H f g) : Kq.OkK g := by
 have ht : ∀ (a : Kq.Ky) x, g a = some x → a.2 = 1 ∨ a.2 = 2 := fun a x hx => by
  by_cases h1 : a.2 = 1
  ·exact .inl h1
  ·by_cases h2 : a.2 = 2
   ·exact .inr h2
   ·have := h.nk a.1 a.2 h1 h2
    rw [show (a.1, a.2) = a from rfl, hx] at this; cases this
 exact ⟨fun a x hx => by have := ht a x hx; omega, fun a x hx h3 => by have := ht a x hx; omega⟩
def sd2 (t : Int) : Int := if t = 2 then 4 else 2
theorem KI.isk {w : WA} {H : Int → Int} {f : Int → Option Ep.IxA} {g : Kq.Ky → Option Kq.KnA} (h : KI w H f g) (a t : Int) : Kq.isK g w (a, t) = true ↔ (t = 1 ∨ t = 2) ∧ hasB (H a) (sd2 t) = true := by
 have key : ∀ k : Nat, k < 2 → (Kq.isK g w (a, (k : Int) + 1) = true ↔ hasB (H a) (sideOf k) = true) := fun k hk => by
  obtain ⟨h0, h1⟩ := h.sd a k hk
  cases hb : hasB (H a) (sideOf k) with
  | false =>
   unfold Kq.isK; rw [h0 hb]
  | true =>
   obtain ⟨y, hy, hyw, _⟩ := h1 hb
   have hne : H a ≠ 0 := fun e => by rw [e, hasB_0] at hb; cases hb
   have ha := h.op a hne
   unfold Kq.isK; rw [hy]; dsimp only; rw [if_neg (by omega), decide_eq_true_eq]; exact ⟨fun _ => rfl, fun _ => ⟨by cases hh : w.at a with | none => exact absurd hh ha | some _ => rfl, hyw.symm⟩⟩
 by_cases h1 : t = 1
 ·subst h1
  have := key 0 (by decide)
  exact this.trans ⟨fun e => ⟨.inl rfl, e⟩, fun e => e.2⟩
 by_cases h2 : t = 2
 ·subst h2
  have := key 1 (by decide)
  exact this.trans ⟨fun e => ⟨.inr rfl, e⟩, fun e => e.2⟩
 ·unfold Kq.isK
  rw [h.nk a t h1 h2]; exact ⟨fun e => (by cases e), fun e => by omega⟩
theorem KI.int {w : WA} (hw : WOk w) {H : Int → Int} {f : Int → Option Ep.IxA} {g : Kq.Ky → Option Kq.KnA} (h : KI w H f g) :
  (∀ y ∈ Ep.intE f (Ep.allL f w), y.2 = evI (H y.1) ∧ y.2 ≠ 0) ∧ ((Ep.intE f (Ep.allL f w)).map Prod.fst).Nodup ∧ ∀ a, a ∈ (Ep.intE f (Ep.allL f w)).map Prod.fst ↔ H a ≠ 0 := by
 have hm : (Ep.intE f (Ep.allL f w)).map Prod.fst = Ep.allL f w := by
  unfold Ep.intE; rw [List.map_map]; exact List.map_id _
 refine ⟨fun y hy => ?_, ?_, fun a => ?_⟩
 ·obtain ⟨a, ha, rfl⟩ := List.mem_map.1 hy
  have h0 := (h.q a).1 ((Ep.mem_allL hw).1 ha)
  obtain ⟨x, hx, _, hxe⟩ := h.e1 a h0
  have e : Ep.evE f a = evI (H a) := by unfold Ep.evE; rw [hx]; exact hxe
  exact ⟨e, by show Ep.evE f a ≠ 0; rw [e]; exact okN_ev (h.mb a) h0⟩
 ·rw [hm]
  unfold Ep.allL; exact List.Pairwise.map (R := fun a b => a ≠ b) _ (fun a b h e => h (Int.ofNat.inj e)) (List.nodup_range.filter _)
 ·rw [hm, Ep.mem_allL hw, h.q a]
theorem KI.notes {w : WA} (hw : WOk w) {H : Int → Int} {f : Int → Option Ep.IxA} {g : Kq.Ky → Option Kq.KnA} (h : KI w H f g) :
  ∀ y ∈ (Kq.allK g w).map (Kq.noK g), (y.2.1 = 1 ∨ y.2.1 = 2) ∧ hasB (H y.1) (sd2 y.2.1) = true ∧ y.2.2.1 = flI (H y.1) := fun y hy => by
 obtain ⟨a, ha, rfl⟩ := List.mem_map.1 hy
 have h1 := (h.isk a.1 a.2).1 ((Kq.mem_allK hw h.ok).1 ha)
 refine ⟨h1.1, h1.2, ?_⟩
 show ((g a).getD Kq.zKn).flags = flI (H a.1)
 rcases h1.1 with e | e
 ·obtain ⟨x, hx, _, hf⟩ := (h.sd a.1 0 (by decide)).2 (by have := h1.2; rw [e] at this; exact this)
  have ea : a = (a.1, ((0 : Nat) : Int) + 1) := Prod.ext rfl e
  rw [ea, hx]; exact hf
 ·obtain ⟨x, hx, _, hf⟩ := (h.sd a.1 1 (by decide)).2 (by have := h1.2; rw [e] at this; exact this)
  have ea : a = (a.1, ((1 : Nat) : Int) + 1) := Prod.ext rfl e
  rw [ea, hx]; exact hf
def sumS (l : List Kq.NoA) (a : Int) : Int := ((l.filter fun y => decide (y.1 = a)).map fun y => sd2 y.2.1).sum
theorem sumS_nil (a : Int) : sumS [] a = 0 := rfl
theorem sumS_app (l : List Kq.NoA) (y : Kq.NoA) (a : Int) : sumS (l ++ [y]) a = sumS l a + if y.1 = a then sd2 y.2.1 else 0 := by
 unfold sumS; rw [List.filter_append, List.map_append, List.sum_append]
 congr 1
 by_cases h : y.1 = a
 ·rw [if_pos h, List.filter_cons, if_pos (decide_eq_true h)]
  simp
 ·rw [if_neg h, List.filter_cons, if_neg (by simpa using h)]
  simp
theorem sd2_b (t : Int) : 2 ≤ sd2 t ∧ sd2 t ≤ 4 := by unfold sd2; split <;> omega
theorem sumS_b (a : Int) : ∀ l : List Kq.NoA, 0 ≤ sumS l a ∧ sumS l a ≤ 4 * (l.length : Int)
 | [] => ⟨Int.le_refl _, Int.le_refl _⟩
 | y :: t => by
  have ih := sumS_b a t
  have e : sumS (y :: t) a = (if y.1 = a then sd2 y.2.1 else 0) + sumS t a := by
   unfold sumS; rw [List.filter_cons]
   by_cases h : y.1 = a
   ·rw [if_pos (decide_eq_true h), if_pos h]; rfl
   ·rw [if_neg (by simpa using h), if_neg h, Int.zero_add]
  rw [e, List.length_cons]
  have := sd2_b y.2.1
  split <;> omega
theorem grid_at : ∀ n : Nat, n < 96 → Kq.gridK.filter (fun b => decide (b.1 = (n : Int))) = [((n : Int), 1), ((n : Int), 2), ((n : Int), 3)] := by decide +kernel
theorem KI.sum {w : WA} {H : Int → Int} {f : Int → Option Ep.IxA} {g : Kq.Ky → Option Kq.KnA} (h : KI w H f g) {n : Nat} (hn : n < 96) : sumS ((Kq.allK g w).map (Kq.noK g)) (n : Int) = bits .and .i64 (H (n : Int)) 6 := by
 rw [okN_6 (h.mb _)]
 have e : ((Kq.allK g w).map (Kq.noK g)).filter (fun y => decide (y.1 = (n : Int))) = (([((n : Int), 1), ((n : Int), 2), ((n : Int), 3)] : List Kq.Ky).filter (Kq.isK g w)).map (Kq.noK g) := by
  rw [List.filter_map]
  congr 1
  unfold Kq.allK; rw [← grid_at n hn, List.filter_filter, List.filter_filter]; refine List.filter_congr fun a _ => ?_
  rw [Bool.and_comm]; rfl
 unfold sumS; rw [e, List.map_map]
 have i1 := h.isk (n : Int) 1
 have i2 := h.isk (n : Int) 2
 have i3 := h.isk (n : Int) 3
 have e1 : Kq.isK g w ((n : Int), 1) = hasB (H (n : Int)) 2 := by
  cases hb : hasB (H (n : Int)) 2 with
  | true => exact i1.2 ⟨.inl rfl, hb⟩
  | false =>
   cases hk : Kq.isK g w ((n : Int), 1) with
   | false => rfl
   | true => have := (i1.1 hk).2; rw [show sd2 1 = 2 from rfl, hb] at this; cases this
 have e2 : Kq.isK g w ((n : Int), 2) = hasB (H (n : Int)) 4 := by
  cases hb : hasB (H (n : Int)) 4 with
  | true => exact i2.2 ⟨.inr rfl, hb⟩
  | false =>
   cases hk : Kq.isK g w ((n : Int), 2) with
   | false => rfl
   | true => have := (i2.1 hk).2; rw [show sd2 2 = 4 from rfl, hb] at this; cases this
 have e3 : Kq.isK g w ((n : Int), 3) = false := by
  cases hk : Kq.isK g w ((n : Int), 3) with
  | false => rfl
  | true => have := (i3.1 hk).1; omega
 rw [List.filter_cons, List.filter_cons, List.filter_cons, e1, e2, e3]
 cases hasB (H (n : Int)) 2 <;> cases hasB (H (n : Int)) 4 <;> rfl
def met4 (D : List (Int × Int)) (i : Nat) : Int → Option Value := fun a => if a ∈ (D.take i).map Prod.fst then some (.int .i64 1) else none
theorem met4_no {D : List (Int × Int)} (hn : (D.map Prod.fst).Nodup) {i : Nat} {y : Int × Int} (hy : D[i]? = some y) : met4 D i y.1 = none := by
 refine if_neg fun hm => ?_
 rw [List.map_take] at hm
 obtain ⟨j, hj⟩ := List.getElem?_of_mem hm
 rw [List.getElem?_take] at hj
 split at hj
 ·rename_i hij
  have h2 : (D.map Prod.fst)[i]? = some y.1 := by rw [List.getElem?_map, hy]; rfl
  obtain ⟨a1, b1⟩ := List.getElem?_eq_some_iff.1 hj
  obtain ⟨a2, b2⟩ := List.getElem?_eq_some_iff.1 h2
  have := (List.getElem_inj hn).1 (b1.trans b2.symm)
  omega
 ·cases hj
theorem met4_succ {D : List (Int × Int)} {i : Nat} {y : Int × Int} (hy : D[i]? = some y) : (fun c => if c = y.1 then some (Value.int .i64 1) else met4 D i c) = met4 D (i + 1) := by
 funext c
 unfold met4; rw [List.take_add_one, hy, Option.toList_some, List.map_append]
 by_cases h : c = y.1
 ·rw [if_pos h, if_pos (by rw [h]; simp)]
 ·rw [if_neg h]
  by_cases h2 : c ∈ (D.take i).map Prod.fst
  ·rw [if_pos h2, if_pos (List.mem_append.2 (.inl h2))]
  ·rw [if_neg h2, if_neg]
   intro hc
   rcases List.mem_append.1 hc with e | e
   ·exact h2 e
   ·exact h (by simpa using e)
def met5 (D : List (Int × Int)) (N : List Kq.NoA) (j : Nat) : Int → Option Value := fun a => if a ∈ D.map Prod.fst then some (.int .i64 (1 + 100 * sumS (N.take j) a)) else none
theorem met5_0 (D : List (Int × Int)) (N : List Kq.NoA) : met4 D D.length = met5 D N 0 := by
 funext a
 unfold met4 met5; rw [List.take_of_length_le (Nat.le_refl _), List.take_zero, sumS_nil]; rfl
theorem met5_succ {D : List (Int × Int)} {N : List Kq.NoA} {j : Nat} {y : Kq.NoA} (hy : N[j]? = some y) (hm : y.1 ∈ D.map Prod.fst) : (fun c => if c = y.1 then some (Value.int .i64 (1 + 100 * sumS (N.take j) y.1 + sd2 y.2.1 * 100)) else met5 D N j c) = met5 D N (j + 1) := by
 funext c
 unfold met5
 have e : N.take (j + 1) = N.take j ++ [y] := by rw [List.take_add_one, hy]; rfl
 rw [e, sumS_app]
 by_cases h : c = y.1
 ·subst h
  rw [if_pos rfl, if_pos hm, if_pos rfl]; refine congrArg some (congrArg (Value.int .i64) ?_); omega
 ·have e2 : (if y.1 = c then sd2 y.2.1 else 0) = 0 := if_neg fun q => h q.symm
  rw [if_neg h, e2, Int.add_zero]
theorem op_at {w : WA} {fd : Int} (h : (readyR w fd).op = true) : w.at fd ≠ none := by
 intro e; unfold readyR at h; rw [e] at h
 cases h
theorem met4_0 (D : List (Int × Int)) : met4 D 0 = fun _ => none := by
 funext a
 exact if_neg (by simp)
abbrev encO3 (o : CT) : List Value := [.int .i64 o.1, .int .i64 o.2.1, .int .i64 o.2.2]
def gotN (n : Int) : Int := if n = 0 then 0 else 1 + 100 * bits .and .i64 n 6
theorem got_at {w : WA} (hw : WOk w) {H : Int → Int} {f : Int → Option Ep.IxA} {g : Kq.Ky → Option Kq.KnA} (h : KI w H f g) {k : Nat} (hk : k < 96) :
  (met5 (Ep.intE f (Ep.allL f w)) ((Kq.allK g w).map (Kq.noK g)) ((Kq.allK g w).map (Kq.noK g)).length (k : Int)).getD (.int .i64 0) = .int .i64 (gotN (H (k : Int))) := by
 unfold met5 gotN; rw [List.take_of_length_le (Nat.le_refl _)]
 have hm := (h.int hw).2.2 (k : Int)
 by_cases h0 : H (k : Int) = 0
 ·rw [if_pos h0, if_neg (fun e => hm.1 e h0)]; rfl
 ·rw [if_neg h0, if_pos (hm.2 h0), h.sum hk]; rfl
theorem and6_b {x : Int} (h : okN x) : 0 ≤ bits .and .i64 x 6 ∧ bits .and .i64 x 6 ≤ 6 := by
 rw [okN_6 h]
 split <;> split <;> omega
abbrev KnB (cb eb mb qb mb2 wb rb pb : Nat) (s : LS) (f : Int → Option Ep.IxA) (m : Nat) (g : Kq.Ky → Option Kq.KnA) (m2 : Nat) (w : WA) (L : List SP) : List SP :=
 CLs cb s true :: Ep.EpH eb wb mb 200 :: mp mb .i64 (Ep.fmap f) m :: Kq.KqH qb wb mb2 :: mpP mb2 .i64 (Kq.kmap g) m2 :: WorldP wb w :: Rf.RwP rb w :: BoP pb wb rb :: L
theorem kernels_ct (L : List SP) (a1 : Option Addr) (c1 : Nat) (fs : List Ov) (hF : RdS L 5 a1 fs.length (fs.flatMap encO)) (hFo : ∀ o ∈ fs, OvOk L o) (a2 : Option Addr) (c2 : Nat) (xs : List CT) (hX : RdS L 3 a2 xs.length (xs.flatMap encO3)) (hXo : ∀ p ∈ xs, InK .i64 p.2.2) : Ct Tryz.prog 12 #[.slice a1 fs.length c1, .slice a2 xs.length c2] (L) (fun _ : Unit => .bool true) (fun _ : Unit => L) := by
 refine Ct.o2 Tryz.func12 ?_; intro E
 show Hd E 295 _ _ _ _
 refine sr fun _ K1 => ?_
 refine yv y_as <| fk [(0,_),(1,_)] K1 ?_; refine sr fun _ K2 => ?_
 refine callE rfl fk41 (alive_ct _) sq ?_; intro _; refine yv y_as <| fk [(0,_),(1,_),(5,_)] K2 ?_; refine Hd.seq fun _ K3 => ?_
 refine sr fun _ K4 => ?_
 refine yv y_mv <| callE rfl fk14 (great11_ct _ a1 c1 fs ?hD) sq ?_
 case hD => exact RdS.mono hF sq
 intro _; refine yv (y_gtr rfl rfl) ?_; refine yv y_mv ?_; apply Hd.org 4 39 43 [(0,_),(1,_),(5,_)] rfl sbq
 ·intro hg2_39
  try simp only [hyZ] at hg2_39
  simp only [List.take]; refine n1 <| n1 <| n1 <| yv (y_pickT rfl rfl) ?_; exact Hd.mn
 ·intro hg2_39
  try simp only [hyZ] at hg2_39
  simp only [List.take]; refine y2 y_mv <| y2 (y_len Tryz.underlying22 rfl) ?_; refine y2 (y_gtr rfl rfl) ?_; refine yv (y_pickF rfl rfl) ?_; exact Hd.mn
 simp only [List.drop]; refine yv y_mv ?_; apply Hd.org 4 44 48 [(0,_),(1,_),(5,_)] rfl sbq
 ·intro hg2_44
  try simp only [hyZ] at hg2_44
  simp only [List.take]; refine n1 <| n1 <| n1 <| yv (y_pickT rfl rfl) ?_; exact Hd.mn
 ·intro hg2_44
  try simp only [hyZ] at hg2_44
  simp only [List.take]; refine y2 y_mv <| y2 (y_len Tryz.underlying101 rfl) ?_; refine y2 (y_gtr rfl rfl) ?_; refine yv (y_pickF rfl rfl) ?_; exact Hd.mn
 simp only [List.drop]; refine yv y_mv ?_; apply Hd.org 3 49 52 [(0,_),(1,_),(5,_)] rfl sbq
 ·intro hg2_49
  try simp only [hyZ] at hg2_49
  simp only [List.take]; refine n1 <| n1 <| yv (y_pickT rfl rfl) ?_; exact Hd.mn
 ·intro hg2_49
  try simp only [hyZ] at hg2_49
  simp only [List.take]; refine y2 y_mv <| y2 (y_not rfl) <| yv (y_pickF rfl rfl) ?_; exact Hd.mn
 simp only [List.drop]; refine fk [(0,_),(1,_),(5,_),(52,_)] K4 ?_; refine qz ?_ ?_ <;> intro hc0 <;> try simp only [hyZ] at hc0
 ·refine sr fun _ K5 => ?_
  refine yv y_mv <| yv y_as <| fk [(4,_)] K5 ?_; refine Hd.ret <| Hd.thenRet ?_; exact Hd.ret1 rfl () rfl sq
 have hb1 : ¬ 0 < gO fs ∧ fs.length ≤ 60 ∧ xs.length ≤ 100 := by simp at hc0; omega
 have hgo := gO_ok hb1.1
 refine qv K3 <| sr fun _ K6 => ?_
 refine callE rfl fk16 (fresh_ct _) sq ?_; rintro ⟨pb, wb, rb⟩; dsimp only; refine yv y_as <| fk [(0,_),(1,_),(5,_),(6,_)] K6 ?_; refine Hd.seq fun _ K7 => ?_
 refine sr fun _ K8 => ?_
 refine yv y_mv <| yv (y_len Tryz.underlying22 rfl) ?_; refine yv y_mv <| fk [(0,_),(1,_),(5,_),(6,_),(56,_),(57,_)] K8 ?_; refine Hd.block <| Hd.loopK (ι := Nat) [(0,_),(1,_),(5,_),(6,_),(56,_)] (fun i => [(57, .int .i64 (i : Int))]) (fun i => pu (i ≤ fs.length ∧ Lo (100 * i) (runA newA (fs.take i))) :: BoP pb wb rb :: WorldP wb (runA newA (fs.take i)) :: Rf.RwP rb (runA newA (fs.take i)) :: L) (fun i => fs.length - i) 0 sbq sbq (Ent.sep (.pure ⟨Nat.zero_le _, newA_lo⟩ enn)) ?_; intro i
 try dsimp only
 refine Hd.pure (fun hp0 => ?_)
 try dsimp only at hp0
 refine sr fun _ K9 => ?_
 refine yv (y_lss rfl rfl) ?_; refine fk [(0,_),(1,_),(5,_),(6,_),(56,_),(57,_),(58,_)] K9 ?_; refine Hd.seq fun _ K10 => ?_
 refine qz ?_ ?_ <;> intro hc1 <;> try simp only [hyZ] at hc1
 ·have hi : i < fs.length := by omega
  obtain ⟨o, ho⟩ : ∃ o, fs[i]? = some o := ⟨_, List.getElem?_eq_getElem hi⟩
  have hoo := hFo o (List.mem_of_getElem? ho)
  have hod := hgo.2 o (List.mem_of_getElem? ho)
  have hrs : runA newA (fs.take (i + 1)) = doA (runA newA (fs.take i)) o := by rw [List.take_add_one, ho]; exact runA_snoc _ _ _
  refine Hd.wokW (.there .here) (fun hw => ?_)
  have hst := (do_stp hw o (by have := hoo.t; simp only [InK] at this; omega) (100 * i) (by omega) hp0.2).1
  rw [← hrs] at hst; refine qv K10 <| Hd.seq fun _ K11 => ?_
  refine Hd.block <| sr fun _ K12 => ?_
  refine yv y_mv <| yv y_as <| fk [(0,_),(1,_),(5,_),(6,_),(7,_),(56,_),(57,_)] K12 ?_; refine sr fun _ K13 => ?_
  refine yv y_mv <| yv y_mv <| yv y_mv <| yv (y_idxR Tryz.underlying22 sz33 rfl rfl hi (RdS.mono hF sq)) ?_; refine yv (y_loadRn (vs := encO o) ag33 rfl (RdS.mono hF sq) (flat_cells encO 5 (fun _ => rfl) ho) sz33 (by simp)) ?_; refine callE rfl fk17 (do_ct _ pb wb rb _ (100 * i) (by omega) hp0.2 o hoo.t hod ?hD hoo.c) sq ?_
  case hD => exact RdS.mono hoo.rd sq
  intro _; rw [← hrs]; refine yv (y_not rfl) <| fk [(0,_),(1,_),(5,_),(6,_),(56,_),(57,_),(66,_)] K13 ?_; refine Hd.condF rfl ?_; refine Hd.skip <| Hd.inB <| Hd.toK K11 ?_; refine Hd.region <| yv (y_addn rfl rfl (by simp only [InK]; omega)) ?_; refine yv y_mv <| Hd.nil <| slots [(0,_),(1,_),(5,_),(6,_),(56,_),(57,_)] sbq ?_; refine thenN ?_; exact Hd.again (i + 1) (by omega) sbq (Ent.sep (.pure ⟨hi, hst⟩ enn))
 obtain rfl : i = fs.length := by omega
 rw [List.take_of_length_le (Nat.le_refl _)] at hp0 ⊢
 obtain ⟨w, hrw⟩ : ∃ w, runA newA fs = w := ⟨_, rfl⟩
 rw [hrw] at hp0 ⊢; refine Hd.wokW (.there .here) (fun hw => ?_); refine Hd.exit <| Hd.thenExit <| Hd.thenExit <| Hd.inBexit <| Hd.toK K7 ?_; refine sr fun _ K14 => ?_
 refine yv y_mv <| yv y_np <| yv (y_f 0 38 Tryz.underlying41 sz38) <| yv (y_l1 ag38 rfl) <| callE rfl fk18 (Ep.enew_ct _ wb 200 (by decide)) sq ?_; rintro ⟨eb, mb⟩; dsimp only; refine yv y_mv <| yv (y_to (v' := .pointer (some ⟨eb, 0, none⟩)) y_ex (by rfl)) ?_; refine yv (y_to (v' := .int .i64 0) y_ex (by rfl)) ?_; refine yv y_as <| yv y_as <| fk [(1,_),(5,_),(6,_),(8,_),(9,_)] K14 ?_; refine sr fun _ K15 => ?_
 refine yv y_mv <| yv y_np <| yv (y_f 0 38 Tryz.underlying41 sz38) <| yv (y_l1 ag38 rfl) <| callE rfl fk32 (Kq.knew_ct _ wb) sq ?_; rintro ⟨qb, mb2⟩; dsimp only; refine yv y_mv <| yv (y_to (v' := .pointer (some ⟨qb, 0, none⟩)) y_ex (by rfl)) ?_; refine yv (y_to (v' := .int .i64 0) y_ex (by rfl)) ?_; refine yv y_as <| yv y_as <| fk [(1,_),(5,_),(6,_),(8,_),(9,_),(10,_),(11,_)] K15 ?_; refine Hd.seq fun _ K16 => ?_
 refine sr fun _ K17 => ?_
 refine yv y_mv <| yv (y_neq rfl rfl) ?_; refine yv y_mv ?_; apply Hd.org 3 86 89 [(1,_),(5,_),(6,_),(8,_),(10,_)] rfl sbq
 ·intro hg13_86
  try simp only [hyZ] at hg13_86
  simp only [List.take]; refine n1 <| n1 <| yv (y_pickT rfl rfl) ?_; exact Hd.mn
 ·intro hg13_86
  try simp only [hyZ] at hg13_86
  simp only [List.take]; refine y2 y_mv <| y2 (y_neq rfl rfl) ?_; refine yv (y_pickF rfl rfl) ?_; exact Hd.mn
 simp only [List.drop]; refine fk [(1,_),(5,_),(6,_),(8,_),(10,_),(89,_)] K17 ?_; refine qz ?_ ?_ <;> intro hc3 <;> try simp only [hyZ] at hc3
 ·exfalso; simp at hc3
 refine qv K16 <| sr fun _ K18 => ?_
 refine callE rfl fk42 (new_ct _) sq ?_; intro cb; refine yv y_as <| fk [(1,_),(5,_),(6,_),(8,_),(10,_),(12,_)] K18 ?_; refine Hd.seq fun _ K19 => ?_
 refine sr fun _ K20 => ?_
 refine yv y_mv <| yv (y_len Tryz.underlying101 rfl) ?_; refine yv y_mv <| fk [(1,_),(5,_),(6,_),(8,_),(10,_),(12,_),(92,_),(93,_)] K20 ?_; refine Hd.block <| Hd.loopK (ι := Nat × LS × (Int → Option Ep.IxA) × (Kq.Ky → Option Kq.KnA) × Nat × Nat) [(1,_),(5,_),(6,_),(8,_),(10,_),(12,_),(92,_)] (fun q_ => [(93, .int .i64 (q_.1 : Int))]) (fun q_ => pu (q_.1 ≤ xs.length ∧ WnI w q_.2.1 ∧ KI w q_.2.1.held q_.2.2.1 q_.2.2.2.1 ∧ q_.2.2.2.2.1 ≤ 100 * q_.1 ∧ q_.2.2.2.2.2 ≤ 200 * q_.1) :: KnB cb eb mb qb mb2 wb rb pb q_.2.1 q_.2.2.1 q_.2.2.2.2.1 q_.2.2.2.1 q_.2.2.2.2.2 w L) (fun q_ => xs.length - q_.1) (0, LS.zero, Ep.f0, Kq.k0, 0, 0) sbq sbq (Ent.sep (.pure ⟨Nat.zero_le _, wnI_0 w, (show KI w LS.zero.held Ep.f0 Kq.k0 by rw [zero_h]; exact ki_0 w), Nat.le_refl _, Nat.le_refl _⟩ enn)) ?_; rintro ⟨i, s, f, g, m, m2⟩
 try dsimp only
 refine Hd.pure (fun hp1 => ?_)
 try dsimp only at hp1
 refine sr fun _ K21 => ?_
 refine yv (y_lss rfl rfl) ?_; refine fk [(1,_),(5,_),(6,_),(8,_),(10,_),(12,_),(92,_),(93,_),(94,_)] K21 ?_; refine Hd.seq fun _ K22 => ?_
 refine qz ?_ ?_ <;> intro hc4 <;> try simp only [hyZ] at hc4
 ·have hi : i < xs.length := by omega
  obtain ⟨o, ho⟩ : ∃ o, xs[i]? = some o := ⟨_, List.getElem?_eq_getElem hi⟩
  have hok := hXo o (List.mem_of_getElem? ho)
  obtain ⟨_, hW, hK, hm, hm2⟩ := hp1
  refine qv K22 <| Hd.seq fun _ K23 => ?_
  refine Hd.block <| sr fun _ K24 => ?_
  refine yv y_mv <| yv y_as <| fk [(1,_),(5,_),(6,_),(8,_),(10,_),(12,_),(13,_),(92,_),(93,_)] K24 ?_; refine Hd.seq fun _ K25 => ?_
  refine Hd.seq fun _ K26 => ?_
  refine Hd.drawsH ((BoP pb wb rb :: L)) (fun _ => true) mixed ?_; simp only [List.length, Nat.zero_add, Nat.reduceAdd]; refine tH 0 rfl y_mv <| tH 1 rfl y_np <| tH 2 rfl (y_f 0 38 Tryz.underlying41 sz38) <| tH 3 rfl (y_l1 ag38 rfl) <| tH 4 rfl y_mv <| tH 5 rfl y_mv <| tH 6 rfl (y_idxR Tryz.underlying101 sz108 rfl rfl hi (RdS.mono hX sq)) ?_; refine tH 7 rfl (y_fR 1 3 Tryz.underlying108 sz3) ?_; refine tH 8 rfl (y_loadR1 ag3 rfl (RdS.mono hX sq) (flat_cells encO3 3 (fun _ => rfl) ho 1 _ rfl)) ?_; refine qo 9 ?_; refine callE rfl fk43 (wready_ct _ wb w o.2.1) sq ?_; intro _; refine qk <| tH 10 rfl (y_fieldv1 (q := 0) (cs := encR (readyR w o.2.1)) Tryz.underlying105 rfl ag4 rfl rfl) ?_; refine tH 11 rfl (y_not rfl) ?_; refine endH kq ?_; refine sk [(1,_),(5,_),(6,_),(8,_),(10,_),(12,_),(13,_),(92,_),(93,_),(107,_)] K26 ?_; refine qz ?_ ?_ <;> intro hc5 <;> try simp only [hyZ] at hc5
  ·refine Hd.exit ?_
   refine Hd.thenExit <| Hd.inBexit <| Hd.toK K23 ?_; refine Hd.region <| yv (y_addn rfl rfl (by simp only [InK]; omega)) ?_; refine yv y_mv <| Hd.nil <| slots [(1,_),(5,_),(6,_),(8,_),(10,_),(12,_),(92,_),(93,_)] sbq ?_; refine thenN ?_; exact Hd.again (i + 1, s, f, g, m, m2) (by omega) sbq (Ent.sep (.pure ⟨hi, hW, hK, (show m ≤ 100 * (i + 1) by omega), (show m2 ≤ 200 * (i + 1) by omega)⟩ enn))
  have hop : w.at o.2.1 ≠ none := op_at (by simpa using hc5)
  obtain ⟨hW2, hh2⟩ := hW.want hok hop
  refine qv K25 <| Hd.seq fun _ K27 => ?_
  refine Hd.drawsH (L) (fun _ => true) mixed ?_; simp only [List.length, Nat.zero_add, Nat.reduceAdd]; refine tH 0 rfl y_mv <| tH 1 rfl y_mv <| tH 2 rfl y_mv <| tH 3 rfl (y_idxR Tryz.underlying101 sz108 rfl rfl hi hX) ?_; refine tH 4 rfl (y_fR 1 3 Tryz.underlying108 sz3) ?_; refine tH 5 rfl (y_loadR1 ag3 rfl hX (flat_cells encO3 3 (fun _ => rfl) ho 1 _ rfl)) ?_; refine tH 6 rfl y_mv <| tH 7 rfl y_mv <| tH 8 rfl (y_idxR Tryz.underlying101 sz108 rfl rfl hi hX) ?_; refine tH 9 rfl (y_fR 2 3 Tryz.underlying108 sz3) ?_; refine tH 10 rfl (y_loadR1 ag3 rfl hX (flat_cells encO3 3 (fun _ => rfl) ho 2 _ rfl)) ?_; refine qo 11 ?_; refine callE rfl fk44 (want_ct _ cb s o.2.1 o.2.2) sq ?_; intro _; refine qk <| endH kq ?_
  obtain ⟨s2, hs2⟩ : ∃ s2, s.want o.2.1 o.2.2 = s2 := ⟨_, rfl⟩
  rw [hs2] at hW2 hh2; rw [hs2]
  have hKw : KI w s2.held f g := by rw [hh2]; exact hK
  refine sk [(1,_),(5,_),(6,_),(8,_),(10,_),(12,_),(13,_),(92,_),(93,_)] K27 ?_; refine Hd.seq fun _ K28 => ?_
  refine sr fun _ K29 => ?_
  refine yv y_mv <| yv y_mv <| yv (y_idxR Tryz.underlying101 sz108 rfl rfl (by omega) (by exact RdS.mono hX sq)) ?_; refine yv (y_fR 0 3 Tryz.underlying108 sz3) ?_; refine yv (y_loadR1 ag3 rfl (RdS.mono hX sq) (flat_cells encO3 3 (fun _ => rfl) ho 0 _ rfl)) ?_; refine yv (y_rem rfl rfl (by omega)) ?_; refine yv (y_eql rfl rfl) ?_; refine yv y_mv ?_; apply Hd.andg 6 127 133 [(1,_),(5,_),(6,_),(8,_),(10,_),(12,_),(92,_),(93,_)] rfl sbq
  ·intro hg21_127
   try simp only [hyZ] at hg21_127
   simp only [List.take]; refine y2 y_mv <| y2 (y_addn rfl rfl (by simp only [InK]; omega)) ?_; refine y2 y_mv <| y2 (y_len Tryz.underlying101 rfl) ?_; refine y2 (y_lss rfl rfl) ?_; refine yv (y_pickT rfl rfl) ?_; exact Hd.mn
  ·intro hg21_127
   try simp only [hyZ] at hg21_127
   simp only [List.take]; refine n1 <| n1 <| n1 <| n1 <| n1 <| yv (y_pickF rfl rfl) ?_; exact Hd.mn
  simp only [List.drop]; refine fk [(1,_),(5,_),(6,_),(8,_),(10,_),(12,_),(92,_),(93,_),(133,_)] K29 ?_; refine qz ?_ ?_ <;> intro hc6 <;> try simp only [hyZ] at hc6
  ·refine Hd.exit ?_
   refine Hd.thenExit <| Hd.inBexit <| Hd.toK K23 ?_; refine Hd.region <| yv (y_addn rfl rfl (by simp only [InK]; omega)) ?_; refine yv y_mv <| Hd.nil <| slots [(1,_),(5,_),(6,_),(8,_),(10,_),(12,_),(92,_),(93,_)] sbq ?_; refine thenN ?_; exact Hd.again (i + 1, s2, f, g, m, m2) (by omega) sbq (Ent.sep (.pure ⟨hi, hW2, hKw, (show m ≤ 100 * (i + 1) by omega), (show m2 ≤ 200 * (i + 1) by omega)⟩ enn))
  refine qv K28 <| sr fun _ K30 => ?_
  refine yv y_mv <| callE rfl fk45 (flush_ct _ cb s2) sq ?_; rintro ⟨ca, cc⟩; dsimp only
  have hcl := chs_le s2 96
  obtain ⟨Lc, hLc⟩ : ∃ Lc, s2.chs 96 = Lc := ⟨_, rfl⟩
  rw [hLc] at hcl; rw [hLc]; refine yv (y_len Tryz.underlying110 rfl) ?_; refine yv y_mv <| fk [(1,_),(5,_),(6,_),(8,_),(10,_),(12,_),(92,_),(93,_),(135,_),(136,_),(137,_)] K30 ?_; refine Hd.block <| Hd.loopK (ι := Nat × (Int → Option Ep.IxA) × (Kq.Ky → Option Kq.KnA) × Nat × Nat) [(1,_),(5,_),(6,_),(8,_),(10,_),(12,_),(92,_),(93,_),(135,_),(136,_)] (fun q_ => [(137, .int .i64 (q_.1 : Int))]) (fun q_ => pu (q_.1 ≤ Lc.length ∧ KI w (foldH s2.held (Lc.take q_.1)) q_.2.1 q_.2.2.1 ∧ q_.2.2.2.1 ≤ 100 * i + q_.1 ∧ q_.2.2.2.2 ≤ 200 * i + 2 * q_.1) :: own 113 3 ca Lc.length cc (Lc.flatMap encC) :: KnB cb eb mb qb mb2 wb rb pb s2.flush q_.2.1 q_.2.2.2.1 q_.2.2.1 q_.2.2.2.2 w L) (fun q_ => Lc.length - q_.1) (0, f, g, m, m2) sbq sbq (Ent.sep (.pure ⟨Nat.zero_le _, hKw, (show m ≤ 100 * i + 0 by omega), (show m2 ≤ 200 * i + 2 * 0 by omega)⟩ enn)) ?_; rintro ⟨j, f, g, m, m2⟩
  try dsimp only
  refine Hd.pure (fun hp2 => ?_)
  try dsimp only at hp2
  refine sr fun _ K31 => ?_
  refine yv (y_lss rfl rfl) ?_; refine fk [(1,_),(5,_),(6,_),(8,_),(10,_),(12,_),(92,_),(93,_),(135,_),(136,_),(137,_),(138,_)] K31 ?_; refine Hd.seq fun _ K32 => ?_
  refine qz ?_ ?_ <;> intro hc7 <;> try simp only [hyZ] at hc7
  ·have hj : j < Lc.length := by omega
   obtain ⟨c, hc⟩ : ∃ c, Lc[j]? = some c := ⟨_, List.getElem?_eq_getElem hj⟩
   obtain ⟨_, hKj, hmj, hm2j⟩ := hp2
   have hone := KI.one hW2 (j := j) (c := c) (f := f) (g := g) (by rw [hLc]; exact hc) (by rw [hLc]; exact hKj)
   rw [hLc] at hone
   obtain ⟨f', g', hE, hQ, hKn⟩ := hone
   have hkl := kqs_le c.1 c.2.1 c.2.2 2
   refine qv K32 <| Hd.seq fun _ K33 => ?_
   refine Hd.block <| sr fun _ K34 => ?_
   refine yv (y_idxR Tryz.underlying110 sz113 rfl rfl (by omega) (by exact RdS.own pkk)) ?_; refine yv (y_loadRn (vs := encC c) ag113 rfl (RdS.own (ad := ca) (us := Lc.flatMap encC) pkk) (flat_cells encC 3 (fun _ => rfl) hc) sz113 (by simp)) ?_; refine Hd.alloc zr113 (fun b15 => ?_); refine Hd.storeA (us := encC c) sz113 rfl rfl rfl (by simp [Value.oneCell']) pkk (by exact rfl) ?_; refine fk [(1,_),(5,_),(6,_),(8,_),(10,_),(12,_),(15,_),(92,_),(93,_),(135,_),(136,_),(137,_)] K34 ?_; refine sr fun _ K35 => ?_
   refine yv (y_loadn (us := [_, _, _]) ag113 rfl (Rd.pt pkk (by (first | (intro j v e; rcases j with _|_|_|_|_|_|_|_|_|_|_|_|j <;> first | exact e | exact absurd e (by simp))))) (by exact sz113)) ?_; refine callE rfl fk46 (epoll_ct _ c.1 c.2.1 c.2.2) sq ?_; intro _; refine yv y_mv <| yv (y_to (v' := .int .i64 (opOf c.2.1 c.2.2)) y_ex (by rfl)) ?_; refine yv (y_to (v' := .int .i64 (evI c.2.2)) y_ex (by rfl)) ?_; refine yv y_as <| yv y_as <| fk [(1,_),(5,_),(6,_),(8,_),(10,_),(12,_),(15,_),(16,_),(17,_),(92,_),(93,_),(135,_),(136,_),(137,_)] K35 ?_; refine sr fun _ K36 => ?_
   refine yv y_mv <| yv (y_loadn (us := [_, _, _]) ag113 rfl (Rd.pt pkk (by (first | (intro j v e; rcases j with _|_|_|_|_|_|_|_|_|_|_|_|j <;> first | exact e | exact absurd e (by simp))))) (by exact sz113)) ?_; refine callE rfl fk47 (kq_ct _ c.1 c.2.1 c.2.2) sq ?_; rintro ⟨na, nc⟩; dsimp only; refine callE rfl fk33 (Kq.kchs_ct _ qb wb mb2 g m2 w na nc (kqs c.1 c.2.1 c.2.2 2) ?hD (by omega)) sq ?_
   case hD => exact RdS.own (ad := na) (us := (kqs c.1 c.2.1 c.2.2 2).flatMap encN) pkk
   rintro ⟨ta, tc, m2'⟩; dsimp only; refine Hd.pure fun hm2' => ?_
   rw [hQ]; dsimp only; refine yv y_mv <| yv (y_to (v' := .slice ta 0 tc) y_ex (by rfl)) ?_; refine yv (y_to (v' := .int .i64 0) y_ex (by rfl)) ?_; refine yv y_as <| yv y_as <| fk [(1,_),(5,_),(6,_),(8,_),(10,_),(12,_),(15,_),(16,_),(17,_),(18,_),(19,_),(92,_),(93,_),(135,_),(136,_),(137,_)] K36 ?_; refine sr fun _ K37 => ?_
   refine yv y_mv <| yv y_mv <| yv (y_f 0 3 Tryz.underlying113 sz3) <| yv (y_l1 ag3 rfl) <| yv y_mv <| callE rfl fk19 (Ep.ctl_ct _ eb wb mb 200 f m (by omega) w (opOf c.2.1 c.2.2) c.1 (evI c.2.2)) sq ?_; intro m'; refine Hd.pure fun hm' => ?_
   rw [hE]; dsimp only; refine yv (y_neq rfl rfl) ?_; refine yv y_mv ?_; apply Hd.org 3 160 163 [(1,_),(5,_),(6,_),(8,_),(10,_),(12,_),(18,_),(92,_),(93,_),(135,_),(136,_),(137,_)] rfl sbq
   ·intro hg27_160
    try simp only [hyZ] at hg27_160
    simp only [List.take]; refine n1 <| n1 <| yv (y_pickT rfl rfl) ?_; exact Hd.mn
   ·intro hg27_160
    try simp only [hyZ] at hg27_160
    simp only [List.take]; refine y2 y_mv <| y2 (y_neq rfl rfl) ?_; refine yv (y_pickF rfl rfl) ?_; exact Hd.mn
   simp only [List.drop]; refine yv y_mv ?_; apply Hd.org 4 164 168 [(1,_),(5,_),(6,_),(8,_),(10,_),(12,_),(92,_),(93,_),(135,_),(136,_),(137,_)] rfl sbq
   ·intro hg27_164
    try simp only [hyZ] at hg27_164
    simp only [List.take]; refine n1 <| n1 <| n1 <| yv (y_pickT rfl rfl) ?_; exact Hd.mn
   ·intro hg27_164
    try simp only [hyZ] at hg27_164
    simp only [List.take]; refine y2 y_mv <| y2 (y_len Tryz.underlying67 rfl) ?_; refine y2 (y_gtr rfl rfl) ?_; refine yv (y_pickF rfl rfl) ?_; exact Hd.mn
   simp only [List.drop]; refine fk [(1,_),(5,_),(6,_),(8,_),(10,_),(12,_),(92,_),(93,_),(135,_),(136,_),(137,_),(168,_)] K37 ?_; refine qz ?_ ?_ <;> intro hc8 <;> try simp only [hyZ] at hc8
   ·exfalso; simp at hc8
   refine Hd.skip <| Hd.inB <| Hd.toK K33 ?_; refine Hd.region <| yv (y_addn rfl rfl (by simp only [InK]; omega)) ?_; refine yv y_mv <| Hd.nil <| slots [(1,_),(5,_),(6,_),(8,_),(10,_),(12,_),(92,_),(93,_),(135,_),(136,_),(137,_)] sbq ?_; refine thenN ?_; exact Hd.again (j + 1, f', g', m', m2') (by omega) sbq (Ent.sep (.pure ⟨hj, hKn, (show m' ≤ 100 * i + (j + 1) by omega), (show m2' ≤ 200 * i + 2 * (j + 1) by omega)⟩ enn))
  obtain rfl : j = Lc.length := by omega
  obtain ⟨_, hKj, hmj, hm2j⟩ := hp2
  rw [List.take_of_length_le (Nat.le_refl _), ← hLc, fold_all] at hKj; refine Hd.exit <| Hd.thenExit <| Hd.thenExit <| Hd.inBexit <| Hd.inB <| Hd.toK K23 ?_; refine Hd.region <| yv (y_addn rfl rfl (by simp only [InK]; omega)) ?_; refine yv y_mv <| Hd.nil <| slots [(1,_),(5,_),(6,_),(8,_),(10,_),(12,_),(92,_),(93,_)] sbq ?_; refine thenN ?_; exact Hd.again (i + 1, s2.flush, f, g, m, m2) (by omega) sbq (Ent.sep (.pure ⟨hi, (show WnI w s2.flush from ⟨hW2.mb, hW2.op⟩), (show KI w s2.flush.held f g from hKj), (show m ≤ 100 * (i + 1) by omega), (show m2 ≤ 200 * (i + 1) by omega)⟩ enn))
 obtain ⟨_, hW, hK, hm, hm2⟩ := hp1
 refine Hd.exit <| Hd.thenExit <| Hd.thenExit <| Hd.inBexit <| Hd.toK K19 ?_; refine Hd.seq fun _ K38 => ?_
 refine sr fun _ K39 => ?_
 refine yv y_mv <| callE rfl fk45 (flush_ct _ cb s) sq ?_; rintro ⟨ca, cc⟩; dsimp only
 have hcl := chs_le s 96
 obtain ⟨Lc, hLc⟩ : ∃ Lc, s.chs 96 = Lc := ⟨_, rfl⟩
 rw [hLc] at hcl; rw [hLc]; refine yv (y_len Tryz.underlying110 rfl) ?_; refine yv y_mv <| fk [(5,_),(8,_),(10,_),(12,_),(172,_),(173,_),(174,_)] K39 ?_; refine Hd.block <| Hd.loopK (ι := Nat × (Int → Option Ep.IxA) × (Kq.Ky → Option Kq.KnA) × Nat × Nat) [(5,_),(8,_),(10,_),(12,_),(172,_),(173,_)] (fun q_ => [(174, .int .i64 (q_.1 : Int))]) (fun q_ => pu (q_.1 ≤ Lc.length ∧ KI w (foldH s.held (Lc.take q_.1)) q_.2.1 q_.2.2.1 ∧ q_.2.2.2.1 ≤ 100 * i + q_.1 ∧ q_.2.2.2.2 ≤ 200 * i + 2 * q_.1) :: own 113 3 ca Lc.length cc (Lc.flatMap encC) :: KnB cb eb mb qb mb2 wb rb pb s.flush q_.2.1 q_.2.2.2.1 q_.2.2.1 q_.2.2.2.2 w L) (fun q_ => Lc.length - q_.1) (0, f, g, m, m2) sbq sbq (Ent.sep (.pure ⟨Nat.zero_le _, hK, (show m ≤ 100 * i + 0 by omega), (show m2 ≤ 200 * i + 2 * 0 by omega)⟩ enn)) ?_; rintro ⟨j, f, g, m, m2⟩
 try dsimp only
 refine Hd.pure (fun hp3 => ?_)
 try dsimp only at hp3
 refine sr fun _ K40 => ?_
 refine yv (y_lss rfl rfl) ?_; refine fk [(5,_),(8,_),(10,_),(12,_),(172,_),(173,_),(174,_),(175,_)] K40 ?_; refine Hd.seq fun _ K41 => ?_
 refine qz ?_ ?_ <;> intro hc9 <;> try simp only [hyZ] at hc9
 ·have hj : j < Lc.length := by omega
  obtain ⟨c, hc⟩ : ∃ c, Lc[j]? = some c := ⟨_, List.getElem?_eq_getElem hj⟩
  obtain ⟨_, hKj, hmj, hm2j⟩ := hp3
  have hone := KI.one hW (j := j) (c := c) (f := f) (g := g) (by rw [hLc]; exact hc) (by rw [hLc]; exact hKj)
  rw [hLc] at hone
  obtain ⟨f', g', hE, hQ, hKn⟩ := hone
  have hkl := kqs_le c.1 c.2.1 c.2.2 2
  refine qv K41 <| Hd.seq fun _ K42 => ?_
  refine Hd.block <| sr fun _ K43 => ?_
  refine yv (y_idxR Tryz.underlying110 sz113 rfl rfl (by omega) (by exact RdS.own pkk)) ?_; refine yv (y_loadRn (vs := encC c) ag113 rfl (RdS.own (ad := ca) (us := Lc.flatMap encC) pkk) (flat_cells encC 3 (fun _ => rfl) hc) sz113 (by simp)) ?_; refine Hd.alloc zr113 (fun b21 => ?_); refine Hd.storeA (us := encC c) sz113 rfl rfl rfl (by simp [Value.oneCell']) pkk (by exact rfl) ?_; refine fk [(5,_),(8,_),(10,_),(12,_),(21,_),(172,_),(173,_),(174,_)] K43 ?_; refine sr fun _ K44 => ?_
  refine yv (y_loadn (us := [_, _, _]) ag113 rfl (Rd.pt pkk (by (first | (intro j v e; rcases j with _|_|_|_|_|_|_|_|_|_|_|_|j <;> first | exact e | exact absurd e (by simp))))) (by exact sz113)) ?_; refine callE rfl fk46 (epoll_ct _ c.1 c.2.1 c.2.2) sq ?_; intro _; refine yv y_mv <| yv (y_to (v' := .int .i64 (opOf c.2.1 c.2.2)) y_ex (by rfl)) ?_; refine yv (y_to (v' := .int .i64 (evI c.2.2)) y_ex (by rfl)) ?_; refine yv y_as <| yv y_as <| fk [(5,_),(8,_),(10,_),(12,_),(21,_),(22,_),(23,_),(172,_),(173,_),(174,_)] K44 ?_; refine sr fun _ K45 => ?_
  refine yv y_mv <| yv (y_loadn (us := [_, _, _]) ag113 rfl (Rd.pt pkk (by (first | (intro j v e; rcases j with _|_|_|_|_|_|_|_|_|_|_|_|j <;> first | exact e | exact absurd e (by simp))))) (by exact sz113)) ?_; refine callE rfl fk47 (kq_ct _ c.1 c.2.1 c.2.2) sq ?_; rintro ⟨na, nc⟩; dsimp only; refine callE rfl fk33 (Kq.kchs_ct _ qb wb mb2 g m2 w na nc (kqs c.1 c.2.1 c.2.2 2) ?hD (by omega)) sq ?_
  case hD => exact RdS.own (ad := na) (us := (kqs c.1 c.2.1 c.2.2 2).flatMap encN) pkk
  rintro ⟨ta, tc, m2'⟩; dsimp only; refine Hd.pure fun hm2' => ?_
  rw [hQ]; dsimp only; refine fk [(5,_),(8,_),(10,_),(12,_),(21,_),(22,_),(23,_),(172,_),(173,_),(174,_)] K45 ?_; refine Hd.region <| yv y_mv <| yv y_mv <| yv (y_f 0 3 Tryz.underlying113 sz3) <| yv (y_l1 ag3 rfl) <| yv y_mv <| callE rfl fk19 (Ep.ctl_ct _ eb wb mb 200 f m (by omega) w (opOf c.2.1 c.2.2) c.1 (evI c.2.2)) sq ?_; intro m'; refine Hd.pure fun hm' => ?_
  rw [hE]; dsimp only; refine Hd.nil <| slots [(5,_),(8,_),(10,_),(12,_),(172,_),(173,_),(174,_)] sbq ?_; refine Hd.inB <| Hd.toK K42 ?_; refine Hd.region <| yv (y_addn rfl rfl (by simp only [InK]; omega)) ?_; refine yv y_mv <| Hd.nil <| slots [(5,_),(8,_),(10,_),(12,_),(172,_),(173,_),(174,_)] sbq ?_; refine thenN ?_; exact Hd.again (j + 1, f', g', m', m2') (by omega) sbq (Ent.sep (.pure ⟨hj, hKn, (show m' ≤ 100 * i + (j + 1) by omega), (show m2' ≤ 200 * i + 2 * (j + 1) by omega)⟩ enn))
 obtain rfl : j = Lc.length := by omega
 obtain ⟨_, hKj, hmj, hm2j⟩ := hp3
 rw [List.take_of_length_le (Nat.le_refl _), ← hLc, fold_all] at hKj
 have hkg := hKj.ok
 obtain ⟨hDy, hDn, hDm⟩ := hKj.int hw
 have hNy := hKj.notes hw
 have hgot : ∀ k : Nat, k < 96 → _ := fun k hk => got_at hw hKj (k := k) hk
 obtain ⟨s2, hs2⟩ : ∃ s2, s.flush = s2 := ⟨_, rfl⟩
 have hsw : ∀ a, s2.wants a = s.wants a := fun a => by rw [← hs2]; rfl
 rw [hs2]; refine Hd.exit <| Hd.thenExit <| Hd.thenExit <| Hd.inBexit <| Hd.toK K38 ?_; refine sr fun _ K46 => ?_
 refine Hd.makeMap .i64 (fun b194 => ?_); refine yv y_as <| fk [(5,_),(8,_),(10,_),(12,_),(24,_)] K46 ?_; refine Hd.seq fun _ K47 => ?_
 refine sr fun _ K48 => ?_
 refine yv y_mv <| callE rfl fk22 (Ep.inter_ct _ eb wb mb 200 f m (by omega) w) sq ?_; rintro ⟨ia, ic, ks⟩; dsimp only; refine Hd.pure fun hks => ?_
 obtain rfl := hks.eq hw
 obtain ⟨D, hD⟩ : ∃ D, Ep.intE f (Ep.allL f w) = D := ⟨_, rfl⟩
 have hDl : (Ep.allL f w).length = D.length := by rw [← hD, Ep.intE_len]
 have hDb := Ep.allL_len f w
 rw [hD] at hDy hDn hDm; rw [hD, hDl]; rw [hDl] at hDb; refine yv (y_len Tryz.underlying47 rfl) ?_; refine yv y_mv <| fk [(5,_),(10,_),(12,_),(24,_),(196,_),(197,_),(198,_)] K48 ?_; refine Hd.block <| Hd.loopK (ι := Nat × Nat) [(5,_),(10,_),(12,_),(24,_),(196,_),(197,_)] (fun q_ => [(198, .int .i64 (q_.1 : Int))]) (fun q_ => pu (q_.1 ≤ D.length) :: mp b194 .i64 (met4 D q_.1) q_.2 :: own 51 2 ia D.length ic (D.flatMap Ep.encPo) :: KnB cb eb mb qb mb2 wb rb pb s2 f m g m2 w L) (fun q_ => D.length - q_.1) (0, 0) sbq sbq (fun q t => Ent.sep (.pure (Nat.zero_le _) (.eq pkk (Ep.mp_eq (met4_0 D).symm rfl) enn)) q t) ?_; rintro ⟨k, mm⟩
 try dsimp only
 refine Hd.pure (fun hp4 => ?_)
 try dsimp only at hp4
 refine sr fun _ K49 => ?_
 refine yv (y_lss rfl rfl) ?_; refine fk [(5,_),(10,_),(12,_),(24,_),(196,_),(197,_),(198,_),(199,_)] K49 ?_; refine Hd.seq fun _ K50 => ?_
 refine qz ?_ ?_ <;> intro hc10 <;> try simp only [hyZ] at hc10
 ·have hk : k < D.length := by omega
  obtain ⟨y, hy⟩ : ∃ y, D[k]? = some y := ⟨_, List.getElem?_eq_getElem hk⟩
  obtain ⟨hy1, hy2⟩ := hDy y (List.mem_of_getElem? hy)
  refine qv K50 <| Hd.seq fun _ K51 => ?_
  refine Hd.block <| sr fun _ K52 => ?_
  refine yv (y_idxR Tryz.underlying47 sz51 rfl rfl (by omega) (by exact RdS.own pkk)) ?_; refine yv (y_loadRn (vs := Ep.encPo y) ag51 rfl (RdS.own (ad := ia) (us := D.flatMap Ep.encPo) pkk) (flat_cells Ep.encPo 2 (fun _ => rfl) hy) sz51 (by simp)) ?_; refine Hd.alloc zr51 (fun b26 => ?_); refine Hd.storeA (us := Ep.encPo y) sz51 rfl rfl rfl (by simp [Value.oneCell']) pkk (by exact rfl) ?_; refine fk [(5,_),(10,_),(12,_),(24,_),(26,_),(196,_),(197,_),(198,_)] K52 ?_; refine Hd.seq fun _ K53 => ?_
  refine Hd.drawsH ([pt b26 (Ep.encPo y) 51]) (fun _ => true) mixed ?_; simp only [List.length, Nat.zero_add, Nat.reduceAdd]; refine tH 0 rfl (y_f 0 3 Tryz.underlying51 sz3) <| tH 1 rfl (y_l1 ag3 rfl) <| tH 2 rfl y_mv <| tH 3 rfl (y_f 0 3 Tryz.underlying51 sz3) <| tH 4 rfl (y_l1 ag3 rfl) <| qo 5 ?_; refine callE rfl fk48 (wants_ct _ cb s2 y.1) sq ?_; intro _; refine qk <| tH 6 rfl (y_build (vs := [(0,_),(2,_)]) rfl (by exact bd12_209 ..)) ?_; refine qo 7 ?_; refine callE rfl fk46 (epoll_ct _ y.1 0 (s2.wants y.1)) sq ?_; intro _; refine qk <| tH 8 rfl y_mv <| tH 9 rfl y_ex <| tH 10 rfl y_ex <| tH 11 rfl y_as <| tH 12 rfl y_as <| endH kq ?_; refine sk [(5,_),(10,_),(12,_),(24,_),(26,_),(28,_),(196,_),(197,_),(198,_)] K53 ?_; refine Hd.seq fun _ K54 => ?_
  refine sr fun _ K55 => ?_
  refine yv (y_f 1 3 Tryz.underlying51 sz3) <| yv (y_l1 ag3 rfl) <| yv y_mv <| yv (y_neq rfl rfl) ?_; refine yv y_mv ?_; apply Hd.org 3 217 220 [(5,_),(10,_),(12,_),(24,_),(26,_),(196,_),(197,_),(198,_)] rfl sbq
  ·intro hg43_217
   try simp only [hyZ] at hg43_217
   simp only [List.take]; refine n1 <| n1 <| yv (y_pickT rfl rfl) ?_; exact Hd.mn
  ·intro hg43_217
   try simp only [hyZ] at hg43_217
   simp only [List.take]; refine y2 y_mv <| y2 (y_eql rfl rfl) ?_; refine yv (y_pickF rfl rfl) ?_; exact Hd.mn
  simp only [List.drop]; refine fk [(5,_),(10,_),(12,_),(24,_),(26,_),(196,_),(197,_),(198,_),(220,_)] K55 ?_; refine qz ?_ ?_ <;> intro hc11 <;> try simp only [hyZ] at hc11
  ·exfalso
   rcases hc11 with h | h
   ·exact h (by rw [hy1, ← hsw]; rfl)
   ·exact hy2 (by rw [hy1, ← hsw]; exact h)
  refine qv K54 <| Hd.region <| yv y_mv <| yv (y_f 0 3 Tryz.underlying51 sz3) <| yv (y_l1 ag3 rfl) <| yv (y_to (v' := .int .i64 0) (y_lookup mapt42 rfl rfl pkk) (by (rw [met4_no hDn hy]; rfl))) ?_; refine yv (y_to (v' := .int .i64 1) (y_addn rfl rfl (by simp only [InK]; omega)) (by rfl)) ?_; refine Hd.mapUpdate mapt42 rfl rfl rfl pkk ?_; refine Hd.nil <| slots [(5,_),(10,_),(12,_),(24,_),(196,_),(197,_),(198,_)] sbq ?_; refine Hd.inB <| Hd.toK K51 ?_; refine Hd.region <| yv (y_addn rfl rfl (by simp only [InK]; omega)) ?_; refine yv y_mv <| Hd.nil <| slots [(5,_),(10,_),(12,_),(24,_),(196,_),(197,_),(198,_)] sbq ?_; refine thenN ?_; rw [met4_succ hy]; exact Hd.again (k + 1, if (met4 D k y.1).isSome then mm else mm + 1) (by omega) sbq (Ent.sep (.pure (by omega) enn))
 obtain rfl : k = D.length := by omega
 obtain ⟨N, hN⟩ : ∃ N, (Kq.allK g w).map (Kq.noK g) = N := ⟨_, rfl⟩
 rw [hN] at hNy; rw [met5_0 D N]; refine Hd.exit <| Hd.thenExit <| Hd.thenExit <| Hd.inBexit <| Hd.toK K47 ?_; refine Hd.seq fun _ K56 => ?_
 refine sr fun _ K57 => ?_
 refine yv y_mv <| callE rfl fk34 (Kq.knotes_ct _ qb wb mb2 g m2 (by omega) w) sq ?_; rintro ⟨ja, jc, ks⟩; dsimp only; refine Hd.pure fun hks => ?_
 obtain rfl := hks.eq hw hkg
 have hNl : (Kq.allK g w).length = N.length := by rw [← hN, List.length_map]
 have hNb := Kq.allK_len g w
 rw [hN, hNl]; rw [hNl] at hNb; refine yv (y_len Tryz.underlying67 rfl) ?_; refine yv y_mv <| fk [(5,_),(12,_),(24,_),(228,_),(229,_),(230,_)] K57 ?_; refine Hd.block <| Hd.loopK (ι := Nat × Nat) [(5,_),(12,_),(24,_),(228,_),(229,_)] (fun q_ => [(230, .int .i64 (q_.1 : Int))]) (fun q_ => pu (q_.1 ≤ N.length) :: mp b194 .i64 (met5 D N q_.1) q_.2 :: own 82 4 ja N.length jc (N.flatMap Kq.encNo) :: KnB cb eb mb qb mb2 wb rb pb s2 f m g m2 w L) (fun q_ => N.length - q_.1) (0, mm) sbq sbq (Ent.sep (.pure (by omega) enn)) ?_; rintro ⟨j, mm⟩
 try dsimp only
 refine Hd.pure (fun hp5 => ?_)
 try dsimp only at hp5
 refine sr fun _ K58 => ?_
 refine yv (y_lss rfl rfl) ?_; refine fk [(5,_),(12,_),(24,_),(228,_),(229,_),(230,_),(231,_)] K58 ?_; refine Hd.seq fun _ K59 => ?_
 refine qz ?_ ?_ <;> intro hc12 <;> try simp only [hyZ] at hc12
 ·have hj : j < N.length := by omega
  obtain ⟨y, hy⟩ : ∃ y, N[j]? = some y := ⟨_, List.getElem?_eq_getElem hj⟩
  obtain ⟨hy1, hy2, hy3⟩ := hNy y (List.mem_of_getElem? hy)
  have hsb := sumS_b y.1 (N.take j)
  rw [List.length_take] at hsb
  have hsd := sd2_b y.2.1
  have hym : y.1 ∈ D.map Prod.fst := (hDm y.1).2 (fun e => by rw [e, hasB_0] at hy2; cases hy2)
  refine qv K59 <| Hd.seq fun _ K60 => ?_
  refine Hd.block <| sr fun _ K61 => ?_
  refine yv (y_idxR Tryz.underlying67 sz82 rfl rfl (by omega) (by exact RdS.own pkk)) ?_; refine yv (y_loadRn (vs := Kq.encNo y) ag82 rfl (RdS.own (ad := ja) (us := N.flatMap Kq.encNo) pkk) (flat_cells Kq.encNo 4 (fun _ => rfl) hy) sz82 (by simp)) ?_; refine Hd.alloc zr82 (fun b30 => ?_); refine Hd.storeA (us := Kq.encNo y) sz82 rfl rfl rfl (by simp [Value.oneCell']) pkk (by exact rfl) ?_; refine fk [(5,_),(12,_),(24,_),(30,_),(228,_),(229,_),(230,_)] K61 ?_; refine sr fun _ K62 => ?_
  refine yv y_as <| fk [(5,_),(12,_),(24,_),(30,_),(31,_),(228,_),(229,_),(230,_)] K62 ?_; refine Hd.cutK (ι := Unit) [(5,_),(12,_),(24,_),(30,_),(228,_),(229,_),(230,_)] (fun _ => [(31, .int .i64 (sd2 y.2.1))]) (fun _ => pt b30 (Kq.encNo y) 82 :: mp b194 .i64 (met5 D N j) mm :: own 82 4 ja N.length jc (N.flatMap Kq.encNo) :: KnB cb eb mb qb mb2 wb rb pb s2 f m g m2 w L) ?_ ?_ ⟨rfl, rfl, rfl, rfl, rfl, rfl, rfl, trivial⟩
  ·refine sr fun _ K63 => ?_
   refine yv (y_f 1 3 Tryz.underlying82 sz3) <| yv (y_l1 ag3 rfl) <| yv (y_eql rfl rfl) ?_; refine fk [(5,_),(12,_),(24,_),(30,_),(31,_),(228,_),(229,_),(230,_),(236,_)] K63 ?_; refine qz ?_ ?_ <;> intro hc13 <;> try simp only [hyZ] at hc13
   ·refine Hd.region ?_
    refine yv y_as <| Hd.nil <| slots [(5,_),(12,_),(24,_),(30,_),(31,_),(228,_),(229,_),(230,_)] sbq ?_; refine thenN ?_; exact Hd.meet () ⟨congrArg (fun z => some (Value.int .i64 z)) (show (4 : Int) = sd2 y.2.1 by unfold sd2; rw [if_pos hc13]), by repeat (first | exact trivial | refine ⟨rfl, ?_⟩)⟩ sq
   refine Hd.skip <| thenN ?_; exact Hd.meet () ⟨congrArg (fun z => some (Value.int .i64 z)) (show (2 : Int) = sd2 y.2.1 by unfold sd2; rw [if_neg hc13]), by repeat (first | exact trivial | refine ⟨rfl, ?_⟩)⟩ sq
  intro _; refine sr fun _ K64 => ?_
  refine yv y_mv <| yv (y_f 0 3 Tryz.underlying82 sz3) <| yv (y_l1 ag3 rfl) <| callE rfl fk48 (wants_ct _ cb s2 y.1) sq ?_; intro _; rw [hsw]; refine yv y_as <| fk [(5,_),(12,_),(24,_),(30,_),(31,_),(32,_),(228,_),(229,_),(230,_)] K64 ?_; refine Hd.seq fun _ K65 => ?_
  refine sr fun _ K66 => ?_
  refine yv y_mv <| yv y_mv <| yv (y_and rfl rfl) ?_; refine yv (y_eql rfl rfl) ?_; refine yv y_mv ?_; apply Hd.org 8 245 253 [(5,_),(12,_),(24,_),(30,_),(31,_),(228,_),(229,_),(230,_)] rfl sbq
  ·intro hg54_245
   try simp only [hyZ] at hg54_245
   simp only [List.take]; refine n1 <| n1 <| n1 <| n1 <| n1 <| n1 <| n1 <| yv (y_pickT rfl rfl) ?_; exact Hd.mn
  ·intro hg54_245
   try simp only [hyZ] at hg54_245
   simp only [List.take]; refine y2 y_mv <| y2 (y_and rfl rfl) ?_; refine y2 (y_neq rfl rfl) ?_; refine y2 (y_f 2 3 Tryz.underlying82 sz3) <| y2 (y_l1 ag3 rfl) <| y2 (y_eql rfl rfl) ?_; refine y2 (y_neqb Tryz.underlying4 rfl rfl) ?_; refine yv (y_pickF rfl rfl) ?_; exact Hd.mn
  simp only [List.drop]; refine fk [(5,_),(12,_),(24,_),(30,_),(31,_),(228,_),(229,_),(230,_),(253,_)] K66 ?_; refine qz ?_ ?_ <;> intro hc14 <;> try simp only [hyZ] at hc14
  ·exfalso
   rw [hy3] at hc14; unfold hasB at hy2; unfold flI hasB at hc14
   rcases hc14 with h | h
   ·rw [decide_eq_true_eq] at hy2; exact hy2 h
   ·by_cases hb : bits .and .i64 (s.wants y.1) 32 = 0 <;> simp [hb] at h
  refine qv K65 <| Hd.region <| yv y_mv <| yv (y_f 0 3 Tryz.underlying82 sz3) <| yv (y_l1 ag3 rfl) <| yv y_mv <| yv (y_f 0 3 Tryz.underlying82 sz3) <| yv (y_l1 ag3 rfl) <| yv (y_to (v' := .int .i64 (1 + 100 * sumS (N.take j) y.1)) (y_lookup mapt42 rfl rfl pkk) (by (unfold met5; rw [if_pos hym]; rfl))) ?_; refine yv y_mv <| yv (y_muln rfl rfl (by simp only [InK]; omega)) ?_; refine yv (y_addn rfl rfl (by simp only [InK]; omega)) ?_; refine Hd.mapUpdate mapt42 rfl rfl rfl pkk ?_; refine Hd.nil <| slots [(5,_),(12,_),(24,_),(228,_),(229,_),(230,_)] sbq ?_; refine Hd.inB <| Hd.toK K60 ?_; refine Hd.region <| yv (y_addn rfl rfl (by simp only [InK]; omega)) ?_; refine yv y_mv <| Hd.nil <| slots [(5,_),(12,_),(24,_),(228,_),(229,_),(230,_)] sbq ?_; refine thenN ?_; rw [met5_succ hy hym]
  exact Hd.again (j + 1, if (met5 D N j y.1).isSome then mm else mm + 1) (by omega) sbq (Ent.sep (.pure (by omega) enn))
 obtain rfl : j = N.length := by omega
 have hgt : ∀ k : Nat, k < 96 → (met5 D N N.length (k : Int)).getD (.int .i64 0) = .int .i64 (gotN (s.wants (k : Int))) := fun k hk => by
  have := hgot k hk
  rw [hD, hN] at this; exact this
 refine Hd.exit <| Hd.thenExit <| Hd.thenExit <| Hd.inBexit <| Hd.toK K56 ?_; refine Hd.seq fun _ K67 => ?_
 refine sr fun _ K68 => ?_
 refine yv y_as <| fk [(5,_),(12,_),(24,_),(33,_)] K68 ?_; refine Hd.block <| Hd.loopK (ι := Nat) [(5,_),(12,_),(24,_)] (fun k => [(33, .int .i64 (k : Int))]) (fun k => pu (k ≤ 96) :: mp b194 .i64 (met5 D N N.length) mm :: KnB cb eb mb qb mb2 wb rb pb s2 f m g m2 w L) (fun k => 96 - k) 0 sbq sbq (Ent.sep (.pure (by omega) enn)) ?_; intro k
 try dsimp only
 refine Hd.pure (fun hp6 => ?_)
 try dsimp only at hp6
 refine Hd.seq fun _ K69 => ?_
 refine sr fun _ K70 => ?_
 refine yv y_mv <| yv (y_leq rfl rfl) ?_; refine fk [(5,_),(12,_),(24,_),(33,_),(266,_)] K70 ?_; refine qz ?_ ?_ <;> intro hc15 <;> try simp only [hyZ] at hc15
 ·have hk : k < 96 := by omega
  have hg := hgt k hk
  have hnb := and6_b (hKj.mb (k : Int))
  refine qv K69 <| Hd.seq fun _ K71 => ?_
  refine Hd.block <| sr fun _ K72 => ?_
  refine yv y_mv <| yv y_mv <| callE rfl fk48 (wants_ct _ cb s2 (k : Int)) sq ?_; intro _; rw [hsw]
  obtain ⟨n, hn⟩ : ∃ n, s.wants (k : Int) = n := ⟨_, rfl⟩
  rw [hn] at hg hnb; rw [hn]
  obtain ⟨G, hG⟩ : ∃ G, gotN n = G := ⟨_, rfl⟩
  have hGG := hG
  unfold gotN at hGG; rw [hG] at hg; refine yv y_as <| fk [(5,_),(12,_),(24,_),(33,_),(34,_)] K72 ?_; refine sr fun _ K73 => ?_
  refine yv y_mv <| yv (y_eql rfl rfl) ?_; refine yv y_mv ?_; apply Hd.andg 5 274 279 [(5,_),(12,_),(24,_),(33,_),(34,_)] rfl sbq
  ·intro hg62_274
   try simp only [hyZ] at hg62_274
   simp only [List.take]; refine y2 y_mv <| y2 y_mv <| y2 (y_to (v' := .int .i64 G) (y_lookup mapt42 rfl rfl pkk) (by exact hg)) ?_; refine y2 (y_neq rfl rfl) ?_; refine yv (y_pickT rfl rfl) ?_; exact Hd.mn
  ·intro hg62_274
   try simp only [hyZ] at hg62_274
   simp only [List.take]; refine n1 <| n1 <| n1 <| n1 <| yv (y_pickF rfl rfl) ?_; exact Hd.mn
  simp only [List.drop]; refine yv y_mv ?_; apply Hd.org (q := (decide (n ≠ 0) && decide (G ≠ 1 + 100 * bits .and .i64 n 6))) 13 280 293 [(5,_),(12,_),(24,_),(33,_)] rfl sbq
  ·intro hg62_280
   try simp only [hyZ] at hg62_280
   simp only [List.take]; refine n1 <| n1 <| n1 <| n1 <| n1 <| n1 <| n1 <| n1 <| n1 <| n1 <| n1 <| n1 <| yv (y_pickT rfl rfl) ?_; exact Hd.mn
  ·intro hg62_280
   try simp only [hyZ] at hg62_280
   simp only [List.take]; refine y2 y_mv <| y2 (y_neq rfl rfl) ?_; refine y2 y_mv ?_; apply Hd.andg 9 283 292 [(5,_),(12,_),(24,_),(33,_),(280,_)] rfl sbq
   ·intro hg62_283
    try simp only [hyZ] at hg62_283
    simp only [List.take]; refine y2 y_mv <| y2 y_mv <| y2 (y_to (v' := .int .i64 G) (y_lookup mapt42 rfl rfl pkk) (by exact hg)) ?_; refine y2 y_mv <| y2 (y_and rfl rfl) ?_; refine y2 (y_muln rfl rfl (by simp only [InK]; omega)) ?_; refine y2 (y_addn rfl rfl (by simp only [InK]; omega)) ?_; refine y2 (y_neq rfl rfl) ?_; refine y2 (y_pickT rfl rfl) ?_; exact Hd.mn
   ·intro hg62_283
    try simp only [hyZ] at hg62_283
    simp only [List.take]; refine n1 <| n1 <| n1 <| n1 <| n1 <| n1 <| n1 <| n1 <| y2 (y_pickF rfl rfl) ?_; exact Hd.mn
   simp only [List.drop]; refine yv (y_pickF rfl rfl) ?_; exact Hd.mn
  simp only [List.drop]; refine fk [(5,_),(12,_),(24,_),(33,_),(293,_)] K73 ?_; refine qz ?_ ?_ <;> intro hc16 <;> try simp only [hyZ] at hc16
  ·exfalso
   split at hGG <;> omega
  refine Hd.skip <| Hd.inB <| Hd.toK K71 ?_; refine Hd.region <| yv y_mv <| yv (y_addn rfl rfl (by simp only [InK]; omega)) ?_; refine yv y_as <| Hd.nil <| slots [(5,_),(12,_),(24,_),(33,_)] sbq ?_; refine thenN ?_; exact Hd.again (k + 1) (by omega) sbq (Ent.sep (.pure (by omega) enn))
 refine Hd.exit <| Hd.thenExit <| Hd.thenExit <| Hd.inBexit <| Hd.toK K67 ?_; refine sr fun _ K74 => ?_
 refine yv y_mv <| yv y_as <| fk [(4,_)] K74 ?_; refine Hd.ret ?_; exact Hd.ret1 rfl () rfl sq
end Cl
end Go.Proofs.YtbfddabjbkohdaaGreat
namespace Go.Proofs.YtbfddabjbkohdaaGreat
open Go.RX Go.ChangeShapes Go.WideShapes Go.ChangeAt Go.RowKit
abbrev shC : Sh := .struct (.fld (.int .i64) (.fld (.int .i64) (.fld (.int .i64) .nil)))
def cvC (y : shC.T) : Cl.CT := (y.1, y.2.1, y.2.2.1)
theorem rd_cs {W : World} {x : (Sh.slice shC).T} (h : (Sh.slice shC).ok W x) : RdS [Old W] 3 x.ad (x.l.map cvC).length ((x.l.map cvC).flatMap Cl.encO3) := by
 have e : (x.l.map cvC).flatMap Cl.encO3 = x.l.flatMap shC.enc := by rw [List.flatMap_map]; congr 1
 rw [e, List.length_map]; exact h.1
theorem cs_ok {W : World} {x : (Sh.slice shC).T} (h : (Sh.slice shC).ok W x) : ∀ p ∈ x.l.map cvC, InK .i64 p.2.2 := fun o ho => by
 obtain ⟨y, hy, rfl⟩ := List.mem_map.1 ho
 exact (h.2.2.2.2 y hy).2.2.1
end Go.Proofs.YtbfddabjbkohdaaGreat
