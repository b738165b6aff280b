/-
  Bufev's laws: Marks.
-/
import Derived.Test.YtmpemhbfgbochaaBu15
namespace Go.Proofs.Ytmpemhbfgbochaa
set_option linter.unusedSimpArgs false
set_option linter.unusedVariables false
set_option linter.unnecessarySimpa false
open Go.RX Fx
namespace Bu
open Wo
set_option maxRecDepth 8000
theorem Hd.bufLen {E : World} {n : Nat} {ds : List Deferred} {st : List (Nat × Value)} {L L' : List SP} {K : Act → World → Prop} {b wb : Nat} {x : BfA} (p : Pick L (BufP b wb x) L') (h : (x.s 0).c.length ≤ 1048576 ∧ (x.s 1).c.length ≤ 1048576 → Hd E n ds st L K) : Hd E n ds st L K := fun a w f s => by
  refine h ?_ a w f s
  obtain ⟨h1, s1, u, y⟩ := sep.one p s.2.2.2
  have y' : sep (BfL b wb x 0 []) h1 := y
  have ch : ∀ {o : Nat} {l : List UInt8} {M M' : List SP} (q : Pick M (ChB b o l) M'), sep M h1 → l.length ≤ 1048576 := fun q z => by
    obtain ⟨h2, s2, rs, v⟩ := sep.one q z
    have v2 := (sep_pure (p := Bc.Good rs ∧ Bc.flat rs = _) v).1
    rw [← v2.2]; exact v2.1.2
  exact ⟨ch (o := 2 + 0 * 8 + 0) pkk y', ch (o := 2 + 1 * 8 + 0) pkk y'⟩
theorem op_pr {n : Nat} {w : WA} {l : Nat → List UInt8} (h : PrW n w l) : (readyR w 0).op = true := by
  obtain ⟨x, hx, hp⟩ := h
  have hat := pr_at hx hp (k := 0) (by omega)
  unfold readyR
  rw [show (0 : Int) = ((0 : Nat) : Int) from rfl, hat]
  dsimp only
  rw [hx]
  show (readyW x 0).op = true
  unfold readyW
  split <;> rfl
/-- what holds behind each call -/
structure MkI (n : Nat) (low high : Int) (x : BfA) (w : WA) (l : Nat → List UInt8) : Prop where
  ok : BOk x
  fd : x.fd = 0
  lo : (x.s 0).low = low
  hi : (x.s 0).high = high
  w : PrW n w l
  le : high > 0 → ((x.s 0).c.length : Int) ≤ high
theorem sd2 : sidesA 2 = [0] := by decide +kernel
abbrev mkX (low high : Int) : BfA := enB (mrkB (newB 0) 2 low high) 0 2
theorem mk_new {n : Nat} {low high : Int} (h : ¬ mrkBad 2 low high = true) : MkI n low high (mkX low high) (pairA n) (fun _ => []) := by
  have h1 : (mkX low high).s 0 = setA 0 0 ⟨[], true, false, low, high, 0, NV⟩ := by
    show (enB (mrkB (newB 0) 2 low high) 0 2).s 0 = _
    unfold enB
    rw [if_pos (by decide +kernel), sd2]
    show onF 0 0 ((mrkB (newB 0) 2 low high).s 0) = _
    unfold mrkB
    rw [if_neg h, sd2]
    rfl
  refine ⟨bok_en (bok_mrk (bok_new 0) 2 low high) (by simp [InK]) 2, ?_, by rw [h1], by rw [h1], pr_new n, fun hh => ?_⟩
  · unfold mkX enB mrkB
    repeat' split
    all_goals rfl
  · rw [h1]; show (0 : Int) ≤ high; omega
theorem MkI.put {n : Nat} {low high : Int} {x : BfA} {w : WA} {l : Nat → List UInt8} (h : MkI n low high x w l) (bs : List UInt8) : MkI n low high x (writeR w 1 bs).2 (updL l 0 (l 0 ++ roomB n (l 0) bs)) :=
  ⟨h.ok, h.fd, h.lo, h.hi, (writeR_pr h.w (k := 1) (by omega) bs).2, h.le⟩
theorem MkI.get {n : Nat} {low high : Int} {x : BfA} {w : WA} {l : Nat → List UInt8} (h : MkI n low high x w l) (m : Int) : MkI n low high (readB x m) w l := by
  have h2 : (readB x m).fd = x.fd ∧ ((readB x m).s 0).low = (x.s 0).low ∧ ((readB x m).s 0).high = (x.s 0).high ∧ ((readB x m).s 0).c.length ≤ (x.s 0).c.length := by
    unfold readB
    split
    · exact ⟨rfl, rfl, rfl, Nat.le_refl _⟩
    · rw [bup_at]
      exact ⟨rfl, rfl, rfl, by show ((x.s 0).c.drop m.toNat).length ≤ _; rw [List.length_drop]; omega⟩
  exact ⟨bok_get h.ok m, h2.1.trans h.fd, h2.2.1.trans h.lo, h2.2.2.1.trans h.hi, h.w, fun hh => by have := h.le hh; omega⟩
theorem stG_le (x : BfA) (l : Nat → List UInt8) (flags most : Int) : ((stG x l flags most).length : Int) ≤ max 0 most ∧ ((x.s 0).high > 0 → ((x.s 0).c.length : Int) ≤ (x.s 0).high → ((x.s 0).c.length : Int) + ((stG x l flags most).length : Int) ≤ (x.s 0).high) ∧ (stG x l flags most).length ≤ 4096 := by
  have hn := rdN_le (x.s 0) most
  unfold stG
  split
  · unfold gotB
    rw [List.length_take]
    omega
  · simp only [List.length_nil]
    omega
/-- what a Step tells of what it read -/
theorem stT_i (x : BfA) (got went : List UInt8) : (stT2 x went (stT1 x got noT)).i = (got.length : Int) ∧ (stT2 x went (stT1 x got noT)).r = (decide (got.length > 0) && decide ((((x.s 0).c ++ got).length : Int) ≥ (x.s 0).low)) := by
  have h1 : (stT2 x went (stT1 x got noT)).i = (stT1 x got noT).i ∧ (stT2 x went (stT1 x got noT)).r = (stT1 x got noT).r := by
    unfold stT2; split <;> exact ⟨rfl, rfl⟩
  rw [h1.1, h1.2]
  unfold stT1
  split
  · rename_i h; subst h; exact ⟨rfl, rfl⟩
  · rename_i h
    have : got.length > 0 := List.length_pos_iff.2 h
    refine ⟨rfl, ?_⟩
    rw [decide_eq_true this, Bool.true_and]
theorem MkI.step {n : Nat} {low high : Int} {x : BfA} {w : WA} {l : Nat → List UInt8} (h : MkI n low high x w l) {now : Int} (hn : InK .u64 now) (flags most much : Int) :
    MkI n low high (stepS x w now flags most much).x (stepS x w now flags most much).w (mvL l (stG x l flags most) (stW n x l flags much)) ∧
    ((stepS x w now flags most much).x.s 0).c = (x.s 0).c ++ stG x l flags most ∧
    (stepS x w now flags most much).t.i = ((stG x l flags most).length : Int) ∧
    (stepS x w now flags most much).t.r = (decide ((stG x l flags most).length > 0) && decide ((((x.s 0).c ++ stG x l flags most).length : Int) ≥ low)) ∧
    ((stG x l flags most).length : Int) ≤ max 0 most ∧ (stG x l flags most).length ≤ 4096 := by
  have hs := step_pr h.w h.fd now flags most much
  have ht := stT_i x (stG x l flags most) (stW n x l flags much)
  have hg := stG_le x l flags most
  have h0 := hs.s0
  refine ⟨⟨bok_step h.ok hn w flags most much, hs.fd.trans h.fd, h0.2.2.2.1.trans h.lo, h0.2.2.2.2.1.trans h.hi, hs.w, fun hh => ?_⟩, h0.1, by rw [hs.t]; exact ht.1, by rw [hs.t, ht.2, h.lo], hg.1, hg.2.2⟩
  have h1 := h.le hh
  have h2 := hg.2.1
  rw [h.hi] at h2
  rw [h0.1, List.length_append]
  have := h2 hh h1
  omega
set_option maxHeartbeats 2000000 in
theorem bmarks_ct (L : List SP) (cp low high : Int) (ad : Option Addr) (c : Nat) (xs : List Cv) (hR : RdS L 13 ad xs.length (xs.flatMap encC)) (hok : ∀ o ∈ xs, CvOk L o) : Ct Try.prog 3 #[.int .i64 cp, .int .i64 low, .int .i64 high, .slice ad xs.length c] (L) (fun _ : Unit => .bool true) (fun _ : Unit => L) := by
  refine Ct.of (vs := [.int .i64 cp, .int .i64 low, .int .i64 high, .slice ad xs.length c]) Try.func3 rfl rfl [(0, .int .i64 cp), (1, .int .i64 low), (2, .int .i64 high), (3, .slice ad xs.length c)] (by repeat (first | exact trivial | refine ⟨rfl, ?_⟩)) ?_
  intro E
  show Hd E 170 _ _ _ _
  refine Hd.seq (fun K1 hK1 => ?_)
  refine Hd.region ?_
  refine Hd.yv (y_assign rfl) ?_
  refine Hd.nil ?_
  refine Hd.slots [(0, _), (1, _), (2, _), (3, _)] ⟨rfl, rfl, rfl, rfl, trivial⟩ ?_
  refine Hd.toK hK1 ?_
  refine Hd.seq (fun K2 hK2 => ?_)
  refine Hd.region ?_
  refine Hd.callE rfl fk8 (alive_ct _) (Ent.sep enn) ?_
  intro _
  refine Hd.yv (y_assign rfl) ?_
  refine Hd.nil ?_
  refine Hd.slots [(0, _), (1, _), (2, _), (3, _), (9, _)] ⟨rfl, rfl, rfl, rfl, rfl, trivial⟩ ?_
  refine Hd.toK hK2 ?_
  refine Hd.seq (fun K3 hK3 => ?_)
  refine Hd.seq (fun K4 hK4 => ?_)
  refine Hd.region ?_
  refine Hd.yv (y_move rfl) ?_
  refine Hd.callE rfl fk9 (great26_ct _ none 0 [] (RdS.none _ _ _) ad c xs ?hD) (Ent.sep enn) ?_
  case hD => exact RdS.mono hR (Ent.sep enn)
  intro g
  refine Hd.pure (fun hgr => ?_)
  refine Hd.yv (y_gtr rfl rfl) ?_
  refine Hd.yv (y_move rfl) ?_
  apply Hd.org 3 28 31 [(0, _), (1, _), (2, _), (3, _), (9, _)] rfl ⟨rfl, rfl, rfl, rfl, rfl, trivial⟩
  · intro hg2_28
    try simp only [decide_eq_true_eq, decide_eq_false_iff_not, Bool.and_eq_true, Bool.or_eq_true, Bool.and_eq_false_iff, Bool.or_eq_false_iff, Bool.not_eq_true', Bool.not_eq_false', Bool.not_eq_true, Bool.not_eq_false, Int.not_lt, Int.not_le, Decidable.not_not, ne_eq] at hg2_28
    simp only [List.take]
    refine Hd.ng rfl rfl rfl ?_
    refine Hd.ng rfl rfl rfl ?_
    first | (refine Hd.yv (y_pickT rfl rfl) ?_) | (refine Hd.yv (y_pickF rfl rfl) ?_) | (refine Hd.yv (y_pickb rfl rfl rfl) ?_) | (refine Hd.yv (y_pick rfl rfl rfl) ?_)
    refine Hd.nil ?_
    exact Hd.mend (by repeat (first | exact trivial | refine ⟨rfl, ?_⟩)) (Ent.sep enn)
  · intro hg2_28
    try simp only [decide_eq_true_eq, decide_eq_false_iff_not, Bool.and_eq_true, Bool.or_eq_true, Bool.and_eq_false_iff, Bool.or_eq_false_iff, Bool.not_eq_true', Bool.not_eq_false', Bool.not_eq_true, Bool.not_eq_false, Int.not_lt, Int.not_le, Decidable.not_not, ne_eq] at hg2_28
    simp only [List.take]
    refine Hd.yg rfl rfl (y_move rfl) ?_
    refine Hd.yg rfl rfl (y_lss rfl rfl) ?_
    first | (refine Hd.yv (y_pickT rfl rfl) ?_) | (refine Hd.yv (y_pickF rfl rfl) ?_) | (refine Hd.yv (y_pickb rfl rfl rfl) ?_) | (refine Hd.yv (y_pick rfl rfl rfl) ?_)
    refine Hd.nil ?_
    exact Hd.mend (by repeat (first | exact trivial | refine ⟨rfl, ?_⟩)) (Ent.sep enn)
  simp only [List.drop]
  refine Hd.yv (y_move rfl) ?_
  apply Hd.org 3 32 35 [(0, _), (1, _), (2, _), (3, _), (9, _)] rfl ⟨rfl, rfl, rfl, rfl, rfl, trivial⟩
  · intro hg2_32
    try simp only [decide_eq_true_eq, decide_eq_false_iff_not, Bool.and_eq_true, Bool.or_eq_true, Bool.and_eq_false_iff, Bool.or_eq_false_iff, Bool.not_eq_true', Bool.not_eq_false', Bool.not_eq_true, Bool.not_eq_false, Int.not_lt, Int.not_le, Decidable.not_not, ne_eq] at hg2_32
    simp only [List.take]
    refine Hd.ng rfl rfl rfl ?_
    refine Hd.ng rfl rfl rfl ?_
    first | (refine Hd.yv (y_pickT rfl rfl) ?_) | (refine Hd.yv (y_pickF rfl rfl) ?_) | (refine Hd.yv (y_pickb rfl rfl rfl) ?_) | (refine Hd.yv (y_pick rfl rfl rfl) ?_)
    refine Hd.nil ?_
    exact Hd.mend (by repeat (first | exact trivial | refine ⟨rfl, ?_⟩)) (Ent.sep enn)
  · intro hg2_32
    try simp only [decide_eq_true_eq, decide_eq_false_iff_not, Bool.and_eq_true, Bool.or_eq_true, Bool.and_eq_false_iff, Bool.or_eq_false_iff, Bool.not_eq_true', Bool.not_eq_false', Bool.not_eq_true, Bool.not_eq_false, Int.not_lt, Int.not_le, Decidable.not_not, ne_eq] at hg2_32
    simp only [List.take]
    refine Hd.yg rfl rfl (y_move rfl) ?_
    refine Hd.yg rfl rfl (y_gtr rfl rfl) ?_
    first | (refine Hd.yv (y_pickT rfl rfl) ?_) | (refine Hd.yv (y_pickF rfl rfl) ?_) | (refine Hd.yv (y_pickb rfl rfl rfl) ?_) | (refine Hd.yv (y_pick rfl rfl rfl) ?_)
    refine Hd.nil ?_
    exact Hd.mend (by repeat (first | exact trivial | refine ⟨rfl, ?_⟩)) (Ent.sep enn)
  simp only [List.drop]
  refine Hd.yv (y_move rfl) ?_
  apply Hd.org 3 36 39 [(0, _), (1, _), (2, _), (3, _), (9, _)] rfl ⟨rfl, rfl, rfl, rfl, rfl, trivial⟩
  · intro hg2_36
    try simp only [decide_eq_true_eq, decide_eq_false_iff_not, Bool.and_eq_true, Bool.or_eq_true, Bool.and_eq_false_iff, Bool.or_eq_false_iff, Bool.not_eq_true', Bool.not_eq_false', Bool.not_eq_true, Bool.not_eq_false, Int.not_lt, Int.not_le, Decidable.not_not, ne_eq] at hg2_36
    simp only [List.take]
    refine Hd.ng rfl rfl rfl ?_
    refine Hd.ng rfl rfl rfl ?_
    first | (refine Hd.yv (y_pickT rfl rfl) ?_) | (refine Hd.yv (y_pickF rfl rfl) ?_) | (refine Hd.yv (y_pickb rfl rfl rfl) ?_) | (refine Hd.yv (y_pick rfl rfl rfl) ?_)
    refine Hd.nil ?_
    exact Hd.mend (by repeat (first | exact trivial | refine ⟨rfl, ?_⟩)) (Ent.sep enn)
  · intro hg2_36
    try simp only [decide_eq_true_eq, decide_eq_false_iff_not, Bool.and_eq_true, Bool.or_eq_true, Bool.and_eq_false_iff, Bool.or_eq_false_iff, Bool.not_eq_true', Bool.not_eq_false', Bool.not_eq_true, Bool.not_eq_false, Int.not_lt, Int.not_le, Decidable.not_not, ne_eq] at hg2_36
    simp only [List.take]
    refine Hd.yg rfl rfl (y_move rfl) ?_
    refine Hd.yg rfl rfl (y_not rfl) ?_
    first | (refine Hd.yv (y_pickT rfl rfl) ?_) | (refine Hd.yv (y_pickF rfl rfl) ?_) | (refine Hd.yv (y_pickb rfl rfl rfl) ?_) | (refine Hd.yv (y_pick rfl rfl rfl) ?_)
    refine Hd.nil ?_
    exact Hd.mend (by repeat (first | exact trivial | refine ⟨rfl, ?_⟩)) (Ent.sep enn)
  simp only [List.drop]
  refine Hd.nil ?_
  refine Hd.slots [(0, _), (1, _), (2, _), (3, _), (9, _), (39, _)] ⟨rfl, rfl, rfl, rfl, rfl, rfl, trivial⟩ ?_
  refine Hd.toK hK4 ?_
  refine Hd.cond rfl (fun hc0 => ?_) (fun hc0 => ?_)
  ·
    try simp only [decide_eq_true_eq, decide_eq_false_iff_not, Bool.and_eq_true, Bool.or_eq_true, Bool.and_eq_false_iff, Bool.or_eq_false_iff, Bool.not_eq_true', Bool.not_eq_false', Bool.not_eq_true, Bool.not_eq_false, Int.not_lt, Int.not_le, Decidable.not_not, ne_eq] at hc0
    refine Hd.seq (fun K5 hK5 => ?_)
    refine Hd.region ?_
    refine Hd.yv (y_move rfl) ?_
    refine Hd.yv (y_assign rfl) ?_
    refine Hd.nil ?_
    refine Hd.slots [(8, _)] ⟨rfl, trivial⟩ ?_
    refine Hd.toK hK5 ?_
    refine Hd.ret ?_
    refine Hd.thenRet ?_
    clear hK1 hK2 hK3 hK4 hK5
    exact Hd.ret1 rfl () (by first | rfl | (simp only [*]; done) | (simp [*]; done)) (Ent.sep enn)
  ·
    try simp only [decide_eq_true_eq, decide_eq_false_iff_not, Bool.and_eq_true, Bool.or_eq_true, Bool.and_eq_false_iff, Bool.or_eq_false_iff, Bool.not_eq_true', Bool.not_eq_false', Bool.not_eq_true, Bool.not_eq_false, Int.not_lt, Int.not_le, Decidable.not_not, ne_eq] at hc0
    have hgr2 := (hgr (by omega)).2
    obtain ⟨hx, hbs⟩ := hgr2
    have hcp : 1 ≤ cp ∧ cp ≤ 500 := by omega
    clear hc0
    obtain ⟨n, rfl⟩ : ∃ n : Nat, cp = (n : Int) := ⟨cp.toNat, by omega⟩
    refine Hd.skip ?_
    refine Hd.toK hK3 ?_
    refine Hd.seq (fun K6 hK6 => ?_)
    refine Hd.region ?_
    refine Hd.callE rfl fk10 (wnew_ct _) (Ent.sep enn) ?_
    intro wb
    refine Hd.yv (y_assign rfl) ?_
    refine Hd.nil ?_
    refine Hd.slots [(0, _), (1, _), (2, _), (3, _), (9, _), (10, _)] ⟨rfl, rfl, rfl, rfl, rfl, rfl, trivial⟩ ?_
    refine Hd.toK hK6 ?_
    refine Hd.seq (fun K7 hK7 => ?_)
    refine Hd.region ?_
    refine Hd.yv (y_move rfl) ?_
    refine Hd.yv (y_move rfl) ?_
    refine Hd.callE rfl fk11 (pair_ct _ wb newA n (by omega) (by omega)) (Ent.sep enn) ?_
    intro _
    refine Hd.nil ?_
    refine Hd.slots [(1, _), (2, _), (3, _), (9, _), (10, _)] ⟨rfl, rfl, rfl, rfl, rfl, trivial⟩ ?_
    refine Hd.toK hK7 ?_
    refine Hd.seq (fun K8 hK8 => ?_)
    refine Hd.region ?_
    refine Hd.yv (y_move rfl) ?_
    refine Hd.callE rfl fk12 (bnew_ct _ wb (pairA n) 0 (op_pr (pr_new n))) (Ent.sep enn) ?_
    intro b
    refine Hd.yv (y_move rfl) ?_
    refine Hd.yv (y_extract rfl rfl) ?_
    refine Hd.yv (y_extract rfl rfl) ?_
    refine Hd.yv (y_assign rfl) ?_
    refine Hd.yv (y_assign rfl) ?_
    refine Hd.nil ?_
    refine Hd.slots [(1, _), (2, _), (3, _), (9, _), (10, _), (11, _), (12, _)] ⟨rfl, rfl, rfl, rfl, rfl, rfl, rfl, trivial⟩ ?_
    refine Hd.toK hK8 ?_
    refine Hd.seq (fun K9 hK9 => ?_)
    refine Hd.region ?_
    refine Hd.yv (y_move rfl) ?_
    refine Hd.yv (y_move rfl) ?_
    refine Hd.yv (y_move rfl) ?_
    refine Hd.callE rfl fk13 (marks_ct _ b wb (newB 0) 2 low high) (Ent.sep enn) ?_
    intro _
    refine Hd.yv (y_assign rfl) ?_
    refine Hd.nil ?_
    refine Hd.slots [(1, _), (2, _), (3, _), (9, _), (10, _), (11, _), (12, _), (13, _)] ⟨rfl, rfl, rfl, rfl, rfl, rfl, rfl, rfl, trivial⟩ ?_
    refine Hd.toK hK9 ?_
    refine Hd.seq (fun K10 hK10 => ?_)
    refine Hd.seq (fun K11 hK11 => ?_)
    refine Hd.region ?_
    refine Hd.yv (y_move rfl) ?_
    refine Hd.yv (y_to (y_neq rfl rfl) (congrArg Value.bool (decide_eq_false ((by simp))))) ?_
    refine Hd.yv (y_move rfl) ?_
    refine Hd.yg rfl rfl (y_move rfl) ?_
    refine Hd.yg rfl rfl (y_neq rfl rfl) ?_
    first | (refine Hd.yv (y_pickT rfl rfl) ?_) | (refine Hd.yv (y_pickF rfl rfl) ?_) | (refine Hd.yv (y_pickb rfl rfl rfl) ?_) | (refine Hd.yv (y_pick rfl rfl rfl) ?_)
    refine Hd.nil ?_
    refine Hd.slots [(1, _), (2, _), (3, _), (9, _), (10, _), (11, _), (12, _), (13, _), (59, _)] ⟨rfl, rfl, rfl, rfl, rfl, rfl, rfl, rfl, rfl, trivial⟩ ?_
    refine Hd.toK hK11 ?_
    refine Hd.cond rfl (fun hc1 => ?_) (fun hc1 => ?_)
    ·
      try simp only [decide_eq_true_eq, decide_eq_false_iff_not, Bool.and_eq_true, Bool.or_eq_true, Bool.and_eq_false_iff, Bool.or_eq_false_iff, Bool.not_eq_true', Bool.not_eq_false', Bool.not_eq_true, Bool.not_eq_false, Int.not_lt, Int.not_le, Decidable.not_not, ne_eq] at hc1
      have hb : mrkE 2 low high = 2 := by unfold mrkE at hc1 ⊢; split at hc1 <;> simp_all
      refine Hd.seq (fun K12 hK12 => ?_)
      refine Hd.region ?_
      refine Hd.yv (y_move rfl) ?_
      refine Hd.yv (y_move rfl) ?_
      refine Hd.yg rfl rfl (y_move rfl) ?_
      first | (refine Hd.yg rfl rfl (y_to (y_eqlT rfl rfl) (congrArg Value.bool (decide_eq_true (rfl)))) ?_) | (refine Hd.yg rfl rfl (y_to (y_eql rfl rfl) (congrArg Value.bool (decide_eq_true (rfl)))) ?_)
      first | (refine Hd.yv (y_pickT rfl rfl) ?_) | (refine Hd.yv (y_pickF rfl rfl) ?_) | (refine Hd.yv (y_pickb rfl rfl rfl) ?_) | (refine Hd.yv (y_pick rfl rfl rfl) ?_)
      refine Hd.yv (y_move rfl) ?_
      refine Hd.yg rfl rfl (y_move rfl) ?_
      first | (refine Hd.yg rfl rfl (y_to (y_eqlT rfl rfl) (congrArg Value.bool (decide_eq_true (hb)))) ?_) | (refine Hd.yg rfl rfl (y_to (y_eql rfl rfl) (congrArg Value.bool (decide_eq_true (hb)))) ?_)
      first | (refine Hd.yv (y_pickT rfl rfl) ?_) | (refine Hd.yv (y_pickF rfl rfl) ?_) | (refine Hd.yv (y_pickb rfl rfl rfl) ?_) | (refine Hd.yv (y_pick rfl rfl rfl) ?_)
      refine Hd.yv (y_assign rfl) ?_
      refine Hd.nil ?_
      refine Hd.slots [(8, _)] ⟨rfl, trivial⟩ ?_
      refine Hd.toK hK12 ?_
      refine Hd.ret ?_
      refine Hd.thenRet ?_
      clear hK1 hK2 hK3 hK4 hK6 hK7 hK8 hK9 hK10 hK11 hK12
      exact Hd.ret1 rfl () (by first | rfl | (simp only [*]; done) | (simp [*]; done)) (Ent.sep enn)
    ·
      try simp only [decide_eq_true_eq, decide_eq_false_iff_not, Bool.and_eq_true, Bool.or_eq_true, Bool.and_eq_false_iff, Bool.or_eq_false_iff, Bool.not_eq_true', Bool.not_eq_false', Bool.not_eq_true, Bool.not_eq_false, Int.not_lt, Int.not_le, Decidable.not_not, ne_eq] at hc1
      have hb : ¬ mrkBad 2 low high = true := by intro h; unfold mrkE at hc1; rw [if_pos h] at hc1; simp at hc1
      refine Hd.skip ?_
      refine Hd.toK hK10 ?_
      refine Hd.seq (fun K13 hK13 => ?_)
      refine Hd.region ?_
      refine Hd.yv (y_move rfl) ?_
      refine Hd.callE rfl fk14 (enable_ct _ b wb (mrkB (newB 0) 2 low high) (bok_mrk (bok_new 0) 2 low high).tm 0 2 (by simp [InK])) (Ent.sep enn) ?_
      intro _
      refine Hd.nil ?_
      refine Hd.slots [(1, _), (2, _), (3, _), (9, _), (10, _), (11, _)] ⟨rfl, rfl, rfl, rfl, rfl, rfl, trivial⟩ ?_
      refine Hd.toK hK13 ?_
      refine Hd.seq (fun K14 hK14 => ?_)
      refine Hd.region ?_
      refine Hd.yv (y_move rfl) ?_
      refine Hd.yv (y_build (vs := [(0, _)]) rfl (by first | exact bd3_72 .. | kernel_rfl)) ?_
      refine Hd.box rfl rfl (fun b73 => ?_)
      refine Hd.yv (y_assign rfl) ?_
      refine Hd.nil ?_
      refine Hd.slots [(1, _), (2, _), (3, _), (9, _), (11, _), (14, _)] ⟨rfl, rfl, rfl, rfl, rfl, rfl, trivial⟩ ?_
      refine Hd.toK hK14 ?_
      refine Hd.seq (fun K15 hK15 => ?_)
      refine Hd.seq (fun K16 hK16 => ?_)
      refine Hd.heap (BufP b wb (mkX low high) :: WorldP wb (pairA n) :: PpP b73 wb [] [] :: L) (fun k' s => Ent.sep (.pick pkk (.pick pkk (.eq pkk (pt_eq (by rfl)) enn))) k' s) ?_
      refine Hd.region ?_
      refine Hd.yv (y_assign rfl) ?_
      refine Hd.nil ?_
      refine Hd.slots [(1, _), (2, _), (3, _), (9, _), (11, _), (14, _), (15, _)] ⟨rfl, rfl, rfl, rfl, rfl, rfl, rfl, trivial⟩ ?_
      refine Hd.toK hK16 ?_
      refine Hd.block ?_
      refine Hd.loopK (ι := Nat × BfA × WA × (Nat → List UInt8) × List UInt8) [(1, _), (2, _), (3, _), (9, _), (11, _), (14, _)] (fun q_ => [(15, .int .i64 (q_.1 : Int))]) (fun q_ => pu (q_.1 ≤ xs.length ∧ MkI n low high q_.2.1 q_.2.2.1 q_.2.2.2.1 ∧ q_.2.2.2.2.length ≤ 300 * q_.1) :: BufP b wb q_.2.1 :: WorldP wb q_.2.2.1 :: PpP b73 wb q_.2.2.2.2 [] :: L) (fun q_ => xs.length - q_.1) (0, mkX low high, pairA n, (fun _ => []), []) (by repeat (first | exact trivial | refine ⟨rfl, ?_⟩)) (by repeat (first | exact trivial | refine ⟨rfl, ?_⟩)) (Ent.sep (.pure ⟨Nat.zero_le _, mk_new hb, Nat.zero_le _⟩ enn)) ?_
      rintro ⟨i, x, w, l, Q⟩
      try dsimp only
      refine Hd.pure (fun hp0 => ?_)
      try dsimp only at hp0
      refine Hd.seq (fun K17 hK17 => ?_)
      refine Hd.seq (fun K18 hK18 => ?_)
      refine Hd.region ?_
      refine Hd.yv (y_move rfl) ?_
      refine Hd.yv (y_move rfl) ?_
      refine Hd.yv (y_len Try.underlying22 rfl) ?_
      refine Hd.yv (y_lss rfl rfl) ?_
      refine Hd.nil ?_
      refine Hd.slots [(1, _), (2, _), (3, _), (9, _), (11, _), (14, _), (15, _), (77, _)] ⟨rfl, rfl, rfl, rfl, rfl, rfl, rfl, rfl, trivial⟩ ?_
      refine Hd.toK hK18 ?_
      refine Hd.cond rfl (fun hc2 => ?_) (fun hc2 => ?_)
      ·
        try simp only [decide_eq_true_eq, decide_eq_false_iff_not, Bool.and_eq_true, Bool.or_eq_true, Bool.and_eq_false_iff, Bool.or_eq_false_iff, Bool.not_eq_true', Bool.not_eq_false', Bool.not_eq_true, Bool.not_eq_false, Int.not_lt, Int.not_le, Decidable.not_not, ne_eq] at hc2
        obtain ⟨_, hI, hQ⟩ := hp0
        have hi : i < xs.length := by omega
        obtain ⟨o, ho⟩ : ∃ o, xs[i]? = some o := ⟨_, List.getElem?_eq_getElem hi⟩
        have hoo := hok o (List.mem_of_getElem? ho)
        have hbo := hbs o (List.mem_of_getElem? ho)
        have hon := hoo.n
        have hrl := roomB_len n (l 0) o.x.d
        simp only [InK] at hon
        refine Hd.bufLen (b := b) (wb := wb) (x := x) pkk (fun hlen => ?_)
        obtain ⟨σ, hσ⟩ : ∃ σ, stepS x w o.now o.sd o.n o.m = σ := ⟨_, rfl⟩
        obtain ⟨got, hgot⟩ : ∃ got, stG x l o.sd o.n = got := ⟨_, rfl⟩
        obtain ⟨hI2, hs1, hs2, hs3, hs4, hs5⟩ := hI.step hoo.now o.sd o.n o.m
        rw [hσ, hgot] at hI2
        rw [hσ, hgot] at hs1 hs2 hs3
        rw [hgot] at hs4 hs5
        have hlen2 : (σ.x.s 0).c.length = (x.s 0).c.length + got.length := by rw [hs1, List.length_append]
        refine Hd.skip ?_
        refine Hd.toK hK17 ?_
        refine Hd.seq (fun K19 hK19 => ?_)
        refine Hd.block ?_
        refine Hd.seq (fun K20 hK20 => ?_)
        refine Hd.region ?_
        refine Hd.yv (y_move rfl) ?_
        refine Hd.yv (y_move rfl) ?_
        first | (refine Hd.yv (y_idxS Try.underlying22 sz43 rfl rfl (by first | omega | decide)) ?_) | (refine Hd.yv (y_idxR Try.underlying22 sz43 rfl rfl (by first | omega | decide) (by (first | exact RdS.own pkk | exact RdS.mono hR (Ent.sep enn)))) ?_)
        refine Hd.yv (y_loadRn (vs := [_, _, _, _, _, _, _, _, _, _, _, _, _]) ag43 rfl (RdS.mono hR (Ent.sep enn)) (flat_cells encC 13 (fun _ => rfl) ho) (by exact sz43) (by simp)) ?_
        refine Hd.alloc zr43 (fun b16 => ?_)
        refine Hd.storeA (us := encC o) sz43 rfl rfl rfl (by simp [Value.oneCell']) pkk (by exact rfl) ?_
        refine Hd.nil ?_
        refine Hd.slots [(1, _), (2, _), (3, _), (9, _), (11, _), (14, _), (15, _), (16, _)] ⟨rfl, rfl, rfl, rfl, rfl, rfl, rfl, rfl, trivial⟩ ?_
        refine Hd.toK hK20 ?_
        refine Hd.cutK (ι := BfA × WA × (Nat → List UInt8) × List UInt8) [(1, _), (2, _), (3, _), (9, _), (11, _), (14, _), (15, _)] (fun _ => []) (fun j => pu (MkI n low high j.1 j.2.1 j.2.2.1 ∧ j.2.2.2.length ≤ 300 * (i + 1)) :: BufP b wb j.1 :: WorldP wb j.2.1 :: PpP b73 wb j.2.2.2 [] :: L) ?_ ?_ ⟨rfl, rfl, rfl, rfl, rfl, rfl, rfl, trivial⟩
        ·
          refine Hd.seq (fun K21 hK21 => ?_)
          refine Hd.region ?_
          first | (refine Hd.yv (y_field' (q := 0) (ft := 3) Try.underlying43 rfl sz3 rfl rfl) ?_) | (refine Hd.yv (y_fieldR (q := 0) (ft := 3) Try.underlying43 rfl sz3 rfl rfl) ?_)
          first | (refine Hd.yv (y_load1 ag3 rfl (Rd.pt1 pkk (by (first | rfl)))) ?_) | (refine Hd.yv (y_load1 ag3 rfl (Rd.seg1 pkk (by (first | rfl)))) ?_) | (refine Hd.yv (y_load1 ag3 rfl (Rd.segK1 pkk (by decide) (by (first | rfl)))) ?_) | (refine Hd.yv (y_loadR1 ag3 rfl (by (first | exact RdS.own pkk | exact RdS.mono hR (Ent.sep enn))) (by (first | rfl))) ?_)
          refine Hd.nil ?_
          refine Hd.slots [(1, _), (2, _), (3, _), (9, _), (11, _), (14, _), (15, _), (16, _), (85, _)] ⟨rfl, rfl, rfl, rfl, rfl, rfl, rfl, rfl, rfl, trivial⟩ ?_
          refine Hd.toK hK21 ?_
          refine Hd.block ?_
          refine Hd.seq (fun K22 hK22 => ?_)
          refine Hd.region ?_
          first | (refine Hd.yv (y_eqlT rfl rfl) ?_) | (refine Hd.yv (y_eql rfl rfl) ?_)
          refine Hd.yv (y_assign rfl) ?_
          refine Hd.nil ?_
          refine Hd.slots [(1, _), (2, _), (3, _), (9, _), (11, _), (14, _), (15, _), (16, _), (85, _), (86, _)] ⟨rfl, rfl, rfl, rfl, rfl, rfl, rfl, rfl, rfl, rfl, trivial⟩ ?_
          refine Hd.toK hK22 ?_
          refine Hd.cond rfl (fun hc3 => ?_) (fun hc3 => ?_)
          ·
            try simp only [decide_eq_true_eq, decide_eq_false_iff_not, Bool.and_eq_true, Bool.or_eq_true, Bool.and_eq_false_iff, Bool.or_eq_false_iff, Bool.not_eq_true', Bool.not_eq_false', Bool.not_eq_true, Bool.not_eq_false, Int.not_lt, Int.not_le, Decidable.not_not, ne_eq] at hc3
            refine Hd.region ?_
            refine Hd.yv (y_move rfl) ?_
            first | (refine Hd.yv (y_field' (q := 8) (ft := 41) Try.underlying43 rfl sz41 rfl rfl) ?_) | (refine Hd.yv (y_fieldR (q := 8) (ft := 41) Try.underlying43 rfl sz41 rfl rfl) ?_)
            first | (refine Hd.yv (y_field' (q := 4) (ft := 39) Try.underlying41 rfl sz39 rfl rfl) ?_) | (refine Hd.yv (y_fieldR (q := 4) (ft := 39) Try.underlying41 rfl sz39 rfl rfl) ?_)
            first | (refine Hd.yv (y_load1 ag39 rfl (Rd.pt1 pkk (by (first | rfl)))) ?_) | (refine Hd.yv (y_load1 ag39 rfl (Rd.seg1 pkk (by (first | rfl)))) ?_) | (refine Hd.yv (y_load1 ag39 rfl (Rd.segK1 pkk (by decide) (by (first | rfl)))) ?_) | (refine Hd.yv (y_loadR1 ag39 rfl (by (first | exact RdS.own pkk | exact RdS.mono hR (Ent.sep enn))) (by (first | rfl))) ?_)
            refine Hd.callE rfl fk15 (put_ct _ b73 wb n w l hI.w Q [] o.x.ad o.x.d.length o.x.c o.x.d rfl ?hD hoo.x.c (by omega) (by omega)) (Ent.sep enn) ?_
            case hD => exact RdS.mono hoo.x.rd (Ent.sep enn)
            intro _
            refine Hd.nil ?_
            refine Hd.slots [(1, _), (2, _), (3, _), (9, _), (11, _), (14, _), (15, _)] ⟨rfl, rfl, rfl, rfl, rfl, rfl, rfl, trivial⟩ ?_
            refine Hd.inB ?_
            clear hK1 hK2 hK3 hK4 hK6 hK7 hK8 hK9 hK10 hK11 hK13 hK14 hK15 hK16 hK17 hK18 hK19 hK20 hK21 hK22
            refine Hd.thenN ?_
            exact Hd.meet (x, (writeR w 1 o.x.d).2, updL l 0 (l 0 ++ roomB n (l 0) o.x.d), Q ++ roomB n (l 0) o.x.d) (by repeat (first | exact trivial | refine ⟨rfl, ?_⟩)) (Ent.sep (.pure ⟨hI.put o.x.d, by show (Q ++ roomB n (l 0) o.x.d).length ≤ _; rw [List.length_append]; omega⟩ enn))
          ·
            try simp only [decide_eq_true_eq, decide_eq_false_iff_not, Bool.and_eq_true, Bool.or_eq_true, Bool.and_eq_false_iff, Bool.or_eq_false_iff, Bool.not_eq_true', Bool.not_eq_false', Bool.not_eq_true, Bool.not_eq_false, Int.not_lt, Int.not_le, Decidable.not_not, ne_eq] at hc3
            refine Hd.seq (fun K23 hK23 => ?_)
            refine Hd.region ?_
            first | (refine Hd.yv (y_eqlT rfl rfl) ?_) | (refine Hd.yv (y_eql rfl rfl) ?_)
            refine Hd.yv (y_assign rfl) ?_
            refine Hd.nil ?_
            refine Hd.slots [(1, _), (2, _), (3, _), (9, _), (11, _), (14, _), (15, _), (16, _), (85, _), (93, _)] ⟨rfl, rfl, rfl, rfl, rfl, rfl, rfl, rfl, rfl, rfl, trivial⟩ ?_
            refine Hd.toK hK23 ?_
            refine Hd.cond rfl (fun hc4 => ?_) (fun hc4 => ?_)
            ·
              try simp only [decide_eq_true_eq, decide_eq_false_iff_not, Bool.and_eq_true, Bool.or_eq_true, Bool.and_eq_false_iff, Bool.or_eq_false_iff, Bool.not_eq_true', Bool.not_eq_false', Bool.not_eq_true, Bool.not_eq_false, Int.not_lt, Int.not_le, Decidable.not_not, ne_eq] at hc4
              refine Hd.region ?_
              refine Hd.yv (y_move rfl) ?_
              first | (refine Hd.yv (y_field' (q := 3) (ft := 3) Try.underlying43 rfl sz3 rfl rfl) ?_) | (refine Hd.yv (y_fieldR (q := 3) (ft := 3) Try.underlying43 rfl sz3 rfl rfl) ?_)
              first | (refine Hd.yv (y_load1 ag3 rfl (Rd.pt1 pkk (by (first | rfl)))) ?_) | (refine Hd.yv (y_load1 ag3 rfl (Rd.seg1 pkk (by (first | rfl)))) ?_) | (refine Hd.yv (y_load1 ag3 rfl (Rd.segK1 pkk (by decide) (by (first | rfl)))) ?_) | (refine Hd.yv (y_loadR1 ag3 rfl (by (first | exact RdS.own pkk | exact RdS.mono hR (Ent.sep enn))) (by (first | rfl))) ?_)
              refine Hd.callE rfl fk16 (bread_ct _ b wb x o.n (by omega)) (Ent.sep enn) ?_
              rintro ⟨a5, c5⟩
              dsimp only
              refine Hd.nil ?_
              refine Hd.slots [(1, _), (2, _), (3, _), (9, _), (11, _), (14, _), (15, _)] ⟨rfl, rfl, rfl, rfl, rfl, rfl, rfl, trivial⟩ ?_
              refine Hd.inB ?_
              clear hK1 hK2 hK3 hK4 hK6 hK7 hK8 hK9 hK10 hK11 hK13 hK14 hK15 hK16 hK17 hK18 hK19 hK20 hK21 hK22 hK23
              refine Hd.thenN ?_
              exact Hd.meet (readB x o.n, w, l, Q) (by repeat (first | exact trivial | refine ⟨rfl, ?_⟩)) (Ent.sep (.pure ⟨hI.get o.n, by show Q.length ≤ _; omega⟩ enn))
            ·
              try simp only [decide_eq_true_eq, decide_eq_false_iff_not, Bool.and_eq_true, Bool.or_eq_true, Bool.and_eq_false_iff, Bool.or_eq_false_iff, Bool.not_eq_true', Bool.not_eq_false', Bool.not_eq_true, Bool.not_eq_false, Int.not_lt, Int.not_le, Decidable.not_not, ne_eq] at hc4
              refine Hd.seq (fun K24 hK24 => ?_)
              refine Hd.region ?_
              first | (refine Hd.yv (y_eqlT rfl rfl) ?_) | (refine Hd.yv (y_eql rfl rfl) ?_)
              refine Hd.yv (y_assign rfl) ?_
              refine Hd.nil ?_
              refine Hd.slots [(1, _), (2, _), (3, _), (9, _), (11, _), (14, _), (15, _), (16, _), (99, _)] ⟨rfl, rfl, rfl, rfl, rfl, rfl, rfl, rfl, rfl, trivial⟩ ?_
              refine Hd.toK hK24 ?_
              refine Hd.cond rfl (fun hc5 => ?_) (fun hc5 => ?_)
              ·
                try simp only [decide_eq_true_eq, decide_eq_false_iff_not, Bool.and_eq_true, Bool.or_eq_true, Bool.and_eq_false_iff, Bool.or_eq_false_iff, Bool.not_eq_true', Bool.not_eq_false', Bool.not_eq_true, Bool.not_eq_false, Int.not_lt, Int.not_le, Decidable.not_not, ne_eq] at hc5
                refine Hd.seq (fun K25 hK25 => ?_)
                refine Hd.region ?_
                refine Hd.yv (y_move rfl) ?_
                refine Hd.callE rfl fk17 (lens_ct _ b wb x) (Ent.sep enn) ?_
                intro _
                refine Hd.yv (y_move rfl) ?_
                refine Hd.yv (y_extract rfl rfl) ?_
                refine Hd.yv (y_extract rfl rfl) ?_
                refine Hd.yv (y_assign rfl) ?_
                refine Hd.yv (y_assign rfl) ?_
                refine Hd.nil ?_
                refine Hd.slots [(1, _), (2, _), (3, _), (9, _), (11, _), (14, _), (15, _), (16, _), (17, _)] ⟨rfl, rfl, rfl, rfl, rfl, rfl, rfl, rfl, rfl, trivial⟩ ?_
                refine Hd.toK hK25 ?_
                refine Hd.seq (fun K26 hK26 => ?_)
                refine Hd.region ?_
                refine Hd.yv (y_move rfl) ?_
                first | (refine Hd.yv (y_field' (q := 1) (ft := 35) Try.underlying43 rfl sz35 rfl rfl) ?_) | (refine Hd.yv (y_fieldR (q := 1) (ft := 35) Try.underlying43 rfl sz35 rfl rfl) ?_)
                first | (refine Hd.yv (y_load1 ag35 rfl (Rd.pt1 pkk (by (first | rfl)))) ?_) | (refine Hd.yv (y_load1 ag35 rfl (Rd.seg1 pkk (by (first | rfl)))) ?_) | (refine Hd.yv (y_load1 ag35 rfl (Rd.segK1 pkk (by decide) (by (first | rfl)))) ?_) | (refine Hd.yv (y_loadR1 ag35 rfl (by (first | exact RdS.own pkk | exact RdS.mono hR (Ent.sep enn))) (by (first | rfl))) ?_)
                first | (refine Hd.yv (y_field' (q := 2) (ft := 3) Try.underlying43 rfl sz3 rfl rfl) ?_) | (refine Hd.yv (y_fieldR (q := 2) (ft := 3) Try.underlying43 rfl sz3 rfl rfl) ?_)
                first | (refine Hd.yv (y_load1 ag3 rfl (Rd.pt1 pkk (by (first | rfl)))) ?_) | (refine Hd.yv (y_load1 ag3 rfl (Rd.seg1 pkk (by (first | rfl)))) ?_) | (refine Hd.yv (y_load1 ag3 rfl (Rd.segK1 pkk (by decide) (by (first | rfl)))) ?_) | (refine Hd.yv (y_loadR1 ag3 rfl (by (first | exact RdS.own pkk | exact RdS.mono hR (Ent.sep enn))) (by (first | rfl))) ?_)
                first | (refine Hd.yv (y_field' (q := 3) (ft := 3) Try.underlying43 rfl sz3 rfl rfl) ?_) | (refine Hd.yv (y_fieldR (q := 3) (ft := 3) Try.underlying43 rfl sz3 rfl rfl) ?_)
                first | (refine Hd.yv (y_load1 ag3 rfl (Rd.pt1 pkk (by (first | rfl)))) ?_) | (refine Hd.yv (y_load1 ag3 rfl (Rd.seg1 pkk (by (first | rfl)))) ?_) | (refine Hd.yv (y_load1 ag3 rfl (Rd.segK1 pkk (by decide) (by (first | rfl)))) ?_) | (refine Hd.yv (y_loadR1 ag3 rfl (by (first | exact RdS.own pkk | exact RdS.mono hR (Ent.sep enn))) (by (first | rfl))) ?_)
                first | (refine Hd.yv (y_field' (q := 4) (ft := 3) Try.underlying43 rfl sz3 rfl rfl) ?_) | (refine Hd.yv (y_fieldR (q := 4) (ft := 3) Try.underlying43 rfl sz3 rfl rfl) ?_)
                first | (refine Hd.yv (y_load1 ag3 rfl (Rd.pt1 pkk (by (first | rfl)))) ?_) | (refine Hd.yv (y_load1 ag3 rfl (Rd.seg1 pkk (by (first | rfl)))) ?_) | (refine Hd.yv (y_load1 ag3 rfl (Rd.segK1 pkk (by decide) (by (first | rfl)))) ?_) | (refine Hd.yv (y_loadR1 ag3 rfl (by (first | exact RdS.own pkk | exact RdS.mono hR (Ent.sep enn))) (by (first | rfl))) ?_)
                refine Hd.callE rfl fk18 (step_ct _ b wb x w hI.ok.tm hI.ok.hi o.now o.sd o.n o.m hoo.now (by omega) hoo.m) (Ent.sep enn) ?_
                intro _
                rw [hσ]
                refine Hd.alloc zr49 (fun b19 => ?_)
                refine Hd.storeA (us := encT σ.t) sz49 rfl rfl rfl (by simp [Value.oneCell']) pkk (by exact rfl) ?_
                refine Hd.nil ?_
                refine Hd.slots [(1, _), (2, _), (3, _), (9, _), (11, _), (14, _), (15, _), (16, _), (17, _), (19, _)] ⟨rfl, rfl, rfl, rfl, rfl, rfl, rfl, rfl, rfl, rfl, trivial⟩ ?_
                refine Hd.toK hK26 ?_
                refine Hd.seq (fun K27 hK27 => ?_)
                refine Hd.region ?_
                refine Hd.yv (y_move rfl) ?_
                refine Hd.callE rfl fk17 (lens_ct _ b wb σ.x) (Ent.sep enn) ?_
                intro _
                refine Hd.yv (y_move rfl) ?_
                refine Hd.yv (y_extract rfl rfl) ?_
                refine Hd.yv (y_extract rfl rfl) ?_
                refine Hd.yv (y_assign rfl) ?_
                refine Hd.yv (y_assign rfl) ?_
                refine Hd.nil ?_
                refine Hd.slots [(1, _), (2, _), (3, _), (9, _), (11, _), (14, _), (15, _), (16, _), (17, _), (19, _), (20, _)] ⟨rfl, rfl, rfl, rfl, rfl, rfl, rfl, rfl, rfl, rfl, rfl, trivial⟩ ?_
                refine Hd.toK hK27 ?_
                refine Hd.seq (fun K28 hK28 => ?_)
                refine Hd.region ?_
                refine Hd.yv (y_move rfl) ?_
                refine Hd.yv (y_move rfl) ?_
                first | (refine Hd.yv (y_field' (q := 4) (ft := 3) Try.underlying49 rfl sz3 rfl rfl) ?_) | (refine Hd.yv (y_fieldR (q := 4) (ft := 3) Try.underlying49 rfl sz3 rfl rfl) ?_)
                first | (refine Hd.yv (y_load1 ag3 rfl (Rd.pt1 pkk (by (first | rfl)))) ?_) | (refine Hd.yv (y_load1 ag3 rfl (Rd.seg1 pkk (by (first | rfl)))) ?_) | (refine Hd.yv (y_load1 ag3 rfl (Rd.segK1 pkk (by decide) (by (first | rfl)))) ?_) | (refine Hd.yv (y_loadR1 ag3 rfl (by (first | exact RdS.own pkk | exact RdS.mono hR (Ent.sep enn))) (by (first | rfl))) ?_)
                first | (refine Hd.yv (y_addn rfl rfl (by simp only [InK]; omega)) ?_) | (refine Hd.yv (y_add rfl rfl) ?_)
                refine Hd.yv (y_to (y_neq rfl rfl) (congrArg Value.bool (decide_eq_false ((by intro h; exact h (by rw [hs2, hlen2]; omega)))))) ?_
                refine Hd.yv (y_move rfl) ?_
                first | (refine Hd.yg rfl rfl (y_field' (q := 0) (ft := 4) Try.underlying49 rfl sz4 rfl rfl) ?_) | (refine Hd.yg rfl rfl (y_fieldR (q := 0) (ft := 4) Try.underlying49 rfl sz4 rfl rfl) ?_)
                first | (refine Hd.yg rfl rfl (y_load1 ag4 rfl (Rd.pt1 pkk (by (first | rfl)))) ?_) | (refine Hd.yg rfl rfl (y_load1 ag4 rfl (Rd.seg1 pkk (by (first | rfl)))) ?_) | (refine Hd.yg rfl rfl (y_load1 ag4 rfl (Rd.segK1 pkk (by decide) (by (first | rfl)))) ?_) | (refine Hd.yg rfl rfl (y_loadR1 ag4 rfl (by (first | exact RdS.own pkk | exact RdS.mono hR (Ent.sep enn))) (by (first | rfl))) ?_)
                first | (refine Hd.yg rfl rfl (y_field' (q := 4) (ft := 3) Try.underlying49 rfl sz3 rfl rfl) ?_) | (refine Hd.yg rfl rfl (y_fieldR (q := 4) (ft := 3) Try.underlying49 rfl sz3 rfl rfl) ?_)
                first | (refine Hd.yg rfl rfl (y_load1 ag3 rfl (Rd.pt1 pkk (by (first | rfl)))) ?_) | (refine Hd.yg rfl rfl (y_load1 ag3 rfl (Rd.seg1 pkk (by (first | rfl)))) ?_) | (refine Hd.yg rfl rfl (y_load1 ag3 rfl (Rd.segK1 pkk (by decide) (by (first | rfl)))) ?_) | (refine Hd.yg rfl rfl (y_loadR1 ag3 rfl (by (first | exact RdS.own pkk | exact RdS.mono hR (Ent.sep enn))) (by (first | rfl))) ?_)
                refine Hd.yg rfl rfl (y_gtr rfl rfl) ?_
                refine Hd.yg rfl rfl (y_move rfl) ?_
                apply Hd.andg 4 133 137 [(1, _), (2, _), (3, _), (9, _), (11, _), (14, _), (15, _), (16, _), (19, _), (127, _), (129, _)] rfl ⟨rfl, rfl, rfl, rfl, rfl, rfl, rfl, rfl, rfl, rfl, rfl, trivial⟩
                · intro hg25_133
                  try simp only [decide_eq_true_eq, decide_eq_false_iff_not, Bool.and_eq_true, Bool.or_eq_true, Bool.and_eq_false_iff, Bool.or_eq_false_iff, Bool.not_eq_true', Bool.not_eq_false', Bool.not_eq_true, Bool.not_eq_false, Int.not_lt, Int.not_le, Decidable.not_not, ne_eq] at hg25_133
                  simp only [List.take]
                  refine Hd.yg rfl rfl (y_move rfl) ?_
                  refine Hd.yg rfl rfl (y_move rfl) ?_
                  refine Hd.yg rfl rfl (y_geq rfl rfl) ?_
                  first | (refine Hd.yg rfl rfl (y_pickT rfl rfl) ?_) | (refine Hd.yg rfl rfl (y_pickF rfl rfl) ?_) | (refine Hd.yg rfl rfl (y_pickb rfl rfl rfl) ?_) | (refine Hd.yg rfl rfl (y_pick rfl rfl rfl) ?_)
                  refine Hd.nil ?_
                  exact Hd.mend (by repeat (first | exact trivial | refine ⟨rfl, ?_⟩)) (Ent.sep enn)
                · intro hg25_133
                  try simp only [decide_eq_true_eq, decide_eq_false_iff_not, Bool.and_eq_true, Bool.or_eq_true, Bool.and_eq_false_iff, Bool.or_eq_false_iff, Bool.not_eq_true', Bool.not_eq_false', Bool.not_eq_true, Bool.not_eq_false, Int.not_lt, Int.not_le, Decidable.not_not, ne_eq] at hg25_133
                  simp only [List.take]
                  refine Hd.ng rfl rfl rfl ?_
                  refine Hd.ng rfl rfl rfl ?_
                  refine Hd.ng rfl rfl rfl ?_
                  first | (refine Hd.yg rfl rfl (y_pickT rfl rfl) ?_) | (refine Hd.yg rfl rfl (y_pickF rfl rfl) ?_) | (refine Hd.yg rfl rfl (y_pickb rfl rfl rfl) ?_) | (refine Hd.yg rfl rfl (y_pick rfl rfl rfl) ?_)
                  refine Hd.nil ?_
                  exact Hd.mend (by repeat (first | exact trivial | refine ⟨rfl, ?_⟩)) (Ent.sep enn)
                simp only [List.drop]
                refine Hd.yg rfl rfl (y_to (v' := .bool false) (y_neqb Try.underlying4 rfl rfl) (by (rw [hs2, hs3, hlen2, List.length_append]; simp))) ?_
                first | (refine Hd.yv (y_pickT rfl rfl) ?_) | (refine Hd.yv (y_pickF rfl rfl) ?_) | (refine Hd.yv (y_pickb rfl rfl rfl) ?_) | (refine Hd.yv (y_pick rfl rfl rfl) ?_)
                refine Hd.yv (y_move rfl) ?_
                first | (refine Hd.yg rfl rfl (y_field' (q := 4) (ft := 3) Try.underlying49 rfl sz3 rfl rfl) ?_) | (refine Hd.yg rfl rfl (y_fieldR (q := 4) (ft := 3) Try.underlying49 rfl sz3 rfl rfl) ?_)
                first | (refine Hd.yg rfl rfl (y_load1 ag3 rfl (Rd.pt1 pkk (by (first | rfl)))) ?_) | (refine Hd.yg rfl rfl (y_load1 ag3 rfl (Rd.seg1 pkk (by (first | rfl)))) ?_) | (refine Hd.yg rfl rfl (y_load1 ag3 rfl (Rd.segK1 pkk (by decide) (by (first | rfl)))) ?_) | (refine Hd.yg rfl rfl (y_loadR1 ag3 rfl (by (first | exact RdS.own pkk | exact RdS.mono hR (Ent.sep enn))) (by (first | rfl))) ?_)
                refine Hd.yg rfl rfl (y_to (y_lss rfl rfl) (congrArg Value.bool (decide_eq_false ((by rw [hs2]; omega))))) ?_
                first | (refine Hd.yv (y_pickT rfl rfl) ?_) | (refine Hd.yv (y_pickF rfl rfl) ?_) | (refine Hd.yv (y_pickb rfl rfl rfl) ?_) | (refine Hd.yv (y_pick rfl rfl rfl) ?_)
                refine Hd.yv (y_move rfl) ?_
                first | (refine Hd.yg rfl rfl (y_field' (q := 3) (ft := 3) Try.underlying43 rfl sz3 rfl rfl) ?_) | (refine Hd.yg rfl rfl (y_fieldR (q := 3) (ft := 3) Try.underlying43 rfl sz3 rfl rfl) ?_)
                first | (refine Hd.yg rfl rfl (y_load1 ag3 rfl (Rd.pt1 pkk (by (first | rfl)))) ?_) | (refine Hd.yg rfl rfl (y_load1 ag3 rfl (Rd.seg1 pkk (by (first | rfl)))) ?_) | (refine Hd.yg rfl rfl (y_load1 ag3 rfl (Rd.segK1 pkk (by decide) (by (first | rfl)))) ?_) | (refine Hd.yg rfl rfl (y_loadR1 ag3 rfl (by (first | exact RdS.own pkk | exact RdS.mono hR (Ent.sep enn))) (by (first | rfl))) ?_)
                refine Hd.yg rfl rfl (y_geq rfl rfl) ?_
                refine Hd.yg rfl rfl (y_move rfl) ?_
                apply Hd.andg 6 149 155 [(1, _), (2, _), (3, _), (9, _), (11, _), (14, _), (15, _), (145, _)] rfl ⟨rfl, rfl, rfl, rfl, rfl, rfl, rfl, rfl, trivial⟩
                · intro hg25_149
                  try simp only [decide_eq_true_eq, decide_eq_false_iff_not, Bool.and_eq_true, Bool.or_eq_true, Bool.and_eq_false_iff, Bool.or_eq_false_iff, Bool.not_eq_true', Bool.not_eq_false', Bool.not_eq_true, Bool.not_eq_false, Int.not_lt, Int.not_le, Decidable.not_not, ne_eq] at hg25_149
                  simp only [List.take]
                  first | (refine Hd.yg rfl rfl (y_field' (q := 4) (ft := 3) Try.underlying49 rfl sz3 rfl rfl) ?_) | (refine Hd.yg rfl rfl (y_fieldR (q := 4) (ft := 3) Try.underlying49 rfl sz3 rfl rfl) ?_)
                  first | (refine Hd.yg rfl rfl (y_load1 ag3 rfl (Rd.pt1 pkk (by (first | rfl)))) ?_) | (refine Hd.yg rfl rfl (y_load1 ag3 rfl (Rd.seg1 pkk (by (first | rfl)))) ?_) | (refine Hd.yg rfl rfl (y_load1 ag3 rfl (Rd.segK1 pkk (by decide) (by (first | rfl)))) ?_) | (refine Hd.yg rfl rfl (y_loadR1 ag3 rfl (by (first | exact RdS.own pkk | exact RdS.mono hR (Ent.sep enn))) (by (first | rfl))) ?_)
                  first | (refine Hd.yg rfl rfl (y_field' (q := 3) (ft := 3) Try.underlying43 rfl sz3 rfl rfl) ?_) | (refine Hd.yg rfl rfl (y_fieldR (q := 3) (ft := 3) Try.underlying43 rfl sz3 rfl rfl) ?_)
                  first | (refine Hd.yg rfl rfl (y_load1 ag3 rfl (Rd.pt1 pkk (by (first | rfl)))) ?_) | (refine Hd.yg rfl rfl (y_load1 ag3 rfl (Rd.seg1 pkk (by (first | rfl)))) ?_) | (refine Hd.yg rfl rfl (y_load1 ag3 rfl (Rd.segK1 pkk (by decide) (by (first | rfl)))) ?_) | (refine Hd.yg rfl rfl (y_loadR1 ag3 rfl (by (first | exact RdS.own pkk | exact RdS.mono hR (Ent.sep enn))) (by (first | rfl))) ?_)
                  refine Hd.yg rfl rfl (y_gtr rfl rfl) ?_
                  first | (refine Hd.yg rfl rfl (y_pickT rfl rfl) ?_) | (refine Hd.yg rfl rfl (y_pickF rfl rfl) ?_) | (refine Hd.yg rfl rfl (y_pickb rfl rfl rfl) ?_) | (refine Hd.yg rfl rfl (y_pick rfl rfl rfl) ?_)
                  refine Hd.nil ?_
                  exact Hd.mend (by repeat (first | exact trivial | refine ⟨rfl, ?_⟩)) (Ent.sep enn)
                · intro hg25_149
                  try simp only [decide_eq_true_eq, decide_eq_false_iff_not, Bool.and_eq_true, Bool.or_eq_true, Bool.and_eq_false_iff, Bool.or_eq_false_iff, Bool.not_eq_true', Bool.not_eq_false', Bool.not_eq_true, Bool.not_eq_false, Int.not_lt, Int.not_le, Decidable.not_not, ne_eq] at hg25_149
                  simp only [List.take]
                  refine Hd.ng rfl rfl rfl ?_
                  refine Hd.ng rfl rfl rfl ?_
                  refine Hd.ng rfl rfl rfl ?_
                  refine Hd.ng rfl rfl rfl ?_
                  refine Hd.ng rfl rfl rfl ?_
                  first | (refine Hd.yg rfl rfl (y_pickT rfl rfl) ?_) | (refine Hd.yg rfl rfl (y_pickF rfl rfl) ?_) | (refine Hd.yg rfl rfl (y_pickb rfl rfl rfl) ?_) | (refine Hd.yg rfl rfl (y_pick rfl rfl rfl) ?_)
                  refine Hd.nil ?_
                  exact Hd.mend (by repeat (first | exact trivial | refine ⟨rfl, ?_⟩)) (Ent.sep enn)
                simp only [List.drop]
                first | (refine Hd.yv (y_to (v' := .bool false) (y_pickT rfl rfl) (by (rw [hs2]; simp; omega))) ?_) | (refine Hd.yv (y_to (v' := .bool false) (y_pickF rfl rfl) (by (rw [hs2]; simp; omega))) ?_) | (refine Hd.yv (y_to (v' := .bool false) (y_pickb rfl rfl rfl) (by (rw [hs2]; simp; omega))) ?_) | (refine Hd.yv (y_to (v' := .bool false) (y_pick rfl rfl rfl) (by (rw [hs2]; simp; omega))) ?_)
                refine Hd.nil ?_
                refine Hd.slots [(1, _), (2, _), (3, _), (9, _), (11, _), (14, _), (15, _), (156, _)] ⟨rfl, rfl, rfl, rfl, rfl, rfl, rfl, rfl, trivial⟩ ?_
                refine Hd.toK hK28 ?_
                refine Hd.condF rfl ?_
                refine Hd.skip ?_
                refine Hd.inB ?_
                clear hK1 hK2 hK3 hK4 hK6 hK7 hK8 hK9 hK10 hK11 hK13 hK14 hK15 hK16 hK17 hK18 hK19 hK20 hK21 hK22 hK23 hK24 hK25 hK26 hK27 hK28
                refine Hd.thenN ?_
                exact Hd.meet (σ.x, σ.w, _, Q) (by repeat (first | exact trivial | refine ⟨rfl, ?_⟩)) (Ent.sep (.pure ⟨hI2, by show Q.length ≤ _; omega⟩ enn))
              ·
                try simp only [decide_eq_true_eq, decide_eq_false_iff_not, Bool.and_eq_true, Bool.or_eq_true, Bool.and_eq_false_iff, Bool.or_eq_false_iff, Bool.not_eq_true', Bool.not_eq_false', Bool.not_eq_true, Bool.not_eq_false, Int.not_lt, Int.not_le, Decidable.not_not, ne_eq] at hc5
                refine Hd.skip ?_
                refine Hd.inB ?_
                clear hK1 hK2 hK3 hK4 hK6 hK7 hK8 hK9 hK10 hK11 hK13 hK14 hK15 hK16 hK17 hK18 hK19 hK20 hK21 hK22 hK23 hK24
                refine Hd.thenN ?_
                exact Hd.meet (x, w, l, Q) (by repeat (first | exact trivial | refine ⟨rfl, ?_⟩)) (Ent.sep (.pure ⟨hI, by show Q.length ≤ _; omega⟩ enn))
        ·
          rintro ⟨x2, w2, l2, Q2⟩
          dsimp only
          refine Hd.pure (fun hj => ?_)
          have hle2 := hj.1.le
          refine Hd.seq (fun K29 hK29 => ?_)
          refine Hd.region ?_
          refine Hd.yv (y_move rfl) ?_
          refine Hd.callE rfl fk17 (lens_ct _ b wb x2) (Ent.sep enn) ?_
          intro _
          refine Hd.yv (y_move rfl) ?_
          refine Hd.yv (y_extract rfl rfl) ?_
          refine Hd.yv (y_extract rfl rfl) ?_
          refine Hd.yv (y_assign rfl) ?_
          refine Hd.yv (y_assign rfl) ?_
          refine Hd.nil ?_
          refine Hd.slots [(1, _), (2, _), (3, _), (9, _), (11, _), (14, _), (15, _), (22, _)] ⟨rfl, rfl, rfl, rfl, rfl, rfl, rfl, rfl, trivial⟩ ?_
          refine Hd.toK hK29 ?_
          refine Hd.seq (fun K30 hK30 => ?_)
          refine Hd.region ?_
          refine Hd.yv (y_move rfl) ?_
          refine Hd.yv (y_gtr rfl rfl) ?_
          refine Hd.yv (y_move rfl) ?_
          apply Hd.andg 4 164 168 [(1, _), (2, _), (3, _), (9, _), (11, _), (14, _), (15, _)] rfl ⟨rfl, rfl, rfl, rfl, rfl, rfl, rfl, trivial⟩
          · intro hg28_164
            try simp only [decide_eq_true_eq, decide_eq_false_iff_not, Bool.and_eq_true, Bool.or_eq_true, Bool.and_eq_false_iff, Bool.or_eq_false_iff, Bool.not_eq_true', Bool.not_eq_false', Bool.not_eq_true, Bool.not_eq_false, Int.not_lt, Int.not_le, Decidable.not_not, ne_eq] at hg28_164
            simp only [List.take]
            refine Hd.yg rfl rfl (y_move rfl) ?_
            refine Hd.yg rfl rfl (y_move rfl) ?_
            refine Hd.yg rfl rfl (y_gtr rfl rfl) ?_
            first | (refine Hd.yv (y_pickT rfl rfl) ?_) | (refine Hd.yv (y_pickF rfl rfl) ?_) | (refine Hd.yv (y_pickb rfl rfl rfl) ?_) | (refine Hd.yv (y_pick rfl rfl rfl) ?_)
            refine Hd.nil ?_
            exact Hd.mend (by repeat (first | exact trivial | refine ⟨rfl, ?_⟩)) (Ent.sep enn)
          · intro hg28_164
            try simp only [decide_eq_true_eq, decide_eq_false_iff_not, Bool.and_eq_true, Bool.or_eq_true, Bool.and_eq_false_iff, Bool.or_eq_false_iff, Bool.not_eq_true', Bool.not_eq_false', Bool.not_eq_true, Bool.not_eq_false, Int.not_lt, Int.not_le, Decidable.not_not, ne_eq] at hg28_164
            simp only [List.take]
            refine Hd.ng rfl rfl rfl ?_
            refine Hd.ng rfl rfl rfl ?_
            refine Hd.ng rfl rfl rfl ?_
            first | (refine Hd.yv (y_pickT rfl rfl) ?_) | (refine Hd.yv (y_pickF rfl rfl) ?_) | (refine Hd.yv (y_pickb rfl rfl rfl) ?_) | (refine Hd.yv (y_pick rfl rfl rfl) ?_)
            refine Hd.nil ?_
            exact Hd.mend (by repeat (first | exact trivial | refine ⟨rfl, ?_⟩)) (Ent.sep enn)
          simp only [List.drop]
          refine Hd.nil ?_
          refine Hd.slots [(1, _), (2, _), (3, _), (9, _), (11, _), (14, _), (15, _), (168, _)] ⟨rfl, rfl, rfl, rfl, rfl, rfl, rfl, rfl, trivial⟩ ?_
          refine Hd.toK hK30 ?_
          refine Hd.cond rfl (fun hc7 => ?_) (fun hc7 => ?_)
          ·
            try simp only [decide_eq_true_eq, decide_eq_false_iff_not, Bool.and_eq_true, Bool.or_eq_true, Bool.and_eq_false_iff, Bool.or_eq_false_iff, Bool.not_eq_true', Bool.not_eq_false', Bool.not_eq_true, Bool.not_eq_false, Int.not_lt, Int.not_le, Decidable.not_not, ne_eq] at hc7
            exact (by have := hle2 hc7.1; omega : False).elim
          ·
            try simp only [decide_eq_true_eq, decide_eq_false_iff_not, Bool.and_eq_true, Bool.or_eq_true, Bool.and_eq_false_iff, Bool.or_eq_false_iff, Bool.not_eq_true', Bool.not_eq_false', Bool.not_eq_true, Bool.not_eq_false, Int.not_lt, Int.not_le, Decidable.not_not, ne_eq] at hc7
            refine Hd.skip ?_
            refine Hd.inB ?_
            refine Hd.toK hK19 ?_
            refine Hd.region ?_
            refine Hd.yv (y_move rfl) ?_
            first | (refine Hd.yv (y_addn rfl rfl (by simp only [InK]; omega)) ?_) | (refine Hd.yv (y_add rfl rfl) ?_)
            refine Hd.yv (y_assign rfl) ?_
            refine Hd.nil ?_
            refine Hd.slots [(1, _), (2, _), (3, _), (9, _), (11, _), (14, _), (15, _)] ⟨rfl, rfl, rfl, rfl, rfl, rfl, rfl, trivial⟩ ?_
            clear hK1 hK2 hK3 hK4 hK6 hK7 hK8 hK9 hK10 hK11 hK13 hK14 hK15 hK16 hK17 hK18 hK19 hK20 hK29 hK30
            refine Hd.thenN ?_
            exact Hd.again (i + 1, x2, w2, l2, Q2) (by first | omega | (simp only; omega) | (simp; omega)) (by repeat (first | exact trivial | refine ⟨rfl, ?_⟩)) (Ent.sep (.pure ⟨hi, hj.1, hj.2⟩ enn))
      ·
        try simp only [decide_eq_true_eq, decide_eq_false_iff_not, Bool.and_eq_true, Bool.or_eq_true, Bool.and_eq_false_iff, Bool.or_eq_false_iff, Bool.not_eq_true', Bool.not_eq_false', Bool.not_eq_true, Bool.not_eq_false, Int.not_lt, Int.not_le, Decidable.not_not, ne_eq] at hc2
        refine Hd.exit ?_
        refine Hd.thenExit ?_
        refine Hd.thenExit ?_
        refine Hd.inBexit ?_
        refine Hd.toK hK15 ?_
        refine Hd.seq (fun K31 hK31 => ?_)
        refine Hd.region ?_
        refine Hd.yv (y_move rfl) ?_
        refine Hd.yv (y_assign rfl) ?_
        refine Hd.nil ?_
        refine Hd.slots [(8, _)] ⟨rfl, trivial⟩ ?_
        refine Hd.toK hK31 ?_
        refine Hd.ret ?_
        clear hK1 hK2 hK3 hK4 hK6 hK7 hK8 hK9 hK10 hK11 hK13 hK14 hK15 hK16 hK17 hK18 hK31
        exact Hd.ret1 rfl () (by first | rfl | (simp only [*]; done) | (simp [*]; done)) (Ent.sep enn)
end Bu
end Go.Proofs.Ytmpemhbfgbochaa
