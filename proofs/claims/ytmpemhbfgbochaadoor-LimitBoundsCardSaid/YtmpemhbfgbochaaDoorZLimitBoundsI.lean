/-
  Limits: Wants, Step. Limits: When; rates; what gives buckets rates. Limits: rates, and what gives buckets rates. Limits: groups and limiters made, joined, left; calls on none. Bufev's laws: the world with one pair, in plain words. Bufev's laws: steps over a pair, in plain words. Bufev's laws: Step over a pair, in plain words.
-/
import Derived.Test.YtmpemhbfgbochaaDoorZLimitBoundsH
namespace Go.Proofs.YtmpemhbfgbochaaDoor
set_option linter.unusedSimpArgs false
set_option linter.unusedVariables false
set_option linter.unnecessarySimpa false
open Go.RX Fx
namespace Lm
open Bu Wo
set_option maxRecDepth 8000
abbrev flV : List Value := [.int .i64 2, .int .i64 4]
theorem fl_at {k : Nat} (hk : k < 2) : (flV.toArray)[k * 1]? = some (.int .i64 (flagA k)) := by
  rcases (show k = 0 ∨ k = 1 by omega) with rfl | rfl <;> rfl
def lvA (l : LmA) (G : GrA) (x y : Nat → BkA) (k : Nat) : Int := lvS (l.b k) (gsl l.g G k) (x k) (y k)
def lwK (l : LmA) (G : GrA) (x y : Nat → BkA) (m : Int) (k : Nat) : Int := (List.range k).foldl (fun m k => if lvA l G x y k = 0 then bits .andNot .i64 m (flagA k) else m) m
theorem lwK_succ (l : LmA) (G : GrA) (x y : Nat → BkA) (m : Int) (k : Nat) : lwK l G x y m (k + 1) = if lvA l G x y k = 0 then bits .andNot .i64 (lwK l G x y m k) (flagA k) else lwK l G x y m k := by
  unfold lwK; rw [List.range_succ, List.foldl_append]; rfl
theorem cmA_idem {x : Nat → BkA} (h : ∀ k, BkOk (x k)) {now : Int} (hn : InK .u64 now) : cmA now (cmA now x) = cmA now x := funext fun k => come_idem (h k) hn
set_option maxHeartbeats 2000000 in
theorem lwants_ct (L : List SP) (lb wb : Nat) (l : LmA) (G : GrA) (x y : Nat → BkA) (h : ConOk x y) (X : BfA) (now : Int) (hn : InK .u64 now) (hF : Rd L 0 0 flV) : Ct Tryd.prog 16 #[.pointer (some ⟨lb, 0, none⟩), .int .u64 now] (LgL lb l G x y (BufP l.buf wb X :: L)) (fun _ : Unit => .int .i64 (lwK l G (cmA now x) (cmA now y) (wantsA X) 2)) (fun _ : Unit => LgL lb l G (cmA now x) (cmA now y) (BufP l.buf wb X :: L)) := by
  refine Ct.of (vs := [.pointer (some ⟨lb, 0, none⟩), .int .u64 now]) Tryd.func16 rfl rfl [(0, .pointer (some ⟨lb, 0, none⟩)), (1, .int .u64 now)] (by repeat (first | exact trivial | refine ⟨rfl, ?_⟩)) ?_
  intro E
  show Hd E 33 _ _ _ _
  refine Hd.seq (fun K1 hK1 => ?_)
  refine Hd.region ?_
  refine Hd.yv (y_assign rfl) ?_
  refine Hd.nil ?_
  refine Hd.slots [(0, _), (1, _)] ⟨rfl, rfl, trivial⟩ ?_
  refine Hd.toK hK1 ?_
  refine Hd.seq (fun K2 hK2 => ?_)
  refine Hd.seq (fun K3 hK3 => ?_)
  refine Hd.region ?_
  refine Hd.yv (y_move rfl) ?_
  refine Hd.callE rfl fk30 (lnone_ct _ lb l) (Ent.sep enn) ?_
  intro _
  refine Hd.nil ?_
  refine Hd.slots [(0, _), (1, _), (9, _)] ⟨rfl, rfl, rfl, trivial⟩ ?_
  refine Hd.toK hK3 ?_
  refine Hd.condF rfl ?_
  refine Hd.skip ?_
  refine Hd.toK hK2 ?_
  refine Hd.seq (fun K4 hK4 => ?_)
  refine Hd.region ?_
  refine Hd.yv (y_move rfl) ?_
  refine Hd.yv (y_move rfl) ?_
  refine Hd.callE rfl fk39 (lcomes_ct _ lb l G x y h now hn) (Ent.sep enn) ?_
  intro _
  refine Hd.nil ?_
  refine Hd.slots [(0, _), (1, _)] ⟨rfl, rfl, trivial⟩ ?_
  refine Hd.toK hK4 ?_
  refine Hd.seq (fun K5 hK5 => ?_)
  refine Hd.region ?_
  refine Hd.yv (y_move rfl) ?_
  refine Hd.yv (y_nilp rfl) ?_
  first | (refine Hd.yv (y_field' (q := 0) (ft := 39) Tryd.underlying79 rfl sz39 rfl rfl) ?_) | (refine Hd.yv (y_fieldR (q := 0) (ft := 39) Tryd.underlying79 rfl sz39 rfl rfl) ?_)
  first | (refine Hd.yv (y_load1 ag39 rfl (Rd.pt1 pkk (by (first | rfl)))) ?_) | (refine Hd.yv (y_load1 ag39 rfl (Rd.seg1 pkk (by (first | rfl)))) ?_) | (refine Hd.yv (y_loadR1 ag39 rfl (by (first | exact RdS.own pkk)) (by (first | rfl))) ?_)
  refine Hd.callE rfl fk28 (wants_ct _ l.buf wb X) (Ent.sep enn) ?_
  intro _
  refine Hd.yv (y_assign rfl) ?_
  refine Hd.nil ?_
  refine Hd.slots [(0, _), (1, _), (5, _)] ⟨rfl, rfl, rfl, trivial⟩ ?_
  refine Hd.toK hK5 ?_
  refine Hd.seq (fun K6 hK6 => ?_)
  refine Hd.seq (fun K7 hK7 => ?_)
  refine Hd.region ?_
  refine Hd.yv (y_loadn (us := flV) ag107 rfl (Rd.mono hF (Ent.sep enn)) (by exact sz107)) ?_
  refine Hd.yv (y_move rfl) ?_
  refine Hd.nil ?_
  refine Hd.slots [(0, _), (1, _), (5, _), (18, _), (19, _)] ⟨rfl, rfl, rfl, rfl, rfl, trivial⟩ ?_
  refine Hd.toK hK7 ?_
  refine Hd.block ?_
  refine Hd.loopK (ι := Nat) [(0, _), (1, _), (18, _)] (fun k => [(5, .int .i64 (lwK l G (cmA now x) (cmA now y) (wantsA X) k)), (19, .int .i64 (k : Int))]) (fun k => pu (k ≤ 2) :: LgL lb l G (cmA now x) (cmA now y) (BufP l.buf wb X :: L)) (fun k => 2 - k) 0 (by repeat (first | exact trivial | refine ⟨rfl, ?_⟩)) (by repeat (first | exact trivial | refine ⟨rfl, ?_⟩)) (Ent.sep (.pure (by first | omega | (simp; done) | (simp; omega) | exact ⟨by simp, by simp⟩) enn)) ?_
  intro k
  try dsimp only
  refine Hd.pure (fun hp0 => ?_)
  try dsimp only at hp0
  refine Hd.seq (fun K8 hK8 => ?_)
  refine Hd.region ?_
  refine Hd.yv (y_lss rfl rfl) ?_
  refine Hd.nil ?_
  refine Hd.slots [(0, _), (1, _), (5, _), (18, _), (19, _), (20, _)] ⟨rfl, rfl, rfl, rfl, rfl, rfl, trivial⟩ ?_
  refine Hd.toK hK8 ?_
  refine Hd.seq (fun K9 hK9 => ?_)
  refine Hd.cond rfl (fun hc1 => ?_) (fun hc1 => ?_)
  ·
    try simp only [decide_eq_true_eq, decide_eq_false_iff_not, Bool.and_eq_true, Bool.or_eq_true, Bool.and_eq_false_iff, Bool.or_eq_false_iff, Bool.not_eq_true', Bool.not_eq_false', Bool.not_eq_true, Bool.not_eq_false, Int.not_lt, Int.not_le, Decidable.not_not, ne_eq] at hc1
    have hk : k < 2 := by omega
    refine Hd.skip ?_
    refine Hd.toK hK9 ?_
    refine Hd.seq (fun K10 hK10 => ?_)
    refine Hd.block ?_
    refine Hd.seq (fun K11 hK11 => ?_)
    refine Hd.region ?_
    refine Hd.yv (y_move rfl) ?_
    refine Hd.yv (y_index1 Tryd.underlying107 ag3 sz3 rfl rfl (by first | omega | decide) (by first | exact fl_at hk | rfl)) ?_
    refine Hd.yv (y_assign rfl) ?_
    refine Hd.yv (y_assign rfl) ?_
    refine Hd.nil ?_
    refine Hd.slots [(0, _), (1, _), (5, _), (6, _), (7, _), (18, _), (19, _)] ⟨rfl, rfl, rfl, rfl, rfl, rfl, rfl, trivial⟩ ?_
    refine Hd.toK hK11 ?_
    refine Hd.seq (fun K12 hK12 => ?_)
    refine Hd.region ?_
    refine Hd.yv (y_move rfl) ?_
    refine Hd.yv (y_move rfl) ?_
    refine Hd.yv (y_move rfl) ?_
    refine Hd.callE rfl fk40 (leave_ct _ lb l G (cmA now x) (cmA now y) (con_come h hn) k hk now hn (at_come h hn)) (Ent.sep enn) ?_
    intro _
    first | (refine Hd.yv (y_eqlT rfl rfl) ?_) | (refine Hd.yv (y_eql rfl rfl) ?_)
    refine Hd.nil ?_
    refine Hd.slots [(0, _), (1, _), (5, _), (7, _), (18, _), (19, _), (27, _)] ⟨rfl, rfl, rfl, rfl, rfl, rfl, rfl, trivial⟩ ?_
    refine Hd.toK hK12 ?_
    refine Hd.cond rfl (fun hc2 => ?_) (fun hc2 => ?_)
    ·
      try simp only [decide_eq_true_eq, decide_eq_false_iff_not, Bool.and_eq_true, Bool.or_eq_true, Bool.and_eq_false_iff, Bool.or_eq_false_iff, Bool.not_eq_true', Bool.not_eq_false', Bool.not_eq_true, Bool.not_eq_false, Int.not_lt, Int.not_le, Decidable.not_not, ne_eq] at hc2
      refine Hd.region ?_
      refine Hd.yv (y_move rfl) ?_
      refine Hd.yv (y_move rfl) ?_
      refine Hd.yv (y_andNot rfl rfl) ?_
      refine Hd.yv (y_assign rfl) ?_
      refine Hd.nil ?_
      refine Hd.slots [(0, _), (1, _), (5, _), (18, _), (19, _)] ⟨rfl, rfl, rfl, rfl, rfl, trivial⟩ ?_
      refine Hd.inB ?_
      refine Hd.toK hK10 ?_
      refine Hd.region ?_
      first | (refine Hd.yv (y_addn rfl rfl (by simp only [InK]; omega)) ?_) | (refine Hd.yv (y_add rfl rfl) ?_)
      refine Hd.yv (y_move rfl) ?_
      refine Hd.nil ?_
      refine Hd.slots [(0, _), (1, _), (5, _), (18, _), (19, _)] ⟨rfl, rfl, rfl, rfl, rfl, trivial⟩ ?_
      clear hK1 hK2 hK3 hK4 hK5 hK6 hK7 hK8 hK9 hK10 hK11 hK12
      refine Hd.thenN ?_
      have hs : lwK l G (cmA now x) (cmA now y) (wantsA X) (k + 1) = bits .andNot .i64 (lwK l G (cmA now x) (cmA now y) (wantsA X) k) (flagA k) := by rw [lwK_succ, if_pos (show lvA l G (cmA now x) (cmA now y) k = 0 from hc2)]
      rw [← hs]
      exact Hd.again (k + 1) (by first | omega | (simp only; omega) | (simp; omega)) (by repeat (first | exact trivial | refine ⟨rfl, ?_⟩)) (Ent.sep (.pure (by first | omega | (simp; done) | (simp; omega) | (dsimp only; omega)) enn))
    ·
      try simp only [decide_eq_true_eq, decide_eq_false_iff_not, Bool.and_eq_true, Bool.or_eq_true, Bool.and_eq_false_iff, Bool.or_eq_false_iff, Bool.not_eq_true', Bool.not_eq_false', Bool.not_eq_true, Bool.not_eq_false, Int.not_lt, Int.not_le, Decidable.not_not, ne_eq] at hc2
      refine Hd.skip ?_
      refine Hd.inB ?_
      refine Hd.toK hK10 ?_
      refine Hd.region ?_
      first | (refine Hd.yv (y_addn rfl rfl (by simp only [InK]; omega)) ?_) | (refine Hd.yv (y_add rfl rfl) ?_)
      refine Hd.yv (y_move rfl) ?_
      refine Hd.nil ?_
      refine Hd.slots [(0, _), (1, _), (5, _), (18, _), (19, _)] ⟨rfl, rfl, rfl, rfl, rfl, trivial⟩ ?_
      clear hK1 hK2 hK3 hK4 hK5 hK6 hK7 hK8 hK9 hK10 hK11 hK12
      refine Hd.thenN ?_
      have hs : lwK l G (cmA now x) (cmA now y) (wantsA X) (k + 1) = lwK l G (cmA now x) (cmA now y) (wantsA X) k := by rw [lwK_succ, if_neg (show ¬ lvA l G (cmA now x) (cmA now y) k = 0 from hc2)]
      rw [← hs]
      exact Hd.again (k + 1) (by first | omega | (simp only; omega) | (simp; omega)) (by repeat (first | exact trivial | refine ⟨rfl, ?_⟩)) (Ent.sep (.pure (by first | omega | (simp; done) | (simp; omega) | (dsimp only; omega)) enn))
  ·
    try simp only [decide_eq_true_eq, decide_eq_false_iff_not, Bool.and_eq_true, Bool.or_eq_true, Bool.and_eq_false_iff, Bool.or_eq_false_iff, Bool.not_eq_true', Bool.not_eq_false', Bool.not_eq_true, Bool.not_eq_false, Int.not_lt, Int.not_le, Decidable.not_not, ne_eq] at hc1
    obtain rfl : k = 2 := by omega
    refine Hd.exit ?_
    refine Hd.thenExit ?_
    refine Hd.thenExit ?_
    refine Hd.inBexit ?_
    refine Hd.toK hK6 ?_
    refine Hd.seq (fun K13 hK13 => ?_)
    refine Hd.region ?_
    refine Hd.yv (y_move rfl) ?_
    refine Hd.yv (y_assign rfl) ?_
    refine Hd.nil ?_
    refine Hd.slots [(4, _)] ⟨rfl, trivial⟩ ?_
    refine Hd.toK hK13 ?_
    refine Hd.ret ?_
    clear hK1 hK2 hK3 hK4 hK5 hK6 hK7 hK8 hK9 hK13
    exact Hd.ret1 rfl () (by first | rfl | (simp only [*]; done) | (simp [*]; done)) (Ent.sep enn)
def stX (now : Int) (t : ToA) (x : Nat → BkA) : Nat → BkA := fun k => tak (x k) now (if k = 0 then t.i else t.o)
def lsS (l : LmA) (G : GrA) (x y : Nat → BkA) (X : BfA) (w : WA) (now flags : Int) : StA :=
  stepS X w now (bits .and .i64 flags (lwK l G (cmA now x) (cmA now y) (wantsA X) 2)) (lvA l G (cmA now x) (cmA now y) 0) (lvA l G (cmA now x) (cmA now y) 1)
theorem tak_once {x : BkA} (h : BkOk x) {now : Int} (hn : InK .u64 now) (n : Int) : tak (come x now) now n = tak x now n := by unfold tak; rw [come_idem h hn]
theorem stX_cm {x : Nat → BkA} (h : ∀ k, BkOk (x k)) {now : Int} (hn : InK .u64 now) (t : ToA) : stX now t (cmA now x) = stX now t x := funext fun k => tak_once (h k) hn _
set_option maxHeartbeats 2000000 in
theorem lstep_ct (L : List SP) (lb wb : Nat) (l : LmA) (G : GrA) (x y : Nat → BkA) (h : ConOk x y) (X : BfA) (hX : BOk X) (w : WA) (now flags : Int) (hn : InK .u64 now) (hF : Rd L 0 0 flV) (σ : StA) (hσ : lsS l G x y X w now flags = σ) (hi : InK .i64 σ.t.i) (ho : InK .i64 σ.t.o) : Ct Tryd.prog 11 #[.pointer (some ⟨lb, 0, none⟩), .int .u64 now, .int .i64 flags] (LgL lb l G x y (BufP l.buf wb X :: WorldP wb w :: L)) (fun _ : Unit => .agg (encT σ.t).toArray) (fun _ : Unit => LgL lb l G (stX now σ.t x) (stX now σ.t y) (BufP l.buf wb σ.x :: WorldP wb σ.w :: L)) := by
  refine Ct.ofM (vs := [.pointer (some ⟨lb, 0, none⟩), .int .u64 now, .int .i64 flags]) Tryd.func11 rfl rfl [(0, .pointer (some ⟨lb, 0, none⟩)), (1, .int .u64 now), (2, .int .i64 flags)] (by repeat (first | exact trivial | refine ⟨rfl, ?_⟩)) ?_
  intro E
  show Hd E 51 _ _ _ _
  have hv0 := lvS_in (l.b 0) (gsl l.g G 0) (cmA now x 0) (cmA now y 0)
  have hv1 := lvS_in (l.b 1) (gsl l.g G 1) (cmA now x 1) (cmA now y 1)
  refine Hd.seq (fun K1 hK1 => ?_)
  refine Hd.region ?_
  refine Hd.box rfl rfl (fun b4 => ?_)
  refine Hd.alloc zr37 (fun b6 => ?_)
  refine Hd.nil ?_
  refine Hd.slots [(0, _), (2, _), (4, _), (6, _)] ⟨rfl, rfl, rfl, rfl, trivial⟩ ?_
  refine Hd.toK hK1 ?_
  refine Hd.seq (fun K2 hK2 => ?_)
  refine Hd.seq (fun K3 hK3 => ?_)
  refine Hd.region ?_
  refine Hd.yv (y_move rfl) ?_
  refine Hd.callE rfl fk30 (lnone_ct _ lb l) (Ent.sep enn) ?_
  intro _
  refine Hd.nil ?_
  refine Hd.slots [(0, _), (2, _), (4, _), (6, _), (13, _)] ⟨rfl, rfl, rfl, rfl, rfl, trivial⟩ ?_
  refine Hd.toK hK3 ?_
  refine Hd.condF rfl ?_
  refine Hd.skip ?_
  refine Hd.toK hK2 ?_
  refine Hd.seq (fun K4 hK4 => ?_)
  refine Hd.region ?_
  refine Hd.yv (y_move rfl) ?_
  first | (refine Hd.yv (y_load1 ag22 rfl (Rd.pt1 pkk (by (first | rfl)))) ?_) | (refine Hd.yv (y_load1 ag22 rfl (Rd.seg1 pkk (by (first | rfl)))) ?_) | (refine Hd.yv (y_loadR1 ag22 rfl (by (first | exact RdS.own pkk)) (by (first | rfl))) ?_)
  refine Hd.callE rfl fk14 (leaves_ct _ lb l G x y h now hn) (Ent.sep enn) ?_
  intro _
  refine Hd.yv (y_move rfl) ?_
  refine Hd.yv (y_extract rfl rfl) ?_
  refine Hd.yv (y_extract rfl rfl) ?_
  refine Hd.yv (y_assign rfl) ?_
  refine Hd.yv (y_assign rfl) ?_
  refine Hd.nil ?_
  refine Hd.slots [(0, _), (2, _), (4, _), (6, _), (7, _), (8, _)] ⟨rfl, rfl, rfl, rfl, rfl, rfl, trivial⟩ ?_
  refine Hd.toK hK4 ?_
  refine Hd.cutK (ι := Nat) [(0, _), (4, _), (6, _)] (fun b9 => [(9, .pointer (some ⟨b9, 0, none⟩))]) (fun b9 => LgL lb l G (cmA now x) (cmA now y) (BufP l.buf wb σ.x :: WorldP wb σ.w :: pt b9 (encT σ.t) 37 :: pt b6 (encT noT) 37 :: pt b4 [.int .u64 now] 22 :: L)) ?_ ?_ ⟨rfl, rfl, rfl, trivial⟩
  ·
    refine Hd.drawsH ([LmH lb l, pt b4 [.int .u64 now] 22]) (fun j => !([14].contains j)) mixed ?_
    simp only [List.length, Nat.zero_add, Nat.reduceAdd]
    refine Hd.takeH 0 rfl (by kernel_rfl) (by kernel_rfl) (by kernel_rfl) (by kernel_rfl) (y_move rfl) (fun _ _ => rfl) (Ent.sep enn) ?_
    refine Hd.takeH 1 rfl (by kernel_rfl) (by kernel_rfl) (by kernel_rfl) (by kernel_rfl) (y_nilp rfl) (fun _ _ => rfl) (Ent.sep enn) ?_
    first | (refine Hd.takeH 2 rfl (by kernel_rfl) (by kernel_rfl) (by kernel_rfl) (by kernel_rfl) (y_field' (q := 0) (ft := 39) Tryd.underlying79 rfl sz39 rfl rfl) (fun _ _ => rfl) (Ent.sep enn) ?_) | (refine Hd.takeH 2 rfl (by kernel_rfl) (by kernel_rfl) (by kernel_rfl) (by kernel_rfl) (y_fieldR (q := 0) (ft := 39) Tryd.underlying79 rfl sz39 rfl rfl) (fun _ _ => rfl) (Ent.sep enn) ?_)
    first | (refine Hd.takeH 3 rfl (by kernel_rfl) (by kernel_rfl) (by kernel_rfl) (by kernel_rfl) (y_load1 ag39 rfl (Rd.pt1 pkk (by (first | rfl)))) (fun _ _ => rfl) (Ent.sep enn) ?_) | (refine Hd.takeH 3 rfl (by kernel_rfl) (by kernel_rfl) (by kernel_rfl) (by kernel_rfl) (y_load1 ag39 rfl (Rd.seg1 pkk (by (first | rfl)))) (fun _ _ => rfl) (Ent.sep enn) ?_) | (refine Hd.takeH 3 rfl (by kernel_rfl) (by kernel_rfl) (by kernel_rfl) (by kernel_rfl) (y_loadR1 ag39 rfl (by (first | exact RdS.own pkk)) (by (first | rfl))) (fun _ _ => rfl) (Ent.sep enn) ?_)
    first | (refine Hd.takeH 4 rfl (by kernel_rfl) (by kernel_rfl) (by kernel_rfl) (by kernel_rfl) (y_load1 ag22 rfl (Rd.pt1 pkk (by (first | rfl)))) (fun _ _ => rfl) (Ent.sep enn) ?_) | (refine Hd.takeH 4 rfl (by kernel_rfl) (by kernel_rfl) (by kernel_rfl) (by kernel_rfl) (y_load1 ag22 rfl (Rd.seg1 pkk (by (first | rfl)))) (fun _ _ => rfl) (Ent.sep enn) ?_) | (refine Hd.takeH 4 rfl (by kernel_rfl) (by kernel_rfl) (by kernel_rfl) (by kernel_rfl) (y_loadR1 ag22 rfl (by (first | exact RdS.own pkk)) (by (first | rfl))) (fun _ _ => rfl) (Ent.sep enn) ?_)
    refine Hd.takeH 5 rfl (by kernel_rfl) (by kernel_rfl) (by kernel_rfl) (by kernel_rfl) (y_move rfl) (fun _ _ => rfl) (Ent.sep enn) ?_
    refine Hd.takeH 6 rfl (by kernel_rfl) (by kernel_rfl) (by kernel_rfl) (by kernel_rfl) (y_move rfl) (fun _ _ => rfl) (Ent.sep enn) ?_
    first | (refine Hd.takeH 7 rfl (by kernel_rfl) (by kernel_rfl) (by kernel_rfl) (by kernel_rfl) (y_load1 ag22 rfl (Rd.pt1 pkk (by (first | rfl)))) (fun _ _ => rfl) (Ent.sep enn) ?_) | (refine Hd.takeH 7 rfl (by kernel_rfl) (by kernel_rfl) (by kernel_rfl) (by kernel_rfl) (y_load1 ag22 rfl (Rd.seg1 pkk (by (first | rfl)))) (fun _ _ => rfl) (Ent.sep enn) ?_) | (refine Hd.takeH 7 rfl (by kernel_rfl) (by kernel_rfl) (by kernel_rfl) (by kernel_rfl) (y_loadR1 ag22 rfl (by (first | exact RdS.own pkk)) (by (first | rfl))) (fun _ _ => rfl) (Ent.sep enn) ?_)
    refine Hd.takeH 10 rfl (by kernel_rfl) (by kernel_rfl) (by kernel_rfl) (by kernel_rfl) (y_move rfl) (fun _ _ => rfl) (Ent.sep enn) ?_
    refine Hd.takeH 11 rfl (by kernel_rfl) (by kernel_rfl) (by kernel_rfl) (by kernel_rfl) (y_move rfl) (fun _ _ => rfl) (Ent.sep enn) ?_
    refine Hd.eitherH 8 13 rfl rfl (by kernel_rfl) ?_ ?_
    ·
      refine Hd.callE rfl fk16 (lwants_ct _ lb wb l G (cmA now x) (cmA now y) (con_come h hn) X now hn ?hF) (Ent.sep enn) ?_
      case hF => exact Rd.mono hF (Ent.sep enn)
      intro _
      rw [cmA_idem h.x hn, cmA_idem h.y hn]
      refine Hd.nil ?_
      refine Hd.thenN ?_
      refine Hd.heldK (J := (fun j => !([14].contains j))) (i := 8) (Ent.sep enn) ?_
      refine Hd.takeH 9 rfl (by kernel_rfl) (by kernel_rfl) (by kernel_rfl) (by kernel_rfl) (y_and rfl rfl) (fun _ _ => rfl) (Ent.sep enn) ?_
      refine Hd.eitherH 12 13 rfl rfl (by kernel_rfl) ?_ ?_
      ·
        refine Hd.callE rfl fk29 (step_ct _ l.buf wb X w hX.tm hX.hi now (bits .and .i64 flags (lwK l G (cmA now x) (cmA now y) (wantsA X) 2)) (lvA l G (cmA now x) (cmA now y) 0) (lvA l G (cmA now x) (cmA now y) 1) hn (by unfold lvA; omega) (by unfold lvA; simp only [InK]; omega)) (Ent.sep enn) ?_
        intro _
        rw [show stepS X w now (bits .and .i64 flags (lwK l G (cmA now x) (cmA now y) (wantsA X) 2)) (lvA l G (cmA now x) (cmA now y) 0) (lvA l G (cmA now x) (cmA now y) 1) = σ from hσ]
        refine Hd.nil ?_
        refine Hd.thenN ?_
        refine Hd.heldK (J := (fun j => !([14].contains j))) (i := 12) (Ent.sep enn) ?_
        refine Hd.onlyH 13 rfl (by kernel_rfl) ?_
        refine Hd.alloc zr37 (fun b9 => ?_)
        refine Hd.nil ?_
        refine Hd.thenN ?_
        refine Hd.heldK (J := (fun j => !([14].contains j))) (i := 13) (Ent.sep enn) ?_
        refine Hd.onlyH 14 rfl (by kernel_rfl) ?_
        refine Hd.storeA (us := encT σ.t) sz37 rfl rfl rfl (by simp [Value.oneCell']) pkk (by exact rfl) ?_
        refine Hd.nil ?_
        refine Hd.thenN ?_
        refine Hd.heldN (J := (fun j => !([14].contains j))) (i := 14) rfl ?_
        refine Hd.endH (by kernel_rfl) ?_
        refine Hd.slots [(0, _), (4, _), (6, _), (9, _)] ⟨rfl, rfl, rfl, rfl, trivial⟩ ?_
        clear hK1 hK2 hK3 hK4
        refine Hd.thenN ?_
        exact Hd.meet b9 (by repeat (first | exact trivial | refine ⟨rfl, ?_⟩)) (Ent.sep (.pick pkk (.pick pkk (.pick pkk (.pick pkk (.pick pkk (.pick pkk (.pick pkk (.pick pkk (.pick pkk (.eq pkk (pt_eq (by rfl)) enn)))))))))))
      ·
        refine Hd.alloc zr37 (fun b9 => ?_)
        refine Hd.nil ?_
        refine Hd.thenN ?_
        refine Hd.heldK (J := (fun j => !([14].contains j))) (i := 13) (Ent.sep enn) ?_
        refine Hd.onlyH 12 rfl (by kernel_rfl) ?_
        refine Hd.callE rfl fk29 (step_ct _ l.buf wb X w hX.tm hX.hi now (bits .and .i64 flags (lwK l G (cmA now x) (cmA now y) (wantsA X) 2)) (lvA l G (cmA now x) (cmA now y) 0) (lvA l G (cmA now x) (cmA now y) 1) hn (by unfold lvA; omega) (by unfold lvA; simp only [InK]; omega)) (Ent.sep enn) ?_
        intro _
        rw [show stepS X w now (bits .and .i64 flags (lwK l G (cmA now x) (cmA now y) (wantsA X) 2)) (lvA l G (cmA now x) (cmA now y) 0) (lvA l G (cmA now x) (cmA now y) 1) = σ from hσ]
        refine Hd.nil ?_
        refine Hd.thenN ?_
        refine Hd.heldK (J := (fun j => !([14].contains j))) (i := 12) (Ent.sep enn) ?_
        refine Hd.onlyH 14 rfl (by kernel_rfl) ?_
        refine Hd.storeA (us := encT σ.t) sz37 rfl rfl rfl (by simp [Value.oneCell']) pkk (by exact rfl) ?_
        refine Hd.nil ?_
        refine Hd.thenN ?_
        refine Hd.heldN (J := (fun j => !([14].contains j))) (i := 14) rfl ?_
        refine Hd.endH (by kernel_rfl) ?_
        refine Hd.slots [(0, _), (4, _), (6, _), (9, _)] ⟨rfl, rfl, rfl, rfl, trivial⟩ ?_
        clear hK1 hK2 hK3 hK4
        refine Hd.thenN ?_
        exact Hd.meet b9 (by repeat (first | exact trivial | refine ⟨rfl, ?_⟩)) (Ent.sep (.pick pkk (.pick pkk (.pick pkk (.pick pkk (.pick pkk (.pick pkk (.pick pkk (.pick pkk (.pick pkk (.eq pkk (pt_eq (by rfl)) enn)))))))))))
    ·
      refine Hd.alloc zr37 (fun b9 => ?_)
      refine Hd.nil ?_
      refine Hd.thenN ?_
      refine Hd.heldK (J := (fun j => !([14].contains j))) (i := 13) (Ent.sep enn) ?_
      refine Hd.onlyH 8 rfl (by kernel_rfl) ?_
      refine Hd.callE rfl fk16 (lwants_ct _ lb wb l G (cmA now x) (cmA now y) (con_come h hn) X now hn ?hF) (Ent.sep enn) ?_
      case hF => exact Rd.mono hF (Ent.sep enn)
      intro _
      rw [cmA_idem h.x hn, cmA_idem h.y hn]
      refine Hd.nil ?_
      refine Hd.thenN ?_
      refine Hd.heldK (J := (fun j => !([14].contains j))) (i := 8) (Ent.sep enn) ?_
      refine Hd.takeH 9 rfl (by kernel_rfl) (by kernel_rfl) (by kernel_rfl) (by kernel_rfl) (y_and rfl rfl) (fun _ _ => rfl) (Ent.sep enn) ?_
      refine Hd.onlyH 12 rfl (by kernel_rfl) ?_
      refine Hd.callE rfl fk29 (step_ct _ l.buf wb X w hX.tm hX.hi now (bits .and .i64 flags (lwK l G (cmA now x) (cmA now y) (wantsA X) 2)) (lvA l G (cmA now x) (cmA now y) 0) (lvA l G (cmA now x) (cmA now y) 1) hn (by unfold lvA; omega) (by unfold lvA; simp only [InK]; omega)) (Ent.sep enn) ?_
      intro _
      rw [show stepS X w now (bits .and .i64 flags (lwK l G (cmA now x) (cmA now y) (wantsA X) 2)) (lvA l G (cmA now x) (cmA now y) 0) (lvA l G (cmA now x) (cmA now y) 1) = σ from hσ]
      refine Hd.nil ?_
      refine Hd.thenN ?_
      refine Hd.heldK (J := (fun j => !([14].contains j))) (i := 12) (Ent.sep enn) ?_
      refine Hd.onlyH 14 rfl (by kernel_rfl) ?_
      refine Hd.storeA (us := encT σ.t) sz37 rfl rfl rfl (by simp [Value.oneCell']) pkk (by exact rfl) ?_
      refine Hd.nil ?_
      refine Hd.thenN ?_
      refine Hd.heldN (J := (fun j => !([14].contains j))) (i := 14) rfl ?_
      refine Hd.endH (by kernel_rfl) ?_
      refine Hd.slots [(0, _), (4, _), (6, _), (9, _)] ⟨rfl, rfl, rfl, rfl, trivial⟩ ?_
      clear hK1 hK2 hK3 hK4
      refine Hd.thenN ?_
      exact Hd.meet b9 (by repeat (first | exact trivial | refine ⟨rfl, ?_⟩)) (Ent.sep (.pick pkk (.pick pkk (.pick pkk (.pick pkk (.pick pkk (.pick pkk (.pick pkk (.pick pkk (.pick pkk (.eq pkk (pt_eq (by rfl)) enn)))))))))))
  ·
    intro b9
    refine Hd.seq (fun K5 hK5 => ?_)
    refine Hd.seq (fun K6 hK6 => ?_)
    refine Hd.region ?_
    refine Hd.yv (y_move rfl) ?_
    refine Hd.callE rfl fk35 (buckets_ct _ lb 0) (Ent.sep enn) ?_
    rintro ⟨bl, bk⟩
    dsimp only
    refine Hd.nil ?_
    refine Hd.slots [(0, _), (4, _), (6, _), (9, _), (35, _)] ⟨rfl, rfl, rfl, rfl, rfl, trivial⟩ ?_
    refine Hd.toK hK6 ?_
    refine Hd.block ?_
    refine Hd.rangeF (enc := encI (l.b 0) (gsl l.g G 0)) (S := fun ys => ys = itS (l.b 0) (gsl l.g G 0)) (Sp := fun ys => ys <+: itS (l.b 0) (gsl l.g G 0))
      (fun pre => SlB (l.b 0) (efX (tak · now σ.t.i) 0 pre (cmA now x 0)) :: SlB (gsl l.g G 0) (efX (tak · now σ.t.i) 1 pre (cmA now y 0)) :: SlB (l.b 1) (cmA now x 1) :: SlB (gsl l.g G 1) (cmA now y 1) :: BufP l.buf wb σ.x :: WorldP wb σ.w :: pt b9 (encT σ.t) 37 :: pt b6 (encT noT) 37 :: pt b4 [.int .u64 now] 22 :: L) (fun _ _ => [pu False])
      rfl (by kernel_rfl) (fun _ => rfl) rfl (buckets_it lb bl bk l G 0 (by decide)) (by simp only [ef_nil]; refine Ent.sep ?_; refine Ent.pick pkk ?_; refine Ent.pick pkk ?_; refine Ent.pick pkk ?_; refine Ent.pick pkk ?_; refine Ent.pick pkk ?_; refine Ent.pick pkk ?_; refine Ent.pick pkk ?_; refine Ent.pick pkk ?_; refine Ent.pick pkk ?_; exact Ent.swap (L := [_, _, _, _])) ?_ ?_ ?_
    ·
      intro E l' R pre c N hR hG
      obtain ⟨p, z, O, hpp, hz, ho, hi2⟩ := item_out (f := (tak · now σ.t.i)) (X := cmA now x 0) (Y := cmA now y 0) hG
      have hcc := con_come h hn
      have hzo : BkOk z := by
        rcases hz with ⟨rfl, _⟩ | ⟨rfl, _⟩
        · exact hcc.x 0
        · exact hcc.y 0
      unfold Rnd
      simp only [List.cons_append, List.nil_append, pz, encI]
      rw [hpp]
      refine Hd.region ?_
      refine Hd.yv (y_assign rfl) ?_
      refine Hd.nil ?_
      refine Hd.slots [(0, _), (4, _), (6, _), (9, _), (10, _)] ⟨rfl, rfl, rfl, rfl, rfl, trivial⟩ ?_
      refine Hd.thenN ?_
      refine Hd.begin hR pkk ?_
      refine Hd.block ?_
      refine Hd.heap (BkP p z :: O :: _) (fun q s => ho _ q (Ent.sep (.pick pkk (.pick pkk .same)) q s)) ?_
      refine Hd.region ?_
      refine Hd.yv (y_move rfl) ?_
      first | (refine Hd.yv (y_load1 ag22 rfl (Rd.pt1 pkk (by (first | rfl)))) ?_) | (refine Hd.yv (y_load1 ag22 rfl (Rd.seg1 pkk (by (first | rfl)))) ?_) | (refine Hd.yv (y_loadR1 ag22 rfl (by (first | exact RdS.own pkk)) (by (first | rfl))) ?_)
      first | (refine Hd.yv (y_field' (q := 4) (ft := 3) Tryd.underlying37 rfl sz3 rfl rfl) ?_) | (refine Hd.yv (y_fieldR (q := 4) (ft := 3) Tryd.underlying37 rfl sz3 rfl rfl) ?_)
      first | (refine Hd.yv (y_load1 ag3 rfl (Rd.pt1 pkk (by (first | rfl)))) ?_) | (refine Hd.yv (y_load1 ag3 rfl (Rd.seg1 pkk (by (first | rfl)))) ?_) | (refine Hd.yv (y_loadR1 ag3 rfl (by (first | exact RdS.own pkk)) (by (first | rfl))) ?_)
      refine Hd.callE rfl fk36 (take_ct _ p z hzo now σ.t.i hn hi) (Ent.sep enn) ?_
      intro _
      refine Hd.nil ?_
      refine Hd.slots [(0, _), (4, _), (6, _), (9, _)] ⟨rfl, rfl, rfl, rfl, trivial⟩ ?_
      refine Hd.inB ?_
      clear hK1 hK2 hK3 hK4 hK5 hK6
      refine Hd.reN ?_
      simp only [List.cons_append, List.nil_append]
      intro q s
      have s1 : sep (BkP p (tak z now σ.t.i) :: O :: _) q := Ent.sep (.pick pkk (.pick pkk .same)) q s
      have s2 := hi2 _ q s1
      exact Ent.sep enn q s2
    ·
      intro r0 ys hys
      obtain rfl : ys = itS (l.b 0) (gsl l.g G 0) := hys
      rw [(slB_all (cmA now x 0) (cmA now y 0)).1, (slB_all (cmA now x 0) (cmA now y 0)).2]
      try simp only [List.cons_append, List.nil_append]
      refine Hd.inB ?_
      refine Hd.toK hK5 ?_
      refine Hd.seq (fun K7 hK7 => ?_)
      refine Hd.seq (fun K8 hK8 => ?_)
      refine Hd.heap (LmH lb l :: GoH l.g G :: SlB (l.b 0) (tak (cmA now x 0) now σ.t.i) :: SlB (gsl l.g G 0) (tak (cmA now y 0) now σ.t.i) :: SlB (l.b 1) (cmA now x 1) :: SlB (gsl l.g G 1) (cmA now y 1) :: BufP l.buf wb σ.x :: WorldP wb σ.w :: pt b9 (encT σ.t) 37 :: pt b6 (encT noT) 37 :: pt b4 [.int .u64 now] 22 :: ob r0 (.deferred (some [])) :: L) (Ent.sep enn) ?_
      refine Hd.region ?_
      refine Hd.yv (y_move rfl) ?_
      refine Hd.callE rfl fk35 (buckets_ct _ lb 1) (Ent.sep enn) ?_
      rintro ⟨bl, bk⟩
      dsimp only
      refine Hd.nil ?_
      refine Hd.slots [(4, _), (6, _), (9, _), (43, _)] ⟨rfl, rfl, rfl, rfl, trivial⟩ ?_
      refine Hd.toK hK8 ?_
      refine Hd.block ?_
      refine Hd.rangeF (enc := encI (l.b 1) (gsl l.g G 1)) (S := fun ys => ys = itS (l.b 1) (gsl l.g G 1)) (Sp := fun ys => ys <+: itS (l.b 1) (gsl l.g G 1))
        (fun pre => SlB (l.b 1) (efX (tak · now σ.t.o) 0 pre (cmA now x 1)) :: SlB (gsl l.g G 1) (efX (tak · now σ.t.o) 1 pre (cmA now y 1)) :: SlB (l.b 0) (tak (cmA now x 0) now σ.t.i) :: SlB (gsl l.g G 0) (tak (cmA now y 0) now σ.t.i) :: BufP l.buf wb σ.x :: WorldP wb σ.w :: pt b9 (encT σ.t) 37 :: pt b6 (encT noT) 37 :: pt b4 [.int .u64 now] 22 :: ob r0 (.deferred (some [])) :: L) (fun _ _ => [pu False])
        rfl (by kernel_rfl) (fun _ => rfl) rfl (buckets_it lb bl bk l G 1 (by decide)) (by simp only [ef_nil]; refine Ent.sep ?_; refine Ent.pick pkk ?_; refine Ent.pick pkk ?_; refine Ent.pick pkk ?_; refine Ent.pick pkk ?_; refine Ent.pick pkk ?_; refine Ent.pick pkk ?_; refine Ent.pick pkk ?_; refine Ent.pick pkk ?_; refine Ent.pick pkk ?_; refine Ent.pick pkk ?_; exact Ent.swap (L := [_, _, _, _])) ?_ ?_ ?_
      ·
        intro E l' R pre c N hR hG
        obtain ⟨p, z, O, hpp, hz, ho2, hi2⟩ := item_out (f := (tak · now σ.t.o)) (X := cmA now x 1) (Y := cmA now y 1) hG
        have hcc := con_come h hn
        have hzo : BkOk z := by
          rcases hz with ⟨rfl, _⟩ | ⟨rfl, _⟩
          · exact hcc.x 1
          · exact hcc.y 1
        unfold Rnd
        simp only [List.cons_append, List.nil_append, pz, encI]
        rw [hpp]
        refine Hd.region ?_
        refine Hd.yv (y_assign rfl) ?_
        refine Hd.nil ?_
        refine Hd.slots [(4, _), (6, _), (9, _), (11, _)] ⟨rfl, rfl, rfl, rfl, trivial⟩ ?_
        refine Hd.thenN ?_
        refine Hd.begin hR pkk ?_
        refine Hd.block ?_
        refine Hd.heap (BkP p z :: O :: _) (fun q s => ho2 _ q (Ent.sep (.pick pkk (.pick pkk .same)) q s)) ?_
        refine Hd.region ?_
        refine Hd.yv (y_move rfl) ?_
        first | (refine Hd.yv (y_load1 ag22 rfl (Rd.pt1 pkk (by (first | rfl)))) ?_) | (refine Hd.yv (y_load1 ag22 rfl (Rd.seg1 pkk (by (first | rfl)))) ?_) | (refine Hd.yv (y_loadR1 ag22 rfl (by (first | exact RdS.own pkk)) (by (first | rfl))) ?_)
        first | (refine Hd.yv (y_field' (q := 5) (ft := 3) Tryd.underlying37 rfl sz3 rfl rfl) ?_) | (refine Hd.yv (y_fieldR (q := 5) (ft := 3) Tryd.underlying37 rfl sz3 rfl rfl) ?_)
        first | (refine Hd.yv (y_load1 ag3 rfl (Rd.pt1 pkk (by (first | rfl)))) ?_) | (refine Hd.yv (y_load1 ag3 rfl (Rd.seg1 pkk (by (first | rfl)))) ?_) | (refine Hd.yv (y_loadR1 ag3 rfl (by (first | exact RdS.own pkk)) (by (first | rfl))) ?_)
        refine Hd.callE rfl fk36 (take_ct _ p z hzo now σ.t.o hn ho) (Ent.sep enn) ?_
        intro _
        refine Hd.nil ?_
        refine Hd.slots [(6, _), (9, _)] ⟨rfl, rfl, trivial⟩ ?_
        refine Hd.inB ?_
        clear hK1 hK2 hK3 hK4 hK5 hK6 hK7 hK8
        refine Hd.reN ?_
        simp only [List.cons_append, List.nil_append]
        intro q s
        have s1 : sep (BkP p (tak z now σ.t.o) :: O :: _) q := Ent.sep (.pick pkk (.pick pkk .same)) q s
        have s2 := hi2 _ q s1
        exact Ent.sep enn q s2
      ·
        intro r1 ys hys
        obtain rfl : ys = itS (l.b 1) (gsl l.g G 1) := hys
        have hs0 : ∀ x : Nat → BkA, tak (x 0) now σ.t.i = stX now σ.t x 0 := fun _ => rfl
        have hs1 : ∀ x : Nat → BkA, tak (x 1) now σ.t.o = stX now σ.t x 1 := fun _ => rfl
        rw [(slB_all (cmA now x 1) (cmA now y 1)).1, (slB_all (cmA now x 1) (cmA now y 1)).2, hs1 (cmA now x), hs1 (cmA now y), hs0 (cmA now x), hs0 (cmA now y)]
        try simp only [List.cons_append, List.nil_append]
        refine Hd.inB ?_
        refine Hd.toK hK7 ?_
        refine Hd.seq (fun K9 hK9 => ?_)
        refine Hd.region ?_
        refine Hd.yv (y_loadn (us := encT σ.t) ag37 rfl (Rd.pt pkk (fun j v e => by rw [Nat.zero_add]; exact e)) (by exact sz37)) ?_
        refine Hd.storeA (us := encT σ.t) sz37 rfl rfl rfl (by simp [Value.oneCell']) pkk (by exact rfl) ?_
        refine Hd.nil ?_
        refine Hd.slots [(6, _)] ⟨rfl, trivial⟩ ?_
        refine Hd.toK hK9 ?_
        refine Hd.ret ?_
        clear hK1 hK2 hK3 hK4 hK5 hK6 hK7 hK8 hK9
        rw [← stX_cm h.x hn, ← stX_cm h.y hn]
        exact Hd.retM (fun a fr => Lv.mark (r0 := r1) pkk (Lv.mark (r0 := r0) pkk (Lv.endC fr rfl () ag37 rfl (Rd.pt (us := encT σ.t) pkk (fun j v e => by rw [Nat.zero_add]; exact e)) (by exact sz37) rfl (Ent.sep enn))))
      ·
        rintro r1_0 (_ | id1) pre1 hG1
        ·
          exact Hd.absurd (by first | exact id | simp)
        ·
          exact Hd.absurd (by first | exact id | simp)
    ·
      rintro r0_0 (_ | id0) pre0 hG0
      ·
        exact Hd.absurd (by first | exact id | simp)
      ·
        exact Hd.absurd (by first | exact id | simp)
end Lm
end Go.Proofs.YtmpemhbfgbochaaDoor
namespace Go.Proofs.YtmpemhbfgbochaaDoor
set_option linter.unusedSimpArgs false
set_option linter.unusedVariables false
set_option linter.unnecessarySimpa false
open Go.RX Fx
namespace Lm
open Bu Wo
set_option maxRecDepth 8000
def mV (X Y : BkA) (now : Int) (pre : List Nat) : Int := pre.foldl (fun a i => max a (whn (if i = 0 then X else Y) now 1)) now
theorem mV_snoc (X Y : BkA) (now : Int) (pre : List Nat) (c : Nat) : mV X Y now (pre ++ [c]) = max (mV X Y now pre) (whn (if c = 0 then X else Y) now 1) := by unfold mV; rw [List.foldl_append]; rfl
def whK (l : LmA) (G : GrA) (x y : Nat → BkA) (m now : Int) (k : Nat) : Int := (List.range k).foldl (fun o k => if bits .and .i64 m (flagA k) = 0 ∨ 0 < lvA l G x y k then o else min o (mV (x k) (y k) now (itS (l.b k) (gsl l.g G k)))) NV
theorem whK_succ (l : LmA) (G : GrA) (x y : Nat → BkA) (m now : Int) (k : Nat) : whK l G x y m now (k + 1) = if bits .and .i64 m (flagA k) = 0 ∨ 0 < lvA l G x y k then whK l G x y m now k else min (whK l G x y m now k) (mV (x k) (y k) now (itS (l.b k) (gsl l.g G k))) := by
  unfold whK; rw [List.range_succ, List.foldl_append]; rfl
set_option maxHeartbeats 2000000 in
theorem lwhen_ct (L : List SP) (lb wb : Nat) (l : LmA) (G : GrA) (x y : Nat → BkA) (h : ConOk x y) (X : BfA) (now : Int) (hn : InK .u64 now) (hF : Rd L 0 0 flV) : Ct Tryd.prog 15 #[.pointer (some ⟨lb, 0, none⟩), .int .u64 now] (LgL lb l G x y (BufP l.buf wb X :: L)) (fun _ : Unit => .int .u64 (whK l G (cmA now x) (cmA now y) (wantsA X) now 2)) (fun _ : Unit => LgL lb l G (cmA now x) (cmA now y) (BufP l.buf wb X :: L)) := by
  refine Ct.ofM (vs := [.pointer (some ⟨lb, 0, none⟩), .int .u64 now]) Tryd.func15 rfl rfl [(0, .pointer (some ⟨lb, 0, none⟩)), (1, .int .u64 now)] (by repeat (first | exact trivial | refine ⟨rfl, ?_⟩)) ?_
  intro E
  show Hd E 50 _ _ _ _
  refine Hd.seq (fun K1 hK1 => ?_)
  refine Hd.region ?_
  refine Hd.box rfl rfl (fun b3 => ?_)
  refine Hd.yv (y_assign rfl) ?_
  refine Hd.nil ?_
  refine Hd.slots [(0, _), (3, _)] ⟨rfl, rfl, trivial⟩ ?_
  refine Hd.toK hK1 ?_
  refine Hd.seq (fun K2 hK2 => ?_)
  refine Hd.region ?_
  refine Hd.yv (y_assign rfl) ?_
  refine Hd.nil ?_
  refine Hd.slots [(0, _), (3, _), (5, _)] ⟨rfl, rfl, rfl, trivial⟩ ?_
  refine Hd.toK hK2 ?_
  refine Hd.seq (fun K3 hK3 => ?_)
  refine Hd.seq (fun K4 hK4 => ?_)
  refine Hd.region ?_
  refine Hd.yv (y_move rfl) ?_
  refine Hd.callE rfl fk30 (lnone_ct _ lb l) (Ent.sep enn) ?_
  intro _
  refine Hd.nil ?_
  refine Hd.slots [(0, _), (3, _), (5, _), (11, _)] ⟨rfl, rfl, rfl, rfl, trivial⟩ ?_
  refine Hd.toK hK4 ?_
  refine Hd.condF rfl ?_
  refine Hd.skip ?_
  refine Hd.toK hK3 ?_
  refine Hd.seq (fun K5 hK5 => ?_)
  refine Hd.region ?_
  refine Hd.yv (y_move rfl) ?_
  first | (refine Hd.yv (y_load1 ag22 rfl (Rd.pt1 pkk (by (first | rfl)))) ?_) | (refine Hd.yv (y_load1 ag22 rfl (Rd.seg1 pkk (by (first | rfl)))) ?_) | (refine Hd.yv (y_loadR1 ag22 rfl (by (first | exact RdS.own pkk)) (by (first | rfl))) ?_)
  refine Hd.callE rfl fk39 (lcomes_ct _ lb l G x y h now hn) (Ent.sep enn) ?_
  intro _
  refine Hd.nil ?_
  refine Hd.slots [(0, _), (3, _), (5, _)] ⟨rfl, rfl, rfl, trivial⟩ ?_
  refine Hd.toK hK5 ?_
  refine Hd.seq (fun K6 hK6 => ?_)
  refine Hd.seq (fun K7 hK7 => ?_)
  refine Hd.region ?_
  refine Hd.yv (y_loadn (us := flV) ag107 rfl (Rd.mono hF (Ent.sep enn)) (by exact sz107)) ?_
  refine Hd.yv (y_move rfl) ?_
  refine Hd.nil ?_
  refine Hd.slots [(0, _), (3, _), (5, _), (15, _), (16, _)] ⟨rfl, rfl, rfl, rfl, rfl, trivial⟩ ?_
  refine Hd.toK hK7 ?_
  refine Hd.block ?_
  refine Hd.loopM (ι := Nat) [(0, _), (3, _), (15, _)] (fun k => [(5, .int .u64 (whK l G (cmA now x) (cmA now y) (wantsA X) now k)), (16, .int .i64 (k : Int))]) (fun k => pu (k ≤ 2) :: LgL lb l G (cmA now x) (cmA now y) (BufP l.buf wb X :: pt b3 [.int .u64 now] 22 :: L)) (fun k => 2 - k) 0 (by repeat (first | exact trivial | refine ⟨rfl, ?_⟩)) (by repeat (first | exact trivial | refine ⟨rfl, ?_⟩)) (Ent.sep (.pure (by first | omega | (simp; done) | (simp; omega) | exact ⟨by simp, by simp⟩) enn)) ?_
  intro rs0 k
  try dsimp only
  refine Hd.heap (pu _ :: MkS rs0 :: _) (fun q s => Ent.sep (.pick (.there .here) (.pick .here .same)) q s) ?_
  refine Hd.pure (fun hp0 => ?_)
  try dsimp only at hp0
  refine Hd.seq (fun K8 hK8 => ?_)
  refine Hd.region ?_
  refine Hd.yv (y_lss rfl rfl) ?_
  refine Hd.nil ?_
  refine Hd.slots [(0, _), (3, _), (5, _), (15, _), (16, _), (17, _)] ⟨rfl, rfl, rfl, rfl, rfl, rfl, trivial⟩ ?_
  refine Hd.toK hK8 ?_
  refine Hd.seq (fun K9 hK9 => ?_)
  refine Hd.cond rfl (fun hc1 => ?_) (fun hc1 => ?_)
  ·
    try simp only [decide_eq_true_eq, decide_eq_false_iff_not, Bool.and_eq_true, Bool.or_eq_true, Bool.and_eq_false_iff, Bool.or_eq_false_iff, Bool.not_eq_true', Bool.not_eq_false', Bool.not_eq_true, Bool.not_eq_false, Int.not_lt, Int.not_le, Decidable.not_not, ne_eq] at hc1
    have hk : k < 2 := by omega
    have hws := whK_succ l G (cmA now x) (cmA now y) (wantsA X) now k
    refine Hd.skip ?_
    refine Hd.toK hK9 ?_
    refine Hd.seq (fun K10 hK10 => ?_)
    refine Hd.block ?_
    refine Hd.seq (fun K11 hK11 => ?_)
    refine Hd.region ?_
    refine Hd.yv (y_move rfl) ?_
    refine Hd.yv (y_index1 Tryd.underlying107 ag3 sz3 rfl rfl (by first | omega | decide) (by first | exact fl_at hk | rfl)) ?_
    refine Hd.yv (y_assign rfl) ?_
    refine Hd.yv (y_assign rfl) ?_
    refine Hd.nil ?_
    refine Hd.slots [(0, _), (3, _), (5, _), (6, _), (7, _), (15, _), (16, _)] ⟨rfl, rfl, rfl, rfl, rfl, rfl, rfl, trivial⟩ ?_
    refine Hd.toK hK11 ?_
    refine Hd.seq (fun K12 hK12 => ?_)
    refine Hd.seq (fun K13 hK13 => ?_)
    refine Hd.region ?_
    refine Hd.yv (y_move rfl) ?_
    refine Hd.yv (y_nilp rfl) ?_
    first | (refine Hd.yv (y_field' (q := 0) (ft := 39) Tryd.underlying79 rfl sz39 rfl rfl) ?_) | (refine Hd.yv (y_fieldR (q := 0) (ft := 39) Tryd.underlying79 rfl sz39 rfl rfl) ?_)
    first | (refine Hd.yv (y_load1 ag39 rfl (Rd.pt1 pkk (by (first | rfl)))) ?_) | (refine Hd.yv (y_load1 ag39 rfl (Rd.seg1 pkk (by (first | rfl)))) ?_) | (refine Hd.yv (y_loadR1 ag39 rfl (by (first | exact RdS.own pkk)) (by (first | rfl))) ?_)
    refine Hd.callE rfl fk28 (wants_ct _ l.buf wb X) (Ent.sep enn) ?_
    intro _
    refine Hd.yv (y_move rfl) ?_
    refine Hd.yv (y_and rfl rfl) ?_
    first | (refine Hd.yv (y_eqlT rfl rfl) ?_) | (refine Hd.yv (y_eql rfl rfl) ?_)
    refine Hd.yv (y_move rfl) ?_
    apply Hd.org 6 28 34 [(0, _), (3, _), (5, _), (6, _), (15, _), (16, _)] rfl ⟨rfl, rfl, rfl, rfl, rfl, rfl, trivial⟩
    · intro hg8_28
      try simp only [decide_eq_true_eq, decide_eq_false_iff_not, Bool.and_eq_true, Bool.or_eq_true, Bool.and_eq_false_iff, Bool.or_eq_false_iff, Bool.not_eq_true', Bool.not_eq_false', Bool.not_eq_true, Bool.not_eq_false, Int.not_lt, Int.not_le, Decidable.not_not, ne_eq] at hg8_28
      simp only [List.take]
      refine Hd.ng rfl rfl rfl ?_
      refine Hd.ng rfl rfl rfl ?_
      refine Hd.ng rfl rfl rfl ?_
      refine Hd.ng rfl rfl rfl ?_
      refine Hd.ng rfl rfl rfl ?_
      first | (refine Hd.yv (y_pickT rfl rfl) ?_) | (refine Hd.yv (y_pickF rfl rfl) ?_) | (refine Hd.yv (y_pickb rfl rfl rfl) ?_) | (refine Hd.yv (y_pick rfl rfl rfl) ?_)
      refine Hd.nil ?_
      exact Hd.mend (by repeat (first | exact trivial | refine ⟨rfl, ?_⟩)) (Ent.sep enn)
    · intro hg8_28
      try simp only [decide_eq_true_eq, decide_eq_false_iff_not, Bool.and_eq_true, Bool.or_eq_true, Bool.and_eq_false_iff, Bool.or_eq_false_iff, Bool.not_eq_true', Bool.not_eq_false', Bool.not_eq_true, Bool.not_eq_false, Int.not_lt, Int.not_le, Decidable.not_not, ne_eq] at hg8_28
      simp only [List.take]
      refine Hd.yg rfl rfl (y_move rfl) ?_
      refine Hd.yg rfl rfl (y_move rfl) ?_
      first | (refine Hd.yg rfl rfl (y_load1 ag22 rfl (Rd.pt1 pkk (by (first | rfl)))) ?_) | (refine Hd.yg rfl rfl (y_load1 ag22 rfl (Rd.seg1 pkk (by (first | rfl)))) ?_) | (refine Hd.yg rfl rfl (y_loadR1 ag22 rfl (by (first | exact RdS.own pkk)) (by (first | rfl))) ?_)
      refine Hd.unguard rfl rfl ?_
      refine Hd.callE rfl fk40 (leave_ct _ lb l G (cmA now x) (cmA now y) (con_come h hn) k hk now hn (at_come h hn)) (Ent.sep enn) ?_
      intro _
      refine Hd.yg rfl rfl (y_gtr rfl rfl) ?_
      first | (refine Hd.yv (y_pickT rfl rfl) ?_) | (refine Hd.yv (y_pickF rfl rfl) ?_) | (refine Hd.yv (y_pickb rfl rfl rfl) ?_) | (refine Hd.yv (y_pick rfl rfl rfl) ?_)
      refine Hd.nil ?_
      exact Hd.mend (by repeat (first | exact trivial | refine ⟨rfl, ?_⟩)) (Ent.sep enn)
    simp only [List.drop]
    refine Hd.nil ?_
    refine Hd.slots [(0, _), (3, _), (5, _), (6, _), (15, _), (16, _), (34, _)] ⟨rfl, rfl, rfl, rfl, rfl, rfl, rfl, trivial⟩ ?_
    refine Hd.toK hK13 ?_
    refine Hd.cond rfl (fun hc2 => ?_) (fun hc2 => ?_)
    ·
      try simp only [decide_eq_true_eq, decide_eq_false_iff_not, Bool.and_eq_true, Bool.or_eq_true, Bool.and_eq_false_iff, Bool.or_eq_false_iff, Bool.not_eq_true', Bool.not_eq_false', Bool.not_eq_true, Bool.not_eq_false, Int.not_lt, Int.not_le, Decidable.not_not, ne_eq] at hc2
      refine Hd.exit ?_
      refine Hd.thenExit ?_
      refine Hd.inBexit ?_
      refine Hd.toK hK10 ?_
      refine Hd.region ?_
      first | (refine Hd.yv (y_addn rfl rfl (by simp only [InK]; omega)) ?_) | (refine Hd.yv (y_add rfl rfl) ?_)
      refine Hd.yv (y_move rfl) ?_
      refine Hd.nil ?_
      refine Hd.slots [(0, _), (3, _), (5, _), (15, _), (16, _)] ⟨rfl, rfl, rfl, rfl, rfl, trivial⟩ ?_
      clear hK1 hK2 hK3 hK4 hK5 hK6 hK7 hK8 hK9 hK10 hK11 hK12 hK13
      refine Hd.thenN ?_
      rw [if_pos (show bits .and .i64 (wantsA X) (flagA k) = 0 ∨ 0 < lvA l G (cmA now x) (cmA now y) k from hc2)] at hws
      rw [← hws]
      exact Hd.againM rs0 (k + 1) rfl (by omega) (by repeat (first | exact trivial | refine ⟨rfl, ?_⟩)) (Ent.sep (.pick pkk (.pure (show k + 1 ≤ 2 by omega) enn)))
    ·
      try simp only [decide_eq_true_eq, decide_eq_false_iff_not, Bool.and_eq_true, Bool.or_eq_true, Bool.and_eq_false_iff, Bool.or_eq_false_iff, Bool.not_eq_true', Bool.not_eq_false', Bool.not_eq_true, Bool.not_eq_false, Int.not_lt, Int.not_le, Decidable.not_not, ne_eq] at hc2
      rw [if_neg (show ¬ (bits .and .i64 (wantsA X) (flagA k) = 0 ∨ 0 < lvA l G (cmA now x) (cmA now y) k) from fun h => by rcases h with h | h; exact hc2.1 h; exact absurd h (by have := hc2.2; unfold lvA; omega))] at hws
      refine Hd.skip ?_
      refine Hd.toK hK12 ?_
      refine Hd.seq (fun K14 hK14 => ?_)
      refine Hd.region ?_
      first | (refine Hd.yv (y_load1 ag22 rfl (Rd.pt1 pkk (by (first | rfl)))) ?_) | (refine Hd.yv (y_load1 ag22 rfl (Rd.seg1 pkk (by (first | rfl)))) ?_) | (refine Hd.yv (y_loadR1 ag22 rfl (by (first | exact RdS.own pkk)) (by (first | rfl))) ?_)
      refine Hd.alloc zr22 (fun b8 => ?_)
      first | (refine Hd.store1 sz22 rfl rfl rfl pkk (by first | decide | (simp; done) | (simp; omega)) ?_) | (refine Hd.storeG1 sz22 rfl rfl rfl pkk (by first | decide | (simp; done) | (simp; omega)) ?_) | (refine Hd.storeO1 sz22 rfl rfl rfl pkk (by first | omega | (simp; done) | (simp; omega)) ?_)
      try simp only [List.set_cons_zero, List.set_cons_succ]
      refine Hd.nil ?_
      refine Hd.slots [(0, _), (3, _), (5, _), (6, _), (8, _), (15, _), (16, _)] ⟨rfl, rfl, rfl, rfl, rfl, rfl, rfl, trivial⟩ ?_
      refine Hd.toK hK14 ?_
      refine Hd.seq (fun K15 hK15 => ?_)
      refine Hd.seq (fun K16 hK16 => ?_)
      refine Hd.region ?_
      refine Hd.yv (y_move rfl) ?_
      refine Hd.yv (y_move rfl) ?_
      refine Hd.callE rfl fk35 (buckets_ct _ lb k) (Ent.sep enn) ?_
      rintro ⟨bl, bk⟩
      dsimp only
      refine Hd.heap (pt bl [.pointer (some ⟨lb, 0, none⟩)] 28 :: pt bk [.int .i64 (k : Int)] 3 :: MkS rs0 :: pt b8 [.int .u64 now] 22 :: SlB (l.b k) (cmA now x k) :: SlB (gsl l.g G k) (cmA now y k) :: SlB (l.b (1 - k)) (cmA now x (1 - k)) :: SlB (gsl l.g G (1 - k)) (cmA now y (1 - k)) :: LmH lb l :: GoH l.g G :: BufP l.buf wb X :: pt b3 [.int .u64 now] 22 :: L) (fun q s => ?_) ?_
      · have s2 : sep ([pt bl [.pointer (some ⟨lb, 0, none⟩)] 28, pt bk [.int .i64 (k : Int)] 3, MkS rs0, pt b8 [.int .u64 now] 22] ++ LgL lb l G (cmA now x) (cmA now y) (BufP l.buf wb X :: pt b3 [.int .u64 now] 22 :: L)) q := Ent.sep (.pick pkk (.pick pkk (.pick pkk (.eq pkk (pt_eq (by rfl)) enn)))) q s
        exact sep_right (M := [_, _, _, _]) (fun q s => lg_k hk q s) s2
      refine Hd.nil ?_
      refine Hd.slots [(0, _), (3, _), (5, _), (8, _), (15, _), (16, _), (38, _)] ⟨rfl, rfl, rfl, rfl, rfl, rfl, rfl, trivial⟩ ?_
      refine Hd.toK hK16 ?_
      refine Hd.block ?_
      refine Hd.rangeF (enc := encI (l.b k) (gsl l.g G k)) (S := fun ys => ys = itS (l.b k) (gsl l.g G k)) (Sp := fun ys => ys <+: itS (l.b k) (gsl l.g G k))
        (fun pre => SlB (l.b k) (cmA now x k) :: SlB (gsl l.g G k) (cmA now y k) :: SlB (l.b (1 - k)) (cmA now x (1 - k)) :: SlB (gsl l.g G (1 - k)) (cmA now y (1 - k)) :: pt b8 [.int .u64 (mV (cmA now x k) (cmA now y k) now pre)] 22 :: BufP l.buf wb X :: pt b3 [.int .u64 now] 22 :: MkS rs0 :: L) (fun _ _ => [pu False])
        rfl (by kernel_rfl) (fun _ => rfl) rfl (buckets_it lb bl bk l G k hk) (by refine Ent.sep ?_; refine Ent.pick pkk ?_; refine Ent.pick pkk ?_; refine Ent.pick pkk ?_; refine Ent.pick pkk ?_; refine Ent.eq pkk (pt_eq (by rfl)) ?_; refine Ent.pick pkk ?_; refine Ent.pick pkk ?_; refine Ent.pick pkk ?_; exact Ent.swap (L := [_, _, _, _])) ?_ ?_ ?_
      ·
        intro E l' R pre c N hR hG
        obtain ⟨p, z, O, hpp, hz, hc01, ho, hi⟩ := item_same (cmA now x k) (cmA now y k) hG
        have hcc := con_come h hn
        have hat := at_come h hn
        have hzo : BkOk z := by rw [hz]; split; exact hcc.x k; exact hcc.y k
        have hza : come z now = z := by rw [hz]; split; exact hat.x k hk; exact hat.y k hk
        have hmv := mV_snoc (cmA now x k) (cmA now y k) now pre c
        rw [← hz] at hmv
        unfold Rnd
        simp only [List.cons_append, List.nil_append, pz, encI]
        rw [hpp]
        refine Hd.region ?_
        refine Hd.yv (y_assign rfl) ?_
        refine Hd.nil ?_
        refine Hd.slots [(0, _), (3, _), (5, _), (8, _), (9, _), (15, _), (16, _)] ⟨rfl, rfl, rfl, rfl, rfl, rfl, rfl, trivial⟩ ?_
        refine Hd.thenN ?_
        refine Hd.begin hR pkk ?_
        refine Hd.block ?_
        refine Hd.heap (BkP p z :: O :: _) (fun q s => ho _ q (Ent.sep (.pick pkk (.pick pkk .same)) q s)) ?_
        refine Hd.drawsH ([pt b8 [.int .u64 (mV (cmA now x k) (cmA now y k) now pre)] 22, pt b3 [.int .u64 now] 22]) (fun j => !([5].contains j)) mixed ?_
        simp only [List.length, Nat.zero_add, Nat.reduceAdd]
        first | (refine Hd.takeH 0 rfl (by kernel_rfl) (by kernel_rfl) (by kernel_rfl) (by kernel_rfl) (y_load1 ag22 rfl (Rd.pt1 pkk (by (first | rfl)))) (fun _ _ => rfl) (Ent.sep enn) ?_) | (refine Hd.takeH 0 rfl (by kernel_rfl) (by kernel_rfl) (by kernel_rfl) (by kernel_rfl) (y_load1 ag22 rfl (Rd.seg1 pkk (by (first | rfl)))) (fun _ _ => rfl) (Ent.sep enn) ?_) | (refine Hd.takeH 0 rfl (by kernel_rfl) (by kernel_rfl) (by kernel_rfl) (by kernel_rfl) (y_loadR1 ag22 rfl (by (first | exact RdS.own pkk)) (by (first | rfl))) (fun _ _ => rfl) (Ent.sep enn) ?_)
        refine Hd.takeH 1 rfl (by kernel_rfl) (by kernel_rfl) (by kernel_rfl) (by kernel_rfl) (y_move rfl) (fun _ _ => rfl) (Ent.sep enn) ?_
        first | (refine Hd.takeH 2 rfl (by kernel_rfl) (by kernel_rfl) (by kernel_rfl) (by kernel_rfl) (y_load1 ag22 rfl (Rd.pt1 pkk (by (first | rfl)))) (fun _ _ => rfl) (Ent.sep enn) ?_) | (refine Hd.takeH 2 rfl (by kernel_rfl) (by kernel_rfl) (by kernel_rfl) (by kernel_rfl) (y_load1 ag22 rfl (Rd.seg1 pkk (by (first | rfl)))) (fun _ _ => rfl) (Ent.sep enn) ?_) | (refine Hd.takeH 2 rfl (by kernel_rfl) (by kernel_rfl) (by kernel_rfl) (by kernel_rfl) (y_loadR1 ag22 rfl (by (first | exact RdS.own pkk)) (by (first | rfl))) (fun _ _ => rfl) (Ent.sep enn) ?_)
        refine Hd.onlyH 3 rfl (by kernel_rfl) ?_
        refine Hd.callE rfl fk41 (bkwhen_ct _ p z hzo now 1 hn (by decide) (by decide)) (Ent.sep enn) ?_
        intro _
        rw [hza]
        refine Hd.nil ?_
        refine Hd.thenN ?_
        refine Hd.heldK (J := (fun j => !([5].contains j))) (i := 3) (Ent.sep enn) ?_
        refine Hd.takeH 4 rfl (by kernel_rfl) (by kernel_rfl) (by kernel_rfl) (by kernel_rfl) (y_max rfl rfl) (fun _ _ => rfl) (Ent.sep enn) ?_
        refine Hd.onlyH 5 rfl (by kernel_rfl) ?_
        first | (refine Hd.store1 sz22 rfl rfl rfl pkk (by first | decide | (simp; done) | (simp; omega)) ?_) | (refine Hd.storeG1 sz22 rfl rfl rfl pkk (by first | decide | (simp; done) | (simp; omega)) ?_) | (refine Hd.storeO1 sz22 rfl rfl rfl pkk (by first | omega | (simp; done) | (simp; omega)) ?_)
        try simp only [List.set_cons_zero, List.set_cons_succ]
        refine Hd.nil ?_
        refine Hd.thenN ?_
        refine Hd.heldN (J := (fun j => !([5].contains j))) (i := 5) rfl ?_
        refine Hd.endH (by kernel_rfl) ?_
        rw [← hmv]
        refine Hd.slots [(0, _), (3, _), (5, _), (8, _), (15, _), (16, _)] ⟨rfl, rfl, rfl, rfl, rfl, rfl, trivial⟩ ?_
        refine Hd.inB ?_
        clear hK1 hK2 hK3 hK4 hK5 hK6 hK7 hK8 hK9 hK10 hK11 hK12 hK13 hK14 hK15 hK16
        refine Hd.reN ?_
        simp only [List.cons_append, List.nil_append]
        intro q s
        have s1 : sep (BkP p z :: O :: _) q := Ent.sep (.pick pkk (.pick pkk .same)) q s
        have s2 := hi _ q s1
        exact Ent.sep enn q s2
      ·
        intro r0 ys hys
        obtain rfl : ys = itS (l.b k) (gsl l.g G k) := hys
        try simp only [List.cons_append, List.nil_append]
        refine Hd.inB ?_
        refine Hd.toK hK15 ?_
        refine Hd.region ?_
        refine Hd.yv (y_move rfl) ?_
        first | (refine Hd.yv (y_load1 ag22 rfl (Rd.pt1 pkk (by (first | rfl)))) ?_) | (refine Hd.yv (y_load1 ag22 rfl (Rd.seg1 pkk (by (first | rfl)))) ?_) | (refine Hd.yv (y_loadR1 ag22 rfl (by (first | exact RdS.own pkk)) (by (first | rfl))) ?_)
        refine Hd.yv (y_min rfl rfl) ?_
        refine Hd.yv (y_assign rfl) ?_
        refine Hd.nil ?_
        refine Hd.slots [(0, _), (3, _), (5, _), (15, _), (16, _)] ⟨rfl, rfl, rfl, rfl, rfl, trivial⟩ ?_
        refine Hd.inB ?_
        refine Hd.toK hK10 ?_
        refine Hd.region ?_
        first | (refine Hd.yv (y_addn rfl rfl (by simp only [InK]; omega)) ?_) | (refine Hd.yv (y_add rfl rfl) ?_)
        refine Hd.yv (y_move rfl) ?_
        refine Hd.nil ?_
        refine Hd.slots [(0, _), (3, _), (5, _), (15, _), (16, _)] ⟨rfl, rfl, rfl, rfl, rfl, trivial⟩ ?_
        clear hK1 hK2 hK3 hK4 hK5 hK6 hK7 hK8 hK9 hK10 hK11 hK12 hK13 hK14 hK15 hK16
        refine Hd.thenN ?_
        rw [← hws]
        refine Hd.againM (r0 :: rs0) (k + 1) rfl (by omega) (by repeat (first | exact trivial | refine ⟨rfl, ?_⟩)) (fun q s => MkS.cons q ?_)
        have s2 : sep ([ob r0 (.deferred (some [])), MkS rs0] ++ (SlB (l.b k) (cmA now x k) :: SlB (gsl l.g G k) (cmA now y k) :: SlB (l.b (1 - k)) (cmA now x (1 - k)) :: SlB (gsl l.g G (1 - k)) (cmA now y (1 - k)) :: LmH lb l :: GoH l.g G :: BufP l.buf wb X :: pt b3 [.int .u64 now] 22 :: L)) q := Ent.sep enn q s
        exact sep_right (M := [_, _]) (fun q s => Ent.sep (.pure (show k + 1 ≤ 2 by omega) .same) q (lg_l hk q s)) s2
      ·
        rintro r0_0 (_ | id0) pre0 hG0
        ·
          exact Hd.absurd (by first | exact id | simp)
        ·
          exact Hd.absurd (by first | exact id | simp)
  ·
    try simp only [decide_eq_true_eq, decide_eq_false_iff_not, Bool.and_eq_true, Bool.or_eq_true, Bool.and_eq_false_iff, Bool.or_eq_false_iff, Bool.not_eq_true', Bool.not_eq_false', Bool.not_eq_true, Bool.not_eq_false, Int.not_lt, Int.not_le, Decidable.not_not, ne_eq] at hc1
    obtain rfl : k = 2 := by omega
    refine Hd.exit ?_
    refine Hd.thenExit ?_
    refine Hd.thenExit ?_
    refine Hd.inBexit ?_
    refine Hd.toK hK6 ?_
    refine Hd.seq (fun K17 hK17 => ?_)
    refine Hd.region ?_
    refine Hd.yv (y_move rfl) ?_
    refine Hd.yv (y_assign rfl) ?_
    refine Hd.nil ?_
    refine Hd.slots [(4, _)] ⟨rfl, trivial⟩ ?_
    refine Hd.toK hK17 ?_
    refine Hd.ret ?_
    clear hK1 hK2 hK3 hK4 hK5 hK6 hK7 hK8 hK9 hK17
    exact Hd.retM (fun a fr => Lv.marksP pkk (Lv.end1 fr rfl () rfl (Ent.sep enn)))
end Lm
end Go.Proofs.YtmpemhbfgbochaaDoor
namespace Go.Proofs.YtmpemhbfgbochaaDoor
set_option linter.unusedSimpArgs false
set_option linter.unusedVariables false
set_option linter.unnecessarySimpa false
open Go.RX Fx
namespace Lm
open Bu Wo
set_option maxRecDepth 8000
def rz (r : RtA) : Bool := decide (r.many = 0) && (decide (r.every = 0) && decide (r.burst = 0))
theorem rz_eq (r : RtA) : allEq (encRt r) [.int .i64 0, .int .u64 0, .int .i64 0] = rz r := by
  unfold rz; simp [allEq, eqv]
abbrev encR2 (r : Nat → RtA) : List Value := encRt (r 0) ++ encRt (r 1)
theorem r2_at {r : Nat → RtA} {k : Nat} (hk : k < 2) : ((encR2 r).drop (k * 3)).take 3 = encRt (r k) := by
  rcases (show k = 0 ∨ k = 1 by omega) with rfl | rfl <;> rfl
def mayR (r : RtA) : Bool := rz r || !rtBad r
def mayB (r : Nat → RtA) : Bool := mayR (r 0) && mayR (r 1)
theorem mayB_at {r : Nat → RtA} (h : mayB r = true) {k : Nat} (hk : k < 2) (hz : rz (r k) = false) : RtOk (r k) := by
  unfold mayB at h
  rw [Bool.and_eq_true] at h
  have hm : mayR (r k) = true := by rcases (show k = 0 ∨ k = 1 by omega) with rfl | rfl; exact h.1; exact h.2
  unfold mayR at hm
  rw [hz, Bool.false_or, Bool.not_eq_true'] at hm
  exact rt_ok hm
set_option maxHeartbeats 2000000 in
theorem may_ct (L : List SP) (r : Nat → RtA) : Ct Tryd.prog 31 #[.agg (encR2 r).toArray] (L) (fun _ : Unit => .bool (mayB r)) (fun _ : Unit => L) := by
  refine Ct.of (vs := [.agg (encR2 r).toArray]) Tryd.func31 rfl rfl [(0, .agg (encR2 r).toArray)] (by repeat (first | exact trivial | refine ⟨rfl, ?_⟩)) ?_
  intro E
  show Hd E 18 _ _ _ _
  refine Hd.seq (fun K1 hK1 => ?_)
  refine Hd.region ?_
  refine Hd.box (us := encR2 r) rfl rfl (fun b1 => ?_)
  refine Hd.yv (y_assign rfl) ?_
  refine Hd.nil ?_
  refine Hd.slots [(1, _)] ⟨rfl, trivial⟩ ?_
  refine Hd.toK hK1 ?_
  refine Hd.seq (fun K2 hK2 => ?_)
  refine Hd.seq (fun K3 hK3 => ?_)
  refine Hd.region ?_
  refine Hd.yv (y_loadn (us := encR2 r) ag72 rfl (Rd.pt pkk (fun j v e => by rw [Nat.zero_add]; exact e)) (by exact sz72)) ?_
  refine Hd.yv (y_move rfl) ?_
  refine Hd.nil ?_
  refine Hd.slots [(5, _), (6, _)] ⟨rfl, rfl, trivial⟩ ?_
  refine Hd.toK hK3 ?_
  refine Hd.block ?_
  refine Hd.loopK (ι := Nat) [(5, _)] (fun k => [(6, .int .i64 (k : Int))]) (fun k => pu (k ≤ 2 ∧ ∀ j, j < k → mayR (r j) = true) :: pt b1 (encR2 r) 72 :: L) (fun k => 2 - k) 0 (by repeat (first | exact trivial | refine ⟨rfl, ?_⟩)) (by repeat (first | exact trivial | refine ⟨rfl, ?_⟩)) (Ent.sep (.pure ⟨Nat.zero_le _, fun j hj => absurd hj (Nat.not_lt_zero j)⟩ enn)) ?_
  intro k
  try dsimp only
  refine Hd.pure (fun hp0 => ?_)
  try dsimp only at hp0
  refine Hd.seq (fun K4 hK4 => ?_)
  refine Hd.region ?_
  refine Hd.yv (y_lss rfl rfl) ?_
  refine Hd.nil ?_
  refine Hd.slots [(5, _), (6, _), (7, _)] ⟨rfl, rfl, rfl, trivial⟩ ?_
  refine Hd.toK hK4 ?_
  refine Hd.seq (fun K5 hK5 => ?_)
  refine Hd.cond rfl (fun hc0 => ?_) (fun hc0 => ?_)
  ·
    try simp only [decide_eq_true_eq, decide_eq_false_iff_not, Bool.and_eq_true, Bool.or_eq_true, Bool.and_eq_false_iff, Bool.or_eq_false_iff, Bool.not_eq_true', Bool.not_eq_false', Bool.not_eq_true, Bool.not_eq_false, Int.not_lt, Int.not_le, Decidable.not_not, ne_eq] at hc0
    obtain ⟨_, hj⟩ := hp0
    have hk : k < 2 := by omega
    refine Hd.skip ?_
    refine Hd.toK hK5 ?_
    refine Hd.seq (fun K6 hK6 => ?_)
    refine Hd.block ?_
    refine Hd.seq (fun K7 hK7 => ?_)
    refine Hd.region ?_
    refine Hd.yv (y_indexn (us := encRt (r k)) Tryd.underlying72 ag24 sz24 rfl rfl (by omega) (r2_at hk)) ?_
    refine Hd.alloc zr24 (fun b4 => ?_)
    refine Hd.storeA (us := encRt (r k)) sz24 rfl rfl rfl (by simp [Value.oneCell']) pkk (by exact rfl) ?_
    refine Hd.nil ?_
    refine Hd.slots [(4, _), (5, _), (6, _)] ⟨rfl, rfl, rfl, trivial⟩ ?_
    refine Hd.toK hK7 ?_
    refine Hd.seq (fun K8 hK8 => ?_)
    refine Hd.region ?_
    refine Hd.yv (y_loadn (us := encRt (r k)) ag24 rfl (Rd.pt pkk (fun j v e => by rw [Nat.zero_add]; exact e)) (by exact sz24)) ?_
    refine Hd.yv (y_build (vs := []) rfl (by first | exact bd31_10 .. | kernel_rfl)) ?_
    refine Hd.yv (y_to (v' := .bool (!rz (r k))) (y_neq_agg rfl rfl eqt24 rfl ⟨rfl, rfl⟩) (by rw [← rz_eq])) ?_
    refine Hd.yv (y_move rfl) ?_
    apply Hd.andg 4 12 16 [(5, _), (6, _)] rfl ⟨rfl, rfl, trivial⟩
    · intro hg4_12
      try simp only [decide_eq_true_eq, decide_eq_false_iff_not, Bool.and_eq_true, Bool.or_eq_true, Bool.and_eq_false_iff, Bool.or_eq_false_iff, Bool.not_eq_true', Bool.not_eq_false', Bool.not_eq_true, Bool.not_eq_false, Int.not_lt, Int.not_le, Decidable.not_not, ne_eq] at hg4_12
      simp only [List.take]
      first | (refine Hd.yg rfl rfl (y_loadn (us := [_, _, _]) ag24 rfl (Rd.pt pkk (by (first | (intro j v e; rcases j with _|_|_|_|_|_|_|_|_|_|_|_|j <;> first | exact e | exact absurd e (by simp))))) (by exact sz24)) ?_) | (refine Hd.yg rfl rfl (y_loadn (us := [_, _, _]) ag24 rfl (Rd.seg pkk (by (first | (intro j v e; rcases j with _|_|_|_|_|_|_|_|_|_|_|_|j <;> first | exact e | exact absurd e (by simp))))) (by exact sz24)) ?_) | (refine Hd.yg rfl rfl (y_loadRn ag24 rfl (by (first | exact RdS.own pkk)) (by (first | (intro j v e; rcases j with _|_|_|_|_|_|_|_|_|_|_|_|j <;> first | exact e | exact absurd e (by simp)))) (by exact sz24) (by simp)) ?_)
      refine Hd.unguard rfl rfl ?_
      refine Hd.callE rfl fk57 (check_ct _ (r k)) (Ent.sep enn) ?_
      intro _
      refine Hd.yg rfl rfl (y_neq rfl rfl) ?_
      first | (refine Hd.yv (y_pickT rfl rfl) ?_) | (refine Hd.yv (y_pickF rfl rfl) ?_) | (refine Hd.yv (y_pickb rfl rfl rfl) ?_) | (refine Hd.yv (y_pick rfl rfl rfl) ?_)
      refine Hd.nil ?_
      exact Hd.mend (by repeat (first | exact trivial | refine ⟨rfl, ?_⟩)) (Ent.sep enn)
    · intro hg4_12
      try simp only [decide_eq_true_eq, decide_eq_false_iff_not, Bool.and_eq_true, Bool.or_eq_true, Bool.and_eq_false_iff, Bool.or_eq_false_iff, Bool.not_eq_true', Bool.not_eq_false', Bool.not_eq_true, Bool.not_eq_false, Int.not_lt, Int.not_le, Decidable.not_not, ne_eq] at hg4_12
      simp only [List.take]
      refine Hd.ng rfl rfl rfl ?_
      refine Hd.ng rfl rfl rfl ?_
      refine Hd.ng rfl rfl rfl ?_
      first | (refine Hd.yv (y_pickT rfl rfl) ?_) | (refine Hd.yv (y_pickF rfl rfl) ?_) | (refine Hd.yv (y_pickb rfl rfl rfl) ?_) | (refine Hd.yv (y_pick rfl rfl rfl) ?_)
      refine Hd.nil ?_
      exact Hd.mend (by repeat (first | exact trivial | refine ⟨rfl, ?_⟩)) (Ent.sep enn)
    simp only [List.drop]
    refine Hd.nil ?_
    refine Hd.slots [(5, _), (6, _), (16, _)] ⟨rfl, rfl, rfl, trivial⟩ ?_
    refine Hd.toK hK8 ?_
    refine Hd.cond rfl (fun hc1 => ?_) (fun hc1 => ?_)
    ·
      try simp only [decide_eq_true_eq, decide_eq_false_iff_not, Bool.and_eq_true, Bool.or_eq_true, Bool.and_eq_false_iff, Bool.or_eq_false_iff, Bool.not_eq_true', Bool.not_eq_false', Bool.not_eq_true, Bool.not_eq_false, Int.not_lt, Int.not_le, Decidable.not_not, ne_eq] at hc1
      have hbad : mayR (r k) = false := by
        unfold mayR
        rw [hc1.1, Bool.false_or]
        have := hc1.2
        split at this
        · rename_i h; rw [h]; rfl
        · exact absurd rfl this
      have hB : mayB r = false := by
        unfold mayB
        rcases (show k = 0 ∨ k = 1 by omega) with rfl | rfl
        · rw [hbad]; rfl
        · rw [hbad, Bool.and_false]
      refine Hd.seq (fun K9 hK9 => ?_)
      refine Hd.region ?_
      refine Hd.yv (y_assign rfl) ?_
      refine Hd.nil ?_
      refine Hd.slots [(2, _)] ⟨rfl, trivial⟩ ?_
      refine Hd.toK hK9 ?_
      refine Hd.ret ?_
      refine Hd.inBret ?_
      refine Hd.thenRet ?_
      refine Hd.thenRet ?_
      refine Hd.inBret ?_
      refine Hd.thenRet ?_
      clear hK1 hK2 hK3 hK4 hK5 hK6 hK7 hK8 hK9
      exact Hd.ret1 rfl () (by rw [hB]; rfl) (Ent.sep enn)
    ·
      try simp only [decide_eq_true_eq, decide_eq_false_iff_not, Bool.and_eq_true, Bool.or_eq_true, Bool.and_eq_false_iff, Bool.or_eq_false_iff, Bool.not_eq_true', Bool.not_eq_false', Bool.not_eq_true, Bool.not_eq_false, Int.not_lt, Int.not_le, Decidable.not_not, ne_eq] at hc1
      have hgood : mayR (r k) = true := by
        unfold mayR
        rcases hc1 with h | h
        · rw [h]; rfl
        · split at h
          · exact absurd h (by decide)
          · rename_i h2; rw [Bool.not_eq_true] at h2; rw [h2, Bool.not_false, Bool.or_true]
      refine Hd.skip ?_
      refine Hd.inB ?_
      refine Hd.toK hK6 ?_
      refine Hd.region ?_
      first | (refine Hd.yv (y_addn rfl rfl (by simp only [InK]; omega)) ?_) | (refine Hd.yv (y_add rfl rfl) ?_)
      refine Hd.yv (y_move rfl) ?_
      refine Hd.nil ?_
      refine Hd.slots [(5, _), (6, _)] ⟨rfl, rfl, trivial⟩ ?_
      clear hK1 hK2 hK3 hK4 hK5 hK6 hK7 hK8
      refine Hd.thenN ?_
      exact Hd.again (k + 1) (by first | omega | (simp only; omega) | (simp; omega)) (by repeat (first | exact trivial | refine ⟨rfl, ?_⟩)) (Ent.sep (.pure ⟨by omega, fun j hj2 => by by_cases e : j = k; subst e; exact hgood; exact hj j (by omega)⟩ enn))
  ·
    try simp only [decide_eq_true_eq, decide_eq_false_iff_not, Bool.and_eq_true, Bool.or_eq_true, Bool.and_eq_false_iff, Bool.or_eq_false_iff, Bool.not_eq_true', Bool.not_eq_false', Bool.not_eq_true, Bool.not_eq_false, Int.not_lt, Int.not_le, Decidable.not_not, ne_eq] at hc0
    refine Hd.exit ?_
    refine Hd.thenExit ?_
    refine Hd.thenExit ?_
    refine Hd.inBexit ?_
    refine Hd.toK hK2 ?_
    refine Hd.seq (fun K10 hK10 => ?_)
    refine Hd.region ?_
    refine Hd.yv (y_assign rfl) ?_
    refine Hd.nil ?_
    refine Hd.slots [(2, _)] ⟨rfl, trivial⟩ ?_
    refine Hd.toK hK10 ?_
    refine Hd.ret ?_
    clear hK1 hK2 hK3 hK4 hK5 hK10
    have hB : mayB r = true := by unfold mayB; rw [hp0.2 0 (by omega), hp0.2 1 (by omega)]; rfl
    exact Hd.ret1 rfl () (by rw [hB]; rfl) (Ent.sep enn)
def gvX (s : Nat → Option Nat) (x : Nat → BkA) (now : Int) (r : Nat → RtA) : Nat → BkA := fun k => if rz (r k) = true then x k else if (s k).isSome = true then setK (x k) now (r k) else newK (r k) now
theorem gv_ok {s : Nat → Option Nat} {x : Nat → BkA} (h : ∀ k, BkOk (x k)) {now : Int} (hn : InK .u64 now) {r : Nat → RtA} (hr : mayB r = true) {k : Nat} (hk : k < 2) : BkOk (gvX s x now r k) := by
  unfold gvX
  split
  · exact h k
  · rename_i hz
    have ho := mayB_at hr hk (by simpa using hz)
    split
    · exact set_ok (h k) hn ho
    · exact new_ok ho hn
abbrev gvK (s : Nat → Option Nat) (x : Nat → BkA) (now : Int) (r : Nat → RtA) (k : Nat) : Nat → BkA := fun j => if j < k then gvX s x now r j else x j
def upS (s : Nat → Option Nat) (k : Nat) (v : Option Nat) : Nat → Option Nat := fun j => if j = k then v else s j
theorem upS_at (s : Nat → Option Nat) (k : Nat) (v : Option Nat) : upS s k v k = v := if_pos rfl
theorem upS_ne (s : Nat → Option Nat) {k j : Nat} (v : Option Nat) (h : j ≠ k) : upS s k v j = s j := if_neg h
abbrev gvC (A B : List Value) (s : Nat → Option Nat) : List Value := A ++ (pN (s 0) :: pN (s 1) :: B)
theorem gvC_at {A B : List Value} {s : Nat → Option Nat} {k : Nat} (hk : k < 2) : (gvC A B s)[A.length + k * 1]? = some (pN (s k)) := by
  rcases (show k = 0 ∨ k = 1 by omega) with rfl | rfl
  · rw [List.getElem?_append_right (by omega)]; simp
  · rw [List.getElem?_append_right (by omega)]; simp
theorem gvC_set {A B : List Value} {s : Nat → Option Nat} {k : Nat} (hk : k < 2) (v : Option Nat) : (gvC A B s).set (A.length + k * 1) (pN v) = gvC A B (upS s k v) := by
  rcases (show k = 0 ∨ k = 1 by omega) with rfl | rfl
  · rw [List.set_append_right _ _ (by omega)]; simp [upS]
  · rw [List.set_append_right _ _ (by omega)]; simp [upS]
theorem gvC_len {A B : List Value} {s : Nat → Option Nat} {k : Nat} (hk : k < 2) : A.length + k * 1 < (gvC A B s).length := by simp; omega
structure GvI (s s2 : Nat → Option Nat) (r : Nat → RtA) (k : Nat) : Prop where
  old : ∀ j, k ≤ j → s2 j = s j
  new : ∀ j, j < k → (s2 j).isSome = !rz (r j)
theorem GvI.put {s s2 : Nat → Option Nat} {r : Nat → RtA} {k : Nat} (h : GvI s s2 r k) {v : Option Nat} (hv : v.isSome = !rz (r k)) : GvI s (upS s2 k v) r (k + 1) :=
  ⟨fun j hj => by rw [upS_ne _ _ (by omega)]; exact h.old j (by omega), fun j hj => by
    by_cases e : j = k
    · subst e; rw [upS_at]; exact hv
    · rw [upS_ne _ _ e]; exact h.new j (by omega)⟩
theorem GvI.same {s s2 : Nat → Option Nat} {r : Nat → RtA} {k : Nat} (h : GvI s s2 r k) (hv : (s2 k).isSome = !rz (r k)) : GvI s s2 r (k + 1) :=
  ⟨fun j hj => h.old j (by omega), fun j hj => by
    by_cases e : j = k
    · subst e; exact hv
    · exact h.new j (by omega)⟩
theorem sl_k {s : Nat → Option Nat} {x : Nat → BkA} {k : Nat} (hk : k < 2) {L : List SP} : ∀ h, sep (SlB (s 0) (x 0) :: SlB (s 1) (x 1) :: L) h → sep (SlB (s k) (x k) :: SlB (s (1 - k)) (x (1 - k)) :: L) h := fun h q => by
  rcases (show k = 0 ∨ k = 1 by omega) with rfl | rfl
  · exact q
  · exact Ent.sep enn h q
theorem sl_l {s : Nat → Option Nat} {x : Nat → BkA} {k : Nat} (hk : k < 2) {L : List SP} : ∀ h, sep (SlB (s k) (x k) :: SlB (s (1 - k)) (x (1 - k)) :: L) h → sep (SlB (s 0) (x 0) :: SlB (s 1) (x 1) :: L) h := fun h q => by
  rcases (show k = 0 ∨ k = 1 by omega) with rfl | rfl
  · exact q
  · exact Ent.sep enn h q
theorem gvK_at (s : Nat → Option Nat) (x : Nat → BkA) (now : Int) (r : Nat → RtA) (k : Nat) : gvK s x now r k k = x k := if_neg (Nat.lt_irrefl k)
theorem gvK_new (s : Nat → Option Nat) (x : Nat → BkA) (now : Int) (r : Nat → RtA) (k : Nat) : gvK s x now r (k + 1) k = gvX s x now r k := if_pos (Nat.lt_succ_self k)
theorem gvK_ne (s : Nat → Option Nat) (x : Nat → BkA) (now : Int) (r : Nat → RtA) {k : Nat} (hk : k < 2) : gvK s x now r (k + 1) (1 - k) = gvK s x now r k (1 - k) := by
  rcases (show k = 0 ∨ k = 1 by omega) with rfl | rfl <;> rfl
set_option maxHeartbeats 2000000 in
theorem give_ct (L : List SP) (b : Nat) (A B : List Value) (e : TypeId) (s : Nat → Option Nat) (x : Nat → BkA) (h : ∀ k, BkOk (x k)) (now : Int) (hn : InK .u64 now) (r : Nat → RtA) (hr : mayB r = true) : Ct Tryd.prog 32 #[.int .u64 now, .pointer (some ⟨b, A.length, none⟩), .agg (encR2 r).toArray] (pt b (gvC A B s) e :: SlB (s 0) (x 0) :: SlB (s 1) (x 1) :: L) (fun s2 : Nat → Option Nat => .tuple #[]) (fun s2 : Nat → Option Nat => pu (∀ j, j < 2 → (s2 j).isSome = !rz (r j)) :: pt b (gvC A B s2) e :: SlB (s2 0) (gvX s x now r 0) :: SlB (s2 1) (gvX s x now r 1) :: L) := by
  refine Ct.of (vs := [.int .u64 now, .pointer (some ⟨b, A.length, none⟩), .agg (encR2 r).toArray]) Tryd.func32 rfl rfl [(0, .int .u64 now), (1, .pointer (some ⟨b, A.length, none⟩)), (2, .agg (encR2 r).toArray)] (by repeat (first | exact trivial | refine ⟨rfl, ?_⟩)) ?_
  intro E
  show Hd E 47 _ _ _ _
  refine Hd.seq (fun K1 hK1 => ?_)
  refine Hd.region ?_
  refine Hd.box (us := encR2 r) rfl rfl (fun b5 => ?_)
  refine Hd.nil ?_
  refine Hd.slots [(0, _), (1, _), (5, _)] ⟨rfl, rfl, rfl, trivial⟩ ?_
  refine Hd.toK hK1 ?_
  refine Hd.seq (fun K2 hK2 => ?_)
  refine Hd.region ?_
  refine Hd.yv (y_loadn (us := encR2 r) ag72 rfl (Rd.pt pkk (fun j v e => by rw [Nat.zero_add]; exact e)) (by exact sz72)) ?_
  refine Hd.yv (y_move rfl) ?_
  refine Hd.nil ?_
  refine Hd.slots [(0, _), (1, _), (8, _), (9, _)] ⟨rfl, rfl, rfl, rfl, trivial⟩ ?_
  refine Hd.toK hK2 ?_
  refine Hd.block ?_
  refine Hd.loopK (ι := Nat × (Nat → Option Nat)) [(0, _), (1, _), (8, _)] (fun q_ => [(9, .int .i64 (q_.1 : Int))]) (fun q_ => pu (q_.1 ≤ 2 ∧ GvI s q_.2 r q_.1) :: pt b (gvC A B q_.2) e :: SlB (q_.2 0) (gvK s x now r q_.1 0) :: SlB (q_.2 1) (gvK s x now r q_.1 1) :: L) (fun q_ => 2 - q_.1) (0, s) (by repeat (first | exact trivial | refine ⟨rfl, ?_⟩)) (by repeat (first | exact trivial | refine ⟨rfl, ?_⟩)) (fun q t => Ent.sep (.pure ⟨Nat.zero_le _, ⟨fun _ _ => rfl, fun j hj => absurd hj (Nat.not_lt_zero j)⟩⟩ .same) q (show sep (pt b (gvC A B s) e :: SlB (s 0) (x 0) :: SlB (s 1) (x 1) :: L) q from Ent.sep enn q t)) ?_
  rintro ⟨k, s2⟩
  try dsimp only
  refine Hd.pure (fun hp0 => ?_)
  try dsimp only at hp0
  refine Hd.seq (fun K3 hK3 => ?_)
  refine Hd.region ?_
  refine Hd.yv (y_lss rfl rfl) ?_
  refine Hd.nil ?_
  refine Hd.slots [(0, _), (1, _), (8, _), (9, _), (10, _)] ⟨rfl, rfl, rfl, rfl, rfl, trivial⟩ ?_
  refine Hd.toK hK3 ?_
  refine Hd.seq (fun K4 hK4 => ?_)
  refine Hd.cond rfl (fun hc0 => ?_) (fun hc0 => ?_)
  ·
    try simp only [decide_eq_true_eq, decide_eq_false_iff_not, Bool.and_eq_true, Bool.or_eq_true, Bool.and_eq_false_iff, Bool.or_eq_false_iff, Bool.not_eq_true', Bool.not_eq_false', Bool.not_eq_true, Bool.not_eq_false, Int.not_lt, Int.not_le, Decidable.not_not, ne_eq] at hc0
    obtain ⟨_, hG⟩ := hp0
    have hk : k < 2 := by omega
    have hsk : s2 k = s k := hG.old k (Nat.le_refl k)
    have hgx : gvX s x now r k = if rz (r k) = true then x k else if (s k).isSome = true then setK (x k) now (r k) else newK (r k) now := rfl
    refine Hd.skip ?_
    refine Hd.toK hK4 ?_
    refine Hd.cutK (ι := Nat → Option Nat) [(0, _), (1, _), (8, _), (9, _)] (fun _ => []) (fun s3 => pu (GvI s s3 r (k + 1)) :: pt b (gvC A B s3) e :: SlB (s3 k) (gvX s x now r k) :: SlB (s3 (1 - k)) (gvK s x now r k (1 - k)) :: L) ?_ ?_ ⟨rfl, rfl, rfl, rfl, trivial⟩
    have hxk := gvK_at s x now r k
    have hk1 : 1 - k ≠ k := by omega
    ·
      refine Hd.block ?_
      refine Hd.seq (fun K5 hK5 => ?_)
      refine Hd.region ?_
      refine Hd.yv (y_move rfl) ?_
      refine Hd.yv (y_indexn (us := encRt (r k)) Tryd.underlying72 ag24 sz24 rfl rfl (by omega) (r2_at hk)) ?_
      refine Hd.alloc zr24 (fun b7 => ?_)
      refine Hd.yv (y_assign rfl) ?_
      refine Hd.storeA (us := encRt (r k)) sz24 rfl rfl rfl (by simp [Value.oneCell']) pkk (by exact rfl) ?_
      refine Hd.nil ?_
      refine Hd.slots [(0, _), (1, _), (6, _), (7, _), (8, _), (9, _)] ⟨rfl, rfl, rfl, rfl, rfl, rfl, trivial⟩ ?_
      refine Hd.toK hK5 ?_
      refine Hd.block ?_
      refine Hd.seq (fun K6 hK6 => ?_)
      refine Hd.heap (pt b7 (encRt (r k)) 24 :: pt b (gvC A B s2) e :: SlB (s2 k) (x k) :: SlB (s2 (1 - k)) (gvK s x now r k (1 - k)) :: L) (fun q t => ?_) ?_
      · have t2 : sep ([pt b7 (encRt (r k)) 24, pt b (gvC A B s2) e] ++ (SlB (s2 0) (gvK s x now r k 0) :: SlB (s2 1) (gvK s x now r k 1) :: L)) q := Ent.sep enn q t
        rw [← hxk]
        exact sep_right (M := [_, _]) (fun q t => sl_k hk q t) t2
      refine Hd.region ?_
      refine Hd.yv (y_loadn (us := encRt (r k)) ag24 rfl (Rd.pt pkk (fun j v e => by rw [Nat.zero_add]; exact e)) (by exact sz24)) ?_
      refine Hd.yv (y_build (vs := []) rfl (by first | exact bd32_25 .. | kernel_rfl)) ?_
      refine Hd.yv (y_to (v' := .bool (rz (r k))) (y_eql_agg rfl rfl eqt24 rfl ⟨rfl, rfl⟩) (by rw [← rz_eq])) ?_
      refine Hd.yv (y_assign rfl) ?_
      refine Hd.nil ?_
      refine Hd.slots [(0, _), (1, _), (6, _), (7, _), (8, _), (9, _), (23, _)] ⟨rfl, rfl, rfl, rfl, rfl, rfl, rfl, trivial⟩ ?_
      refine Hd.toK hK6 ?_
      refine Hd.cond rfl (fun hc1 => ?_) (fun hc1 => ?_)
      ·
        try simp only [decide_eq_true_eq, decide_eq_false_iff_not, Bool.and_eq_true, Bool.or_eq_true, Bool.and_eq_false_iff, Bool.or_eq_false_iff, Bool.not_eq_true', Bool.not_eq_false', Bool.not_eq_true, Bool.not_eq_false, Int.not_lt, Int.not_le, Decidable.not_not, ne_eq] at hc1
        refine Hd.region ?_
        refine Hd.yv (y_move rfl) ?_
        refine Hd.yv (y_move rfl) ?_
        refine Hd.yv (y_nilp rfl) ?_
        refine Hd.yv (y_idxA Tryd.underlying77 sz76 rfl rfl (by first | omega | decide)) ?_
        first | (refine Hd.store1 sz76 rfl rfl rfl pkk (by first | exact gvC_len hk | decide | (simp; done) | (simp; omega)) ?_) | (refine Hd.storeG1 sz76 rfl rfl rfl pkk (by first | exact gvC_len hk | decide | (simp; done) | (simp; omega)) ?_) | (refine Hd.storeO1 sz76 rfl rfl rfl pkk (by first | exact gvC_len hk | omega | (simp; done) | (simp; omega)) ?_)
        try simp only [List.set_cons_zero, List.set_cons_succ]
        refine Hd.nil ?_
        have hset0 : (gvC A B s2).set (A.length + k * 1) (.pointer none) = gvC A B (upS s2 k none) := gvC_set hk none
        rw [hset0]
        refine Hd.slots [(0, _), (1, _), (8, _), (9, _)] ⟨rfl, rfl, rfl, rfl, trivial⟩ ?_
        refine Hd.inB ?_
        refine Hd.inB ?_
        clear hK1 hK2 hK3 hK4 hK5 hK6
        refine Hd.thenN ?_
        have hI := hG.put (v := none) (by rw [hc1]; rfl)
        refine Hd.meet (upS s2 k none) (by repeat (first | exact trivial | refine ⟨rfl, ?_⟩)) ?_
        rw [upS_at, upS_ne _ _ hk1, slB_none]
        exact Ent.sep (.pure hI (.pick pkk (.pure trivial enn)))
      ·
        try simp only [decide_eq_true_eq, decide_eq_false_iff_not, Bool.and_eq_true, Bool.or_eq_true, Bool.and_eq_false_iff, Bool.or_eq_false_iff, Bool.not_eq_true', Bool.not_eq_false', Bool.not_eq_true, Bool.not_eq_false, Int.not_lt, Int.not_le, Decidable.not_not, ne_eq] at hc1
        have hro := mayB_at hr hk (by simpa using hc1)
        refine Hd.seq (fun K7 hK7 => ?_)
        refine Hd.region ?_
        refine Hd.yv (y_move rfl) ?_
        refine Hd.yv (y_move rfl) ?_
        refine Hd.yv (y_nilp rfl) ?_
        refine Hd.yv (y_idxA Tryd.underlying77 sz76 rfl rfl (by first | omega | decide)) ?_
        first | (refine Hd.yv (y_load1 ag76 rfl (Rd.pt1 pkk (by (first | exact gvC_at hk | rfl)))) ?_) | (refine Hd.yv (y_load1 ag76 rfl (Rd.seg1 pkk (by (first | exact gvC_at hk | rfl)))) ?_) | (refine Hd.yv (y_loadR1 ag76 rfl (by (first | exact RdS.own pkk)) (by (first | exact gvC_at hk | rfl))) ?_)
        refine Hd.yv (y_neq_pointer Tryd.underlying76 rfl rfl) ?_
        refine Hd.yv (y_assign rfl) ?_
        refine Hd.nil ?_
        refine Hd.slots [(0, _), (1, _), (6, _), (7, _), (8, _), (9, _), (31, _)] ⟨rfl, rfl, rfl, rfl, rfl, rfl, rfl, trivial⟩ ?_
        refine Hd.toK hK7 ?_
        refine Hd.cond rfl (fun hc2 => ?_) (fun hc2 => ?_)
        ·
          try simp only [decide_eq_true_eq, decide_eq_false_iff_not, Bool.and_eq_true, Bool.or_eq_true, Bool.and_eq_false_iff, Bool.or_eq_false_iff, Bool.not_eq_true', Bool.not_eq_false', Bool.not_eq_true, Bool.not_eq_false, Int.not_lt, Int.not_le, Decidable.not_not, ne_eq] at hc2
          obtain ⟨p, hp⟩ : ∃ p, s2 k = some p := by cases h2 : s2 k with | none => rw [h2] at hc2; simp at hc2 | some p => exact ⟨p, rfl⟩
          have hI := hG.same (by rw [hp, hc1]; rfl)
          have hX : gvX s x now r k = setK (x k) now (r k) := by rw [hgx, if_neg (by rw [hc1]; simp), if_pos (by rw [← hsk, hp]; rfl)]
          rw [hp, slB_some]
          refine Hd.drawsH ([pt b (gvC A B s2) e, pt b7 (encRt (r k)) 24]) (fun _ => true) mixed ?_
          simp only [List.length, Nat.zero_add, Nat.reduceAdd]
          refine Hd.takeH 0 rfl (by kernel_rfl) (by kernel_rfl) (by kernel_rfl) (by kernel_rfl) (y_move rfl) (fun _ _ => rfl) (Ent.sep enn) ?_
          refine Hd.takeH 1 rfl (by kernel_rfl) (by kernel_rfl) (by kernel_rfl) (by kernel_rfl) (y_move rfl) (fun _ _ => rfl) (Ent.sep enn) ?_
          refine Hd.takeH 2 rfl (by kernel_rfl) (by kernel_rfl) (by kernel_rfl) (by kernel_rfl) (y_nilp rfl) (fun _ _ => rfl) (Ent.sep enn) ?_
          refine Hd.takeH 3 rfl (by kernel_rfl) (by kernel_rfl) (by kernel_rfl) (by kernel_rfl) (y_idxA Tryd.underlying77 sz76 rfl rfl (by first | omega | decide)) (fun _ _ => rfl) (Ent.sep enn) ?_
          first | (refine Hd.takeH 4 rfl (by kernel_rfl) (by kernel_rfl) (by kernel_rfl) (by kernel_rfl) (y_to (v' := .pointer (some ⟨p, 0, none⟩)) (y_load1 ag76 rfl (Rd.pt1 pkk (by (first | exact gvC_at hk | rfl)))) (by (rw [hp]; rfl))) (fun _ _ => rfl) (Ent.sep enn) ?_) | (refine Hd.takeH 4 rfl (by kernel_rfl) (by kernel_rfl) (by kernel_rfl) (by kernel_rfl) (y_to (v' := .pointer (some ⟨p, 0, none⟩)) (y_load1 ag76 rfl (Rd.seg1 pkk (by (first | exact gvC_at hk | rfl)))) (by (rw [hp]; rfl))) (fun _ _ => rfl) (Ent.sep enn) ?_) | (refine Hd.takeH 4 rfl (by kernel_rfl) (by kernel_rfl) (by kernel_rfl) (by kernel_rfl) (y_to (v' := .pointer (some ⟨p, 0, none⟩)) (y_loadR1 ag76 rfl (by (first | exact RdS.own pkk)) (by (first | exact gvC_at hk | rfl))) (by (rw [hp]; rfl))) (fun _ _ => rfl) (Ent.sep enn) ?_)
          refine Hd.takeH 5 rfl (by kernel_rfl) (by kernel_rfl) (by kernel_rfl) (by kernel_rfl) (y_move rfl) (fun _ _ => rfl) (Ent.sep enn) ?_
          first | (refine Hd.takeH 6 rfl (by kernel_rfl) (by kernel_rfl) (by kernel_rfl) (by kernel_rfl) (y_loadn (us := [_, _, _]) ag24 rfl (Rd.pt pkk (by (first | (intro j v e; rcases j with _|_|_|_|_|_|_|_|_|_|_|_|j <;> first | exact e | exact absurd e (by simp))))) (by exact sz24)) (fun _ _ => rfl) (Ent.sep enn) ?_) | (refine Hd.takeH 6 rfl (by kernel_rfl) (by kernel_rfl) (by kernel_rfl) (by kernel_rfl) (y_loadn (us := [_, _, _]) ag24 rfl (Rd.seg pkk (by (first | (intro j v e; rcases j with _|_|_|_|_|_|_|_|_|_|_|_|j <;> first | exact e | exact absurd e (by simp))))) (by exact sz24)) (fun _ _ => rfl) (Ent.sep enn) ?_) | (refine Hd.takeH 6 rfl (by kernel_rfl) (by kernel_rfl) (by kernel_rfl) (by kernel_rfl) (y_loadRn ag24 rfl (by (first | exact RdS.own pkk)) (by (first | (intro j v e; rcases j with _|_|_|_|_|_|_|_|_|_|_|_|j <;> first | exact e | exact absurd e (by simp)))) (by exact sz24) (by simp)) (fun _ _ => rfl) (Ent.sep enn) ?_)
          refine Hd.onlyH 7 rfl (by kernel_rfl) ?_
          refine Hd.callE rfl fk58 (bkset_ct _ p (x k) (h k) now hn (r k) hro) (Ent.sep enn) ?_
          intro _
          refine Hd.nil ?_
          refine Hd.thenN ?_
          refine Hd.heldK (J := (fun _ => true)) (i := 7) (Ent.sep enn) ?_
          refine Hd.endH (by kernel_rfl) ?_
          refine Hd.slots [(0, _), (1, _), (8, _), (9, _)] ⟨rfl, rfl, rfl, rfl, trivial⟩ ?_
          refine Hd.inB ?_
          refine Hd.inB ?_
          clear hK1 hK2 hK3 hK4 hK5 hK6 hK7
          refine Hd.thenN ?_
          refine Hd.meet s2 (by repeat (first | exact trivial | refine ⟨rfl, ?_⟩)) ?_
          rw [hp, slB_some, hX]
          exact Ent.sep (.pure hI enn)
        ·
          try simp only [decide_eq_true_eq, decide_eq_false_iff_not, Bool.and_eq_true, Bool.or_eq_true, Bool.and_eq_false_iff, Bool.or_eq_false_iff, Bool.not_eq_true', Bool.not_eq_false', Bool.not_eq_true, Bool.not_eq_false, Int.not_lt, Int.not_le, Decidable.not_not, ne_eq] at hc2
          have hp : s2 k = none := by cases h2 : s2 k with | none => rfl | some p => rw [h2] at hc2; simp at hc2
          have hX : gvX s x now r k = newK (r k) now := by rw [hgx, if_neg (by rw [hc1]; simp), if_neg (by rw [← hsk, hp]; simp)]
          refine Hd.drawsH ([pt b7 (encRt (r k)) 24]) (fun j => !([10].contains j)) mixed ?_
          simp only [List.length, Nat.zero_add, Nat.reduceAdd]
          refine Hd.takeH 0 rfl (by kernel_rfl) (by kernel_rfl) (by kernel_rfl) (by kernel_rfl) (y_move rfl) (fun _ _ => rfl) (Ent.sep enn) ?_
          refine Hd.takeH 1 rfl (by kernel_rfl) (by kernel_rfl) (by kernel_rfl) (by kernel_rfl) (y_move rfl) (fun _ _ => rfl) (Ent.sep enn) ?_
          first | (refine Hd.takeH 2 rfl (by kernel_rfl) (by kernel_rfl) (by kernel_rfl) (by kernel_rfl) (y_loadn (us := [_, _, _]) ag24 rfl (Rd.pt pkk (by (first | (intro j v e; rcases j with _|_|_|_|_|_|_|_|_|_|_|_|j <;> first | exact e | exact absurd e (by simp))))) (by exact sz24)) (fun _ _ => rfl) (Ent.sep enn) ?_) | (refine Hd.takeH 2 rfl (by kernel_rfl) (by kernel_rfl) (by kernel_rfl) (by kernel_rfl) (y_loadn (us := [_, _, _]) ag24 rfl (Rd.seg pkk (by (first | (intro j v e; rcases j with _|_|_|_|_|_|_|_|_|_|_|_|j <;> first | exact e | exact absurd e (by simp))))) (by exact sz24)) (fun _ _ => rfl) (Ent.sep enn) ?_) | (refine Hd.takeH 2 rfl (by kernel_rfl) (by kernel_rfl) (by kernel_rfl) (by kernel_rfl) (y_loadRn ag24 rfl (by (first | exact RdS.own pkk)) (by (first | (intro j v e; rcases j with _|_|_|_|_|_|_|_|_|_|_|_|j <;> first | exact e | exact absurd e (by simp)))) (by exact sz24) (by simp)) (fun _ _ => rfl) (Ent.sep enn) ?_)
          refine Hd.takeH 3 rfl (by kernel_rfl) (by kernel_rfl) (by kernel_rfl) (by kernel_rfl) (y_move rfl) (fun _ _ => rfl) (Ent.sep enn) ?_
          refine Hd.eitherH 4 8 rfl rfl (by kernel_rfl) ?_ ?_
          ·
            refine Hd.callE rfl fk59 (bknew_ct _ (r k) hro now) (Ent.sep enn) ?_
            intro nb
            refine Hd.nil ?_
            refine Hd.thenN ?_
            refine Hd.heldK (J := (fun j => !([10].contains j))) (i := 4) (Ent.sep enn) ?_
            refine Hd.takeH 5 rfl (by kernel_rfl) (by kernel_rfl) (by kernel_rfl) (by kernel_rfl) (y_move rfl) (fun _ _ => rfl) (Ent.sep enn) ?_
            refine Hd.takeH 6 rfl (by kernel_rfl) (by kernel_rfl) (by kernel_rfl) (by kernel_rfl) (y_to (v' := .pointer (some ⟨nb, 0, none⟩)) (y_extract rfl rfl) (by rfl)) (fun _ _ => rfl) (Ent.sep enn) ?_
            refine Hd.eitherH 7 8 rfl rfl (by kernel_rfl) ?_ ?_
            ·
              refine Hd.yv (y_extract rfl rfl) ?_
              refine Hd.nil ?_
              refine Hd.thenN ?_
              refine Hd.heldK (J := (fun j => !([10].contains j))) (i := 7) (Ent.sep enn) ?_
              refine Hd.onlyH 8 rfl (by kernel_rfl) ?_
              refine Hd.yv (y_nilp rfl) ?_
              refine Hd.nil ?_
              refine Hd.thenN ?_
              refine Hd.heldK (J := (fun j => !([10].contains j))) (i := 8) (Ent.sep enn) ?_
              refine Hd.takeH 9 rfl (by kernel_rfl) (by kernel_rfl) (by kernel_rfl) (by kernel_rfl) (y_idxA Tryd.underlying77 sz76 rfl rfl (by first | omega | decide)) (fun _ _ => rfl) (Ent.sep enn) ?_
              refine Hd.onlyH 10 rfl (by kernel_rfl) ?_
              first | (refine Hd.store1 sz76 rfl rfl rfl pkk (by first | exact gvC_len hk | decide | (simp; done) | (simp; omega)) ?_) | (refine Hd.storeG1 sz76 rfl rfl rfl pkk (by first | exact gvC_len hk | decide | (simp; done) | (simp; omega)) ?_) | (refine Hd.storeO1 sz76 rfl rfl rfl pkk (by first | exact gvC_len hk | omega | (simp; done) | (simp; omega)) ?_)
              try simp only [List.set_cons_zero, List.set_cons_succ]
              refine Hd.nil ?_
              refine Hd.thenN ?_
              refine Hd.heldN (J := (fun j => !([10].contains j))) (i := 10) rfl ?_
              refine Hd.endH (by kernel_rfl) ?_
              have hI := hG.put (v := some nb) (by rw [hc1]; rfl)
              have hset : (gvC A B s2).set (A.length + k * 1) (.pointer (some ⟨nb, 0, none⟩)) = gvC A B (upS s2 k (some nb)) := gvC_set hk (some nb)
              refine Hd.slots [(0, _), (1, _), (8, _), (9, _)] ⟨rfl, rfl, rfl, rfl, trivial⟩ ?_
              refine Hd.inB ?_
              refine Hd.inB ?_
              clear hK1 hK2 hK3 hK4 hK5 hK6 hK7
              refine Hd.thenN ?_
              refine Hd.meet (upS s2 k (some nb)) (by repeat (first | exact trivial | refine ⟨rfl, ?_⟩)) ?_
              rw [upS_at, upS_ne _ _ hk1, slB_some, hX, ← hset]
              exact Ent.sep (.pure hI enn)
            ·
              refine Hd.yv (y_nilp rfl) ?_
              refine Hd.nil ?_
              refine Hd.thenN ?_
              refine Hd.heldK (J := (fun j => !([10].contains j))) (i := 8) (Ent.sep enn) ?_
              refine Hd.takeH 9 rfl (by kernel_rfl) (by kernel_rfl) (by kernel_rfl) (by kernel_rfl) (y_idxA Tryd.underlying77 sz76 rfl rfl (by first | omega | decide)) (fun _ _ => rfl) (Ent.sep enn) ?_
              refine Hd.eitherH 7 10 rfl rfl (by kernel_rfl) ?_ ?_
              ·
                refine Hd.yv (y_extract rfl rfl) ?_
                refine Hd.nil ?_
                refine Hd.thenN ?_
                refine Hd.heldK (J := (fun j => !([10].contains j))) (i := 7) (Ent.sep enn) ?_
                refine Hd.onlyH 10 rfl (by kernel_rfl) ?_
                first | (refine Hd.store1 sz76 rfl rfl rfl pkk (by first | exact gvC_len hk | decide | (simp; done) | (simp; omega)) ?_) | (refine Hd.storeG1 sz76 rfl rfl rfl pkk (by first | exact gvC_len hk | decide | (simp; done) | (simp; omega)) ?_) | (refine Hd.storeO1 sz76 rfl rfl rfl pkk (by first | exact gvC_len hk | omega | (simp; done) | (simp; omega)) ?_)
                try simp only [List.set_cons_zero, List.set_cons_succ]
                refine Hd.nil ?_
                refine Hd.thenN ?_
                refine Hd.heldN (J := (fun j => !([10].contains j))) (i := 10) rfl ?_
                refine Hd.endH (by kernel_rfl) ?_
                have hI := hG.put (v := some nb) (by rw [hc1]; rfl)
                have hset : (gvC A B s2).set (A.length + k * 1) (.pointer (some ⟨nb, 0, none⟩)) = gvC A B (upS s2 k (some nb)) := gvC_set hk (some nb)
                refine Hd.slots [(0, _), (1, _), (8, _), (9, _)] ⟨rfl, rfl, rfl, rfl, trivial⟩ ?_
                refine Hd.inB ?_
                refine Hd.inB ?_
                clear hK1 hK2 hK3 hK4 hK5 hK6 hK7
                refine Hd.thenN ?_
                refine Hd.meet (upS s2 k (some nb)) (by repeat (first | exact trivial | refine ⟨rfl, ?_⟩)) ?_
                rw [upS_at, upS_ne _ _ hk1, slB_some, hX, ← hset]
                exact Ent.sep (.pure hI enn)
              ·
                first | (refine Hd.store1 sz76 rfl rfl rfl pkk (by first | exact gvC_len hk | decide | (simp; done) | (simp; omega)) ?_) | (refine Hd.storeG1 sz76 rfl rfl rfl pkk (by first | exact gvC_len hk | decide | (simp; done) | (simp; omega)) ?_) | (refine Hd.storeO1 sz76 rfl rfl rfl pkk (by first | exact gvC_len hk | omega | (simp; done) | (simp; omega)) ?_)
                try simp only [List.set_cons_zero, List.set_cons_succ]
                refine Hd.nil ?_
                refine Hd.thenN ?_
                refine Hd.heldN (J := (fun j => !([10].contains j))) (i := 10) rfl ?_
                refine Hd.onlyH 7 rfl (by kernel_rfl) ?_
                refine Hd.yv (y_extract rfl rfl) ?_
                refine Hd.nil ?_
                refine Hd.thenN ?_
                refine Hd.heldK (J := (fun j => !([10].contains j))) (i := 7) (Ent.sep enn) ?_
                refine Hd.endH (by kernel_rfl) ?_
                have hI := hG.put (v := some nb) (by rw [hc1]; rfl)
                have hset : (gvC A B s2).set (A.length + k * 1) (.pointer (some ⟨nb, 0, none⟩)) = gvC A B (upS s2 k (some nb)) := gvC_set hk (some nb)
                refine Hd.slots [(0, _), (1, _), (8, _), (9, _)] ⟨rfl, rfl, rfl, rfl, trivial⟩ ?_
                refine Hd.inB ?_
                refine Hd.inB ?_
                clear hK1 hK2 hK3 hK4 hK5 hK6 hK7
                refine Hd.thenN ?_
                refine Hd.meet (upS s2 k (some nb)) (by repeat (first | exact trivial | refine ⟨rfl, ?_⟩)) ?_
                rw [upS_at, upS_ne _ _ hk1, slB_some, hX, ← hset]
                exact Ent.sep (.pure hI enn)
          ·
            refine Hd.yv (y_nilp rfl) ?_
            refine Hd.nil ?_
            refine Hd.thenN ?_
            refine Hd.heldK (J := (fun j => !([10].contains j))) (i := 8) (Ent.sep enn) ?_
            refine Hd.onlyH 4 rfl (by kernel_rfl) ?_
            refine Hd.callE rfl fk59 (bknew_ct _ (r k) hro now) (Ent.sep enn) ?_
            intro nb
            refine Hd.nil ?_
            refine Hd.thenN ?_
            refine Hd.heldK (J := (fun j => !([10].contains j))) (i := 4) (Ent.sep enn) ?_
            refine Hd.takeH 5 rfl (by kernel_rfl) (by kernel_rfl) (by kernel_rfl) (by kernel_rfl) (y_move rfl) (fun _ _ => rfl) (Ent.sep enn) ?_
            refine Hd.takeH 6 rfl (by kernel_rfl) (by kernel_rfl) (by kernel_rfl) (by kernel_rfl) (y_to (v' := .pointer (some ⟨nb, 0, none⟩)) (y_extract rfl rfl) (by rfl)) (fun _ _ => rfl) (Ent.sep enn) ?_
            refine Hd.takeH 9 rfl (by kernel_rfl) (by kernel_rfl) (by kernel_rfl) (by kernel_rfl) (y_idxA Tryd.underlying77 sz76 rfl rfl (by first | omega | decide)) (fun _ _ => rfl) (Ent.sep enn) ?_
            refine Hd.eitherH 7 10 rfl rfl (by kernel_rfl) ?_ ?_
            ·
              refine Hd.yv (y_extract rfl rfl) ?_
              refine Hd.nil ?_
              refine Hd.thenN ?_
              refine Hd.heldK (J := (fun j => !([10].contains j))) (i := 7) (Ent.sep enn) ?_
              refine Hd.onlyH 10 rfl (by kernel_rfl) ?_
              first | (refine Hd.store1 sz76 rfl rfl rfl pkk (by first | exact gvC_len hk | decide | (simp; done) | (simp; omega)) ?_) | (refine Hd.storeG1 sz76 rfl rfl rfl pkk (by first | exact gvC_len hk | decide | (simp; done) | (simp; omega)) ?_) | (refine Hd.storeO1 sz76 rfl rfl rfl pkk (by first | exact gvC_len hk | omega | (simp; done) | (simp; omega)) ?_)
              try simp only [List.set_cons_zero, List.set_cons_succ]
              refine Hd.nil ?_
              refine Hd.thenN ?_
              refine Hd.heldN (J := (fun j => !([10].contains j))) (i := 10) rfl ?_
              refine Hd.endH (by kernel_rfl) ?_
              have hI := hG.put (v := some nb) (by rw [hc1]; rfl)
              have hset : (gvC A B s2).set (A.length + k * 1) (.pointer (some ⟨nb, 0, none⟩)) = gvC A B (upS s2 k (some nb)) := gvC_set hk (some nb)
              refine Hd.slots [(0, _), (1, _), (8, _), (9, _)] ⟨rfl, rfl, rfl, rfl, trivial⟩ ?_
              refine Hd.inB ?_
              refine Hd.inB ?_
              clear hK1 hK2 hK3 hK4 hK5 hK6 hK7
              refine Hd.thenN ?_
              refine Hd.meet (upS s2 k (some nb)) (by repeat (first | exact trivial | refine ⟨rfl, ?_⟩)) ?_
              rw [upS_at, upS_ne _ _ hk1, slB_some, hX, ← hset]
              exact Ent.sep (.pure hI enn)
            ·
              first | (refine Hd.store1 sz76 rfl rfl rfl pkk (by first | exact gvC_len hk | decide | (simp; done) | (simp; omega)) ?_) | (refine Hd.storeG1 sz76 rfl rfl rfl pkk (by first | exact gvC_len hk | decide | (simp; done) | (simp; omega)) ?_) | (refine Hd.storeO1 sz76 rfl rfl rfl pkk (by first | exact gvC_len hk | omega | (simp; done) | (simp; omega)) ?_)
              try simp only [List.set_cons_zero, List.set_cons_succ]
              refine Hd.nil ?_
              refine Hd.thenN ?_
              refine Hd.heldN (J := (fun j => !([10].contains j))) (i := 10) rfl ?_
              refine Hd.onlyH 7 rfl (by kernel_rfl) ?_
              refine Hd.yv (y_extract rfl rfl) ?_
              refine Hd.nil ?_
              refine Hd.thenN ?_
              refine Hd.heldK (J := (fun j => !([10].contains j))) (i := 7) (Ent.sep enn) ?_
              refine Hd.endH (by kernel_rfl) ?_
              have hI := hG.put (v := some nb) (by rw [hc1]; rfl)
              have hset : (gvC A B s2).set (A.length + k * 1) (.pointer (some ⟨nb, 0, none⟩)) = gvC A B (upS s2 k (some nb)) := gvC_set hk (some nb)
              refine Hd.slots [(0, _), (1, _), (8, _), (9, _)] ⟨rfl, rfl, rfl, rfl, trivial⟩ ?_
              refine Hd.inB ?_
              refine Hd.inB ?_
              clear hK1 hK2 hK3 hK4 hK5 hK6 hK7
              refine Hd.thenN ?_
              refine Hd.meet (upS s2 k (some nb)) (by repeat (first | exact trivial | refine ⟨rfl, ?_⟩)) ?_
              rw [upS_at, upS_ne _ _ hk1, slB_some, hX, ← hset]
              exact Ent.sep (.pure hI enn)
    ·
      intro s3
      refine Hd.pure (fun hI => ?_)
      refine Hd.region ?_
      first | (refine Hd.yv (y_addn rfl rfl (by simp only [InK]; omega)) ?_) | (refine Hd.yv (y_add rfl rfl) ?_)
      refine Hd.yv (y_move rfl) ?_
      refine Hd.nil ?_
      refine Hd.slots [(0, _), (1, _), (8, _), (9, _)] ⟨rfl, rfl, rfl, rfl, trivial⟩ ?_
      clear hK1 hK2 hK3 hK4
      refine Hd.thenN ?_
      refine Hd.again (k + 1, s3) (by simp only; omega) (by repeat (first | exact trivial | refine ⟨rfl, ?_⟩)) (fun q t => ?_)
      have t2 : sep ([pt b (gvC A B s3) e] ++ (SlB (s3 k) (gvK s x now r (k + 1) k) :: SlB (s3 (1 - k)) (gvK s x now r (k + 1) (1 - k)) :: L)) q := by
        rw [gvK_new, gvK_ne _ _ _ _ hk]
        exact Ent.sep enn q t
      exact Ent.sep (.pure ⟨by show k + 1 ≤ 2; omega, hI⟩ .same) q (sep_right (M := [_]) (fun q t => sl_l hk q t) t2)
  ·
    try simp only [decide_eq_true_eq, decide_eq_false_iff_not, Bool.and_eq_true, Bool.or_eq_true, Bool.and_eq_false_iff, Bool.or_eq_false_iff, Bool.not_eq_true', Bool.not_eq_false', Bool.not_eq_true, Bool.not_eq_false, Int.not_lt, Int.not_le, Decidable.not_not, ne_eq] at hc0
    refine Hd.exit ?_
    refine Hd.thenExit ?_
    refine Hd.thenExit ?_
    refine Hd.inBexit ?_
    clear hK1 hK2 hK3 hK4
    obtain ⟨_, hG⟩ := hp0
    obtain rfl : k = 2 := by omega
    have f0 : gvK s x now r 2 0 = gvX s x now r 0 := if_pos (by decide)
    have f1 : gvK s x now r 2 1 = gvX s x now r 1 := if_pos (by decide)
    rw [f0, f1]
    exact Hd.end0 rfl s2 rfl (Ent.sep (.pure (fun j hj => hG.new j hj) enn))
end Lm
end Go.Proofs.YtmpemhbfgbochaaDoor
namespace Go.Proofs.YtmpemhbfgbochaaDoor
set_option linter.unusedSimpArgs false
set_option linter.unusedVariables false
set_option linter.unnecessarySimpa false
open Go.RX Fx
namespace Lm
open Bu Wo
set_option maxRecDepth 8000
def dumK : BkA := ⟨⟨1, 1, 1⟩, 1, 0⟩
theorem dum_ok : BkOk dumK := ⟨⟨by decide, by decide, by decide, by decide, by decide, by decide⟩, by decide, by decide, by show InK .u64 0; simp [InK]⟩
abbrev noS : Nat → Option Nat := fun _ => none
abbrev dmX : Nat → BkA := fun _ => dumK
abbrev ngX (now : Int) (r : Nat → RtA) : Nat → BkA := gvX noS dmX now r
theorem slB_noS (k : Nat) (x : BkA) : SlB (noS k) x = pu True := rfl
set_option maxHeartbeats 2000000 in
theorem newg_bad (L : List SP) (r : Nat → RtA) (h : mayB r = false) (now : Int) : Ct Tryd.prog 17 #[.int .u64 now, .agg (encRt (r 0)).toArray, .agg (encRt (r 1)).toArray] (L) (fun _ : Unit => .tuple #[.pointer none, .int .i64 80]) (fun _ : Unit => L) := by
  refine Ct.of (vs := [.int .u64 now, .agg (encRt (r 0)).toArray, .agg (encRt (r 1)).toArray]) Tryd.func17 rfl rfl [(0, .int .u64 now), (1, .agg (encRt (r 0)).toArray), (2, .agg (encRt (r 1)).toArray)] (by repeat (first | exact trivial | refine ⟨rfl, ?_⟩)) ?_
  intro E
  show Hd E 25 _ _ _ _
  refine Hd.seq (fun K1 hK1 => ?_)
  refine Hd.region ?_
  refine Hd.box rfl rfl (fun b4 => ?_)
  refine Hd.box rfl rfl (fun b5 => ?_)
  refine Hd.yv (y_assign rfl) ?_
  refine Hd.yv (y_assign rfl) ?_
  refine Hd.nil ?_
  refine Hd.slots [(0, _), (4, _), (5, _)] ⟨rfl, rfl, rfl, trivial⟩ ?_
  refine Hd.toK hK1 ?_
  refine Hd.seq (fun K2 hK2 => ?_)
  refine Hd.region ?_
  first | (refine Hd.yv (y_loadn (us := [_, _, _]) ag24 rfl (Rd.pt pkk (by (first | (intro j v e; rcases j with _|_|_|_|_|_|_|_|_|_|_|_|j <;> first | exact e | exact absurd e (by simp))))) (by exact sz24)) ?_) | (refine Hd.yv (y_loadn (us := [_, _, _]) ag24 rfl (Rd.seg pkk (by (first | (intro j v e; rcases j with _|_|_|_|_|_|_|_|_|_|_|_|j <;> first | exact e | exact absurd e (by simp))))) (by exact sz24)) ?_) | (refine Hd.yv (y_loadRn ag24 rfl (by (first | exact RdS.own pkk)) (by (first | (intro j v e; rcases j with _|_|_|_|_|_|_|_|_|_|_|_|j <;> first | exact e | exact absurd e (by simp)))) (by exact sz24) (by simp)) ?_)
  first | (refine Hd.yv (y_loadn (us := [_, _, _]) ag24 rfl (Rd.pt pkk (by (first | (intro j v e; rcases j with _|_|_|_|_|_|_|_|_|_|_|_|j <;> first | exact e | exact absurd e (by simp))))) (by exact sz24)) ?_) | (refine Hd.yv (y_loadn (us := [_, _, _]) ag24 rfl (Rd.seg pkk (by (first | (intro j v e; rcases j with _|_|_|_|_|_|_|_|_|_|_|_|j <;> first | exact e | exact absurd e (by simp))))) (by exact sz24)) ?_) | (refine Hd.yv (y_loadRn ag24 rfl (by (first | exact RdS.own pkk)) (by (first | (intro j v e; rcases j with _|_|_|_|_|_|_|_|_|_|_|_|j <;> first | exact e | exact absurd e (by simp)))) (by exact sz24) (by simp)) ?_)
  refine Hd.yv (y_build (vs := [(0, _), (1, _)]) rfl (by first | exact bd17_12 .. | kernel_rfl)) ?_
  refine Hd.alloc zr72 (fun b8 => ?_)
  refine Hd.storeA (us := encR2 r) sz72 rfl rfl rfl (by simp [Value.oneCell']) pkk (by exact rfl) ?_
  refine Hd.nil ?_
  refine Hd.slots [(0, _), (8, _)] ⟨rfl, rfl, trivial⟩ ?_
  refine Hd.toK hK2 ?_
  refine Hd.seq (fun K3 hK3 => ?_)
  refine Hd.seq (fun K4 hK4 => ?_)
  refine Hd.region ?_
  refine Hd.yv (y_loadn (us := encR2 r) ag72 rfl (Rd.pt pkk (fun j v e => by rw [Nat.zero_add]; exact e)) (by exact sz72)) ?_
  refine Hd.callE rfl fk31 (may_ct _ r) (Ent.sep enn) ?_
  intro _
  rw [h]
  refine Hd.yv (y_not rfl) ?_
  refine Hd.nil ?_
  refine Hd.slots [(0, _), (8, _), (15, _)] ⟨rfl, rfl, rfl, trivial⟩ ?_
  refine Hd.toK hK4 ?_
  refine Hd.condT rfl ?_
  refine Hd.seq (fun K5 hK5 => ?_)
  refine Hd.region ?_
  refine Hd.yv (y_assign rfl) ?_
  refine Hd.yv (y_assign rfl) ?_
  refine Hd.nil ?_
  refine Hd.slots [(6, _), (7, _)] ⟨rfl, rfl, trivial⟩ ?_
  refine Hd.toK hK5 ?_
  refine Hd.ret ?_
  refine Hd.thenRet ?_
  clear hK1 hK2 hK3 hK4 hK5
  exact Hd.ret2 rfl () rfl rfl (by first | rfl | (simp only [*]; done) | (simp [*]; done)) (Ent.sep enn)
set_option maxHeartbeats 2000000 in
theorem newg_ct (L : List SP) (r : Nat → RtA) (h : mayB r = true) (now : Int) (hn : InK .u64 now) : Ct Tryd.prog 17 #[.int .u64 now, .agg (encRt (r 0)).toArray, .agg (encRt (r 1)).toArray] (L) (fun q_ : Nat × (Nat → Option Nat) => .tuple #[.pointer (some ⟨q_.1, 0, none⟩), .int .i64 0]) (fun q_ : Nat × (Nat → Option Nat) => pu (∀ j, j < 2 → (q_.2 j).isSome = !rz (r j)) :: GrH q_.1 ⟨q_.2, 0⟩ :: SlB (q_.2 0) (ngX now r 0) :: SlB (q_.2 1) (ngX now r 1) :: L) := by
  refine Ct.of (vs := [.int .u64 now, .agg (encRt (r 0)).toArray, .agg (encRt (r 1)).toArray]) Tryd.func17 rfl rfl [(0, .int .u64 now), (1, .agg (encRt (r 0)).toArray), (2, .agg (encRt (r 1)).toArray)] (by repeat (first | exact trivial | refine ⟨rfl, ?_⟩)) ?_
  intro E
  show Hd E 25 _ _ _ _
  refine Hd.seq (fun K1 hK1 => ?_)
  refine Hd.region ?_
  refine Hd.box rfl rfl (fun b4 => ?_)
  refine Hd.box rfl rfl (fun b5 => ?_)
  refine Hd.yv (y_assign rfl) ?_
  refine Hd.yv (y_assign rfl) ?_
  refine Hd.nil ?_
  refine Hd.slots [(0, _), (4, _), (5, _)] ⟨rfl, rfl, rfl, trivial⟩ ?_
  refine Hd.toK hK1 ?_
  refine Hd.seq (fun K2 hK2 => ?_)
  refine Hd.region ?_
  first | (refine Hd.yv (y_loadn (us := [_, _, _]) ag24 rfl (Rd.pt pkk (by (first | (intro j v e; rcases j with _|_|_|_|_|_|_|_|_|_|_|_|j <;> first | exact e | exact absurd e (by simp))))) (by exact sz24)) ?_) | (refine Hd.yv (y_loadn (us := [_, _, _]) ag24 rfl (Rd.seg pkk (by (first | (intro j v e; rcases j with _|_|_|_|_|_|_|_|_|_|_|_|j <;> first | exact e | exact absurd e (by simp))))) (by exact sz24)) ?_) | (refine Hd.yv (y_loadRn ag24 rfl (by (first | exact RdS.own pkk)) (by (first | (intro j v e; rcases j with _|_|_|_|_|_|_|_|_|_|_|_|j <;> first | exact e | exact absurd e (by simp)))) (by exact sz24) (by simp)) ?_)
  first | (refine Hd.yv (y_loadn (us := [_, _, _]) ag24 rfl (Rd.pt pkk (by (first | (intro j v e; rcases j with _|_|_|_|_|_|_|_|_|_|_|_|j <;> first | exact e | exact absurd e (by simp))))) (by exact sz24)) ?_) | (refine Hd.yv (y_loadn (us := [_, _, _]) ag24 rfl (Rd.seg pkk (by (first | (intro j v e; rcases j with _|_|_|_|_|_|_|_|_|_|_|_|j <;> first | exact e | exact absurd e (by simp))))) (by exact sz24)) ?_) | (refine Hd.yv (y_loadRn ag24 rfl (by (first | exact RdS.own pkk)) (by (first | (intro j v e; rcases j with _|_|_|_|_|_|_|_|_|_|_|_|j <;> first | exact e | exact absurd e (by simp)))) (by exact sz24) (by simp)) ?_)
  refine Hd.yv (y_build (vs := [(0, _), (1, _)]) rfl (by first | exact bd17_12 .. | kernel_rfl)) ?_
  refine Hd.alloc zr72 (fun b8 => ?_)
  refine Hd.storeA (us := encR2 r) sz72 rfl rfl rfl (by simp [Value.oneCell']) pkk (by exact rfl) ?_
  refine Hd.nil ?_
  refine Hd.slots [(0, _), (8, _)] ⟨rfl, rfl, trivial⟩ ?_
  refine Hd.toK hK2 ?_
  refine Hd.seq (fun K3 hK3 => ?_)
  refine Hd.seq (fun K4 hK4 => ?_)
  refine Hd.region ?_
  refine Hd.yv (y_loadn (us := encR2 r) ag72 rfl (Rd.pt pkk (fun j v e => by rw [Nat.zero_add]; exact e)) (by exact sz72)) ?_
  refine Hd.callE rfl fk31 (may_ct _ r) (Ent.sep enn) ?_
  intro _
  rw [h]
  refine Hd.yv (y_not rfl) ?_
  refine Hd.nil ?_
  refine Hd.slots [(0, _), (8, _), (15, _)] ⟨rfl, rfl, rfl, trivial⟩ ?_
  refine Hd.toK hK4 ?_
  refine Hd.condF rfl ?_
  refine Hd.skip ?_
  refine Hd.toK hK3 ?_
  refine Hd.seq (fun K5 hK5 => ?_)
  refine Hd.region ?_
  refine Hd.yv (y_build (vs := [(2, _)]) rfl (by first | exact bd17_16 .. | kernel_rfl)) ?_
  refine Hd.box rfl rfl (fun b17 => ?_)
  refine Hd.yv (y_assign rfl) ?_
  refine Hd.nil ?_
  refine Hd.slots [(0, _), (8, _), (9, _)] ⟨rfl, rfl, rfl, trivial⟩ ?_
  refine Hd.toK hK5 ?_
  refine Hd.seq (fun K6 hK6 => ?_)
  refine Hd.heap (pt b17 (gvC [] [.int .i64 0, .bool true] noS) 110 :: SlB (noS 0) (dmX 0) :: SlB (noS 1) (dmX 1) :: pt b8 (encR2 r) 72 :: L) (fun q s => Ent.sep (.eq pkk (pt_eq (by rfl)) (by rw [slB_noS]; exact .pure trivial (.pure trivial enn))) q s) ?_
  refine Hd.drawsH ([pt b8 (encR2 r) 72]) (fun _ => true) mixed ?_
  simp only [List.length, Nat.zero_add, Nat.reduceAdd]
  refine Hd.takeH 0 rfl (by kernel_rfl) (by kernel_rfl) (by kernel_rfl) (by kernel_rfl) (y_move rfl) (fun _ _ => rfl) (Ent.sep enn) ?_
  refine Hd.takeH 1 rfl (by kernel_rfl) (by kernel_rfl) (by kernel_rfl) (by kernel_rfl) (y_move rfl) (fun _ _ => rfl) (Ent.sep enn) ?_
  refine Hd.takeH 2 rfl (by kernel_rfl) (by kernel_rfl) (by kernel_rfl) (by kernel_rfl) (y_nilp rfl) (fun _ _ => rfl) (Ent.sep enn) ?_
  first | (refine Hd.takeH 3 rfl (by kernel_rfl) (by kernel_rfl) (by kernel_rfl) (by kernel_rfl) (y_field' (q := 0) (ft := 77) Tryd.underlying110 rfl sz77 rfl rfl) (fun _ _ => rfl) (Ent.sep enn) ?_) | (refine Hd.takeH 3 rfl (by kernel_rfl) (by kernel_rfl) (by kernel_rfl) (by kernel_rfl) (y_fieldR (q := 0) (ft := 77) Tryd.underlying110 rfl sz77 rfl rfl) (fun _ _ => rfl) (Ent.sep enn) ?_)
  refine Hd.takeH 4 rfl (by kernel_rfl) (by kernel_rfl) (by kernel_rfl) (by kernel_rfl) (y_loadn (us := encR2 r) ag72 rfl (Rd.pt pkk (fun j v e => by rw [Nat.zero_add]; exact e)) (by exact sz72)) (fun _ _ => rfl) (Ent.sep enn) ?_
  refine Hd.onlyH 5 rfl (by kernel_rfl) ?_
  refine Hd.callE rfl fk32 (give_ct _ b17 [] [.int .i64 0, .bool true] 110 noS dmX (fun _ => dum_ok) now hn r h) (Ent.sep enn) ?_
  intro s2
  refine Hd.nil ?_
  refine Hd.thenN ?_
  refine Hd.heldK (J := (fun _ => true)) (i := 5) (Ent.sep enn) ?_
  refine Hd.endH (by kernel_rfl) ?_
  refine Hd.pure (fun hs2 => ?_)
  refine Hd.slots [(9, _)] ⟨rfl, trivial⟩ ?_
  refine Hd.toK hK6 ?_
  refine Hd.seq (fun K7 hK7 => ?_)
  refine Hd.region ?_
  refine Hd.yv (y_move rfl) ?_
  refine Hd.yv (y_assign rfl) ?_
  refine Hd.yv (y_assign rfl) ?_
  refine Hd.nil ?_
  refine Hd.slots [(6, _), (7, _)] ⟨rfl, rfl, trivial⟩ ?_
  refine Hd.toK hK7 ?_
  refine Hd.ret ?_
  clear hK1 hK2 hK3 hK4 hK5 hK6 hK7
  exact Hd.ret2 rfl (b17, s2) rfl rfl rfl (Ent.sep (.pure hs2 (.eq pkk (pt_eq (by rfl)) enn)))
set_option maxHeartbeats 2000000 in
theorem lnew_ct (L : List SP) (b : Nat) : Ct Tryd.prog 22 #[.pointer (some ⟨b, 0, none⟩)] (L) (fun lb : Nat => .tuple #[.pointer (some ⟨lb, 0, none⟩), .int .i64 0]) (fun lb : Nat => LmH lb ⟨b, noS, none⟩ :: L) := by
  refine Ct.of (vs := [.pointer (some ⟨b, 0, none⟩)]) Tryd.func22 rfl rfl [(0, .pointer (some ⟨b, 0, none⟩))] (by repeat (first | exact trivial | refine ⟨rfl, ?_⟩)) ?_
  intro E
  show Hd E 9 _ _ _ _
  refine Hd.seq (fun K1 hK1 => ?_)
  refine Hd.region ?_
  refine Hd.yv (y_assign rfl) ?_
  refine Hd.yv (y_assign rfl) ?_
  refine Hd.nil ?_
  refine Hd.slots [(0, _)] ⟨rfl, trivial⟩ ?_
  refine Hd.toK hK1 ?_
  refine Hd.seq (fun K2 hK2 => ?_)
  refine Hd.seq (fun K3 hK3 => ?_)
  refine Hd.region ?_
  refine Hd.yv (y_move rfl) ?_
  first | (refine Hd.yv (y_eql_pointer Tryd.underlying39 rfl rfl) ?_) | (refine Hd.yv (y_eql_one Tryd.underlying39 sz104 rfl rfl rfl) ?_)
  refine Hd.nil ?_
  refine Hd.slots [(0, _), (5, _)] ⟨rfl, rfl, trivial⟩ ?_
  refine Hd.toK hK3 ?_
  refine Hd.condF rfl ?_
  refine Hd.skip ?_
  refine Hd.toK hK2 ?_
  refine Hd.seq (fun K4 hK4 => ?_)
  refine Hd.region ?_
  refine Hd.yv (y_move rfl) ?_
  refine Hd.yv (y_build (vs := [(0, _)]) rfl (by first | exact bd22_7 .. | kernel_rfl)) ?_
  refine Hd.box rfl rfl (fun b8 => ?_)
  refine Hd.yv (y_assign rfl) ?_
  refine Hd.yv (y_assign rfl) ?_
  refine Hd.nil ?_
  refine Hd.slots [(2, _), (3, _)] ⟨rfl, rfl, trivial⟩ ?_
  refine Hd.toK hK4 ?_
  refine Hd.ret ?_
  clear hK1 hK2 hK3 hK4
  exact Hd.ret2 rfl b8 rfl rfl rfl (Ent.sep (.eq pkk (pt_eq (by rfl)) enn))
set_option maxHeartbeats 2000000 in
theorem lset_bad (L : List SP) (lb : Nat) (l : LmA) (r : Nat → RtA) (h : mayB r = false) (now : Int) : Ct Tryd.prog 9 #[.pointer (some ⟨lb, 0, none⟩), .int .u64 now, .agg (encRt (r 0)).toArray, .agg (encRt (r 1)).toArray] (LmH lb l :: L) (fun _ : Unit => .int .i64 80) (fun _ : Unit => LmH lb l :: L) := by
  refine Ct.of (vs := [.pointer (some ⟨lb, 0, none⟩), .int .u64 now, .agg (encRt (r 0)).toArray, .agg (encRt (r 1)).toArray]) Tryd.func9 rfl rfl [(0, .pointer (some ⟨lb, 0, none⟩)), (1, .int .u64 now), (2, .agg (encRt (r 0)).toArray), (3, .agg (encRt (r 1)).toArray)] (by repeat (first | exact trivial | refine ⟨rfl, ?_⟩)) ?_
  intro E
  show Hd E 26 _ _ _ _
  refine Hd.seq (fun K1 hK1 => ?_)
  refine Hd.region ?_
  refine Hd.box rfl rfl (fun b6 => ?_)
  refine Hd.box rfl rfl (fun b7 => ?_)
  refine Hd.yv (y_assign rfl) ?_
  refine Hd.nil ?_
  refine Hd.slots [(0, _), (1, _), (6, _), (7, _)] ⟨rfl, rfl, rfl, rfl, trivial⟩ ?_
  refine Hd.toK hK1 ?_
  refine Hd.seq (fun K2 hK2 => ?_)
  refine Hd.region ?_
  first | (refine Hd.yv (y_loadn (us := [_, _, _]) ag24 rfl (Rd.pt pkk (by (first | (intro j v e; rcases j with _|_|_|_|_|_|_|_|_|_|_|_|j <;> first | exact e | exact absurd e (by simp))))) (by exact sz24)) ?_) | (refine Hd.yv (y_loadn (us := [_, _, _]) ag24 rfl (Rd.seg pkk (by (first | (intro j v e; rcases j with _|_|_|_|_|_|_|_|_|_|_|_|j <;> first | exact e | exact absurd e (by simp))))) (by exact sz24)) ?_) | (refine Hd.yv (y_loadRn ag24 rfl (by (first | exact RdS.own pkk)) (by (first | (intro j v e; rcases j with _|_|_|_|_|_|_|_|_|_|_|_|j <;> first | exact e | exact absurd e (by simp)))) (by exact sz24) (by simp)) ?_)
  first | (refine Hd.yv (y_loadn (us := [_, _, _]) ag24 rfl (Rd.pt pkk (by (first | (intro j v e; rcases j with _|_|_|_|_|_|_|_|_|_|_|_|j <;> first | exact e | exact absurd e (by simp))))) (by exact sz24)) ?_) | (refine Hd.yv (y_loadn (us := [_, _, _]) ag24 rfl (Rd.seg pkk (by (first | (intro j v e; rcases j with _|_|_|_|_|_|_|_|_|_|_|_|j <;> first | exact e | exact absurd e (by simp))))) (by exact sz24)) ?_) | (refine Hd.yv (y_loadRn ag24 rfl (by (first | exact RdS.own pkk)) (by (first | (intro j v e; rcases j with _|_|_|_|_|_|_|_|_|_|_|_|j <;> first | exact e | exact absurd e (by simp)))) (by exact sz24) (by simp)) ?_)
  refine Hd.yv (y_build (vs := [(0, _), (1, _)]) rfl (by first | exact bd9_12 .. | kernel_rfl)) ?_
  refine Hd.alloc zr72 (fun b9 => ?_)
  refine Hd.storeA (us := encR2 r) sz72 rfl rfl rfl (by simp [Value.oneCell']) pkk (by exact rfl) ?_
  refine Hd.nil ?_
  refine Hd.slots [(0, _), (1, _), (9, _)] ⟨rfl, rfl, rfl, trivial⟩ ?_
  refine Hd.toK hK2 ?_
  refine Hd.seq (fun K3 hK3 => ?_)
  refine Hd.block ?_
  refine Hd.seq (fun K4 hK4 => ?_)
  refine Hd.region ?_
  refine Hd.yv (y_move rfl) ?_
  refine Hd.callE rfl fk30 (lnone_ct _ lb l) (Ent.sep enn) ?_
  intro _
  refine Hd.yv (y_assign rfl) ?_
  refine Hd.nil ?_
  refine Hd.slots [(0, _), (1, _), (9, _), (13, _)] ⟨rfl, rfl, rfl, rfl, trivial⟩ ?_
  refine Hd.toK hK4 ?_
  refine Hd.condF rfl ?_
  refine Hd.seq (fun K5 hK5 => ?_)
  refine Hd.region ?_
  refine Hd.yv (y_loadn (us := encR2 r) ag72 rfl (Rd.pt pkk (fun j v e => by rw [Nat.zero_add]; exact e)) (by exact sz72)) ?_
  refine Hd.callE rfl fk31 (may_ct _ r) (Ent.sep enn) ?_
  intro _
  rw [h]
  refine Hd.yv (y_not rfl) ?_
  refine Hd.yv (y_assign rfl) ?_
  refine Hd.nil ?_
  refine Hd.slots [(0, _), (1, _), (9, _), (16, _)] ⟨rfl, rfl, rfl, rfl, trivial⟩ ?_
  refine Hd.toK hK5 ?_
  refine Hd.condT rfl ?_
  refine Hd.seq (fun K6 hK6 => ?_)
  refine Hd.region ?_
  refine Hd.yv (y_assign rfl) ?_
  refine Hd.nil ?_
  refine Hd.slots [(8, _)] ⟨rfl, trivial⟩ ?_
  refine Hd.toK hK6 ?_
  refine Hd.ret ?_
  refine Hd.inBret ?_
  refine Hd.thenRet ?_
  clear hK1 hK2 hK3 hK4 hK5 hK6
  exact Hd.ret1 rfl () (by first | rfl | (simp only [*]; done) | (simp [*]; done)) (Ent.sep enn)
set_option maxHeartbeats 2000000 in
theorem lset_ct (L : List SP) (lb : Nat) (l : LmA) (x : Nat → BkA) (hx : ∀ k, BkOk (x k)) (r : Nat → RtA) (h : mayB r = true) (now : Int) (hn : InK .u64 now) : Ct Tryd.prog 9 #[.pointer (some ⟨lb, 0, none⟩), .int .u64 now, .agg (encRt (r 0)).toArray, .agg (encRt (r 1)).toArray] (LmH lb l :: SlB (l.b 0) (x 0) :: SlB (l.b 1) (x 1) :: L) (fun s2 : Nat → Option Nat => .int .i64 0) (fun s2 : Nat → Option Nat => pu (∀ j, j < 2 → (s2 j).isSome = !rz (r j)) :: LmH lb { l with b := s2 } :: SlB (s2 0) (gvX l.b x now r 0) :: SlB (s2 1) (gvX l.b x now r 1) :: L) := by
  refine Ct.of (vs := [.pointer (some ⟨lb, 0, none⟩), .int .u64 now, .agg (encRt (r 0)).toArray, .agg (encRt (r 1)).toArray]) Tryd.func9 rfl rfl [(0, .pointer (some ⟨lb, 0, none⟩)), (1, .int .u64 now), (2, .agg (encRt (r 0)).toArray), (3, .agg (encRt (r 1)).toArray)] (by repeat (first | exact trivial | refine ⟨rfl, ?_⟩)) ?_
  intro E
  show Hd E 26 _ _ _ _
  refine Hd.seq (fun K1 hK1 => ?_)
  refine Hd.region ?_
  refine Hd.box rfl rfl (fun b6 => ?_)
  refine Hd.box rfl rfl (fun b7 => ?_)
  refine Hd.yv (y_assign rfl) ?_
  refine Hd.nil ?_
  refine Hd.slots [(0, _), (1, _), (6, _), (7, _)] ⟨rfl, rfl, rfl, rfl, trivial⟩ ?_
  refine Hd.toK hK1 ?_
  refine Hd.seq (fun K2 hK2 => ?_)
  refine Hd.region ?_
  first | (refine Hd.yv (y_loadn (us := [_, _, _]) ag24 rfl (Rd.pt pkk (by (first | (intro j v e; rcases j with _|_|_|_|_|_|_|_|_|_|_|_|j <;> first | exact e | exact absurd e (by simp))))) (by exact sz24)) ?_) | (refine Hd.yv (y_loadn (us := [_, _, _]) ag24 rfl (Rd.seg pkk (by (first | (intro j v e; rcases j with _|_|_|_|_|_|_|_|_|_|_|_|j <;> first | exact e | exact absurd e (by simp))))) (by exact sz24)) ?_) | (refine Hd.yv (y_loadRn ag24 rfl (by (first | exact RdS.own pkk)) (by (first | (intro j v e; rcases j with _|_|_|_|_|_|_|_|_|_|_|_|j <;> first | exact e | exact absurd e (by simp)))) (by exact sz24) (by simp)) ?_)
  first | (refine Hd.yv (y_loadn (us := [_, _, _]) ag24 rfl (Rd.pt pkk (by (first | (intro j v e; rcases j with _|_|_|_|_|_|_|_|_|_|_|_|j <;> first | exact e | exact absurd e (by simp))))) (by exact sz24)) ?_) | (refine Hd.yv (y_loadn (us := [_, _, _]) ag24 rfl (Rd.seg pkk (by (first | (intro j v e; rcases j with _|_|_|_|_|_|_|_|_|_|_|_|j <;> first | exact e | exact absurd e (by simp))))) (by exact sz24)) ?_) | (refine Hd.yv (y_loadRn ag24 rfl (by (first | exact RdS.own pkk)) (by (first | (intro j v e; rcases j with _|_|_|_|_|_|_|_|_|_|_|_|j <;> first | exact e | exact absurd e (by simp)))) (by exact sz24) (by simp)) ?_)
  refine Hd.yv (y_build (vs := [(0, _), (1, _)]) rfl (by first | exact bd9_12 .. | kernel_rfl)) ?_
  refine Hd.alloc zr72 (fun b9 => ?_)
  refine Hd.storeA (us := encR2 r) sz72 rfl rfl rfl (by simp [Value.oneCell']) pkk (by exact rfl) ?_
  refine Hd.nil ?_
  refine Hd.slots [(0, _), (1, _), (9, _)] ⟨rfl, rfl, rfl, trivial⟩ ?_
  refine Hd.toK hK2 ?_
  refine Hd.seq (fun K3 hK3 => ?_)
  refine Hd.block ?_
  refine Hd.seq (fun K4 hK4 => ?_)
  refine Hd.region ?_
  refine Hd.yv (y_move rfl) ?_
  refine Hd.callE rfl fk30 (lnone_ct _ lb l) (Ent.sep enn) ?_
  intro _
  refine Hd.yv (y_assign rfl) ?_
  refine Hd.nil ?_
  refine Hd.slots [(0, _), (1, _), (9, _), (13, _)] ⟨rfl, rfl, rfl, rfl, trivial⟩ ?_
  refine Hd.toK hK4 ?_
  refine Hd.condF rfl ?_
  refine Hd.seq (fun K5 hK5 => ?_)
  refine Hd.region ?_
  refine Hd.yv (y_loadn (us := encR2 r) ag72 rfl (Rd.pt pkk (fun j v e => by rw [Nat.zero_add]; exact e)) (by exact sz72)) ?_
  refine Hd.callE rfl fk31 (may_ct _ r) (Ent.sep enn) ?_
  intro _
  rw [h]
  refine Hd.yv (y_not rfl) ?_
  refine Hd.yv (y_assign rfl) ?_
  refine Hd.nil ?_
  refine Hd.slots [(0, _), (1, _), (9, _), (16, _)] ⟨rfl, rfl, rfl, rfl, trivial⟩ ?_
  refine Hd.toK hK5 ?_
  refine Hd.condF rfl ?_
  refine Hd.skip ?_
  refine Hd.inB ?_
  refine Hd.toK hK3 ?_
  refine Hd.seq (fun K6 hK6 => ?_)
  refine Hd.heap (pt lb (gvC [.pointer (some ⟨l.buf, 0, none⟩)] [pN l.g] l.b) 79 :: SlB (l.b 0) (x 0) :: SlB (l.b 1) (x 1) :: pt b9 (encR2 r) 72 :: L) (fun q s => Ent.sep (.eq pkk (pt_eq (by rfl)) enn) q s) ?_
  refine Hd.drawsH ([pt b9 (encR2 r) 72]) (fun _ => true) mixed ?_
  simp only [List.length, Nat.zero_add, Nat.reduceAdd]
  refine Hd.takeH 0 rfl (by kernel_rfl) (by kernel_rfl) (by kernel_rfl) (by kernel_rfl) (y_move rfl) (fun _ _ => rfl) (Ent.sep enn) ?_
  refine Hd.takeH 1 rfl (by kernel_rfl) (by kernel_rfl) (by kernel_rfl) (by kernel_rfl) (y_move rfl) (fun _ _ => rfl) (Ent.sep enn) ?_
  refine Hd.takeH 2 rfl (by kernel_rfl) (by kernel_rfl) (by kernel_rfl) (by kernel_rfl) (y_nilp rfl) (fun _ _ => rfl) (Ent.sep enn) ?_
  first | (refine Hd.takeH 3 rfl (by kernel_rfl) (by kernel_rfl) (by kernel_rfl) (by kernel_rfl) (y_field' (q := 1) (ft := 77) Tryd.underlying79 rfl sz77 rfl rfl) (fun _ _ => rfl) (Ent.sep enn) ?_) | (refine Hd.takeH 3 rfl (by kernel_rfl) (by kernel_rfl) (by kernel_rfl) (by kernel_rfl) (y_fieldR (q := 1) (ft := 77) Tryd.underlying79 rfl sz77 rfl rfl) (fun _ _ => rfl) (Ent.sep enn) ?_)
  refine Hd.takeH 4 rfl (by kernel_rfl) (by kernel_rfl) (by kernel_rfl) (by kernel_rfl) (y_loadn (us := encR2 r) ag72 rfl (Rd.pt pkk (fun j v e => by rw [Nat.zero_add]; exact e)) (by exact sz72)) (fun _ _ => rfl) (Ent.sep enn) ?_
  refine Hd.onlyH 5 rfl (by kernel_rfl) ?_
  refine Hd.callE rfl fk32 (give_ct _ lb [.pointer (some ⟨l.buf, 0, none⟩)] [pN l.g] 79 l.b x hx now hn r h) (Ent.sep enn) ?_
  intro s2
  refine Hd.nil ?_
  refine Hd.thenN ?_
  refine Hd.heldK (J := (fun _ => true)) (i := 5) (Ent.sep enn) ?_
  refine Hd.endH (by kernel_rfl) ?_
  refine Hd.pure (fun hs2 => ?_)
  refine Hd.slots [] trivial ?_
  refine Hd.toK hK6 ?_
  refine Hd.seq (fun K7 hK7 => ?_)
  refine Hd.region ?_
  refine Hd.yv (y_assign rfl) ?_
  refine Hd.nil ?_
  refine Hd.slots [(8, _)] ⟨rfl, trivial⟩ ?_
  refine Hd.toK hK7 ?_
  refine Hd.ret ?_
  clear hK1 hK2 hK3 hK4 hK5 hK6 hK7
  exact Hd.ret1 rfl s2 rfl (Ent.sep (.pure hs2 (.eq pkk (pt_eq (by rfl)) enn)))
set_option maxHeartbeats 2000000 in
theorem join_ct (L : List SP) (lb gb : Nat) (l : LmA) (hl : l.g = none) (G : GrA) (hm0 : 0 ≤ G.many) (hm : G.many ≤ 1000) : Ct Tryd.prog 19 #[.pointer (some ⟨lb, 0, none⟩), .pointer (some ⟨gb, 0, none⟩)] (LmH lb l :: GrH gb G :: L) (fun _ : Unit => .int .i64 0) (fun _ : Unit => LmH lb { l with g := some gb } :: GrH gb { G with many := G.many + 1 } :: L) := by
  refine Ct.of (vs := [.pointer (some ⟨lb, 0, none⟩), .pointer (some ⟨gb, 0, none⟩)]) Tryd.func19 rfl rfl [(0, .pointer (some ⟨lb, 0, none⟩)), (1, .pointer (some ⟨gb, 0, none⟩))] (by repeat (first | exact trivial | refine ⟨rfl, ?_⟩)) ?_
  intro E
  show Hd E 29 _ _ _ _
  obtain ⟨buf, s, g⟩ := l
  obtain rfl : g = none := hl
  refine Hd.seq (fun K1 hK1 => ?_)
  refine Hd.region ?_
  refine Hd.yv (y_assign rfl) ?_
  refine Hd.nil ?_
  refine Hd.slots [(0, _), (1, _)] ⟨rfl, rfl, trivial⟩ ?_
  refine Hd.toK hK1 ?_
  refine Hd.seq (fun K2 hK2 => ?_)
  refine Hd.block ?_
  refine Hd.seq (fun K3 hK3 => ?_)
  refine Hd.region ?_
  refine Hd.yv (y_move rfl) ?_
  refine Hd.callE rfl fk30 (lnone_ct _ lb ⟨buf, s, none⟩) (Ent.sep enn) ?_
  intro _
  refine Hd.yv (y_assign rfl) ?_
  refine Hd.nil ?_
  refine Hd.slots [(0, _), (1, _), (5, _)] ⟨rfl, rfl, rfl, trivial⟩ ?_
  refine Hd.toK hK3 ?_
  refine Hd.condF rfl ?_
  refine Hd.seq (fun K4 hK4 => ?_)
  refine Hd.region ?_
  refine Hd.yv (y_move rfl) ?_
  refine Hd.callE rfl fk42 (gnone_ct _ gb G) (Ent.sep enn) ?_
  intro _
  refine Hd.yv (y_move rfl) ?_
  refine Hd.yg rfl rfl (y_move rfl) ?_
  refine Hd.yg rfl rfl (y_nilp rfl) ?_
  first | (refine Hd.yg rfl rfl (y_field' (q := 3) (ft := 47) Tryd.underlying79 rfl sz47 rfl rfl) ?_) | (refine Hd.yg rfl rfl (y_fieldR (q := 3) (ft := 47) Tryd.underlying79 rfl sz47 rfl rfl) ?_)
  first | (refine Hd.yg rfl rfl (y_load1 ag47 rfl (Rd.pt1 pkk (by (first | rfl)))) ?_) | (refine Hd.yg rfl rfl (y_load1 ag47 rfl (Rd.seg1 pkk (by (first | rfl)))) ?_) | (refine Hd.yg rfl rfl (y_loadR1 ag47 rfl (by (first | exact RdS.own pkk)) (by (first | rfl))) ?_)
  refine Hd.yg rfl rfl (y_neq_pointer Tryd.underlying47 rfl rfl) ?_
  first | (refine Hd.yv (y_pickT rfl rfl) ?_) | (refine Hd.yv (y_pickF rfl rfl) ?_) | (refine Hd.yv (y_pickb rfl rfl rfl) ?_) | (refine Hd.yv (y_pick rfl rfl rfl) ?_)
  refine Hd.yv (y_assign rfl) ?_
  refine Hd.nil ?_
  refine Hd.slots [(0, _), (1, _), (8, _)] ⟨rfl, rfl, rfl, trivial⟩ ?_
  refine Hd.toK hK4 ?_
  refine Hd.condF rfl ?_
  refine Hd.skip ?_
  refine Hd.inB ?_
  refine Hd.toK hK2 ?_
  refine Hd.seq (fun K5 hK5 => ?_)
  refine Hd.region ?_
  refine Hd.yv (y_move rfl) ?_
  refine Hd.yv (y_move rfl) ?_
  refine Hd.yv (y_nilp rfl) ?_
  first | (refine Hd.yv (y_field' (q := 3) (ft := 47) Tryd.underlying79 rfl sz47 rfl rfl) ?_) | (refine Hd.yv (y_fieldR (q := 3) (ft := 47) Tryd.underlying79 rfl sz47 rfl rfl) ?_)
  first | (refine Hd.store1 sz47 rfl rfl rfl pkk (by first | decide | (simp; done) | (simp; omega)) ?_) | (refine Hd.storeG1 sz47 rfl rfl rfl pkk (by first | decide | (simp; done) | (simp; omega)) ?_) | (refine Hd.storeO1 sz47 rfl rfl rfl pkk (by first | omega | (simp; done) | (simp; omega)) ?_)
  try simp only [List.set_cons_zero, List.set_cons_succ]
  refine Hd.nil ?_
  refine Hd.slots [(1, _)] ⟨rfl, trivial⟩ ?_
  refine Hd.toK hK5 ?_
  refine Hd.seq (fun K6 hK6 => ?_)
  refine Hd.region ?_
  refine Hd.yv (y_move rfl) ?_
  refine Hd.yv (y_nilp rfl) ?_
  first | (refine Hd.yv (y_field' (q := 2) (ft := 3) Tryd.underlying110 rfl sz3 rfl rfl) ?_) | (refine Hd.yv (y_fieldR (q := 2) (ft := 3) Tryd.underlying110 rfl sz3 rfl rfl) ?_)
  first | (refine Hd.yv (y_load1 ag3 rfl (Rd.pt1 pkk (by (first | rfl)))) ?_) | (refine Hd.yv (y_load1 ag3 rfl (Rd.seg1 pkk (by (first | rfl)))) ?_) | (refine Hd.yv (y_loadR1 ag3 rfl (by (first | exact RdS.own pkk)) (by (first | rfl))) ?_)
  first | (refine Hd.yv (y_addn rfl rfl (by simp only [InK]; omega)) ?_) | (refine Hd.yv (y_add rfl rfl) ?_)
  refine Hd.yv (y_nilp rfl) ?_
  first | (refine Hd.yv (y_field' (q := 2) (ft := 3) Tryd.underlying110 rfl sz3 rfl rfl) ?_) | (refine Hd.yv (y_fieldR (q := 2) (ft := 3) Tryd.underlying110 rfl sz3 rfl rfl) ?_)
  first | (refine Hd.store1 sz3 rfl rfl rfl pkk (by first | decide | (simp; done) | (simp; omega)) ?_) | (refine Hd.storeG1 sz3 rfl rfl rfl pkk (by first | decide | (simp; done) | (simp; omega)) ?_) | (refine Hd.storeO1 sz3 rfl rfl rfl pkk (by first | omega | (simp; done) | (simp; omega)) ?_)
  try simp only [List.set_cons_zero, List.set_cons_succ]
  refine Hd.nil ?_
  refine Hd.slots [] trivial ?_
  refine Hd.toK hK6 ?_
  refine Hd.seq (fun K7 hK7 => ?_)
  refine Hd.region ?_
  refine Hd.yv (y_assign rfl) ?_
  refine Hd.nil ?_
  refine Hd.slots [(4, _)] ⟨rfl, trivial⟩ ?_
  refine Hd.toK hK7 ?_
  refine Hd.ret ?_
  clear hK1 hK2 hK3 hK4 hK5 hK6 hK7
  exact Hd.ret1 rfl () rfl (Ent.sep (.eq pkk (pt_eq (by rfl)) (.eq pkk (pt_eq (by rfl)) enn)))
set_option maxHeartbeats 2000000 in
theorem join_nil (L : List SP) (lb : Nat) (l : LmA) : Ct Tryd.prog 19 #[.pointer (some ⟨lb, 0, none⟩), .pointer none] (LmH lb l :: L) (fun _ : Unit => .int .i64 270) (fun _ : Unit => LmH lb l :: L) := by
  refine Ct.of (vs := [.pointer (some ⟨lb, 0, none⟩), .pointer none]) Tryd.func19 rfl rfl [(0, .pointer (some ⟨lb, 0, none⟩)), (1, .pointer none)] (by repeat (first | exact trivial | refine ⟨rfl, ?_⟩)) ?_
  intro E
  show Hd E 29 _ _ _ _
  refine Hd.seq (fun K1 hK1 => ?_)
  refine Hd.region ?_
  refine Hd.yv (y_assign rfl) ?_
  refine Hd.nil ?_
  refine Hd.slots [(0, _), (1, _)] ⟨rfl, rfl, trivial⟩ ?_
  refine Hd.toK hK1 ?_
  refine Hd.seq (fun K2 hK2 => ?_)
  refine Hd.block ?_
  refine Hd.seq (fun K3 hK3 => ?_)
  refine Hd.region ?_
  refine Hd.yv (y_move rfl) ?_
  refine Hd.callE rfl fk30 (lnone_ct _ lb l) (Ent.sep enn) ?_
  intro _
  refine Hd.yv (y_assign rfl) ?_
  refine Hd.nil ?_
  refine Hd.slots [(0, _), (1, _), (5, _)] ⟨rfl, rfl, rfl, trivial⟩ ?_
  refine Hd.toK hK3 ?_
  refine Hd.condF rfl ?_
  refine Hd.seq (fun K4 hK4 => ?_)
  refine Hd.region ?_
  refine Hd.yv (y_move rfl) ?_
  refine Hd.callE rfl fk42 (gnone_nil _) (Ent.sep enn) ?_
  intro _
  refine Hd.yv (y_move rfl) ?_
  refine Hd.ng rfl rfl rfl ?_
  refine Hd.ng rfl rfl rfl ?_
  refine Hd.ng rfl rfl rfl ?_
  refine Hd.ng rfl rfl rfl ?_
  refine Hd.ng rfl rfl rfl ?_
  first | (refine Hd.yv (y_pickT rfl rfl) ?_) | (refine Hd.yv (y_pickF rfl rfl) ?_) | (refine Hd.yv (y_pickb rfl rfl rfl) ?_) | (refine Hd.yv (y_pick rfl rfl rfl) ?_)
  refine Hd.yv (y_assign rfl) ?_
  refine Hd.nil ?_
  refine Hd.slots [(0, _), (1, _), (8, _)] ⟨rfl, rfl, rfl, trivial⟩ ?_
  refine Hd.toK hK4 ?_
  refine Hd.condT rfl ?_
  refine Hd.seq (fun K5 hK5 => ?_)
  refine Hd.region ?_
  refine Hd.yv (y_assign rfl) ?_
  refine Hd.nil ?_
  refine Hd.slots [(4, _)] ⟨rfl, trivial⟩ ?_
  refine Hd.toK hK5 ?_
  refine Hd.ret ?_
  refine Hd.inBret ?_
  refine Hd.thenRet ?_
  clear hK1 hK2 hK3 hK4 hK5
  exact Hd.ret1 rfl () (by first | rfl | (simp only [*]; done) | (simp [*]; done)) (Ent.sep enn)
set_option maxHeartbeats 2000000 in
theorem lbuf_ct (L : List SP) (lb : Nat) (l : LmA) : Ct Tryd.prog 12 #[.pointer (some ⟨lb, 0, none⟩)] (LmH lb l :: L) (fun _ : Unit => .pointer (some ⟨l.buf, 0, none⟩)) (fun _ : Unit => LmH lb l :: L) := by
  refine Ct.of (vs := [.pointer (some ⟨lb, 0, none⟩)]) Tryd.func12 rfl rfl [(0, .pointer (some ⟨lb, 0, none⟩))] (by repeat (first | exact trivial | refine ⟨rfl, ?_⟩)) ?_
  intro E
  show Hd E 9 _ _ _ _
  refine Hd.seq (fun K1 hK1 => ?_)
  refine Hd.region ?_
  refine Hd.yv (y_assign rfl) ?_
  refine Hd.nil ?_
  refine Hd.slots [(0, _)] ⟨rfl, trivial⟩ ?_
  refine Hd.toK hK1 ?_
  refine Hd.seq (fun K2 hK2 => ?_)
  refine Hd.seq (fun K3 hK3 => ?_)
  refine Hd.region ?_
  refine Hd.yv (y_move rfl) ?_
  refine Hd.callE rfl fk30 (lnone_ct _ lb l) (Ent.sep enn) ?_
  intro _
  refine Hd.nil ?_
  refine Hd.slots [(0, _), (4, _)] ⟨rfl, rfl, trivial⟩ ?_
  refine Hd.toK hK3 ?_
  refine Hd.condF rfl ?_
  refine Hd.skip ?_
  refine Hd.toK hK2 ?_
  refine Hd.seq (fun K4 hK4 => ?_)
  refine Hd.region ?_
  refine Hd.yv (y_move rfl) ?_
  refine Hd.yv (y_nilp rfl) ?_
  first | (refine Hd.yv (y_field' (q := 0) (ft := 39) Tryd.underlying79 rfl sz39 rfl rfl) ?_) | (refine Hd.yv (y_fieldR (q := 0) (ft := 39) Tryd.underlying79 rfl sz39 rfl rfl) ?_)
  first | (refine Hd.yv (y_load1 ag39 rfl (Rd.pt1 pkk (by (first | rfl)))) ?_) | (refine Hd.yv (y_load1 ag39 rfl (Rd.seg1 pkk (by (first | rfl)))) ?_) | (refine Hd.yv (y_loadR1 ag39 rfl (by (first | exact RdS.own pkk)) (by (first | rfl))) ?_)
  refine Hd.yv (y_assign rfl) ?_
  refine Hd.nil ?_
  refine Hd.slots [(2, _)] ⟨rfl, trivial⟩ ?_
  refine Hd.toK hK4 ?_
  refine Hd.ret ?_
  clear hK1 hK2 hK3 hK4
  exact Hd.ret1 rfl () (by first | rfl | (simp only [*]; done) | (simp [*]; done)) (Ent.sep enn)
end Lm
end Go.Proofs.YtmpemhbfgbochaaDoor
namespace Go.Proofs.YtmpemhbfgbochaaDoor
set_option linter.unusedSimpArgs false
set_option linter.unusedVariables false
set_option linter.unnecessarySimpa false
open Go.RX Fx
namespace Bu
open Wo
set_option maxRecDepth 8000
def PrE (n : Nat) (x : WireA) (l : Nat → List UInt8) : Prop := x.cap = n ∧ x.rs = false ∧ ∀ k, k < 2 → (x.e k).what = 1 ∧ (x.e k).fd = (k : Int) ∧ (x.e k).rd = true ∧ (x.e k).wr = true ∧ (x.e k).shut = false ∧ (x.e k).b = l k
def PrW (n : Nat) (w : WA) (l : Nat → List UInt8) : Prop := ∃ x, w.ws = [x] ∧ PrE n x l
def updL (l : Nat → List UInt8) (k : Nat) (v : List UInt8) : Nat → List UInt8 := fun j => if j = k then v else l j
theorem updL_at (l : Nat → List UInt8) (k : Nat) (v : List UInt8) : updL l k v k = v := if_pos rfl
theorem updL_ne (l : Nat → List UInt8) {k j : Nat} (v : List UInt8) (h : j ≠ k) : updL l k v j = l j := if_neg h
theorem pr_new (n : Nat) : PrW n (pairA n) (fun _ => []) := by
  have h1 : mkOk newA 2 = true := by decide +kernel
  have h2 : (frees newA.at).take 2 = [0, 1] := by decide +kernel
  refine ⟨openW (halfW n 2) [0, 1] 2, ?_, rfl, rfl, fun k hk => ?_⟩
  · show (mkW newA 2 (halfW n 2)).ws = _
    unfold mkW
    rw [if_pos h1, h2]; rfl
  · rcases (show k = 0 ∨ k = 1 by omega) with rfl | rfl <;> exact ⟨rfl, rfl, rfl, rfl, rfl, rfl⟩
theorem pr_at {n : Nat} {w : WA} {l : Nat → List UInt8} {x : WireA} (hx : w.ws = [x]) (h : PrE n x l) {k : Nat} (hk : k < 2) : w.at (k : Int) = some (0, k) := by
  show atW w.ws 0 (k : Int) = _
  rw [hx]
  have h0 := h.2.2 0 (by omega)
  have h1 := h.2.2 1 (by omega)
  have e : atE x (k : Int) = some k := by
    unfold atE
    rcases (show k = 0 ∨ k = 1 by omega) with rfl | rfl
    · rw [if_pos ⟨h0.1, h0.2.1⟩]
    · rw [if_neg (fun h => by have := h0.2.1; rw [this] at h; exact absurd h.2 (by decide)), if_pos ⟨h1.1, h1.2.1⟩]
  show (match atE x (k : Int) with | some k => some (0, k) | none => none) = _
  rw [e]
theorem pr_up {n : Nat} {x : WireA} {l : Nat → List UInt8} (h : PrE n x l) {j k : Nat} (f : List UInt8 → List UInt8) (i o : Bool) : PrE n ((x.up j fun e => { e with b := f e.b }).up k (riseE i o)) (updL l j (f (l j))) := by
  refine ⟨h.1, h.2.1, fun m hm => ?_⟩
  have hx := h.2.2 m hm
  have h1 : ((x.up j fun e => { e with b := f e.b }).e m).what = 1 ∧ ((x.up j fun e => { e with b := f e.b }).e m).fd = (m : Int) ∧ ((x.up j fun e => { e with b := f e.b }).e m).rd = true ∧ ((x.up j fun e => { e with b := f e.b }).e m).wr = true ∧ ((x.up j fun e => { e with b := f e.b }).e m).shut = false ∧ ((x.up j fun e => { e with b := f e.b }).e m).b = updL l j (f (l j)) m := by
    by_cases e : m = j
    · subst e; rw [up_at, updL_at]; exact ⟨hx.1, hx.2.1, hx.2.2.1, hx.2.2.2.1, hx.2.2.2.2.1, by show f (x.e m).b = _; rw [hx.2.2.2.2.2]⟩
    · rw [up_ne _ _ e, updL_ne _ _ e]; exact hx
  by_cases e : m = k
  · subst e; rw [up_at]; exact h1
  · rw [up_ne _ _ e]; exact h1
theorem op_pr {n : Nat} {w : WA} {l : Nat → List UInt8} (h : PrW n w l) : (readyR w 0).op = true := by
  obtain ⟨x, hx, hp⟩ := h
  have hat := pr_at hx hp (k := 0) (by omega)
  unfold readyR
  rw [show (0 : Int) = ((0 : Nat) : Int) from rfl, hat]
  dsimp only
  rw [hx]
  show (readyW x 0).op = true
  unfold readyW
  split <;> rfl
def rdV (b : List UInt8) (m : Int) : List UInt8 × Bool × Int := if m < 1 then ([], false, 2) else if b = [] then ([], false, 113) else (b.take m.toNat, false, 0)
theorem updL_id {l : Nat → List UInt8} {k : Nat} {v : List UInt8} (h : v = l k) : updL l k v = l := by
  funext j; unfold updL; split
  · rename_i e; subst e; exact h
  · rfl
theorem readR_pr {n : Nat} {w : WA} {l : Nat → List UInt8} (h : PrW n w l) {k : Nat} (hk : k < 2) (m : Int) : (readR w (k : Int) m).1 = rdV (l k) m ∧ PrW n (readR w (k : Int) m).2 (updL l k ((l k).drop m.toNat)) := by
  obtain ⟨x, hx, hp⟩ := h
  have hat := pr_at hx hp hk
  have hxk := hp.2.2 k hk
  have hxj := hp.2.2 (1 - k) (by omega)
  have hs : silentW x k = false := by unfold silentW; rw [hxj.1, hxj.2.2.2.2.1]; rfl
  have hr : readR w (k : Int) m = if m < 1 then (([], false, 2), w) else if l k ≠ [] then (((l k).take m.toNat, false, 0), w.setW 0 (takeW x k m.toNat)) else (([], false, 113), w) := by
    unfold readR; rw [hat]; dsimp only
    rw [hx]; dsimp only [List.getElem?_cons_zero]
    rw [if_neg (by rw [hxk.2.2.1]; simp), hxk.2.2.2.2.2, hs, hp.2.1]
    simp
  rw [hr]
  unfold rdV
  by_cases h1 : m < 1
  · rw [if_pos h1, if_pos h1]
    exact ⟨rfl, x, hx, by rw [updL_id (by rw [show m.toNat = 0 by omega]; rfl)]; exact hp⟩
  · rw [if_neg h1, if_neg h1]
    by_cases h2 : l k = []
    · rw [if_neg (by simpa using h2), if_pos h2]
      exact ⟨rfl, x, hx, by rw [updL_id (by rw [h2, List.drop_nil])]; exact hp⟩
    · rw [if_pos h2, if_neg h2]
      refine ⟨rfl, takeW x k m.toNat, ?_, pr_up hp (fun b => b.drop m.toNat) _ _⟩
      show w.ws.set 0 _ = _
      rw [hx]; rfl
def wrV (n : Nat) (b bs : List UInt8) : Int × Int := if bs.length = 0 then (0, 0) else if min bs.length (n - b.length) = 0 then (0, 113) else ((((min bs.length (n - b.length) : Nat)) : Int), 0)
theorem writeR_pr {n : Nat} {w : WA} {l : Nat → List UInt8} (h : PrW n w l) {k : Nat} (hk : k < 2) (bs : List UInt8) : (writeR w (k : Int) bs).1 = wrV n (l (1 - k)) bs ∧ PrW n (writeR w (k : Int) bs).2 (updL l (1 - k) (l (1 - k) ++ bs.take (n - (l (1 - k)).length))) := by
  obtain ⟨x, hx, hp⟩ := h
  have hat := pr_at hx hp hk
  have hxk := hp.2.2 k hk
  have hxj := hp.2.2 (1 - k) (by omega)
  have hpn : putN x k bs = min bs.length (n - (l (1 - k)).length) := by unfold putN; rw [hp.1, hxj.2.2.2.2.2]
  have hr : writeR w (k : Int) bs = if bs.length = 0 then ((0, 0), w) else if putN x k bs = 0 then ((0, 113), w) else ((((putN x k bs : Nat) : Int), 0), w.setW 0 (putW x k bs)) := by
    unfold writeR; rw [hat]; dsimp only
    rw [hx]; dsimp only [List.getElem?_cons_zero]
    rw [if_neg (by rw [hxk.2.2.2.1]; simp), if_neg (by rw [hp.2.1]; simp), if_neg (by rw [hxk.2.2.2.2.1, hxj.1]; simp)]
  rw [hr, hpn]
  unfold wrV
  by_cases h1 : bs.length = 0
  · rw [if_pos h1, if_pos h1]
    exact ⟨rfl, x, hx, by rw [updL_id (by rw [List.length_eq_zero_iff.1 h1]; simp)]; exact hp⟩
  · rw [if_neg h1, if_neg h1]
    by_cases h2 : min bs.length (n - (l (1 - k)).length) = 0
    · rw [if_pos h2, if_pos h2]
      exact ⟨rfl, x, hx, by rw [updL_id (by rw [show n - (l (1 - k)).length = 0 by omega]; simp)]; exact hp⟩
    · rw [if_neg h2, if_neg h2]
      refine ⟨rfl, putW x k bs, ?_, ?_⟩
      · show w.ws.set 0 _ = _
        rw [hx]; rfl
      · unfold putW
        rw [hpn]
        have e : bs.take (n - (l (1 - k)).length) = bs.take (min bs.length (n - (l (1 - k)).length)) := by
          rcases Nat.le_total bs.length (n - (l (1 - k)).length) with hle | hle
          · rw [Nat.min_eq_left hle, List.take_length, List.take_of_length_le hle]
          · rw [Nat.min_eq_right hle]
        rw [e]
        exact pr_up hp (fun b => b ++ bs.take (min bs.length (n - (l (1 - k)).length))) _ _
end Bu
end Go.Proofs.YtmpemhbfgbochaaDoor
namespace Go.Proofs.YtmpemhbfgbochaaDoor
set_option linter.unusedSimpArgs false
set_option linter.unusedVariables false
set_option linter.unnecessarySimpa false
open Go.RX Fx
namespace Bu
open Wo
set_option maxRecDepth 8000
def gotB (s : SdA) (b : List UInt8) (most : Int) : List UInt8 := b.take (rdN s most).toNat
theorem rdN_le (s : SdA) (most : Int) : rdN s most ≤ 1048576 - (s.c.length : Int) ∧ rdN s most ≤ most ∧ rdN s most ≤ 4096 ∧ (s.high > 0 → rdN s most ≤ s.high - (s.c.length : Int)) := by
  unfold rdN; split <;> omega
theorem readS_pr {n : Nat} {x : BfA} {w : WA} {l : Nat → List UInt8} (h : PrW n w l) (hf : x.fd = 0) (t : ToA) (now most : Int) :
    (readS ⟨x, w, t⟩ now most).x = (if gotB (x.s 0) (l 0) most = [] then x else x.up 0 fun s => setA 0 now { s with c := s.c ++ gotB (x.s 0) (l 0) most }) ∧
    (readS ⟨x, w, t⟩ now most).t = (if gotB (x.s 0) (l 0) most = [] then t else { t with i := ((gotB (x.s 0) (l 0) most).length : Int), r := decide ((((x.s 0).c ++ gotB (x.s 0) (l 0) most).length : Int) ≥ (x.s 0).low) }) ∧
    PrW n (readS ⟨x, w, t⟩ now most).w (updL l 0 ((l 0).drop (gotB (x.s 0) (l 0) most).length)) := by
  have hn := rdN_le (x.s 0) most
  unfold readS
  dsimp only
  by_cases h1 : rdN (x.s 0) most < 1
  · have hg : gotB (x.s 0) (l 0) most = [] := by unfold gotB; rw [show (rdN (x.s 0) most).toNat = 0 by omega]; rfl
    rw [if_pos h1, hg]
    exact ⟨rfl, rfl, by rw [updL_id (by rfl)]; exact h⟩
  · rw [if_neg h1, hf]
    have hr := readR_pr h (k := 0) (by omega) (rdN (x.s 0) most)
    rw [show ((0 : Nat) : Int) = 0 from rfl] at hr
    obtain ⟨⟨⟨bs, eo, ec⟩, w'⟩, hq⟩ : ∃ rr, readR w 0 (rdN (x.s 0) most) = rr := ⟨_, rfl⟩
    rw [hq] at hr ⊢
    dsimp only at hr
    unfold rdV at hr
    rw [if_neg h1] at hr
    by_cases h2 : l 0 = []
    · rw [if_pos h2] at hr
      have hg : gotB (x.s 0) (l 0) most = [] := by unfold gotB; rw [h2, List.take_nil]
      simp only [Prod.mk.injEq] at hr
      obtain ⟨⟨rfl, rfl, rfl⟩, hw⟩ := hr
      rw [hg]
      refine ⟨rfl, rfl, ?_⟩
      rw [h2, List.drop_nil] at hw ⊢
      exact hw
    · rw [if_neg h2] at hr
      simp only [Prod.mk.injEq] at hr
      obtain ⟨⟨hb, rfl, rfl⟩, hw⟩ := hr
      have hg : bs = gotB (x.s 0) (l 0) most := hb
      have hne : ¬ gotB (x.s 0) (l 0) most = [] := by
        unfold gotB
        rw [List.take_eq_nil_iff]
        intro h; rcases h with h | h
        · omega
        · exact h2 h
      rw [if_neg hne, if_neg hne, ← hg]
      have hlen : bs.length ≤ (rdN (x.s 0) most).toNat := by rw [hg]; unfold gotB; rw [List.length_take]; omega
      have ha : addA (x.s 0).c bs = (x.s 0).c ++ bs := by unfold addA; exact if_pos (by omega)
      have hd : (l 0).drop (rdN (x.s 0) most).toNat = (l 0).drop bs.length := by
        rw [hg]; unfold gotB; rw [List.length_take]
        rcases Nat.le_total (rdN (x.s 0) most).toNat (l 0).length with h | h
        · rw [Nat.min_eq_left h]
        · rw [Nat.min_eq_right h, List.drop_length, List.drop_of_length_le h]
      rw [hd] at hw
      have hp : rdP ⟨x, w, t⟩ now ((bs, false, 0), w') = ⟨x.up 0 (getF now bs), w', { t with i := (bs.length : Int), r := decide (((addA (x.s 0).c bs).length : Int) ≥ (x.s 0).low) }⟩ := rfl
      rw [hp]
      refine ⟨?_, ?_, hw⟩
      · show BfA.mk _ _ = BfA.mk _ _
        congr 1
        funext j
        show (if j = 0 then getF now bs (x.s j) else x.s j) = if j = 0 then setA 0 now { x.s j with c := (x.s j).c ++ bs } else x.s j
        by_cases e : j = 0
        · subst e; rw [if_pos rfl, if_pos rfl]; show setA 0 now { x.s 0 with c := addA (x.s 0).c bs } = _; rw [ha]
        · rw [if_neg e, if_neg e]
      · rw [ha]
def wentB (n : Nat) (s : SdA) (b : List UInt8) (much : Int) : List UInt8 := (offA s much).take (n - b.length)
theorem offA_pre (s : SdA) (much : Int) : offA s much = s.c.take (min much 4096).toNat := by
  unfold offA Bc.cpy
  split
  · rw [show (min much 4096).toNat = 0 by omega]; rfl
  · rfl
theorem went_pre (n : Nat) (s : SdA) (b : List UInt8) (much : Int) : wentB n s b much ++ s.c.drop (wentB n s b much).length = s.c := by
  have : wentB n s b much = s.c.take (min (n - b.length) (min much 4096).toNat) := by unfold wentB; rw [offA_pre, List.take_take]
  rw [this, List.length_take]
  rcases Nat.le_total (min (n - b.length) (min much 4096).toNat) s.c.length with h | h
  · rw [Nat.min_eq_left h, List.take_append_drop]
  · rw [Nat.min_eq_right h, List.drop_length, List.take_of_length_le h, List.append_nil]
theorem writeS_pr {n : Nat} {x : BfA} {w : WA} {l : Nat → List UInt8} (h : PrW n w l) (hf : x.fd = 0) (t : ToA) (now much : Int) :
    (writeS ⟨x, w, t⟩ now much).x = (if wentB n (x.s 1) (l 1) much = [] then x else x.up 1 fun s => setA 1 now { s with c := s.c.drop (wentB n (x.s 1) (l 1) much).length }) ∧
    (writeS ⟨x, w, t⟩ now much).t = (if wentB n (x.s 1) (l 1) much = [] then t else { t with o := ((wentB n (x.s 1) (l 1) much).length : Int), w := decide (((((x.s 1).c.drop (wentB n (x.s 1) (l 1) much).length).length : Nat) : Int) ≤ (x.s 1).low) }) ∧
    PrW n (writeS ⟨x, w, t⟩ now much).w (updL l 1 (l 1 ++ wentB n (x.s 1) (l 1) much)) := by
  unfold writeS
  dsimp only
  by_cases h1 : (offA (x.s 1) much).length = 0
  · have hg : wentB n (x.s 1) (l 1) much = [] := by unfold wentB; rw [List.length_eq_zero_iff.1 h1]; simp
    rw [if_pos h1, hg]
    exact ⟨rfl, rfl, by rw [updL_id (by simp)]; exact h⟩
  · rw [if_neg h1, hf]
    have hr := writeR_pr h (k := 0) (by omega) (offA (x.s 1) much)
    rw [show ((0 : Nat) : Int) = 0 from rfl] at hr
    obtain ⟨⟨⟨m, ec⟩, w'⟩, hq⟩ : ∃ rr, writeR w 0 (offA (x.s 1) much) = rr := ⟨_, rfl⟩
    rw [hq] at hr ⊢
    dsimp only [Nat.sub_zero] at hr
    unfold wrV at hr
    rw [if_neg h1] at hr
    have hwl : (wentB n (x.s 1) (l 1) much).length = min (offA (x.s 1) much).length (n - (l 1).length) := by unfold wentB; rw [List.length_take, Nat.min_comm]
    by_cases h2 : min (offA (x.s 1) much).length (n - (l 1).length) = 0
    · rw [if_pos h2] at hr
      simp only [Prod.mk.injEq] at hr
      obtain ⟨⟨rfl, rfl⟩, hw⟩ := hr
      have hg : wentB n (x.s 1) (l 1) much = [] := List.length_eq_zero_iff.1 (by rw [hwl, h2])
      rw [if_pos hg, if_pos hg]
      exact ⟨rfl, rfl, hw⟩
    · rw [if_neg h2] at hr
      simp only [Prod.mk.injEq] at hr
      obtain ⟨⟨rfl, rfl⟩, hw⟩ := hr
      have hne : ¬ wentB n (x.s 1) (l 1) much = [] := fun e => by rw [e] at hwl; simp only [List.length_nil] at hwl; omega
      rw [if_neg hne, if_neg hne, ← hwl]
      refine ⟨rfl, rfl, hw⟩
end Bu
end Go.Proofs.YtmpemhbfgbochaaDoor
namespace Go.Proofs.YtmpemhbfgbochaaDoor
set_option linter.unusedSimpArgs false
set_option linter.unusedVariables false
set_option linter.unnecessarySimpa false
open Go.RX Fx
namespace Bu
open Wo
set_option maxRecDepth 8000
def SmS (s s' : SdA) (c : List UInt8) : Prop := s'.c = c ∧ s'.on = s.on ∧ s'.ended = s.ended ∧ s'.low = s.low ∧ s'.high = s.high ∧ s'.after = s.after
theorem SmS.same {s : SdA} {c : List UInt8} (h : c = s.c) : SmS s s c := ⟨h.symm, rfl, rfl, rfl, rfl, rfl⟩
def mvL (l : Nat → List UInt8) (got went : List UInt8) : Nat → List UInt8 := updL (updL l 0 ((l 0).drop got.length)) 1 (l 1 ++ went)
def rdO (x : BfA) (flags : Int) : Bool := decide (bits .and .i64 (stepM x flags) 2 ≠ 0)
def wrO (x : BfA) (flags : Int) : Bool := decide (bits .and .i64 (stepM x flags) 4 ≠ 0)
def stG (x : BfA) (l : Nat → List UInt8) (flags most : Int) : List UInt8 := if rdO x flags = true then gotB (x.s 0) (l 0) most else []
def stW (n : Nat) (x : BfA) (l : Nat → List UInt8) (flags much : Int) : List UInt8 := if wrO x flags = true then wentB n (x.s 1) (l 1) much else []
def stT1 (x : BfA) (got : List UInt8) (t : ToA) : ToA := if got = [] then t else { t with i := (got.length : Int), r := decide ((((x.s 0).c ++ got).length : Int) ≥ (x.s 0).low) }
def stT2 (x : BfA) (went : List UInt8) (t : ToA) : ToA := if went = [] then t else { t with o := (went.length : Int), w := decide (((((x.s 1).c.drop went.length).length : Nat) : Int) ≤ (x.s 1).low) }
structure StepOk (n : Nat) (x : BfA) (l : Nat → List UInt8) (σ : StA) (got went : List UInt8) : Prop where
  s0 : SmS (x.s 0) (σ.x.s 0) ((x.s 0).c ++ got)
  s1 : SmS (x.s 1) (σ.x.s 1) ((x.s 1).c.drop went.length)
  fd : σ.x.fd = x.fd
  w : PrW n σ.w (mvL l got went)
  t : σ.t = stT2 x went (stT1 x got noT)
theorem stepR_pr {n : Nat} {x : BfA} {w : WA} {l : Nat → List UInt8} (h : PrW n w l) (hf : x.fd = 0) (now flags most : Int) :
    SmS (x.s 0) ((stepR x w now flags most).x.s 0) ((x.s 0).c ++ stG x l flags most) ∧ (stepR x w now flags most).x.s 1 = x.s 1 ∧ (stepR x w now flags most).x.fd = x.fd ∧
    PrW n (stepR x w now flags most).w (updL l 0 ((l 0).drop (stG x l flags most).length)) ∧ (stepR x w now flags most).t = stT1 x (stG x l flags most) noT := by
  unfold stepR stG rdO
  simp only [decide_eq_true_eq]
  by_cases h1 : bits .and .i64 (stepM x flags) 2 ≠ 0
  · rw [if_pos h1, if_pos h1]
    obtain ⟨e1, e2, e3⟩ := readS_pr h hf noT now most
    rw [e1, e2]
    unfold stT1
    by_cases h2 : gotB (x.s 0) (l 0) most = []
    · rw [if_pos h2, if_pos h2]
      exact ⟨.same (by rw [h2, List.append_nil]), rfl, rfl, e3, rfl⟩
    · rw [if_neg h2, if_neg h2]
      refine ⟨?_, bup_ne _ _ (by decide), rfl, e3, rfl⟩
      rw [bup_at]
      exact ⟨rfl, rfl, rfl, rfl, rfl, rfl⟩
  · rw [if_neg h1, if_neg h1]
    exact ⟨.same (by rw [List.append_nil]), rfl, rfl, by rw [updL_id (by rfl)]; exact h, rfl⟩
theorem step_pr {n : Nat} {x : BfA} {w : WA} {l : Nat → List UInt8} (h : PrW n w l) (hf : x.fd = 0) (now flags most much : Int) : StepOk n x l (stepS x w now flags most much) (stG x l flags most) (stW n x l flags much) := by
  obtain ⟨a1, a2, a3, a4, a5⟩ := stepR_pr h hf now flags most
  unfold stepS stW wrO
  simp only [decide_eq_true_eq]
  by_cases h1 : bits .and .i64 (stepM x flags) 4 ≠ 0
  · rw [if_pos h1, if_pos h1]
    have hl1 : updL l 0 ((l 0).drop (stG x l flags most).length) 1 = l 1 := updL_ne _ _ (by decide)
    obtain ⟨e1, e2, e3⟩ := writeS_pr a4 (a3.trans hf) (stepR x w now flags most).t now much
    rw [hl1, a2] at e1 e2 e3
    have q : writeS (stepR x w now flags most) now much = writeS ⟨(stepR x w now flags most).x, (stepR x w now flags most).w, (stepR x w now flags most).t⟩ now much := rfl
    rw [q]
    refine ⟨?_, ?_, ?_, e3, ?_⟩
    · rw [e1]
      split
      · exact a1
      · rw [bup_ne _ _ (by decide)]; exact a1
    · rw [e1]
      split
      · rename_i h2; rw [a2, h2]; exact .same rfl
      · rw [bup_at, a2]; exact ⟨rfl, rfl, rfl, rfl, rfl, rfl⟩
    · rw [e1]
      split
      · exact a3
      · exact a3
    · rw [e2, a5]; rfl
  · rw [if_neg h1, if_neg h1]
    refine ⟨a1, by rw [a2]; exact .same rfl, a3, ?_, by rw [a5]; rfl⟩
    unfold mvL
    rw [updL_id (by rw [List.append_nil, updL_ne _ _ (by decide)])]
    exact a4
theorem stW_pre (n : Nat) (x : BfA) (l : Nat → List UInt8) (flags much : Int) : stW n x l flags much ++ (x.s 1).c.drop (stW n x l flags much).length = (x.s 1).c := by
  unfold stW
  split
  · exact went_pre _ _ _ _
  · rfl
end Bu
end Go.Proofs.YtmpemhbfgbochaaDoor
