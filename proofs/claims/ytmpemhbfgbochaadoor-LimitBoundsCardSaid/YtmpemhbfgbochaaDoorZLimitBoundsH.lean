/-
  Limits: buckets of tokens, their calls. Limits: limiters and groups in plain words; how they lie in memory; the buckets of a side. Loops, and ways that meet, in which ranges over functions stand: each leaves a mark; the marks are kept beside. No program is named here. Limits: a time comes to all buckets; leave of a side; Leaves; Wants. Limits: leave of a side; Leaves; Wants.
-/
import Derived.Test.YtmpemhbfgbochaaDoorZLimitBoundsG
namespace Go.Proofs.YtmpemhbfgbochaaDoor
set_option linter.unusedSimpArgs false
set_option linter.unusedVariables false
set_option linter.unnecessarySimpa false
open Go.RX Fx
namespace Lm
open Bu
set_option maxRecDepth 8000
set_option maxHeartbeats 2000000 in
theorem comes_ct (L : List SP) (b : Nat) (x : BkA) (h : BkOk x) (now : Int) (hn : InK .u64 now) : Ct Tryd.prog 67 #[.pointer (some ⟨b, 0, none⟩), .int .u64 now] (BkP b x :: L) (fun _ : Unit => .tuple #[]) (fun _ : Unit => BkP b (come x now) :: L) := by
  refine Ct.of (vs := [.pointer (some ⟨b, 0, none⟩), .int .u64 now]) Tryd.func67 rfl rfl [(0, .pointer (some ⟨b, 0, none⟩)), (1, .int .u64 now)] (by repeat (first | exact trivial | refine ⟨rfl, ?_⟩)) ?_
  intro E
  show Hd E 81 _ _ _ _
  have hn' := hn
  have hk := h.clk
  have he1 := h.r.e1
  have he2 := h.r.e2
  have hm1 := h.r.m1
  have hm2 := h.r.m2
  have hb1 := h.r.b1
  have hb2 := h.r.b2
  have hh0 := h.h0
  have hh1 := h.h1
  simp only [InK] at hn' hk
  refine Hd.seq (fun K1 hK1 => ?_)
  refine Hd.seq (fun K2 hK2 => ?_)
  refine Hd.region ?_
  refine Hd.yv (y_move rfl) ?_
  refine Hd.yv (y_move rfl) ?_
  refine Hd.yv (y_nilp rfl) ?_
  first | (refine Hd.yv (y_field' (q := 4) (ft := 22) Tryd.underlying142 rfl sz22 rfl rfl) ?_) | (refine Hd.yv (y_fieldR (q := 4) (ft := 22) Tryd.underlying142 rfl sz22 rfl rfl) ?_)
  first | (refine Hd.yv (y_load1 ag22 rfl (Rd.pt1 pkk (by (first | rfl)))) ?_) | (refine Hd.yv (y_load1 ag22 rfl (Rd.seg1 pkk (by (first | rfl)))) ?_) | (refine Hd.yv (y_loadR1 ag22 rfl (by (first | exact RdS.own pkk)) (by (first | rfl))) ?_)
  refine Hd.yv (y_leq rfl rfl) ?_
  refine Hd.nil ?_
  refine Hd.slots [(0, _), (1, _), (11, _)] ⟨rfl, rfl, rfl, trivial⟩ ?_
  refine Hd.toK hK2 ?_
  refine Hd.cond rfl (fun hc0 => ?_) (fun hc0 => ?_)
  ·
    try simp only [decide_eq_true_eq, decide_eq_false_iff_not, Bool.and_eq_true, Bool.or_eq_true, Bool.and_eq_false_iff, Bool.or_eq_false_iff, Bool.not_eq_true', Bool.not_eq_false', Bool.not_eq_true, Bool.not_eq_false, Int.not_lt, Int.not_le, Decidable.not_not, ne_eq] at hc0
    refine Hd.ret ?_
    refine Hd.thenRet ?_
    clear hK1 hK2
    rw [show come x now = x from if_pos hc0]
    exact Hd.ret0 rfl () rfl (Ent.sep enn)
  ·
    try simp only [decide_eq_true_eq, decide_eq_false_iff_not, Bool.and_eq_true, Bool.or_eq_true, Bool.and_eq_false_iff, Bool.or_eq_false_iff, Bool.not_eq_true', Bool.not_eq_false', Bool.not_eq_true, Bool.not_eq_false, Int.not_lt, Int.not_le, Decidable.not_not, ne_eq] at hc0
    obtain ⟨p1, p2, p3, p4⟩ := per_b h hn (by omega)
    obtain ⟨f1, f2, f3, f4⟩ := fil_b h (per x now) p1
    have p1' : 0 ≤ (now - x.clk) / x.r.every := p1
    have p2' : (now - x.clk) / x.r.every ≤ now - x.clk := p2
    have f1' : 0 ≤ (x.r.burst - x.have_) / x.r.many := f1
    have f2' : (x.r.burst - x.have_) / x.r.many ≤ x.r.burst - x.have_ := f2
    refine Hd.skip ?_
    refine Hd.toK hK1 ?_
    refine Hd.seq (fun K3 hK3 => ?_)
    refine Hd.quiet mixed (by kernel_rfl) ?_
    refine Hq.yv (y_move rfl) ?_
    refine Hq.yv (y_move rfl) ?_
    refine Hq.yv (y_nilp rfl) ?_
    first | (refine Hq.yv (y_field' (q := 4) (ft := 22) Tryd.underlying142 rfl sz22 rfl rfl) ?_) | (refine Hq.yv (y_fieldR (q := 4) (ft := 22) Tryd.underlying142 rfl sz22 rfl rfl) ?_)
    first | (refine Hq.yv (y_load1 ag22 rfl (Rd.pt1 pkk (by (first | rfl)))) ?_) | (refine Hq.yv (y_load1 ag22 rfl (Rd.seg1 pkk (by (first | rfl)))) ?_) | (refine Hq.yv (y_loadR1 ag22 rfl (by (first | exact RdS.own pkk)) (by (first | rfl))) ?_)
    first | (refine Hq.yv (y_subn rfl rfl (by simp only [InK]; omega)) ?_) | (refine Hq.yv (y_sub rfl rfl) ?_)
    refine Hq.yv (y_move rfl) ?_
    refine Hq.yv (y_nilp rfl) ?_
    first | (refine Hq.yv (y_field' (q := 0) (ft := 24) Tryd.underlying142 rfl sz24 rfl rfl) ?_) | (refine Hq.yv (y_fieldR (q := 0) (ft := 24) Tryd.underlying142 rfl sz24 rfl rfl) ?_)
    first | (refine Hq.yv (y_field' (q := 1) (ft := 22) Tryd.underlying24 rfl sz22 rfl rfl) ?_) | (refine Hq.yv (y_fieldR (q := 1) (ft := 22) Tryd.underlying24 rfl sz22 rfl rfl) ?_)
    first | (refine Hq.yv (y_load1 ag22 rfl (Rd.pt1 pkk (by (first | rfl)))) ?_) | (refine Hq.yv (y_load1 ag22 rfl (Rd.seg1 pkk (by (first | rfl)))) ?_) | (refine Hq.yv (y_loadR1 ag22 rfl (by (first | exact RdS.own pkk)) (by (first | rfl))) ?_)
    first | (refine Hq.yv (y_to (v' := .int .u64 (per x now)) (y_quoN rfl rfl (by omega) (by simp only [InK]; omega)) (by rfl)) ?_) | (refine Hq.yv (y_to (v' := .int .u64 (per x now)) (y_quon rfl rfl (by omega) (by omega) (by simp only [InK]; omega)) (by rfl)) ?_) | (refine Hq.yv (y_to (v' := .int .u64 (per x now)) (y_quo rfl rfl (by omega)) (by rfl)) ?_)
    refine Hq.yv (y_assign rfl) ?_
    refine Hq.nil ?_
    refine Hd.slots [(0, _), (4, _)] ⟨rfl, rfl, trivial⟩ ?_
    refine Hd.toK hK3 ?_
    refine Hd.seq (fun K4 hK4 => ?_)
    refine Hd.tail 14 mixed (by kernel_rfl) ?_
    simp only [List.take, List.drop]
    refine Ht.yv (y_move rfl) ?_
    refine Ht.yv (y_nilp rfl) ?_
    first | (refine Ht.yv (y_field' (q := 4) (ft := 22) Tryd.underlying142 rfl sz22 rfl rfl) ?_) | (refine Ht.yv (y_fieldR (q := 4) (ft := 22) Tryd.underlying142 rfl sz22 rfl rfl) ?_)
    first | (refine Ht.yv (y_load1 ag22 rfl (Rd.pt1 pkk (by (first | rfl)))) ?_) | (refine Ht.yv (y_load1 ag22 rfl (Rd.seg1 pkk (by (first | rfl)))) ?_) | (refine Ht.yv (y_loadR1 ag22 rfl (by (first | exact RdS.own pkk)) (by (first | rfl))) ?_)
    refine Ht.yv (y_move rfl) ?_
    refine Ht.yv (y_move rfl) ?_
    refine Ht.yv (y_nilp rfl) ?_
    first | (refine Ht.yv (y_field' (q := 0) (ft := 24) Tryd.underlying142 rfl sz24 rfl rfl) ?_) | (refine Ht.yv (y_fieldR (q := 0) (ft := 24) Tryd.underlying142 rfl sz24 rfl rfl) ?_)
    first | (refine Ht.yv (y_field' (q := 1) (ft := 22) Tryd.underlying24 rfl sz22 rfl rfl) ?_) | (refine Ht.yv (y_fieldR (q := 1) (ft := 22) Tryd.underlying24 rfl sz22 rfl rfl) ?_)
    first | (refine Ht.yv (y_load1 ag22 rfl (Rd.pt1 pkk (by (first | rfl)))) ?_) | (refine Ht.yv (y_load1 ag22 rfl (Rd.seg1 pkk (by (first | rfl)))) ?_) | (refine Ht.yv (y_loadR1 ag22 rfl (by (first | exact RdS.own pkk)) (by (first | rfl))) ?_)
    first | (refine Ht.yv (y_muln rfl rfl (by simp only [InK]; omega)) ?_) | (refine Ht.yv (y_mul rfl rfl) ?_)
    first | (refine Ht.yv (y_addn rfl rfl (by simp only [InK]; omega)) ?_) | (refine Ht.yv (y_add rfl rfl) ?_)
    refine Ht.yv (y_nilp rfl) ?_
    first | (refine Ht.yv (y_field' (q := 4) (ft := 22) Tryd.underlying142 rfl sz22 rfl rfl) ?_) | (refine Ht.yv (y_fieldR (q := 4) (ft := 22) Tryd.underlying142 rfl sz22 rfl rfl) ?_)
    refine Ht.nil ?_
    first | (refine Hd.store1 sz22 rfl rfl rfl pkk (by first | decide | (simp; done) | (simp; omega)) ?_) | (refine Hd.storeG1 sz22 rfl rfl rfl pkk (by first | decide | (simp; done) | (simp; omega)) ?_) | (refine Hd.storeO1 sz22 rfl rfl rfl pkk (by first | omega | (simp; done) | (simp; omega)) ?_)
    try simp only [List.set_cons_zero, List.set_cons_succ]
    refine Hd.nil ?_
    refine Hd.slots [(0, _), (4, _)] ⟨rfl, rfl, trivial⟩ ?_
    refine Hd.toK hK4 ?_
    refine Hd.seq (fun K5 hK5 => ?_)
    refine Hd.quiet mixed (by kernel_rfl) ?_
    refine Hq.yv (y_move rfl) ?_
    refine Hq.yv (y_nilp rfl) ?_
    first | (refine Hq.yv (y_field' (q := 0) (ft := 24) Tryd.underlying142 rfl sz24 rfl rfl) ?_) | (refine Hq.yv (y_fieldR (q := 0) (ft := 24) Tryd.underlying142 rfl sz24 rfl rfl) ?_)
    first | (refine Hq.yv (y_field' (q := 2) (ft := 2) Tryd.underlying24 rfl sz2 rfl rfl) ?_) | (refine Hq.yv (y_fieldR (q := 2) (ft := 2) Tryd.underlying24 rfl sz2 rfl rfl) ?_)
    first | (refine Hq.yv (y_load1 ag2 rfl (Rd.pt1 pkk (by (first | rfl)))) ?_) | (refine Hq.yv (y_load1 ag2 rfl (Rd.seg1 pkk (by (first | rfl)))) ?_) | (refine Hq.yv (y_loadR1 ag2 rfl (by (first | exact RdS.own pkk)) (by (first | rfl))) ?_)
    refine Hq.yv (y_move rfl) ?_
    refine Hq.yv (y_nilp rfl) ?_
    first | (refine Hq.yv (y_field' (q := 3) (ft := 2) Tryd.underlying142 rfl sz2 rfl rfl) ?_) | (refine Hq.yv (y_fieldR (q := 3) (ft := 2) Tryd.underlying142 rfl sz2 rfl rfl) ?_)
    first | (refine Hq.yv (y_load1 ag2 rfl (Rd.pt1 pkk (by (first | rfl)))) ?_) | (refine Hq.yv (y_load1 ag2 rfl (Rd.seg1 pkk (by (first | rfl)))) ?_) | (refine Hq.yv (y_loadR1 ag2 rfl (by (first | exact RdS.own pkk)) (by (first | rfl))) ?_)
    first | (refine Hq.yv (y_subn rfl rfl (by simp only [InK]; omega)) ?_) | (refine Hq.yv (y_sub rfl rfl) ?_)
    first | (refine Hq.yv (y_convn rfl Tryd.underlying2 Tryd.underlying22 (by simp only [InK]; omega)) ?_) | (refine Hq.yv (y_conv rfl Tryd.underlying2 Tryd.underlying22) ?_)
    refine Hq.yv (y_move rfl) ?_
    refine Hq.yv (y_nilp rfl) ?_
    first | (refine Hq.yv (y_field' (q := 0) (ft := 24) Tryd.underlying142 rfl sz24 rfl rfl) ?_) | (refine Hq.yv (y_fieldR (q := 0) (ft := 24) Tryd.underlying142 rfl sz24 rfl rfl) ?_)
    first | (refine Hq.yv (y_field' (q := 0) (ft := 2) Tryd.underlying24 rfl sz2 rfl rfl) ?_) | (refine Hq.yv (y_fieldR (q := 0) (ft := 2) Tryd.underlying24 rfl sz2 rfl rfl) ?_)
    first | (refine Hq.yv (y_load1 ag2 rfl (Rd.pt1 pkk (by (first | rfl)))) ?_) | (refine Hq.yv (y_load1 ag2 rfl (Rd.seg1 pkk (by (first | rfl)))) ?_) | (refine Hq.yv (y_loadR1 ag2 rfl (by (first | exact RdS.own pkk)) (by (first | rfl))) ?_)
    first | (refine Hq.yv (y_convn rfl Tryd.underlying2 Tryd.underlying22 (by simp only [InK]; omega)) ?_) | (refine Hq.yv (y_conv rfl Tryd.underlying2 Tryd.underlying22) ?_)
    first | (refine Hq.yv (y_to (v' := .int .u64 (fil x)) (y_quoN rfl rfl (by omega) (by simp only [InK]; omega)) (by rfl)) ?_) | (refine Hq.yv (y_to (v' := .int .u64 (fil x)) (y_quon rfl rfl (by omega) (by omega) (by simp only [InK]; omega)) (by rfl)) ?_) | (refine Hq.yv (y_to (v' := .int .u64 (fil x)) (y_quo rfl rfl (by omega)) (by rfl)) ?_)
    first | (refine Hq.yv (y_addn rfl rfl (by simp only [InK]; omega)) ?_) | (refine Hq.yv (y_add rfl rfl) ?_)
    refine Hq.yv (y_assign rfl) ?_
    refine Hq.nil ?_
    refine Hd.slots [(0, _), (4, _), (5, _)] ⟨rfl, rfl, rfl, trivial⟩ ?_
    refine Hd.toK hK5 ?_
    refine Hd.tail 24 mixed (by kernel_rfl) ?_
    simp only [List.take, List.drop]
    refine Ht.yv (y_move rfl) ?_
    refine Ht.yv (y_move rfl) ?_
    refine Ht.yv (y_nilp rfl) ?_
    first | (refine Ht.yv (y_field' (q := 0) (ft := 24) Tryd.underlying142 rfl sz24 rfl rfl) ?_) | (refine Ht.yv (y_fieldR (q := 0) (ft := 24) Tryd.underlying142 rfl sz24 rfl rfl) ?_)
    first | (refine Ht.yv (y_field' (q := 2) (ft := 2) Tryd.underlying24 rfl sz2 rfl rfl) ?_) | (refine Ht.yv (y_fieldR (q := 2) (ft := 2) Tryd.underlying24 rfl sz2 rfl rfl) ?_)
    first | (refine Ht.yv (y_load1 ag2 rfl (Rd.pt1 pkk (by (first | rfl)))) ?_) | (refine Ht.yv (y_load1 ag2 rfl (Rd.seg1 pkk (by (first | rfl)))) ?_) | (refine Ht.yv (y_loadR1 ag2 rfl (by (first | exact RdS.own pkk)) (by (first | rfl))) ?_)
    refine Ht.yv (y_move rfl) ?_
    refine Ht.yv (y_nilp rfl) ?_
    first | (refine Ht.yv (y_field' (q := 3) (ft := 2) Tryd.underlying142 rfl sz2 rfl rfl) ?_) | (refine Ht.yv (y_fieldR (q := 3) (ft := 2) Tryd.underlying142 rfl sz2 rfl rfl) ?_)
    first | (refine Ht.yv (y_load1 ag2 rfl (Rd.pt1 pkk (by (first | rfl)))) ?_) | (refine Ht.yv (y_load1 ag2 rfl (Rd.seg1 pkk (by (first | rfl)))) ?_) | (refine Ht.yv (y_loadR1 ag2 rfl (by (first | exact RdS.own pkk)) (by (first | rfl))) ?_)
    refine Ht.yv (y_move rfl) ?_
    refine Ht.yv (y_move rfl) ?_
    refine Ht.yv (y_min rfl rfl) ?_
    first | (refine Ht.yv (y_convn rfl Tryd.underlying22 Tryd.underlying2 (by simp only [InK]; omega)) ?_) | (refine Ht.yv (y_conv rfl Tryd.underlying22 Tryd.underlying2) ?_)
    refine Ht.yv (y_move rfl) ?_
    refine Ht.yv (y_nilp rfl) ?_
    first | (refine Ht.yv (y_field' (q := 0) (ft := 24) Tryd.underlying142 rfl sz24 rfl rfl) ?_) | (refine Ht.yv (y_fieldR (q := 0) (ft := 24) Tryd.underlying142 rfl sz24 rfl rfl) ?_)
    first | (refine Ht.yv (y_field' (q := 0) (ft := 2) Tryd.underlying24 rfl sz2 rfl rfl) ?_) | (refine Ht.yv (y_fieldR (q := 0) (ft := 2) Tryd.underlying24 rfl sz2 rfl rfl) ?_)
    first | (refine Ht.yv (y_load1 ag2 rfl (Rd.pt1 pkk (by (first | rfl)))) ?_) | (refine Ht.yv (y_load1 ag2 rfl (Rd.seg1 pkk (by (first | rfl)))) ?_) | (refine Ht.yv (y_loadR1 ag2 rfl (by (first | exact RdS.own pkk)) (by (first | rfl))) ?_)
    first | (refine Ht.yv (y_muln rfl rfl (by simp only [InK]; omega)) ?_) | (refine Ht.yv (y_mul rfl rfl) ?_)
    first | (refine Ht.yv (y_addn rfl rfl (by simp only [InK]; omega)) ?_) | (refine Ht.yv (y_add rfl rfl) ?_)
    refine Ht.yv (y_min rfl rfl) ?_
    refine Ht.yv (y_nilp rfl) ?_
    first | (refine Ht.yv (y_field' (q := 3) (ft := 2) Tryd.underlying142 rfl sz2 rfl rfl) ?_) | (refine Ht.yv (y_fieldR (q := 3) (ft := 2) Tryd.underlying142 rfl sz2 rfl rfl) ?_)
    refine Ht.nil ?_
    first | (refine Hd.store1 sz2 rfl rfl rfl pkk (by first | decide | (simp; done) | (simp; omega)) ?_) | (refine Hd.storeG1 sz2 rfl rfl rfl pkk (by first | decide | (simp; done) | (simp; omega)) ?_) | (refine Hd.storeO1 sz2 rfl rfl rfl pkk (by first | omega | (simp; done) | (simp; omega)) ?_)
    try simp only [List.set_cons_zero, List.set_cons_succ]
    refine Hd.nil ?_
    refine Hd.slots [] trivial ?_
    clear hK1 hK2 hK3 hK4 hK5
    rw [show come x now = _ from if_neg (by omega)]
    exact Hd.end0 rfl () rfl (Ent.sep enn)
set_option maxHeartbeats 2000000 in
theorem have_ct (L : List SP) (b : Nat) (x : BkA) (h : BkOk x) (now : Int) (hn : InK .u64 now) : Ct Tryd.prog 43 #[.pointer (some ⟨b, 0, none⟩), .int .u64 now] (BkP b x :: L) (fun _ : Unit => .int .i64 (come x now).have_) (fun _ : Unit => BkP b (come x now) :: L) := by
  refine Ct.of (vs := [.pointer (some ⟨b, 0, none⟩), .int .u64 now]) Tryd.func43 rfl rfl [(0, .pointer (some ⟨b, 0, none⟩)), (1, .int .u64 now)] (by repeat (first | exact trivial | refine ⟨rfl, ?_⟩)) ?_
  intro E
  show Hd E 14 _ _ _ _
  refine Hd.seq (fun K1 hK1 => ?_)
  refine Hd.region ?_
  refine Hd.yv (y_assign rfl) ?_
  refine Hd.nil ?_
  refine Hd.slots [(0, _), (1, _)] ⟨rfl, rfl, trivial⟩ ?_
  refine Hd.toK hK1 ?_
  refine Hd.seq (fun K2 hK2 => ?_)
  refine Hd.seq (fun K3 hK3 => ?_)
  refine Hd.region ?_
  refine Hd.yv (y_move rfl) ?_
  refine Hd.callE rfl fk66 (bknone_ct _ b x h) (Ent.sep enn) ?_
  intro _
  refine Hd.nil ?_
  refine Hd.slots [(0, _), (1, _), (6, _)] ⟨rfl, rfl, rfl, trivial⟩ ?_
  refine Hd.toK hK3 ?_
  refine Hd.condF rfl ?_
  refine Hd.skip ?_
  refine Hd.toK hK2 ?_
  refine Hd.seq (fun K4 hK4 => ?_)
  refine Hd.region ?_
  refine Hd.yv (y_move rfl) ?_
  refine Hd.yv (y_move rfl) ?_
  refine Hd.callE rfl fk67 (comes_ct _ b x h now hn) (Ent.sep enn) ?_
  intro _
  refine Hd.nil ?_
  refine Hd.slots [(0, _)] ⟨rfl, trivial⟩ ?_
  refine Hd.toK hK4 ?_
  refine Hd.seq (fun K5 hK5 => ?_)
  refine Hd.region ?_
  refine Hd.yv (y_move rfl) ?_
  refine Hd.yv (y_nilp rfl) ?_
  first | (refine Hd.yv (y_field' (q := 3) (ft := 2) Tryd.underlying142 rfl sz2 rfl rfl) ?_) | (refine Hd.yv (y_fieldR (q := 3) (ft := 2) Tryd.underlying142 rfl sz2 rfl rfl) ?_)
  first | (refine Hd.yv (y_load1 ag2 rfl (Rd.pt1 pkk (by (first | rfl)))) ?_) | (refine Hd.yv (y_load1 ag2 rfl (Rd.seg1 pkk (by (first | rfl)))) ?_) | (refine Hd.yv (y_loadR1 ag2 rfl (by (first | exact RdS.own pkk)) (by (first | rfl))) ?_)
  refine Hd.yv (y_assign rfl) ?_
  refine Hd.nil ?_
  refine Hd.slots [(4, _)] ⟨rfl, trivial⟩ ?_
  refine Hd.toK hK5 ?_
  refine Hd.ret ?_
  clear hK1 hK2 hK3 hK4 hK5
  exact Hd.ret1 rfl () (by first | rfl | (simp only [*]; done) | (simp [*]; done)) (Ent.sep enn)
def tak (x : BkA) (now n : Int) : BkA := if min n (come x now).have_ < 1 then come x now else { come x now with have_ := (come x now).have_ - min n (come x now).have_ }
def takV (x : BkA) (now n : Int) : Int := if min n (come x now).have_ < 1 then 0 else min n (come x now).have_
theorem tak_ok {x : BkA} (h : BkOk x) {now : Int} (hn : InK .u64 now) (n : Int) : BkOk (tak x now n) := by
  have hc := come_ok h hn
  have h0 := hc.h0
  have h1 := hc.h1
  unfold tak
  split
  · exact hc
  · exact ⟨hc.r, by show 0 ≤ (come x now).have_ - _; omega, by show (come x now).have_ - _ ≤ (come x now).r.burst; omega, hc.clk⟩
set_option maxHeartbeats 2000000 in
theorem take_ct (L : List SP) (b : Nat) (x : BkA) (h : BkOk x) (now n : Int) (hn : InK .u64 now) (hnn : InK .i64 n) : Ct Tryd.prog 36 #[.pointer (some ⟨b, 0, none⟩), .int .u64 now, .int .i64 n] (BkP b x :: L) (fun _ : Unit => .int .i64 (takV x now n)) (fun _ : Unit => BkP b (tak x now n) :: L) := by
  refine Ct.of (vs := [.pointer (some ⟨b, 0, none⟩), .int .u64 now, .int .i64 n]) Tryd.func36 rfl rfl [(0, .pointer (some ⟨b, 0, none⟩)), (1, .int .u64 now), (2, .int .i64 n)] (by repeat (first | exact trivial | refine ⟨rfl, ?_⟩)) ?_
  intro E
  show Hd E 23 _ _ _ _
  have hc := come_ok h hn
  have h0 := hc.h0
  have h1 := hc.h1
  have h2 := hc.r.b2
  simp only [InK] at hnn
  refine Hd.seq (fun K1 hK1 => ?_)
  refine Hd.region ?_
  refine Hd.yv (y_assign rfl) ?_
  refine Hd.nil ?_
  refine Hd.slots [(0, _), (1, _), (2, _)] ⟨rfl, rfl, rfl, trivial⟩ ?_
  refine Hd.toK hK1 ?_
  refine Hd.seq (fun K2 hK2 => ?_)
  refine Hd.region ?_
  refine Hd.yv (y_move rfl) ?_
  refine Hd.yv (y_move rfl) ?_
  refine Hd.yv (y_move rfl) ?_
  refine Hd.callE rfl fk43 (have_ct _ b x h now hn) (Ent.sep enn) ?_
  intro _
  refine Hd.yv (y_min rfl rfl) ?_
  refine Hd.yv (y_assign rfl) ?_
  refine Hd.nil ?_
  refine Hd.slots [(0, _), (2, _)] ⟨rfl, rfl, trivial⟩ ?_
  refine Hd.toK hK2 ?_
  refine Hd.seq (fun K3 hK3 => ?_)
  refine Hd.seq (fun K4 hK4 => ?_)
  refine Hd.region ?_
  refine Hd.yv (y_move rfl) ?_
  refine Hd.yv (y_lss rfl rfl) ?_
  refine Hd.nil ?_
  refine Hd.slots [(0, _), (2, _), (13, _)] ⟨rfl, rfl, rfl, trivial⟩ ?_
  refine Hd.toK hK4 ?_
  refine Hd.cond rfl (fun hc0 => ?_) (fun hc0 => ?_)
  ·
    try simp only [decide_eq_true_eq, decide_eq_false_iff_not, Bool.and_eq_true, Bool.or_eq_true, Bool.and_eq_false_iff, Bool.or_eq_false_iff, Bool.not_eq_true', Bool.not_eq_false', Bool.not_eq_true, Bool.not_eq_false, Int.not_lt, Int.not_le, Decidable.not_not, ne_eq] at hc0
    refine Hd.seq (fun K5 hK5 => ?_)
    refine Hd.region ?_
    refine Hd.yv (y_assign rfl) ?_
    refine Hd.nil ?_
    refine Hd.slots [(6, _)] ⟨rfl, trivial⟩ ?_
    refine Hd.toK hK5 ?_
    refine Hd.ret ?_
    refine Hd.thenRet ?_
    clear hK1 hK2 hK3 hK4 hK5
    rw [show takV x now n = 0 from if_pos hc0, show tak x now n = come x now from if_pos hc0]
    exact Hd.ret1 rfl () rfl (Ent.sep enn)
  ·
    try simp only [decide_eq_true_eq, decide_eq_false_iff_not, Bool.and_eq_true, Bool.or_eq_true, Bool.and_eq_false_iff, Bool.or_eq_false_iff, Bool.not_eq_true', Bool.not_eq_false', Bool.not_eq_true, Bool.not_eq_false, Int.not_lt, Int.not_le, Decidable.not_not, ne_eq] at hc0
    refine Hd.skip ?_
    refine Hd.toK hK3 ?_
    refine Hd.seq (fun K6 hK6 => ?_)
    refine Hd.region ?_
    refine Hd.yv (y_move rfl) ?_
    refine Hd.yv (y_nilp rfl) ?_
    first | (refine Hd.yv (y_field' (q := 3) (ft := 2) Tryd.underlying142 rfl sz2 rfl rfl) ?_) | (refine Hd.yv (y_fieldR (q := 3) (ft := 2) Tryd.underlying142 rfl sz2 rfl rfl) ?_)
    first | (refine Hd.yv (y_load1 ag2 rfl (Rd.pt1 pkk (by (first | rfl)))) ?_) | (refine Hd.yv (y_load1 ag2 rfl (Rd.seg1 pkk (by (first | rfl)))) ?_) | (refine Hd.yv (y_loadR1 ag2 rfl (by (first | exact RdS.own pkk)) (by (first | rfl))) ?_)
    refine Hd.yv (y_move rfl) ?_
    first | (refine Hd.yv (y_subn rfl rfl (by simp only [InK]; omega)) ?_) | (refine Hd.yv (y_sub rfl rfl) ?_)
    refine Hd.yv (y_nilp rfl) ?_
    first | (refine Hd.yv (y_field' (q := 3) (ft := 2) Tryd.underlying142 rfl sz2 rfl rfl) ?_) | (refine Hd.yv (y_fieldR (q := 3) (ft := 2) Tryd.underlying142 rfl sz2 rfl rfl) ?_)
    first | (refine Hd.store1 sz2 rfl rfl rfl pkk (by first | decide | (simp; done) | (simp; omega)) ?_) | (refine Hd.storeG1 sz2 rfl rfl rfl pkk (by first | decide | (simp; done) | (simp; omega)) ?_) | (refine Hd.storeO1 sz2 rfl rfl rfl pkk (by first | omega | (simp; done) | (simp; omega)) ?_)
    try simp only [List.set_cons_zero, List.set_cons_succ]
    refine Hd.nil ?_
    refine Hd.slots [(2, _)] ⟨rfl, trivial⟩ ?_
    refine Hd.toK hK6 ?_
    refine Hd.seq (fun K7 hK7 => ?_)
    refine Hd.region ?_
    refine Hd.yv (y_move rfl) ?_
    refine Hd.yv (y_assign rfl) ?_
    refine Hd.nil ?_
    refine Hd.slots [(6, _)] ⟨rfl, trivial⟩ ?_
    refine Hd.toK hK7 ?_
    refine Hd.ret ?_
    clear hK1 hK2 hK3 hK4 hK6 hK7
    rw [show takV x now n = _ from if_neg (by omega), show tak x now n = _ from if_neg (by omega)]
    exact Hd.ret1 rfl () rfl (Ent.sep enn)
set_option maxHeartbeats 2000000 in
theorem check_ct (L : List SP) (r : RtA) : Ct Tryd.prog 57 #[.agg (encRt r).toArray] (L) (fun _ : Unit => .int .i64 (if rtBad r = true then 80 else 0)) (fun _ : Unit => L) := by
  refine Ct.of (vs := [.agg (encRt r).toArray]) Tryd.func57 rfl rfl [(0, .agg (encRt r).toArray)] (by repeat (first | exact trivial | refine ⟨rfl, ?_⟩)) ?_
  intro E
  show Hd E 33 _ _ _ _
  refine Hd.seq (fun K1 hK1 => ?_)
  refine Hd.region ?_
  refine Hd.box rfl rfl (fun b1 => ?_)
  refine Hd.yv (y_assign rfl) ?_
  refine Hd.nil ?_
  refine Hd.slots [(1, _)] ⟨rfl, trivial⟩ ?_
  refine Hd.toK hK1 ?_
  refine Hd.seq (fun K2 hK2 => ?_)
  refine Hd.seq (fun K3 hK3 => ?_)
  refine Hd.region ?_
  first | (refine Hd.yv (y_field' (q := 0) (ft := 2) Tryd.underlying24 rfl sz2 rfl rfl) ?_) | (refine Hd.yv (y_fieldR (q := 0) (ft := 2) Tryd.underlying24 rfl sz2 rfl rfl) ?_)
  first | (refine Hd.yv (y_load1 ag2 rfl (Rd.pt1 pkk (by (first | rfl)))) ?_) | (refine Hd.yv (y_load1 ag2 rfl (Rd.seg1 pkk (by (first | rfl)))) ?_) | (refine Hd.yv (y_loadR1 ag2 rfl (by (first | exact RdS.own pkk)) (by (first | rfl))) ?_)
  refine Hd.yv (y_lss rfl rfl) ?_
  refine Hd.yv (y_move rfl) ?_
  apply Hd.org 4 6 10 [(1, _)] rfl ⟨rfl, trivial⟩
  · intro hg1_6
    try simp only [decide_eq_true_eq, decide_eq_false_iff_not, Bool.and_eq_true, Bool.or_eq_true, Bool.and_eq_false_iff, Bool.or_eq_false_iff, Bool.not_eq_true', Bool.not_eq_false', Bool.not_eq_true, Bool.not_eq_false, Int.not_lt, Int.not_le, Decidable.not_not, ne_eq] at hg1_6
    simp only [List.take]
    refine Hd.ng rfl rfl rfl ?_
    refine Hd.ng rfl rfl rfl ?_
    refine Hd.ng rfl rfl rfl ?_
    first | (refine Hd.yv (y_pickT rfl rfl) ?_) | (refine Hd.yv (y_pickF rfl rfl) ?_) | (refine Hd.yv (y_pickb rfl rfl rfl) ?_) | (refine Hd.yv (y_pick rfl rfl rfl) ?_)
    refine Hd.nil ?_
    exact Hd.mend (by repeat (first | exact trivial | refine ⟨rfl, ?_⟩)) (Ent.sep enn)
  · intro hg1_6
    try simp only [decide_eq_true_eq, decide_eq_false_iff_not, Bool.and_eq_true, Bool.or_eq_true, Bool.and_eq_false_iff, Bool.or_eq_false_iff, Bool.not_eq_true', Bool.not_eq_false', Bool.not_eq_true, Bool.not_eq_false, Int.not_lt, Int.not_le, Decidable.not_not, ne_eq] at hg1_6
    simp only [List.take]
    first | (refine Hd.yg rfl rfl (y_field' (q := 0) (ft := 2) Tryd.underlying24 rfl sz2 rfl rfl) ?_) | (refine Hd.yg rfl rfl (y_fieldR (q := 0) (ft := 2) Tryd.underlying24 rfl sz2 rfl rfl) ?_)
    first | (refine Hd.yg rfl rfl (y_load1 ag2 rfl (Rd.pt1 pkk (by (first | rfl)))) ?_) | (refine Hd.yg rfl rfl (y_load1 ag2 rfl (Rd.seg1 pkk (by (first | rfl)))) ?_) | (refine Hd.yg rfl rfl (y_loadR1 ag2 rfl (by (first | exact RdS.own pkk)) (by (first | rfl))) ?_)
    refine Hd.yg rfl rfl (y_gtr rfl rfl) ?_
    first | (refine Hd.yv (y_pickT rfl rfl) ?_) | (refine Hd.yv (y_pickF rfl rfl) ?_) | (refine Hd.yv (y_pickb rfl rfl rfl) ?_) | (refine Hd.yv (y_pick rfl rfl rfl) ?_)
    refine Hd.nil ?_
    exact Hd.mend (by repeat (first | exact trivial | refine ⟨rfl, ?_⟩)) (Ent.sep enn)
  simp only [List.drop]
  refine Hd.yv (y_move rfl) ?_
  apply Hd.org 4 11 15 [(1, _)] rfl ⟨rfl, trivial⟩
  · intro hg1_11
    try simp only [decide_eq_true_eq, decide_eq_false_iff_not, Bool.and_eq_true, Bool.or_eq_true, Bool.and_eq_false_iff, Bool.or_eq_false_iff, Bool.not_eq_true', Bool.not_eq_false', Bool.not_eq_true, Bool.not_eq_false, Int.not_lt, Int.not_le, Decidable.not_not, ne_eq] at hg1_11
    simp only [List.take]
    refine Hd.ng rfl rfl rfl ?_
    refine Hd.ng rfl rfl rfl ?_
    refine Hd.ng rfl rfl rfl ?_
    first | (refine Hd.yv (y_pickT rfl rfl) ?_) | (refine Hd.yv (y_pickF rfl rfl) ?_) | (refine Hd.yv (y_pickb rfl rfl rfl) ?_) | (refine Hd.yv (y_pick rfl rfl rfl) ?_)
    refine Hd.nil ?_
    exact Hd.mend (by repeat (first | exact trivial | refine ⟨rfl, ?_⟩)) (Ent.sep enn)
  · intro hg1_11
    try simp only [decide_eq_true_eq, decide_eq_false_iff_not, Bool.and_eq_true, Bool.or_eq_true, Bool.and_eq_false_iff, Bool.or_eq_false_iff, Bool.not_eq_true', Bool.not_eq_false', Bool.not_eq_true, Bool.not_eq_false, Int.not_lt, Int.not_le, Decidable.not_not, ne_eq] at hg1_11
    simp only [List.take]
    first | (refine Hd.yg rfl rfl (y_field' (q := 1) (ft := 22) Tryd.underlying24 rfl sz22 rfl rfl) ?_) | (refine Hd.yg rfl rfl (y_fieldR (q := 1) (ft := 22) Tryd.underlying24 rfl sz22 rfl rfl) ?_)
    first | (refine Hd.yg rfl rfl (y_load1 ag22 rfl (Rd.pt1 pkk (by (first | rfl)))) ?_) | (refine Hd.yg rfl rfl (y_load1 ag22 rfl (Rd.seg1 pkk (by (first | rfl)))) ?_) | (refine Hd.yg rfl rfl (y_loadR1 ag22 rfl (by (first | exact RdS.own pkk)) (by (first | rfl))) ?_)
    refine Hd.yg rfl rfl (y_lss rfl rfl) ?_
    first | (refine Hd.yv (y_pickT rfl rfl) ?_) | (refine Hd.yv (y_pickF rfl rfl) ?_) | (refine Hd.yv (y_pickb rfl rfl rfl) ?_) | (refine Hd.yv (y_pick rfl rfl rfl) ?_)
    refine Hd.nil ?_
    exact Hd.mend (by repeat (first | exact trivial | refine ⟨rfl, ?_⟩)) (Ent.sep enn)
  simp only [List.drop]
  refine Hd.yv (y_move rfl) ?_
  apply Hd.org 4 16 20 [(1, _)] rfl ⟨rfl, trivial⟩
  · intro hg1_16
    try simp only [decide_eq_true_eq, decide_eq_false_iff_not, Bool.and_eq_true, Bool.or_eq_true, Bool.and_eq_false_iff, Bool.or_eq_false_iff, Bool.not_eq_true', Bool.not_eq_false', Bool.not_eq_true, Bool.not_eq_false, Int.not_lt, Int.not_le, Decidable.not_not, ne_eq] at hg1_16
    simp only [List.take]
    refine Hd.ng rfl rfl rfl ?_
    refine Hd.ng rfl rfl rfl ?_
    refine Hd.ng rfl rfl rfl ?_
    first | (refine Hd.yv (y_pickT rfl rfl) ?_) | (refine Hd.yv (y_pickF rfl rfl) ?_) | (refine Hd.yv (y_pickb rfl rfl rfl) ?_) | (refine Hd.yv (y_pick rfl rfl rfl) ?_)
    refine Hd.nil ?_
    exact Hd.mend (by repeat (first | exact trivial | refine ⟨rfl, ?_⟩)) (Ent.sep enn)
  · intro hg1_16
    try simp only [decide_eq_true_eq, decide_eq_false_iff_not, Bool.and_eq_true, Bool.or_eq_true, Bool.and_eq_false_iff, Bool.or_eq_false_iff, Bool.not_eq_true', Bool.not_eq_false', Bool.not_eq_true, Bool.not_eq_false, Int.not_lt, Int.not_le, Decidable.not_not, ne_eq] at hg1_16
    simp only [List.take]
    first | (refine Hd.yg rfl rfl (y_field' (q := 1) (ft := 22) Tryd.underlying24 rfl sz22 rfl rfl) ?_) | (refine Hd.yg rfl rfl (y_fieldR (q := 1) (ft := 22) Tryd.underlying24 rfl sz22 rfl rfl) ?_)
    first | (refine Hd.yg rfl rfl (y_load1 ag22 rfl (Rd.pt1 pkk (by (first | rfl)))) ?_) | (refine Hd.yg rfl rfl (y_load1 ag22 rfl (Rd.seg1 pkk (by (first | rfl)))) ?_) | (refine Hd.yg rfl rfl (y_loadR1 ag22 rfl (by (first | exact RdS.own pkk)) (by (first | rfl))) ?_)
    refine Hd.yg rfl rfl (y_gtr rfl rfl) ?_
    first | (refine Hd.yv (y_pickT rfl rfl) ?_) | (refine Hd.yv (y_pickF rfl rfl) ?_) | (refine Hd.yv (y_pickb rfl rfl rfl) ?_) | (refine Hd.yv (y_pick rfl rfl rfl) ?_)
    refine Hd.nil ?_
    exact Hd.mend (by repeat (first | exact trivial | refine ⟨rfl, ?_⟩)) (Ent.sep enn)
  simp only [List.drop]
  refine Hd.yv (y_move rfl) ?_
  apply Hd.org 6 21 27 [(1, _)] rfl ⟨rfl, trivial⟩
  · intro hg1_21
    try simp only [decide_eq_true_eq, decide_eq_false_iff_not, Bool.and_eq_true, Bool.or_eq_true, Bool.and_eq_false_iff, Bool.or_eq_false_iff, Bool.not_eq_true', Bool.not_eq_false', Bool.not_eq_true, Bool.not_eq_false, Int.not_lt, Int.not_le, Decidable.not_not, ne_eq] at hg1_21
    simp only [List.take]
    refine Hd.ng rfl rfl rfl ?_
    refine Hd.ng rfl rfl rfl ?_
    refine Hd.ng rfl rfl rfl ?_
    refine Hd.ng rfl rfl rfl ?_
    refine Hd.ng rfl rfl rfl ?_
    first | (refine Hd.yv (y_pickT rfl rfl) ?_) | (refine Hd.yv (y_pickF rfl rfl) ?_) | (refine Hd.yv (y_pickb rfl rfl rfl) ?_) | (refine Hd.yv (y_pick rfl rfl rfl) ?_)
    refine Hd.nil ?_
    exact Hd.mend (by repeat (first | exact trivial | refine ⟨rfl, ?_⟩)) (Ent.sep enn)
  · intro hg1_21
    try simp only [decide_eq_true_eq, decide_eq_false_iff_not, Bool.and_eq_true, Bool.or_eq_true, Bool.and_eq_false_iff, Bool.or_eq_false_iff, Bool.not_eq_true', Bool.not_eq_false', Bool.not_eq_true, Bool.not_eq_false, Int.not_lt, Int.not_le, Decidable.not_not, ne_eq] at hg1_21
    simp only [List.take]
    first | (refine Hd.yg rfl rfl (y_field' (q := 2) (ft := 2) Tryd.underlying24 rfl sz2 rfl rfl) ?_) | (refine Hd.yg rfl rfl (y_fieldR (q := 2) (ft := 2) Tryd.underlying24 rfl sz2 rfl rfl) ?_)
    first | (refine Hd.yg rfl rfl (y_load1 ag2 rfl (Rd.pt1 pkk (by (first | rfl)))) ?_) | (refine Hd.yg rfl rfl (y_load1 ag2 rfl (Rd.seg1 pkk (by (first | rfl)))) ?_) | (refine Hd.yg rfl rfl (y_loadR1 ag2 rfl (by (first | exact RdS.own pkk)) (by (first | rfl))) ?_)
    first | (refine Hd.yg rfl rfl (y_field' (q := 0) (ft := 2) Tryd.underlying24 rfl sz2 rfl rfl) ?_) | (refine Hd.yg rfl rfl (y_fieldR (q := 0) (ft := 2) Tryd.underlying24 rfl sz2 rfl rfl) ?_)
    first | (refine Hd.yg rfl rfl (y_load1 ag2 rfl (Rd.pt1 pkk (by (first | rfl)))) ?_) | (refine Hd.yg rfl rfl (y_load1 ag2 rfl (Rd.seg1 pkk (by (first | rfl)))) ?_) | (refine Hd.yg rfl rfl (y_loadR1 ag2 rfl (by (first | exact RdS.own pkk)) (by (first | rfl))) ?_)
    refine Hd.yg rfl rfl (y_lss rfl rfl) ?_
    first | (refine Hd.yv (y_pickT rfl rfl) ?_) | (refine Hd.yv (y_pickF rfl rfl) ?_) | (refine Hd.yv (y_pickb rfl rfl rfl) ?_) | (refine Hd.yv (y_pick rfl rfl rfl) ?_)
    refine Hd.nil ?_
    exact Hd.mend (by repeat (first | exact trivial | refine ⟨rfl, ?_⟩)) (Ent.sep enn)
  simp only [List.drop]
  refine Hd.yv (y_move rfl) ?_
  apply Hd.org 4 28 32 [] rfl trivial
  · intro hg1_28
    try simp only [decide_eq_true_eq, decide_eq_false_iff_not, Bool.and_eq_true, Bool.or_eq_true, Bool.and_eq_false_iff, Bool.or_eq_false_iff, Bool.not_eq_true', Bool.not_eq_false', Bool.not_eq_true, Bool.not_eq_false, Int.not_lt, Int.not_le, Decidable.not_not, ne_eq] at hg1_28
    simp only [List.take]
    refine Hd.ng rfl rfl rfl ?_
    refine Hd.ng rfl rfl rfl ?_
    refine Hd.ng rfl rfl rfl ?_
    first | (refine Hd.yv (y_pickT rfl rfl) ?_) | (refine Hd.yv (y_pickF rfl rfl) ?_) | (refine Hd.yv (y_pickb rfl rfl rfl) ?_) | (refine Hd.yv (y_pick rfl rfl rfl) ?_)
    refine Hd.nil ?_
    exact Hd.mend (by repeat (first | exact trivial | refine ⟨rfl, ?_⟩)) (Ent.sep enn)
  · intro hg1_28
    try simp only [decide_eq_true_eq, decide_eq_false_iff_not, Bool.and_eq_true, Bool.or_eq_true, Bool.and_eq_false_iff, Bool.or_eq_false_iff, Bool.not_eq_true', Bool.not_eq_false', Bool.not_eq_true, Bool.not_eq_false, Int.not_lt, Int.not_le, Decidable.not_not, ne_eq] at hg1_28
    simp only [List.take]
    first | (refine Hd.yg rfl rfl (y_field' (q := 2) (ft := 2) Tryd.underlying24 rfl sz2 rfl rfl) ?_) | (refine Hd.yg rfl rfl (y_fieldR (q := 2) (ft := 2) Tryd.underlying24 rfl sz2 rfl rfl) ?_)
    first | (refine Hd.yg rfl rfl (y_load1 ag2 rfl (Rd.pt1 pkk (by (first | rfl)))) ?_) | (refine Hd.yg rfl rfl (y_load1 ag2 rfl (Rd.seg1 pkk (by (first | rfl)))) ?_) | (refine Hd.yg rfl rfl (y_loadR1 ag2 rfl (by (first | exact RdS.own pkk)) (by (first | rfl))) ?_)
    refine Hd.yg rfl rfl (y_gtr rfl rfl) ?_
    first | (refine Hd.yv (y_pickT rfl rfl) ?_) | (refine Hd.yv (y_pickF rfl rfl) ?_) | (refine Hd.yv (y_pickb rfl rfl rfl) ?_) | (refine Hd.yv (y_pick rfl rfl rfl) ?_)
    refine Hd.nil ?_
    exact Hd.mend (by repeat (first | exact trivial | refine ⟨rfl, ?_⟩)) (Ent.sep enn)
  simp only [List.drop]
  refine Hd.nil ?_
  refine Hd.slots [(32, _)] ⟨rfl, trivial⟩ ?_
  refine Hd.toK hK3 ?_
  refine Hd.cond rfl (fun hc0 => ?_) (fun hc0 => ?_)
  ·
    try simp only [decide_eq_true_eq, decide_eq_false_iff_not, Bool.and_eq_true, Bool.or_eq_true, Bool.and_eq_false_iff, Bool.or_eq_false_iff, Bool.not_eq_true', Bool.not_eq_false', Bool.not_eq_true, Bool.not_eq_false, Int.not_lt, Int.not_le, Decidable.not_not, ne_eq] at hc0
    refine Hd.seq (fun K4 hK4 => ?_)
    refine Hd.region ?_
    refine Hd.yv (y_assign rfl) ?_
    refine Hd.nil ?_
    refine Hd.slots [(2, _)] ⟨rfl, trivial⟩ ?_
    refine Hd.toK hK4 ?_
    refine Hd.ret ?_
    refine Hd.thenRet ?_
    clear hK1 hK2 hK3 hK4
    rw [if_pos (by unfold rtBad; simp only [Bool.or_eq_true, decide_eq_true_eq]; omega)]
    exact Hd.ret1 rfl () rfl (Ent.sep enn)
  ·
    try simp only [decide_eq_true_eq, decide_eq_false_iff_not, Bool.and_eq_true, Bool.or_eq_true, Bool.and_eq_false_iff, Bool.or_eq_false_iff, Bool.not_eq_true', Bool.not_eq_false', Bool.not_eq_true, Bool.not_eq_false, Int.not_lt, Int.not_le, Decidable.not_not, ne_eq] at hc0
    refine Hd.skip ?_
    refine Hd.toK hK2 ?_
    refine Hd.seq (fun K5 hK5 => ?_)
    refine Hd.region ?_
    refine Hd.yv (y_assign rfl) ?_
    refine Hd.nil ?_
    refine Hd.slots [(2, _)] ⟨rfl, trivial⟩ ?_
    refine Hd.toK hK5 ?_
    refine Hd.ret ?_
    clear hK1 hK2 hK3 hK5
    rw [if_neg (by unfold rtBad; simp only [Bool.or_eq_true, decide_eq_true_eq]; omega)]
    exact Hd.ret1 rfl () rfl (Ent.sep enn)
abbrev newK (r : RtA) (now : Int) : BkA := ⟨r, r.burst, now⟩
theorem new_ok {r : RtA} (h : RtOk r) {now : Int} (hn : InK .u64 now) : BkOk (newK r now) := ⟨h, by have := h.m1; have := h.b1; show 0 ≤ r.burst; omega, Int.le_refl _, hn⟩
set_option maxHeartbeats 2000000 in
theorem bknew_ct (L : List SP) (r : RtA) (h : RtOk r) (now : Int) : Ct Tryd.prog 59 #[.agg (encRt r).toArray, .int .u64 now] (L) (fun b : Nat => .tuple #[.pointer (some ⟨b, 0, none⟩), .int .i64 0]) (fun b : Nat => BkP b (newK r now) :: L) := by
  refine Ct.of (vs := [.agg (encRt r).toArray, .int .u64 now]) Tryd.func59 rfl rfl [(0, .agg (encRt r).toArray), (1, .int .u64 now)] (by repeat (first | exact trivial | refine ⟨rfl, ?_⟩)) ?_
  intro E
  show Hd E 18 _ _ _ _
  refine Hd.seq (fun K1 hK1 => ?_)
  refine Hd.region ?_
  refine Hd.box rfl rfl (fun b2 => ?_)
  refine Hd.yv (y_assign rfl) ?_
  refine Hd.yv (y_assign rfl) ?_
  refine Hd.nil ?_
  refine Hd.slots [(1, _), (2, _)] ⟨rfl, rfl, trivial⟩ ?_
  refine Hd.toK hK1 ?_
  refine Hd.seq (fun K2 hK2 => ?_)
  refine Hd.seq (fun K3 hK3 => ?_)
  refine Hd.region ?_
  first | (refine Hd.yv (y_loadn (us := [_, _, _]) ag24 rfl (Rd.pt pkk (by (first | (intro j v e; rcases j with _|_|_|_|_|_|_|_|_|_|_|_|j <;> first | exact e | exact absurd e (by simp))))) (by exact sz24)) ?_) | (refine Hd.yv (y_loadn (us := [_, _, _]) ag24 rfl (Rd.seg pkk (by (first | (intro j v e; rcases j with _|_|_|_|_|_|_|_|_|_|_|_|j <;> first | exact e | exact absurd e (by simp))))) (by exact sz24)) ?_) | (refine Hd.yv (y_loadRn ag24 rfl (by (first | exact RdS.own pkk)) (by (first | (intro j v e; rcases j with _|_|_|_|_|_|_|_|_|_|_|_|j <;> first | exact e | exact absurd e (by simp)))) (by exact sz24) (by simp)) ?_)
  refine Hd.callE rfl fk57 (check_ct _ r) (Ent.sep enn) ?_
  intro _
  rw [rt_bad h, if_neg (by simp)]
  refine Hd.yv (y_assign rfl) ?_
  refine Hd.nil ?_
  refine Hd.slots [(1, _), (2, _), (6, _)] ⟨rfl, rfl, rfl, trivial⟩ ?_
  refine Hd.toK hK3 ?_
  refine Hd.seq (fun K4 hK4 => ?_)
  refine Hd.region ?_
  refine Hd.yv (y_move rfl) ?_
  refine Hd.yv (y_neq rfl rfl) ?_
  refine Hd.nil ?_
  refine Hd.slots [(1, _), (2, _), (6, _), (10, _)] ⟨rfl, rfl, rfl, rfl, trivial⟩ ?_
  refine Hd.toK hK4 ?_
  refine Hd.condF rfl ?_
  refine Hd.skip ?_
  refine Hd.toK hK2 ?_
  refine Hd.seq (fun K5 hK5 => ?_)
  refine Hd.region ?_
  first | (refine Hd.yv (y_loadn (us := [_, _, _]) ag24 rfl (Rd.pt pkk (by (first | (intro j v e; rcases j with _|_|_|_|_|_|_|_|_|_|_|_|j <;> first | exact e | exact absurd e (by simp))))) (by exact sz24)) ?_) | (refine Hd.yv (y_loadn (us := [_, _, _]) ag24 rfl (Rd.seg pkk (by (first | (intro j v e; rcases j with _|_|_|_|_|_|_|_|_|_|_|_|j <;> first | exact e | exact absurd e (by simp))))) (by exact sz24)) ?_) | (refine Hd.yv (y_loadRn ag24 rfl (by (first | exact RdS.own pkk)) (by (first | (intro j v e; rcases j with _|_|_|_|_|_|_|_|_|_|_|_|j <;> first | exact e | exact absurd e (by simp)))) (by exact sz24) (by simp)) ?_)
  first | (refine Hd.yv (y_field' (q := 2) (ft := 2) Tryd.underlying24 rfl sz2 rfl rfl) ?_) | (refine Hd.yv (y_fieldR (q := 2) (ft := 2) Tryd.underlying24 rfl sz2 rfl rfl) ?_)
  first | (refine Hd.yv (y_load1 ag2 rfl (Rd.pt1 pkk (by (first | rfl)))) ?_) | (refine Hd.yv (y_load1 ag2 rfl (Rd.seg1 pkk (by (first | rfl)))) ?_) | (refine Hd.yv (y_loadR1 ag2 rfl (by (first | exact RdS.own pkk)) (by (first | rfl))) ?_)
  refine Hd.yv (y_move rfl) ?_
  refine Hd.yv (y_build (vs := [(0, _), (1, _), (2, _)]) rfl (by first | exact bd59_16 .. | kernel_rfl)) ?_
  refine Hd.box rfl rfl (fun b17 => ?_)
  refine Hd.yv (y_assign rfl) ?_
  refine Hd.yv (y_assign rfl) ?_
  refine Hd.nil ?_
  refine Hd.slots [(4, _), (5, _)] ⟨rfl, rfl, trivial⟩ ?_
  refine Hd.toK hK5 ?_
  refine Hd.ret ?_
  clear hK1 hK2 hK3 hK4 hK5
  exact Hd.ret2 rfl b17 rfl rfl rfl (Ent.sep enn)
abbrev setK (x : BkA) (now : Int) (r : RtA) : BkA := { come x now with r := r, have_ := min (come x now).have_ r.burst }
theorem set_ok {x : BkA} (h : BkOk x) {now : Int} (hn : InK .u64 now) {r : RtA} (hr : RtOk r) : BkOk (setK x now r) := by
  have hc := come_ok h hn
  have h0 := hc.h0
  have h1 := hr.m1
  have h2 := hr.b1
  exact ⟨hr, by show 0 ≤ min _ r.burst; omega, by show min _ r.burst ≤ r.burst; omega, hc.clk⟩
set_option maxHeartbeats 2000000 in
theorem bkset_ct (L : List SP) (b : Nat) (x : BkA) (h : BkOk x) (now : Int) (hn : InK .u64 now) (r : RtA) (hr : RtOk r) : Ct Tryd.prog 58 #[.pointer (some ⟨b, 0, none⟩), .int .u64 now, .agg (encRt r).toArray] (BkP b x :: L) (fun _ : Unit => .int .i64 0) (fun _ : Unit => BkP b (setK x now r) :: L) := by
  refine Ct.of (vs := [.pointer (some ⟨b, 0, none⟩), .int .u64 now, .agg (encRt r).toArray]) Tryd.func58 rfl rfl [(0, .pointer (some ⟨b, 0, none⟩)), (1, .int .u64 now), (2, .agg (encRt r).toArray)] (by repeat (first | exact trivial | refine ⟨rfl, ?_⟩)) ?_
  intro E
  show Hd E 32 _ _ _ _
  refine Hd.seq (fun K1 hK1 => ?_)
  refine Hd.region ?_
  refine Hd.box rfl rfl (fun b5 => ?_)
  refine Hd.yv (y_assign rfl) ?_
  refine Hd.nil ?_
  refine Hd.slots [(0, _), (1, _), (5, _)] ⟨rfl, rfl, rfl, trivial⟩ ?_
  refine Hd.toK hK1 ?_
  refine Hd.seq (fun K2 hK2 => ?_)
  refine Hd.seq (fun K3 hK3 => ?_)
  refine Hd.region ?_
  refine Hd.yv (y_move rfl) ?_
  refine Hd.callE rfl fk66 (bknone_ct _ b x h) (Ent.sep enn) ?_
  intro _
  refine Hd.nil ?_
  refine Hd.slots [(0, _), (1, _), (5, _), (9, _)] ⟨rfl, rfl, rfl, rfl, trivial⟩ ?_
  refine Hd.toK hK3 ?_
  refine Hd.condF rfl ?_
  refine Hd.skip ?_
  refine Hd.toK hK2 ?_
  refine Hd.seq (fun K4 hK4 => ?_)
  refine Hd.seq (fun K5 hK5 => ?_)
  refine Hd.region ?_
  first | (refine Hd.yv (y_loadn (us := [_, _, _]) ag24 rfl (Rd.pt pkk (by (first | (intro j v e; rcases j with _|_|_|_|_|_|_|_|_|_|_|_|j <;> first | exact e | exact absurd e (by simp))))) (by exact sz24)) ?_) | (refine Hd.yv (y_loadn (us := [_, _, _]) ag24 rfl (Rd.seg pkk (by (first | (intro j v e; rcases j with _|_|_|_|_|_|_|_|_|_|_|_|j <;> first | exact e | exact absurd e (by simp))))) (by exact sz24)) ?_) | (refine Hd.yv (y_loadRn ag24 rfl (by (first | exact RdS.own pkk)) (by (first | (intro j v e; rcases j with _|_|_|_|_|_|_|_|_|_|_|_|j <;> first | exact e | exact absurd e (by simp)))) (by exact sz24) (by simp)) ?_)
  refine Hd.callE rfl fk57 (check_ct _ r) (Ent.sep enn) ?_
  intro _
  rw [rt_bad hr, if_neg (by simp)]
  refine Hd.yv (y_assign rfl) ?_
  refine Hd.nil ?_
  refine Hd.slots [(0, _), (1, _), (5, _), (7, _)] ⟨rfl, rfl, rfl, rfl, trivial⟩ ?_
  refine Hd.toK hK5 ?_
  refine Hd.seq (fun K6 hK6 => ?_)
  refine Hd.region ?_
  refine Hd.yv (y_move rfl) ?_
  refine Hd.yv (y_to (y_neq rfl rfl) (congrArg Value.bool (decide_eq_false ((by simp))))) ?_
  refine Hd.nil ?_
  refine Hd.slots [(0, _), (1, _), (5, _), (7, _), (13, _)] ⟨rfl, rfl, rfl, rfl, rfl, trivial⟩ ?_
  refine Hd.toK hK6 ?_
  refine Hd.condF rfl ?_
  refine Hd.skip ?_
  refine Hd.toK hK4 ?_
  refine Hd.seq (fun K7 hK7 => ?_)
  refine Hd.region ?_
  refine Hd.yv (y_move rfl) ?_
  refine Hd.yv (y_move rfl) ?_
  refine Hd.callE rfl fk67 (comes_ct _ b x h now hn) (Ent.sep enn) ?_
  intro _
  refine Hd.nil ?_
  refine Hd.slots [(0, _), (5, _)] ⟨rfl, rfl, trivial⟩ ?_
  refine Hd.toK hK7 ?_
  refine Hd.seq (fun K8 hK8 => ?_)
  refine Hd.region ?_
  refine Hd.yv (y_move rfl) ?_
  first | (refine Hd.yv (y_loadn (us := [_, _, _]) ag24 rfl (Rd.pt pkk (by (first | (intro j v e; rcases j with _|_|_|_|_|_|_|_|_|_|_|_|j <;> first | exact e | exact absurd e (by simp))))) (by exact sz24)) ?_) | (refine Hd.yv (y_loadn (us := [_, _, _]) ag24 rfl (Rd.seg pkk (by (first | (intro j v e; rcases j with _|_|_|_|_|_|_|_|_|_|_|_|j <;> first | exact e | exact absurd e (by simp))))) (by exact sz24)) ?_) | (refine Hd.yv (y_loadRn ag24 rfl (by (first | exact RdS.own pkk)) (by (first | (intro j v e; rcases j with _|_|_|_|_|_|_|_|_|_|_|_|j <;> first | exact e | exact absurd e (by simp)))) (by exact sz24) (by simp)) ?_)
  refine Hd.yv (y_nilp rfl) ?_
  first | (refine Hd.yv (y_field' (q := 0) (ft := 24) Tryd.underlying142 rfl sz24 rfl rfl) ?_) | (refine Hd.yv (y_fieldR (q := 0) (ft := 24) Tryd.underlying142 rfl sz24 rfl rfl) ?_)
  first | (refine Hd.storeA (us := [_, _, _]) sz24 rfl rfl rfl (by simp [Value.oneCell']) pkk rfl ?_) | (refine Hd.store (us := [_, _, _]) sz24 rfl rfl rfl (by simp [Value.oneCell']) pkk (by simp) ?_)
  try simp only [List.set_cons_zero, List.set_cons_succ]
  refine Hd.nil ?_
  refine Hd.slots [(0, _), (5, _)] ⟨rfl, rfl, trivial⟩ ?_
  refine Hd.toK hK8 ?_
  refine Hd.seq (fun K9 hK9 => ?_)
  refine Hd.tail 10 mixed (by kernel_rfl) ?_
  simp only [List.take, List.drop]
  refine Ht.yv (y_move rfl) ?_
  refine Ht.yv (y_move rfl) ?_
  refine Ht.yv (y_nilp rfl) ?_
  first | (refine Ht.yv (y_field' (q := 3) (ft := 2) Tryd.underlying142 rfl sz2 rfl rfl) ?_) | (refine Ht.yv (y_fieldR (q := 3) (ft := 2) Tryd.underlying142 rfl sz2 rfl rfl) ?_)
  first | (refine Ht.yv (y_load1 ag2 rfl (Rd.pt1 pkk (by (first | rfl)))) ?_) | (refine Ht.yv (y_load1 ag2 rfl (Rd.seg1 pkk (by (first | rfl)))) ?_) | (refine Ht.yv (y_loadR1 ag2 rfl (by (first | exact RdS.own pkk)) (by (first | rfl))) ?_)
  first | (refine Ht.yv (y_field' (q := 2) (ft := 2) Tryd.underlying24 rfl sz2 rfl rfl) ?_) | (refine Ht.yv (y_fieldR (q := 2) (ft := 2) Tryd.underlying24 rfl sz2 rfl rfl) ?_)
  first | (refine Ht.yv (y_load1 ag2 rfl (Rd.pt1 pkk (by (first | rfl)))) ?_) | (refine Ht.yv (y_load1 ag2 rfl (Rd.seg1 pkk (by (first | rfl)))) ?_) | (refine Ht.yv (y_loadR1 ag2 rfl (by (first | exact RdS.own pkk)) (by (first | rfl))) ?_)
  refine Ht.yv (y_min rfl rfl) ?_
  refine Ht.yv (y_nilp rfl) ?_
  first | (refine Ht.yv (y_field' (q := 3) (ft := 2) Tryd.underlying142 rfl sz2 rfl rfl) ?_) | (refine Ht.yv (y_fieldR (q := 3) (ft := 2) Tryd.underlying142 rfl sz2 rfl rfl) ?_)
  refine Ht.nil ?_
  first | (refine Hd.store1 sz2 rfl rfl rfl pkk (by first | decide | (simp; done) | (simp; omega)) ?_) | (refine Hd.storeG1 sz2 rfl rfl rfl pkk (by first | decide | (simp; done) | (simp; omega)) ?_) | (refine Hd.storeO1 sz2 rfl rfl rfl pkk (by first | omega | (simp; done) | (simp; omega)) ?_)
  try simp only [List.set_cons_zero, List.set_cons_succ]
  refine Hd.nil ?_
  refine Hd.slots [] trivial ?_
  refine Hd.toK hK9 ?_
  refine Hd.seq (fun K10 hK10 => ?_)
  refine Hd.region ?_
  refine Hd.yv (y_assign rfl) ?_
  refine Hd.nil ?_
  refine Hd.slots [(6, _)] ⟨rfl, trivial⟩ ?_
  refine Hd.toK hK10 ?_
  refine Hd.ret ?_
  clear hK1 hK2 hK3 hK4 hK5 hK6 hK7 hK8 hK9 hK10
  exact Hd.ret1 rfl () rfl (Ent.sep (.eq pkk (pt_eq (by rfl)) enn))
def tms (x : BkA) (t : Int) : Int := (t + x.r.many - 1) / x.r.many
def whn (x : BkA) (now n : Int) : Int := if n ≤ (come x now).have_ then now else if n > x.r.burst then NV else max now (dl (come x now).clk (tms x (n - (come x now).have_) * x.r.every))
theorem tms_b {x : BkA} (h : BkOk x) {t : Int} (h0 : 0 ≤ t) (h1 : t ≤ 2147483647) : 0 ≤ tms x t ∧ tms x t ≤ 4294967296 ∧ 0 ≤ tms x t * x.r.every ∧ tms x t * x.r.every ≤ 4503599627370496 := by
  have hm := h.r.m1
  have hm2 := h.r.m2
  have he := h.r.e1
  have he2 := h.r.e2
  have e1 : 0 ≤ tms x t := Int.ediv_nonneg (by omega) (by omega)
  have e2 : tms x t * x.r.many ≤ t + x.r.many - 1 := Int.ediv_mul_le _ (by omega)
  have e3 : tms x t ≤ tms x t * x.r.many := by
    have := Int.mul_le_mul_of_nonneg_left hm e1
    rwa [Int.mul_one] at this
  have e4 : tms x t * x.r.every ≤ 4294967296 * 1048576 := Int.mul_le_mul (by omega) he2 (by omega) (by omega)
  exact ⟨e1, by omega, Int.mul_nonneg e1 (by omega), by omega⟩
set_option maxHeartbeats 2000000 in
theorem times_ct (L : List SP) (b p : Nat) (x : BkA) (h : BkOk x) (t : Int) (h0 : 0 ≤ t) (h1 : t ≤ 2147483647) : Ct Tryd.prog 68 #[.int .i64 t, .pointer (some ⟨p, 0, none⟩)] (BkP b x :: pt p [.pointer (some ⟨b, 0, none⟩)] 76 :: L) (fun _ : Unit => .int .u64 (tms x t)) (fun _ : Unit => BkP b x :: pt p [.pointer (some ⟨b, 0, none⟩)] 76 :: L) := by
  refine Ct.of (vs := [.int .i64 t, .pointer (some ⟨p, 0, none⟩)]) Tryd.func68 rfl rfl [(0, .int .i64 t), (1, .pointer (some ⟨p, 0, none⟩))] (by repeat (first | exact trivial | refine ⟨rfl, ?_⟩)) ?_
  intro E
  show Hd E 19 _ _ _ _
  have hm1 := h.r.m1
  have hm2 := h.r.m2
  obtain ⟨p1, p2, _, _⟩ := tms_b h h0 h1
  unfold tms at p1 p2
  refine Hd.seq (fun K1 hK1 => ?_)
  refine Hd.region ?_
  refine Hd.yv (y_assign rfl) ?_
  refine Hd.nil ?_
  refine Hd.slots [(0, _), (1, _)] ⟨rfl, rfl, trivial⟩ ?_
  refine Hd.toK hK1 ?_
  refine Hd.seq (fun K2 hK2 => ?_)
  refine Hd.quiet mixed (by kernel_rfl) ?_
  refine Hq.yv (y_move rfl) ?_
  first | (refine Hq.yv (y_load1 ag76 rfl (Rd.pt1 pkk (by (first | rfl)))) ?_) | (refine Hq.yv (y_load1 ag76 rfl (Rd.seg1 pkk (by (first | rfl)))) ?_) | (refine Hq.yv (y_loadR1 ag76 rfl (by (first | exact RdS.own pkk)) (by (first | rfl))) ?_)
  refine Hq.yv (y_nilp rfl) ?_
  first | (refine Hq.yv (y_field' (q := 0) (ft := 24) Tryd.underlying142 rfl sz24 rfl rfl) ?_) | (refine Hq.yv (y_fieldR (q := 0) (ft := 24) Tryd.underlying142 rfl sz24 rfl rfl) ?_)
  first | (refine Hq.yv (y_field' (q := 0) (ft := 2) Tryd.underlying24 rfl sz2 rfl rfl) ?_) | (refine Hq.yv (y_fieldR (q := 0) (ft := 2) Tryd.underlying24 rfl sz2 rfl rfl) ?_)
  first | (refine Hq.yv (y_load1 ag2 rfl (Rd.pt1 pkk (by (first | rfl)))) ?_) | (refine Hq.yv (y_load1 ag2 rfl (Rd.seg1 pkk (by (first | rfl)))) ?_) | (refine Hq.yv (y_loadR1 ag2 rfl (by (first | exact RdS.own pkk)) (by (first | rfl))) ?_)
  first | (refine Hq.yv (y_addn rfl rfl (by simp only [InK]; omega)) ?_) | (refine Hq.yv (y_add rfl rfl) ?_)
  first | (refine Hq.yv (y_subn rfl rfl (by simp only [InK]; omega)) ?_) | (refine Hq.yv (y_sub rfl rfl) ?_)
  first | (refine Hq.yv (y_load1 ag76 rfl (Rd.pt1 pkk (by (first | rfl)))) ?_) | (refine Hq.yv (y_load1 ag76 rfl (Rd.seg1 pkk (by (first | rfl)))) ?_) | (refine Hq.yv (y_loadR1 ag76 rfl (by (first | exact RdS.own pkk)) (by (first | rfl))) ?_)
  refine Hq.yv (y_nilp rfl) ?_
  first | (refine Hq.yv (y_field' (q := 0) (ft := 24) Tryd.underlying142 rfl sz24 rfl rfl) ?_) | (refine Hq.yv (y_fieldR (q := 0) (ft := 24) Tryd.underlying142 rfl sz24 rfl rfl) ?_)
  first | (refine Hq.yv (y_field' (q := 0) (ft := 2) Tryd.underlying24 rfl sz2 rfl rfl) ?_) | (refine Hq.yv (y_fieldR (q := 0) (ft := 2) Tryd.underlying24 rfl sz2 rfl rfl) ?_)
  first | (refine Hq.yv (y_load1 ag2 rfl (Rd.pt1 pkk (by (first | rfl)))) ?_) | (refine Hq.yv (y_load1 ag2 rfl (Rd.seg1 pkk (by (first | rfl)))) ?_) | (refine Hq.yv (y_loadR1 ag2 rfl (by (first | exact RdS.own pkk)) (by (first | rfl))) ?_)
  first | (refine Hq.yv (y_quoN rfl rfl (by omega) (by simp only [InK]; omega)) ?_) | (refine Hq.yv (y_quon rfl rfl (by omega) (by omega) (by simp only [InK]; omega)) ?_) | (refine Hq.yv (y_quo rfl rfl (by omega)) ?_)
  first | (refine Hq.yv (y_convn rfl Tryd.underlying2 Tryd.underlying22 (by simp only [InK]; omega)) ?_) | (refine Hq.yv (y_conv rfl Tryd.underlying2 Tryd.underlying22) ?_)
  refine Hq.yv (y_assign rfl) ?_
  refine Hq.nil ?_
  refine Hd.slots [(3, _)] ⟨rfl, trivial⟩ ?_
  refine Hd.toK hK2 ?_
  refine Hd.ret ?_
  clear hK1 hK2
  exact Hd.ret1 rfl () rfl (Ent.sep enn)
set_option maxHeartbeats 2000000 in
theorem bkwhen_ct (L : List SP) (b : Nat) (x : BkA) (h : BkOk x) (now n : Int) (hn : InK .u64 now) (hn0 : 0 ≤ n) (hn1 : n ≤ 2147483647) : Ct Tryd.prog 41 #[.pointer (some ⟨b, 0, none⟩), .int .u64 now, .int .i64 n] (BkP b x :: L) (fun _ : Unit => .int .u64 (whn x now n)) (fun _ : Unit => BkP b (come x now) :: L) := by
  refine Ct.of (vs := [.pointer (some ⟨b, 0, none⟩), .int .u64 now, .int .i64 n]) Tryd.func41 rfl rfl [(0, .pointer (some ⟨b, 0, none⟩)), (1, .int .u64 now), (2, .int .i64 n)] (by repeat (first | exact trivial | refine ⟨rfl, ?_⟩)) ?_
  intro E
  show Hd E 53 _ _ _ _
  have hc := come_ok h hn
  have hc0 := hc.h0
  have hc1 := hc.h1
  have hc2 := hc.r.b2
  have hr := come_r x now
  have hcr : (come x now).r.burst = x.r.burst := by rw [hr]
  refine Hd.seq (fun K1 hK1 => ?_)
  refine Hd.region ?_
  refine Hd.box rfl rfl (fun b3 => ?_)
  refine Hd.yv (y_assign rfl) ?_
  refine Hd.nil ?_
  refine Hd.slots [(1, _), (2, _), (3, _)] ⟨rfl, rfl, rfl, trivial⟩ ?_
  refine Hd.toK hK1 ?_
  refine Hd.seq (fun K2 hK2 => ?_)
  refine Hd.seq (fun K3 hK3 => ?_)
  refine Hd.region ?_
  first | (refine Hd.yv (y_load1 ag76 rfl (Rd.pt1 pkk (by (first | rfl)))) ?_) | (refine Hd.yv (y_load1 ag76 rfl (Rd.seg1 pkk (by (first | rfl)))) ?_) | (refine Hd.yv (y_loadR1 ag76 rfl (by (first | exact RdS.own pkk)) (by (first | rfl))) ?_)
  refine Hd.callE rfl fk66 (bknone_ct _ b x h) (Ent.sep enn) ?_
  intro _
  refine Hd.nil ?_
  refine Hd.slots [(1, _), (2, _), (3, _), (10, _)] ⟨rfl, rfl, rfl, rfl, trivial⟩ ?_
  refine Hd.toK hK3 ?_
  refine Hd.condF rfl ?_
  refine Hd.skip ?_
  refine Hd.toK hK2 ?_
  refine Hd.seq (fun K4 hK4 => ?_)
  refine Hd.region ?_
  first | (refine Hd.yv (y_load1 ag76 rfl (Rd.pt1 pkk (by (first | rfl)))) ?_) | (refine Hd.yv (y_load1 ag76 rfl (Rd.seg1 pkk (by (first | rfl)))) ?_) | (refine Hd.yv (y_loadR1 ag76 rfl (by (first | exact RdS.own pkk)) (by (first | rfl))) ?_)
  refine Hd.yv (y_move rfl) ?_
  refine Hd.callE rfl fk67 (comes_ct _ b x h now hn) (Ent.sep enn) ?_
  intro _
  refine Hd.nil ?_
  refine Hd.slots [(1, _), (2, _), (3, _)] ⟨rfl, rfl, rfl, trivial⟩ ?_
  refine Hd.toK hK4 ?_
  refine Hd.seq (fun K5 hK5 => ?_)
  refine Hd.region ?_
  refine Hd.yv (y_mkf (fv := []) (cv := [_]) rfl rfl) ?_
  refine Hd.yv (y_assign rfl) ?_
  refine Hd.nil ?_
  refine Hd.slots [(1, _), (2, _), (3, _), (7, _)] ⟨rfl, rfl, rfl, rfl, trivial⟩ ?_
  refine Hd.toK hK5 ?_
  refine Hd.seq (fun K6 hK6 => ?_)
  refine Hd.block ?_
  refine Hd.seq (fun K7 hK7 => ?_)
  refine Hd.region ?_
  refine Hd.yv (y_move rfl) ?_
  first | (refine Hd.yv (y_load1 ag76 rfl (Rd.pt1 pkk (by (first | rfl)))) ?_) | (refine Hd.yv (y_load1 ag76 rfl (Rd.seg1 pkk (by (first | rfl)))) ?_) | (refine Hd.yv (y_loadR1 ag76 rfl (by (first | exact RdS.own pkk)) (by (first | rfl))) ?_)
  refine Hd.yv (y_nilp rfl) ?_
  first | (refine Hd.yv (y_field' (q := 3) (ft := 2) Tryd.underlying142 rfl sz2 rfl rfl) ?_) | (refine Hd.yv (y_fieldR (q := 3) (ft := 2) Tryd.underlying142 rfl sz2 rfl rfl) ?_)
  first | (refine Hd.yv (y_load1 ag2 rfl (Rd.pt1 pkk (by (first | rfl)))) ?_) | (refine Hd.yv (y_load1 ag2 rfl (Rd.seg1 pkk (by (first | rfl)))) ?_) | (refine Hd.yv (y_loadR1 ag2 rfl (by (first | exact RdS.own pkk)) (by (first | rfl))) ?_)
  refine Hd.yv (y_leq rfl rfl) ?_
  refine Hd.yv (y_assign rfl) ?_
  refine Hd.nil ?_
  refine Hd.slots [(1, _), (2, _), (3, _), (7, _), (15, _)] ⟨rfl, rfl, rfl, rfl, rfl, trivial⟩ ?_
  refine Hd.toK hK7 ?_
  refine Hd.cond rfl (fun hc1 => ?_) (fun hc1 => ?_)
  ·
    try simp only [decide_eq_true_eq, decide_eq_false_iff_not, Bool.and_eq_true, Bool.or_eq_true, Bool.and_eq_false_iff, Bool.or_eq_false_iff, Bool.not_eq_true', Bool.not_eq_false', Bool.not_eq_true, Bool.not_eq_false, Int.not_lt, Int.not_le, Decidable.not_not, ne_eq] at hc1
    have hc1_ := ‹n ≤ (come x now).have_›
    refine Hd.seq (fun K8 hK8 => ?_)
    refine Hd.region ?_
    refine Hd.yv (y_move rfl) ?_
    refine Hd.yv (y_assign rfl) ?_
    refine Hd.nil ?_
    refine Hd.slots [(6, _)] ⟨rfl, trivial⟩ ?_
    refine Hd.toK hK8 ?_
    refine Hd.ret ?_
    refine Hd.inBret ?_
    refine Hd.thenRet ?_
    clear hK1 hK2 hK3 hK4 hK5 hK6 hK7 hK8
    rw [show whn x now n = now from if_pos hc1_]
    exact Hd.ret1 rfl () rfl (Ent.sep enn)
  ·
    try simp only [decide_eq_true_eq, decide_eq_false_iff_not, Bool.and_eq_true, Bool.or_eq_true, Bool.and_eq_false_iff, Bool.or_eq_false_iff, Bool.not_eq_true', Bool.not_eq_false', Bool.not_eq_true, Bool.not_eq_false, Int.not_lt, Int.not_le, Decidable.not_not, ne_eq] at hc1
    refine Hd.seq (fun K9 hK9 => ?_)
    refine Hd.region ?_
    refine Hd.yv (y_move rfl) ?_
    first | (refine Hd.yv (y_load1 ag76 rfl (Rd.pt1 pkk (by (first | rfl)))) ?_) | (refine Hd.yv (y_load1 ag76 rfl (Rd.seg1 pkk (by (first | rfl)))) ?_) | (refine Hd.yv (y_loadR1 ag76 rfl (by (first | exact RdS.own pkk)) (by (first | rfl))) ?_)
    refine Hd.yv (y_nilp rfl) ?_
    first | (refine Hd.yv (y_field' (q := 0) (ft := 24) Tryd.underlying142 rfl sz24 rfl rfl) ?_) | (refine Hd.yv (y_fieldR (q := 0) (ft := 24) Tryd.underlying142 rfl sz24 rfl rfl) ?_)
    first | (refine Hd.yv (y_field' (q := 2) (ft := 2) Tryd.underlying24 rfl sz2 rfl rfl) ?_) | (refine Hd.yv (y_fieldR (q := 2) (ft := 2) Tryd.underlying24 rfl sz2 rfl rfl) ?_)
    first | (refine Hd.yv (y_load1 ag2 rfl (Rd.pt1 pkk (by (first | rfl)))) ?_) | (refine Hd.yv (y_load1 ag2 rfl (Rd.seg1 pkk (by (first | rfl)))) ?_) | (refine Hd.yv (y_loadR1 ag2 rfl (by (first | exact RdS.own pkk)) (by (first | rfl))) ?_)
    refine Hd.yv (y_gtr rfl rfl) ?_
    refine Hd.yv (y_assign rfl) ?_
    refine Hd.nil ?_
    refine Hd.slots [(1, _), (2, _), (3, _), (7, _), (23, _)] ⟨rfl, rfl, rfl, rfl, rfl, trivial⟩ ?_
    refine Hd.toK hK9 ?_
    refine Hd.cond rfl (fun hc2 => ?_) (fun hc2 => ?_)
    ·
      try simp only [decide_eq_true_eq, decide_eq_false_iff_not, Bool.and_eq_true, Bool.or_eq_true, Bool.and_eq_false_iff, Bool.or_eq_false_iff, Bool.not_eq_true', Bool.not_eq_false', Bool.not_eq_true, Bool.not_eq_false, Int.not_lt, Int.not_le, Decidable.not_not, ne_eq] at hc2
      have hc2_ : ¬ n ≤ (come x now).have_ := by omega
      refine Hd.seq (fun K10 hK10 => ?_)
      refine Hd.region ?_
      refine Hd.yv (y_assign rfl) ?_
      refine Hd.nil ?_
      refine Hd.slots [(6, _)] ⟨rfl, trivial⟩ ?_
      refine Hd.toK hK10 ?_
      refine Hd.ret ?_
      refine Hd.inBret ?_
      refine Hd.thenRet ?_
      clear hK1 hK2 hK3 hK4 hK5 hK6 hK7 hK9 hK10
      rw [show whn x now n = NV from (if_neg hc2_).trans (if_pos (by omega))]
      exact Hd.ret1 rfl () rfl (Ent.sep enn)
    ·
      try simp only [decide_eq_true_eq, decide_eq_false_iff_not, Bool.and_eq_true, Bool.or_eq_true, Bool.and_eq_false_iff, Bool.or_eq_false_iff, Bool.not_eq_true', Bool.not_eq_false', Bool.not_eq_true, Bool.not_eq_false, Int.not_lt, Int.not_le, Decidable.not_not, ne_eq] at hc2
      have hc2_ : ¬ n ≤ (come x now).have_ := by omega
      obtain ⟨t1, t2, t3, t4⟩ := tms_b hc (t := n - (come x now).have_) (by omega) (by omega)
      have ht : tms (come x now) (n - (come x now).have_) = tms x (n - (come x now).have_) := by unfold tms; rw [hr]
      refine Hd.skip ?_
      refine Hd.inB ?_
      refine Hd.toK hK6 ?_
      refine Hd.seq (fun K11 hK11 => ?_)
      refine Hd.drawsH ([BkP b (come x now), pt b3 [.pointer (some ⟨b, 0, none⟩)] 76]) (fun _ => true) mixed ?_
      simp only [List.length, Nat.zero_add, Nat.reduceAdd]
      first | (refine Hd.takeH 0 rfl (by kernel_rfl) (by kernel_rfl) (by kernel_rfl) (by kernel_rfl) (y_load1 ag76 rfl (Rd.pt1 pkk (by (first | rfl)))) (fun _ _ => rfl) (Ent.sep enn) ?_) | (refine Hd.takeH 0 rfl (by kernel_rfl) (by kernel_rfl) (by kernel_rfl) (by kernel_rfl) (y_load1 ag76 rfl (Rd.seg1 pkk (by (first | rfl)))) (fun _ _ => rfl) (Ent.sep enn) ?_) | (refine Hd.takeH 0 rfl (by kernel_rfl) (by kernel_rfl) (by kernel_rfl) (by kernel_rfl) (y_loadR1 ag76 rfl (by (first | exact RdS.own pkk)) (by (first | rfl))) (fun _ _ => rfl) (Ent.sep enn) ?_)
      refine Hd.takeH 1 rfl (by kernel_rfl) (by kernel_rfl) (by kernel_rfl) (by kernel_rfl) (y_nilp rfl) (fun _ _ => rfl) (Ent.sep enn) ?_
      first | (refine Hd.takeH 2 rfl (by kernel_rfl) (by kernel_rfl) (by kernel_rfl) (by kernel_rfl) (y_field' (q := 4) (ft := 22) Tryd.underlying142 rfl sz22 rfl rfl) (fun _ _ => rfl) (Ent.sep enn) ?_) | (refine Hd.takeH 2 rfl (by kernel_rfl) (by kernel_rfl) (by kernel_rfl) (by kernel_rfl) (y_fieldR (q := 4) (ft := 22) Tryd.underlying142 rfl sz22 rfl rfl) (fun _ _ => rfl) (Ent.sep enn) ?_)
      first | (refine Hd.takeH 3 rfl (by kernel_rfl) (by kernel_rfl) (by kernel_rfl) (by kernel_rfl) (y_load1 ag22 rfl (Rd.pt1 pkk (by (first | rfl)))) (fun _ _ => rfl) (Ent.sep enn) ?_) | (refine Hd.takeH 3 rfl (by kernel_rfl) (by kernel_rfl) (by kernel_rfl) (by kernel_rfl) (y_load1 ag22 rfl (Rd.seg1 pkk (by (first | rfl)))) (fun _ _ => rfl) (Ent.sep enn) ?_) | (refine Hd.takeH 3 rfl (by kernel_rfl) (by kernel_rfl) (by kernel_rfl) (by kernel_rfl) (y_loadR1 ag22 rfl (by (first | exact RdS.own pkk)) (by (first | rfl))) (fun _ _ => rfl) (Ent.sep enn) ?_)
      refine Hd.takeH 4 rfl (by kernel_rfl) (by kernel_rfl) (by kernel_rfl) (by kernel_rfl) (y_move rfl) (fun _ _ => rfl) (Ent.sep enn) ?_
      refine Hd.takeH 5 rfl (by kernel_rfl) (by kernel_rfl) (by kernel_rfl) (by kernel_rfl) (y_move rfl) (fun _ _ => rfl) (Ent.sep enn) ?_
      first | (refine Hd.takeH 6 rfl (by kernel_rfl) (by kernel_rfl) (by kernel_rfl) (by kernel_rfl) (y_load1 ag76 rfl (Rd.pt1 pkk (by (first | rfl)))) (fun _ _ => rfl) (Ent.sep enn) ?_) | (refine Hd.takeH 6 rfl (by kernel_rfl) (by kernel_rfl) (by kernel_rfl) (by kernel_rfl) (y_load1 ag76 rfl (Rd.seg1 pkk (by (first | rfl)))) (fun _ _ => rfl) (Ent.sep enn) ?_) | (refine Hd.takeH 6 rfl (by kernel_rfl) (by kernel_rfl) (by kernel_rfl) (by kernel_rfl) (y_loadR1 ag76 rfl (by (first | exact RdS.own pkk)) (by (first | rfl))) (fun _ _ => rfl) (Ent.sep enn) ?_)
      refine Hd.takeH 7 rfl (by kernel_rfl) (by kernel_rfl) (by kernel_rfl) (by kernel_rfl) (y_nilp rfl) (fun _ _ => rfl) (Ent.sep enn) ?_
      first | (refine Hd.takeH 8 rfl (by kernel_rfl) (by kernel_rfl) (by kernel_rfl) (by kernel_rfl) (y_field' (q := 3) (ft := 2) Tryd.underlying142 rfl sz2 rfl rfl) (fun _ _ => rfl) (Ent.sep enn) ?_) | (refine Hd.takeH 8 rfl (by kernel_rfl) (by kernel_rfl) (by kernel_rfl) (by kernel_rfl) (y_fieldR (q := 3) (ft := 2) Tryd.underlying142 rfl sz2 rfl rfl) (fun _ _ => rfl) (Ent.sep enn) ?_)
      first | (refine Hd.takeH 9 rfl (by kernel_rfl) (by kernel_rfl) (by kernel_rfl) (by kernel_rfl) (y_load1 ag2 rfl (Rd.pt1 pkk (by (first | rfl)))) (fun _ _ => rfl) (Ent.sep enn) ?_) | (refine Hd.takeH 9 rfl (by kernel_rfl) (by kernel_rfl) (by kernel_rfl) (by kernel_rfl) (y_load1 ag2 rfl (Rd.seg1 pkk (by (first | rfl)))) (fun _ _ => rfl) (Ent.sep enn) ?_) | (refine Hd.takeH 9 rfl (by kernel_rfl) (by kernel_rfl) (by kernel_rfl) (by kernel_rfl) (y_loadR1 ag2 rfl (by (first | exact RdS.own pkk)) (by (first | rfl))) (fun _ _ => rfl) (Ent.sep enn) ?_)
      first | (refine Hd.takeH 10 rfl (by kernel_rfl) (by kernel_rfl) (by kernel_rfl) (by kernel_rfl) (y_subn rfl rfl (by simp only [InK]; omega)) (fun _ _ => rfl) (Ent.sep enn) ?_) | (refine Hd.takeH 10 rfl (by kernel_rfl) (by kernel_rfl) (by kernel_rfl) (by kernel_rfl) (y_sub rfl rfl) (fun _ _ => rfl) (Ent.sep enn) ?_)
      first | (refine Hd.takeH 12 rfl (by kernel_rfl) (by kernel_rfl) (by kernel_rfl) (by kernel_rfl) (y_load1 ag76 rfl (Rd.pt1 pkk (by (first | rfl)))) (fun _ _ => rfl) (Ent.sep enn) ?_) | (refine Hd.takeH 12 rfl (by kernel_rfl) (by kernel_rfl) (by kernel_rfl) (by kernel_rfl) (y_load1 ag76 rfl (Rd.seg1 pkk (by (first | rfl)))) (fun _ _ => rfl) (Ent.sep enn) ?_) | (refine Hd.takeH 12 rfl (by kernel_rfl) (by kernel_rfl) (by kernel_rfl) (by kernel_rfl) (y_loadR1 ag76 rfl (by (first | exact RdS.own pkk)) (by (first | rfl))) (fun _ _ => rfl) (Ent.sep enn) ?_)
      refine Hd.takeH 13 rfl (by kernel_rfl) (by kernel_rfl) (by kernel_rfl) (by kernel_rfl) (y_nilp rfl) (fun _ _ => rfl) (Ent.sep enn) ?_
      first | (refine Hd.takeH 14 rfl (by kernel_rfl) (by kernel_rfl) (by kernel_rfl) (by kernel_rfl) (y_field' (q := 0) (ft := 24) Tryd.underlying142 rfl sz24 rfl rfl) (fun _ _ => rfl) (Ent.sep enn) ?_) | (refine Hd.takeH 14 rfl (by kernel_rfl) (by kernel_rfl) (by kernel_rfl) (by kernel_rfl) (y_fieldR (q := 0) (ft := 24) Tryd.underlying142 rfl sz24 rfl rfl) (fun _ _ => rfl) (Ent.sep enn) ?_)
      first | (refine Hd.takeH 15 rfl (by kernel_rfl) (by kernel_rfl) (by kernel_rfl) (by kernel_rfl) (y_field' (q := 1) (ft := 22) Tryd.underlying24 rfl sz22 rfl rfl) (fun _ _ => rfl) (Ent.sep enn) ?_) | (refine Hd.takeH 15 rfl (by kernel_rfl) (by kernel_rfl) (by kernel_rfl) (by kernel_rfl) (y_fieldR (q := 1) (ft := 22) Tryd.underlying24 rfl sz22 rfl rfl) (fun _ _ => rfl) (Ent.sep enn) ?_)
      first | (refine Hd.takeH 16 rfl (by kernel_rfl) (by kernel_rfl) (by kernel_rfl) (by kernel_rfl) (y_load1 ag22 rfl (Rd.pt1 pkk (by (first | rfl)))) (fun _ _ => rfl) (Ent.sep enn) ?_) | (refine Hd.takeH 16 rfl (by kernel_rfl) (by kernel_rfl) (by kernel_rfl) (by kernel_rfl) (y_load1 ag22 rfl (Rd.seg1 pkk (by (first | rfl)))) (fun _ _ => rfl) (Ent.sep enn) ?_) | (refine Hd.takeH 16 rfl (by kernel_rfl) (by kernel_rfl) (by kernel_rfl) (by kernel_rfl) (y_loadR1 ag22 rfl (by (first | exact RdS.own pkk)) (by (first | rfl))) (fun _ _ => rfl) (Ent.sep enn) ?_)
      refine Hd.onlyH 11 rfl (by kernel_rfl) ?_
      refine Hd.callvE (vs := [_]) (cap := [_]) rfl rfl (by kernel_rfl) (times_ct _ b b3 (come x now) hc (n - (come x now).have_) (by omega) (by omega)) (Ent.sep enn) ?_
      intro _
      refine Hd.nil ?_
      refine Hd.thenN ?_
      refine Hd.heldK (J := (fun _ => true)) (i := 11) (Ent.sep enn) ?_
      first | (refine Hd.takeH 17 rfl (by kernel_rfl) (by kernel_rfl) (by kernel_rfl) (by kernel_rfl) (y_muln rfl rfl (by simp only [InK]; omega)) (fun _ _ => rfl) (Ent.sep enn) ?_) | (refine Hd.takeH 17 rfl (by kernel_rfl) (by kernel_rfl) (by kernel_rfl) (by kernel_rfl) (y_mul rfl rfl) (fun _ _ => rfl) (Ent.sep enn) ?_)
      refine Hd.onlyH 18 rfl (by kernel_rfl) ?_
      refine Hd.callE rfl fk69 (dl_ct _ (come x now).clk (tms (come x now) (n - (come x now).have_) * (come x now).r.every) hc.clk (by simp only [InK]; omega)) (Ent.sep enn) ?_
      intro _
      refine Hd.nil ?_
      refine Hd.thenN ?_
      refine Hd.heldK (J := (fun _ => true)) (i := 18) (Ent.sep enn) ?_
      refine Hd.takeH 19 rfl (by kernel_rfl) (by kernel_rfl) (by kernel_rfl) (by kernel_rfl) (y_assign rfl) (fun _ _ => rfl) (Ent.sep enn) ?_
      refine Hd.endH (by kernel_rfl) ?_
      refine Hd.slots [(1, _), (8, _)] ⟨rfl, rfl, trivial⟩ ?_
      refine Hd.toK hK11 ?_
      refine Hd.seq (fun K12 hK12 => ?_)
      refine Hd.region ?_
      refine Hd.yv (y_move rfl) ?_
      refine Hd.yv (y_move rfl) ?_
      refine Hd.yv (y_max rfl rfl) ?_
      refine Hd.yv (y_assign rfl) ?_
      refine Hd.nil ?_
      refine Hd.slots [(6, _)] ⟨rfl, trivial⟩ ?_
      refine Hd.toK hK12 ?_
      refine Hd.ret ?_
      clear hK1 hK2 hK3 hK4 hK5 hK6 hK7 hK9 hK11 hK12
      rw [show whn x now n = _ from (if_neg hc2_).trans (if_neg (by omega)), ← ht, ← hr]
      exact Hd.ret1 rfl () rfl (Ent.sep enn)
end Lm
end Go.Proofs.YtmpemhbfgbochaaDoor
namespace Go.Proofs.YtmpemhbfgbochaaDoor
set_option linter.unusedSimpArgs false
set_option linter.unusedVariables false
set_option linter.unnecessarySimpa false
open Go.RX Fx
namespace Lm
open Bu
set_option maxRecDepth 8000
structure LmA where
  buf : Nat
  b : Nat → Option Nat
  g : Option Nat
structure GrA where
  b : Nat → Option Nat
  many : Int
abbrev pN (g : Option Nat) : Value := .pointer (g.map fun p => ⟨p, 0, none⟩)
abbrev encL (l : LmA) : List Value := [.pointer (some ⟨l.buf, 0, none⟩), pN (l.b 0), pN (l.b 1), pN l.g]
abbrev encG (G : GrA) : List Value := [pN (G.b 0), pN (G.b 1), .int .i64 G.many, .bool true]
abbrev LmH (lb : Nat) (l : LmA) : SP := pt lb (encL l) 79
abbrev GrH (gb : Nat) (G : GrA) : SP := pt gb (encG G) 110
def GoH (g : Option Nat) (G : GrA) : SP := match g with
  | none => pu True
  | some gb => GrH gb G
theorem goH_some (gb : Nat) (G : GrA) : GoH (some gb) G = GrH gb G := rfl
def SlB (p : Option Nat) (x : BkA) : SP := match p with
  | none => pu True
  | some b => BkP b x
theorem slB_none (x : BkA) : SlB none x = pu True := rfl
theorem slB_some (b : Nat) (x : BkA) : SlB (some b) x = BkP b x := rfl
def gsl (g : Option Nat) (G : GrA) (k : Nat) : Option Nat := match g with
  | none => none
  | some _ => G.b k
def itS (s gs : Option Nat) : List Nat := (if s.isSome = true then [0] else []) ++ (if gs.isSome = true then [1] else [])
abbrev efX (f : BkA → BkA) (i : Nat) (pre : List Nat) (x : BkA) : BkA := if i ∈ pre then f x else x
abbrev encI (s gs : Option Nat) (i : Nat) : List Value := [pN (if i = 0 then s else gs)]
theorem slB_all {f : BkA → BkA} {s gs : Option Nat} (x y : BkA) : SlB s (efX f 0 (itS s gs) x) = SlB s (f x) ∧ SlB gs (efX f 1 (itS s gs) y) = SlB gs (f y) := by
  unfold efX itS
  cases s <;> cases gs <;> simp [SlB]
theorem its_mem {s gs : Option Nat} {pre : List Nat} {c : Nat} (h : pre ++ [c] <+: itS s gs) : (c = 0 ∧ pre = [] ∧ s.isSome = true) ∨ (c = 1 ∧ 1 ∉ pre ∧ gs.isSome = true) := by
  obtain ⟨t, ht⟩ := h
  unfold itS at ht
  cases s with
  | none =>
    cases gs with
    | none => simp at ht
    | some q =>
      right
      cases pre with
      | nil => simp at ht; exact ⟨ht.1, by simp, rfl⟩
      | cons a r => simp at ht
  | some p =>
    cases gs with
    | none =>
      left
      cases pre with
      | nil => simp at ht; exact ⟨ht.1, rfl, rfl⟩
      | cons a r => simp at ht
    | some q =>
      cases pre with
      | nil => left; simp at ht; exact ⟨ht.1, rfl, rfl⟩
      | cons a r =>
        right
        cases r with
        | nil => simp at ht; exact ⟨ht.2.1, by simp [ht.1], rfl⟩
        | cons b r => simp at ht
set_option maxHeartbeats 2000000 in
theorem lnone_ct (L : List SP) (lb : Nat) (l : LmA) : Ct Tryd.prog 30 #[.pointer (some ⟨lb, 0, none⟩)] (LmH lb l :: L) (fun _ : Unit => .bool false) (fun _ : Unit => LmH lb l :: L) := by
  refine Ct.of (vs := [.pointer (some ⟨lb, 0, none⟩)]) Tryd.func30 rfl rfl [(0, .pointer (some ⟨lb, 0, none⟩))] (by repeat (first | exact trivial | refine ⟨rfl, ?_⟩)) ?_
  intro E
  show Hd E 12 _ _ _ _
  refine Hd.seq (fun K1 hK1 => ?_)
  refine Hd.region ?_
  refine Hd.yv (y_assign rfl) ?_
  refine Hd.nil ?_
  refine Hd.slots [(0, _)] ⟨rfl, trivial⟩ ?_
  refine Hd.toK hK1 ?_
  refine Hd.seq (fun K2 hK2 => ?_)
  refine Hd.region ?_
  refine Hd.yv (y_move rfl) ?_
  first | (refine Hd.yv (y_eql_pointer Tryd.underlying28 rfl rfl) ?_) | (refine Hd.yv (y_eql_one Tryd.underlying28 sz79 rfl rfl rfl) ?_)
  refine Hd.yv (y_move rfl) ?_
  refine Hd.yg rfl rfl (y_move rfl) ?_
  refine Hd.yg rfl rfl (y_nilp rfl) ?_
  first | (refine Hd.yg rfl rfl (y_field' (q := 0) (ft := 39) Tryd.underlying79 rfl sz39 rfl rfl) ?_) | (refine Hd.yg rfl rfl (y_fieldR (q := 0) (ft := 39) Tryd.underlying79 rfl sz39 rfl rfl) ?_)
  first | (refine Hd.yg rfl rfl (y_load1 ag39 rfl (Rd.pt1 pkk (by (first | rfl)))) ?_) | (refine Hd.yg rfl rfl (y_load1 ag39 rfl (Rd.seg1 pkk (by (first | rfl)))) ?_) | (refine Hd.yg rfl rfl (y_loadR1 ag39 rfl (by (first | exact RdS.own pkk)) (by (first | rfl))) ?_)
  first | (refine Hd.yg rfl rfl (y_eql_pointer Tryd.underlying39 rfl rfl) ?_) | (refine Hd.yg rfl rfl (y_eql_one Tryd.underlying39 sz104 rfl rfl rfl) ?_)
  first | (refine Hd.yv (y_pickT rfl rfl) ?_) | (refine Hd.yv (y_pickF rfl rfl) ?_) | (refine Hd.yv (y_pickb rfl rfl rfl) ?_) | (refine Hd.yv (y_pick rfl rfl rfl) ?_)
  refine Hd.yv (y_assign rfl) ?_
  refine Hd.nil ?_
  refine Hd.slots [(2, _)] ⟨rfl, trivial⟩ ?_
  refine Hd.toK hK2 ?_
  refine Hd.ret ?_
  clear hK1 hK2
  exact Hd.ret1 rfl () (by first | rfl | (simp only [*]; done) | (simp [*]; done)) (Ent.sep enn)
set_option maxHeartbeats 2000000 in
theorem gnone_ct (L : List SP) (gb : Nat) (G : GrA) : Ct Tryd.prog 42 #[.pointer (some ⟨gb, 0, none⟩)] (GrH gb G :: L) (fun _ : Unit => .bool false) (fun _ : Unit => GrH gb G :: L) := by
  refine Ct.of (vs := [.pointer (some ⟨gb, 0, none⟩)]) Tryd.func42 rfl rfl [(0, .pointer (some ⟨gb, 0, none⟩))] (by repeat (first | exact trivial | refine ⟨rfl, ?_⟩)) ?_
  intro E
  show Hd E 12 _ _ _ _
  refine Hd.seq (fun K1 hK1 => ?_)
  refine Hd.region ?_
  refine Hd.yv (y_assign rfl) ?_
  refine Hd.nil ?_
  refine Hd.slots [(0, _)] ⟨rfl, trivial⟩ ?_
  refine Hd.toK hK1 ?_
  refine Hd.seq (fun K2 hK2 => ?_)
  refine Hd.region ?_
  refine Hd.yv (y_move rfl) ?_
  first | (refine Hd.yv (y_eql_pointer Tryd.underlying47 rfl rfl) ?_) | (refine Hd.yv (y_eql_one Tryd.underlying47 sz110 rfl rfl rfl) ?_)
  refine Hd.yv (y_move rfl) ?_
  refine Hd.yg rfl rfl (y_move rfl) ?_
  refine Hd.yg rfl rfl (y_nilp rfl) ?_
  first | (refine Hd.yg rfl rfl (y_field' (q := 3) (ft := 4) Tryd.underlying110 rfl sz4 rfl rfl) ?_) | (refine Hd.yg rfl rfl (y_fieldR (q := 3) (ft := 4) Tryd.underlying110 rfl sz4 rfl rfl) ?_)
  first | (refine Hd.yg rfl rfl (y_load1 ag4 rfl (Rd.pt1 pkk (by (first | rfl)))) ?_) | (refine Hd.yg rfl rfl (y_load1 ag4 rfl (Rd.seg1 pkk (by (first | rfl)))) ?_) | (refine Hd.yg rfl rfl (y_loadR1 ag4 rfl (by (first | exact RdS.own pkk)) (by (first | rfl))) ?_)
  refine Hd.yg rfl rfl (y_not rfl) ?_
  first | (refine Hd.yv (y_pickT rfl rfl) ?_) | (refine Hd.yv (y_pickF rfl rfl) ?_) | (refine Hd.yv (y_pickb rfl rfl rfl) ?_) | (refine Hd.yv (y_pick rfl rfl rfl) ?_)
  refine Hd.yv (y_assign rfl) ?_
  refine Hd.nil ?_
  refine Hd.slots [(2, _)] ⟨rfl, trivial⟩ ?_
  refine Hd.toK hK2 ?_
  refine Hd.ret ?_
  clear hK1 hK2
  exact Hd.ret1 rfl () (by first | rfl | (simp only [*]; done) | (simp [*]; done)) (Ent.sep enn)
set_option maxHeartbeats 2000000 in
theorem gnone_nil (L : List SP) : Ct Tryd.prog 42 #[.pointer none] (L) (fun _ : Unit => .bool true) (fun _ : Unit => L) := by
  refine Ct.of (vs := [.pointer none]) Tryd.func42 rfl rfl [(0, .pointer none)] (by repeat (first | exact trivial | refine ⟨rfl, ?_⟩)) ?_
  intro E
  show Hd E 12 _ _ _ _
  refine Hd.seq (fun K1 hK1 => ?_)
  refine Hd.region ?_
  refine Hd.yv (y_assign rfl) ?_
  refine Hd.nil ?_
  refine Hd.slots [(0, _)] ⟨rfl, trivial⟩ ?_
  refine Hd.toK hK1 ?_
  refine Hd.seq (fun K2 hK2 => ?_)
  refine Hd.region ?_
  refine Hd.yv (y_move rfl) ?_
  first | (refine Hd.yv (y_eql_pointer Tryd.underlying47 rfl rfl) ?_) | (refine Hd.yv (y_eql_one Tryd.underlying47 sz110 rfl rfl rfl) ?_)
  refine Hd.yv (y_move rfl) ?_
  refine Hd.ng rfl rfl rfl ?_
  refine Hd.ng rfl rfl rfl ?_
  refine Hd.ng rfl rfl rfl ?_
  refine Hd.ng rfl rfl rfl ?_
  refine Hd.ng rfl rfl rfl ?_
  first | (refine Hd.yv (y_pickT rfl rfl) ?_) | (refine Hd.yv (y_pickF rfl rfl) ?_) | (refine Hd.yv (y_pickb rfl rfl rfl) ?_) | (refine Hd.yv (y_pick rfl rfl rfl) ?_)
  refine Hd.yv (y_assign rfl) ?_
  refine Hd.nil ?_
  refine Hd.slots [(2, _)] ⟨rfl, trivial⟩ ?_
  refine Hd.toK hK2 ?_
  refine Hd.ret ?_
  clear hK1 hK2
  exact Hd.ret1 rfl () (by first | rfl | (simp only [*]; done) | (simp [*]; done)) (Ent.sep enn)
set_option maxHeartbeats 2000000 in
theorem buckets_ct (L : List SP) (lb k : Nat) : Ct Tryd.prog 35 #[.pointer (some ⟨lb, 0, none⟩), .int .i64 (k : Int)] (L) (fun q_ : Nat × Nat => .func (.func 63) #[] #[.pointer (some ⟨q_.1, 0, none⟩), .pointer (some ⟨q_.2, 0, none⟩)]) (fun q_ : Nat × Nat => pt q_.1 [.pointer (some ⟨lb, 0, none⟩)] 28 :: pt q_.2 [.int .i64 (k : Int)] 3 :: L) := by
  refine Ct.of (vs := [.pointer (some ⟨lb, 0, none⟩), .int .i64 (k : Int)]) Tryd.func35 rfl rfl [(0, .pointer (some ⟨lb, 0, none⟩)), (1, .int .i64 (k : Int))] (by repeat (first | exact trivial | refine ⟨rfl, ?_⟩)) ?_
  intro E
  show Hd E 6 _ _ _ _
  refine Hd.seq (fun K1 hK1 => ?_)
  refine Hd.region ?_
  refine Hd.box rfl rfl (fun b2 => ?_)
  refine Hd.box rfl rfl (fun b3 => ?_)
  refine Hd.yv (y_assign rfl) ?_
  refine Hd.nil ?_
  refine Hd.slots [(2, _), (3, _)] ⟨rfl, rfl, trivial⟩ ?_
  refine Hd.toK hK1 ?_
  refine Hd.seq (fun K2 hK2 => ?_)
  refine Hd.region ?_
  refine Hd.yv (y_mkf (fv := []) (cv := [_, _]) rfl rfl) ?_
  refine Hd.yv (y_assign rfl) ?_
  refine Hd.nil ?_
  refine Hd.slots [(4, _)] ⟨rfl, trivial⟩ ?_
  refine Hd.toK hK2 ?_
  refine Hd.ret ?_
  clear hK1 hK2
  exact Hd.ret1 rfl (b2, b3) rfl (Ent.sep enn)
theorem encL_at {l : LmA} {k : Nat} (hk : k < 2) : (encL l)[0 + 1 + k * 1]? = some (pN (l.b k)) := by
  rcases (show k = 0 ∨ k = 1 by omega) with rfl | rfl <;> rfl
theorem encG_at {G : GrA} {k : Nat} (hk : k < 2) : (encG G)[0 + 0 + k * 1]? = some (pN (G.b k)) := by
  rcases (show k = 0 ∨ k = 1 by omega) with rfl | rfl <;> rfl
abbrev bkM (lb bl bk : Nat) (l : LmA) (G : GrA) (k : Nat) : List SP := [pt bl [.pointer (some ⟨lb, 0, none⟩)] 28, pt bk [.int .i64 (k : Int)] 3, LmH lb l, GoH l.g G]
theorem buckets_it (lb bl bk : Nat) (l : LmA) (G : GrA) (k : Nat) (hk : k < 2) : RX.It Tryd.prog 63 [.pointer (some ⟨bl, 0, none⟩), .pointer (some ⟨bk, 0, none⟩)] (encI (l.b k) (gsl l.g G k)) (fun ys => ys = itS (l.b k) (gsl l.g G k)) (fun ys => ys <+: itS (l.b k) (gsl l.g G k))
    (bkM lb bl bk l G k) [LmH lb l, GoH l.g G] := by
  intro y J X hy
  refine Ct.of (vs := [.func (.yield y) #[] #[], .pointer (some ⟨bl, 0, none⟩), .pointer (some ⟨bk, 0, none⟩)]) Tryd.func63 rfl rfl [(0, .func (.yield y) #[] #[]), (1, .pointer (some ⟨bl, 0, none⟩)), (2, .pointer (some ⟨bk, 0, none⟩))] ⟨rfl, rfl, rfl, trivial⟩ ?_
  intro E
  show Hd E 50 _ _ _ _
  refine Hd.heap (pt bl [.pointer (some ⟨lb, 0, none⟩)] 28 :: pt bk [.int .i64 (k : Int)] 3 :: LmH lb l :: GoH l.g G :: J []) (fun k' h => by have := sep_app h; exact this) ?_
  obtain ⟨buf, tw, g⟩ := l
  obtain ⟨s, hs⟩ : ∃ s, tw k = s := ⟨_, rfl⟩
  obtain ⟨gs, hgs⟩ : ∃ gs, gsl g G k = gs := ⟨_, rfl⟩
  have hs0 : (LmA.mk buf tw g).b k = s := hs
  have hgs0 : gsl (LmA.mk buf tw g).g G k = gs := hgs
  rw [hs0, hgs0] at hy ⊢
  refine Hd.cutK (ι := Unit) [(0, _), (1, _), (2, _)] (fun _ => []) (fun _ => pt bl [.pointer (some ⟨lb, 0, none⟩)] 28 :: pt bk [.int .i64 (k : Int)] 3 :: LmH lb ⟨buf, tw, g⟩ :: GoH g G :: J (if s.isSome = true then [0] else [])) ?_ ?_ ⟨rfl, rfl, rfl, trivial⟩
  ·
    refine Hd.seq (fun K1 hK1 => ?_)
    refine Hd.drawsH (bkM lb bl bk ⟨buf, tw, g⟩ G k) (fun _ => true) mixed ?_
    simp only [List.length, Nat.zero_add, Nat.reduceAdd]
    first | (refine Hd.takeH 0 rfl (by kernel_rfl) (by kernel_rfl) (by kernel_rfl) (by kernel_rfl) (y_load1 ag28 rfl (Rd.pt1 pkk (by (first | exact (encL_at hk).trans (by rw [hs0]) | exact (encG_at hk).trans (by rw [hgk]) | rfl)))) (fun _ _ => rfl) (Ent.sep enn) ?_) | (refine Hd.takeH 0 rfl (by kernel_rfl) (by kernel_rfl) (by kernel_rfl) (by kernel_rfl) (y_load1 ag28 rfl (Rd.seg1 pkk (by (first | exact (encL_at hk).trans (by rw [hs0]) | exact (encG_at hk).trans (by rw [hgk]) | rfl)))) (fun _ _ => rfl) (Ent.sep enn) ?_) | (refine Hd.takeH 0 rfl (by kernel_rfl) (by kernel_rfl) (by kernel_rfl) (by kernel_rfl) (y_loadR1 ag28 rfl (by (first | exact RdS.own pkk)) (by (first | exact (encL_at hk).trans (by rw [hs0]) | exact (encG_at hk).trans (by rw [hgk]) | rfl))) (fun _ _ => rfl) (Ent.sep enn) ?_)
    first | (refine Hd.takeH 1 rfl (by kernel_rfl) (by kernel_rfl) (by kernel_rfl) (by kernel_rfl) (y_load1 ag3 rfl (Rd.pt1 pkk (by (first | exact (encL_at hk).trans (by rw [hs0]) | exact (encG_at hk).trans (by rw [hgk]) | rfl)))) (fun _ _ => rfl) (Ent.sep enn) ?_) | (refine Hd.takeH 1 rfl (by kernel_rfl) (by kernel_rfl) (by kernel_rfl) (by kernel_rfl) (y_load1 ag3 rfl (Rd.seg1 pkk (by (first | exact (encL_at hk).trans (by rw [hs0]) | exact (encG_at hk).trans (by rw [hgk]) | rfl)))) (fun _ _ => rfl) (Ent.sep enn) ?_) | (refine Hd.takeH 1 rfl (by kernel_rfl) (by kernel_rfl) (by kernel_rfl) (by kernel_rfl) (y_loadR1 ag3 rfl (by (first | exact RdS.own pkk)) (by (first | exact (encL_at hk).trans (by rw [hs0]) | exact (encG_at hk).trans (by rw [hgk]) | rfl))) (fun _ _ => rfl) (Ent.sep enn) ?_)
    refine Hd.takeH 2 rfl (by kernel_rfl) (by kernel_rfl) (by kernel_rfl) (by kernel_rfl) (y_nilp rfl) (fun _ _ => rfl) (Ent.sep enn) ?_
    first | (refine Hd.takeH 3 rfl (by kernel_rfl) (by kernel_rfl) (by kernel_rfl) (by kernel_rfl) (y_field' (q := 1) (ft := 77) Tryd.underlying79 rfl sz77 rfl rfl) (fun _ _ => rfl) (Ent.sep enn) ?_) | (refine Hd.takeH 3 rfl (by kernel_rfl) (by kernel_rfl) (by kernel_rfl) (by kernel_rfl) (y_fieldR (q := 1) (ft := 77) Tryd.underlying79 rfl sz77 rfl rfl) (fun _ _ => rfl) (Ent.sep enn) ?_)
    refine Hd.takeH 4 rfl (by kernel_rfl) (by kernel_rfl) (by kernel_rfl) (by kernel_rfl) (y_idxA Tryd.underlying77 sz76 rfl rfl (by first | omega | decide)) (fun _ _ => rfl) (Ent.sep enn) ?_
    first | (refine Hd.takeH 5 rfl (by kernel_rfl) (by kernel_rfl) (by kernel_rfl) (by kernel_rfl) (y_load1 ag76 rfl (Rd.pt1 pkk (by (first | exact (encL_at hk).trans (by rw [hs0]) | exact (encG_at hk).trans (by rw [hgk]) | rfl)))) (fun _ _ => rfl) (Ent.sep enn) ?_) | (refine Hd.takeH 5 rfl (by kernel_rfl) (by kernel_rfl) (by kernel_rfl) (by kernel_rfl) (y_load1 ag76 rfl (Rd.seg1 pkk (by (first | exact (encL_at hk).trans (by rw [hs0]) | exact (encG_at hk).trans (by rw [hgk]) | rfl)))) (fun _ _ => rfl) (Ent.sep enn) ?_) | (refine Hd.takeH 5 rfl (by kernel_rfl) (by kernel_rfl) (by kernel_rfl) (by kernel_rfl) (y_loadR1 ag76 rfl (by (first | exact RdS.own pkk)) (by (first | exact (encL_at hk).trans (by rw [hs0]) | exact (encG_at hk).trans (by rw [hgk]) | rfl))) (fun _ _ => rfl) (Ent.sep enn) ?_)
    refine Hd.takeH 6 rfl (by kernel_rfl) (by kernel_rfl) (by kernel_rfl) (by kernel_rfl) (y_neq_pointer Tryd.underlying76 rfl rfl) (fun _ _ => rfl) (Ent.sep enn) ?_
    refine Hd.takeH 7 rfl (by kernel_rfl) (by kernel_rfl) (by kernel_rfl) (by kernel_rfl) (y_move rfl) (fun _ _ => rfl) (Ent.sep enn) ?_
    refine Hd.part (gd := 11) rfl (fun hg0_11 => ?_) (fun hg0_11 => ?_)
    ·
      try simp only [decide_eq_true_eq, decide_eq_false_iff_not, Bool.and_eq_true, Bool.or_eq_true, Bool.and_eq_false_iff, Bool.or_eq_false_iff, Bool.not_eq_true', Bool.not_eq_false', Bool.not_eq_true, Bool.not_eq_false, Int.not_lt, Int.not_le, Decidable.not_not, ne_eq] at hg0_11
      obtain ⟨p, rfl⟩ : ∃ p, s = some p := by cases s with | none => simp at hg0_11 | some p => exact ⟨p, rfl⟩
      have hp0 : [] ++ [0] <+: itS (some p) gs := ⟨if gs.isSome = true then [1] else [], rfl⟩
      refine Hd.takegH 8 rfl (by kernel_rfl) (by kernel_rfl) (by kernel_rfl) (by kernel_rfl) rfl rfl (y_move rfl) (fun _ _ => rfl) (Ent.sep enn) ?_
      first | (refine Hd.takegH 9 rfl (by kernel_rfl) (by kernel_rfl) (by kernel_rfl) (by kernel_rfl) rfl rfl (y_load1 ag28 rfl (Rd.pt1 pkk (by (first | exact (encL_at hk).trans (by rw [hs0]) | exact (encG_at hk).trans (by rw [hgk]) | rfl)))) (fun _ _ => rfl) (Ent.sep enn) ?_) | (refine Hd.takegH 9 rfl (by kernel_rfl) (by kernel_rfl) (by kernel_rfl) (by kernel_rfl) rfl rfl (y_load1 ag28 rfl (Rd.seg1 pkk (by (first | exact (encL_at hk).trans (by rw [hs0]) | exact (encG_at hk).trans (by rw [hgk]) | rfl)))) (fun _ _ => rfl) (Ent.sep enn) ?_) | (refine Hd.takegH 9 rfl (by kernel_rfl) (by kernel_rfl) (by kernel_rfl) (by kernel_rfl) rfl rfl (y_loadR1 ag28 rfl (by (first | exact RdS.own pkk)) (by (first | exact (encL_at hk).trans (by rw [hs0]) | exact (encG_at hk).trans (by rw [hgk]) | rfl))) (fun _ _ => rfl) (Ent.sep enn) ?_)
      first | (refine Hd.takegH 10 rfl (by kernel_rfl) (by kernel_rfl) (by kernel_rfl) (by kernel_rfl) rfl rfl (y_load1 ag3 rfl (Rd.pt1 pkk (by (first | exact (encL_at hk).trans (by rw [hs0]) | exact (encG_at hk).trans (by rw [hgk]) | rfl)))) (fun _ _ => rfl) (Ent.sep enn) ?_) | (refine Hd.takegH 10 rfl (by kernel_rfl) (by kernel_rfl) (by kernel_rfl) (by kernel_rfl) rfl rfl (y_load1 ag3 rfl (Rd.seg1 pkk (by (first | exact (encL_at hk).trans (by rw [hs0]) | exact (encG_at hk).trans (by rw [hgk]) | rfl)))) (fun _ _ => rfl) (Ent.sep enn) ?_) | (refine Hd.takegH 10 rfl (by kernel_rfl) (by kernel_rfl) (by kernel_rfl) (by kernel_rfl) rfl rfl (y_loadR1 ag3 rfl (by (first | exact RdS.own pkk)) (by (first | exact (encL_at hk).trans (by rw [hs0]) | exact (encG_at hk).trans (by rw [hgk]) | rfl))) (fun _ _ => rfl) (Ent.sep enn) ?_)
      refine Hd.takegH 11 rfl (by kernel_rfl) (by kernel_rfl) (by kernel_rfl) (by kernel_rfl) rfl rfl (y_nilp rfl) (fun _ _ => rfl) (Ent.sep enn) ?_
      first | (refine Hd.takegH 12 rfl (by kernel_rfl) (by kernel_rfl) (by kernel_rfl) (by kernel_rfl) rfl rfl (y_field' (q := 1) (ft := 77) Tryd.underlying79 rfl sz77 rfl rfl) (fun _ _ => rfl) (Ent.sep enn) ?_) | (refine Hd.takegH 12 rfl (by kernel_rfl) (by kernel_rfl) (by kernel_rfl) (by kernel_rfl) rfl rfl (y_fieldR (q := 1) (ft := 77) Tryd.underlying79 rfl sz77 rfl rfl) (fun _ _ => rfl) (Ent.sep enn) ?_)
      refine Hd.takegH 13 rfl (by kernel_rfl) (by kernel_rfl) (by kernel_rfl) (by kernel_rfl) rfl rfl (y_idxA Tryd.underlying77 sz76 rfl rfl (by first | omega | decide)) (fun _ _ => rfl) (Ent.sep enn) ?_
      first | (refine Hd.takegH 14 rfl (by kernel_rfl) (by kernel_rfl) (by kernel_rfl) (by kernel_rfl) rfl rfl (y_load1 ag76 rfl (Rd.pt1 pkk (by (first | exact (encL_at hk).trans (by rw [hs0]) | exact (encG_at hk).trans (by rw [hgk]) | rfl)))) (fun _ _ => rfl) (Ent.sep enn) ?_) | (refine Hd.takegH 14 rfl (by kernel_rfl) (by kernel_rfl) (by kernel_rfl) (by kernel_rfl) rfl rfl (y_load1 ag76 rfl (Rd.seg1 pkk (by (first | exact (encL_at hk).trans (by rw [hs0]) | exact (encG_at hk).trans (by rw [hgk]) | rfl)))) (fun _ _ => rfl) (Ent.sep enn) ?_) | (refine Hd.takegH 14 rfl (by kernel_rfl) (by kernel_rfl) (by kernel_rfl) (by kernel_rfl) rfl rfl (y_loadR1 ag76 rfl (by (first | exact RdS.own pkk)) (by (first | exact (encL_at hk).trans (by rw [hs0]) | exact (encG_at hk).trans (by rw [hgk]) | rfl))) (fun _ _ => rfl) (Ent.sep enn) ?_)
      refine Hd.onlyH 15 rfl (by kernel_rfl) ?_
      refine Hd.unguard rfl rfl ?_
      refine Hd.yield (pre := []) (c := 0) (M := bkM lb bl bk ⟨buf, tw, g⟩ G k) hy rfl rfl hp0 (fun k' h => sep_app (show sep (bkM lb bl bk ⟨buf, tw, g⟩ G k ++ J []) k' from h)) ?_
      intro yb
      refine Hd.nil ?_
      refine Hd.thenN ?_
      refine Hd.heldK (J := (fun _ => true)) (i := 15) (Ent.sep enn) ?_
      refine Hd.takegH 16 rfl (by kernel_rfl) (by kernel_rfl) (by kernel_rfl) (by kernel_rfl) rfl rfl (y_not rfl) (fun _ _ => rfl) (Ent.sep enn) ?_
      first | (refine Hd.takeH 17 rfl (by kernel_rfl) (by kernel_rfl) (by kernel_rfl) (by kernel_rfl) (y_pickT rfl rfl) (fun _ _ => rfl) (Ent.sep enn) ?_) | (refine Hd.takeH 17 rfl (by kernel_rfl) (by kernel_rfl) (by kernel_rfl) (by kernel_rfl) (y_pickF rfl rfl) (fun _ _ => rfl) (Ent.sep enn) ?_) | (refine Hd.takeH 17 rfl (by kernel_rfl) (by kernel_rfl) (by kernel_rfl) (by kernel_rfl) (y_pickb rfl rfl rfl) (fun _ _ => rfl) (Ent.sep enn) ?_) | (refine Hd.takeH 17 rfl (by kernel_rfl) (by kernel_rfl) (by kernel_rfl) (by kernel_rfl) (y_pick rfl rfl rfl) (fun _ _ => rfl) (Ent.sep enn) ?_)
      refine Hd.endH (by kernel_rfl) ?_
      refine Hd.slots [(0, _), (1, _), (2, _), (21, _)] ⟨rfl, rfl, rfl, rfl, trivial⟩ ?_
      refine Hd.toK hK1 ?_
      refine Hd.cond rfl (fun hc0 => ?_) (fun hc0 => ?_)
      ·
        try simp only [decide_eq_true_eq, decide_eq_false_iff_not, Bool.and_eq_true, Bool.or_eq_true, Bool.and_eq_false_iff, Bool.or_eq_false_iff, Bool.not_eq_true', Bool.not_eq_false', Bool.not_eq_true, Bool.not_eq_false, Int.not_lt, Int.not_le, Decidable.not_not, ne_eq] at hc0
        obtain rfl : yb = false := by simpa using hc0
        simp only [cond_false]
        refine Hd.ret ?_
        refine Hd.thenRet ?_
        clear hK1
        exact Hd.ret0 rfl ([0], false) rfl (fun k' h => Ent.sep (.pure hp0 .same) k' (sep_right (fun k' s => Ent.sep enn k' s) (show sep (X [0] ++ [pt bl [.pointer (some ⟨lb, 0, none⟩)] 28, pt bk [.int .i64 (k : Int)] 3, LmH lb ⟨buf, tw, g⟩, GoH g G]) k' from h)))
      ·
        try simp only [decide_eq_true_eq, decide_eq_false_iff_not, Bool.and_eq_true, Bool.or_eq_true, Bool.and_eq_false_iff, Bool.or_eq_false_iff, Bool.not_eq_true', Bool.not_eq_false', Bool.not_eq_true, Bool.not_eq_false, Int.not_lt, Int.not_le, Decidable.not_not, ne_eq] at hc0
        obtain rfl : yb = true := by simpa using hc0
        simp only [cond_true]
        refine Hd.skip ?_
        clear hK1
        refine Hd.thenN ?_
        exact Hd.meet () (by repeat (first | exact trivial | refine ⟨rfl, ?_⟩)) (fun k' h => sep_app h)
    ·
      try simp only [decide_eq_true_eq, decide_eq_false_iff_not, Bool.and_eq_true, Bool.or_eq_true, Bool.and_eq_false_iff, Bool.or_eq_false_iff, Bool.not_eq_true', Bool.not_eq_false', Bool.not_eq_true, Bool.not_eq_false, Int.not_lt, Int.not_le, Decidable.not_not, ne_eq] at hg0_11
      obtain rfl : s = none := by cases s with | none => rfl | some p => simp at hg0_11
      refine Hd.takenH 8 rfl (by kernel_rfl) (by kernel_rfl) (by kernel_rfl) (by kernel_rfl) rfl rfl rfl (fun _ _ => rfl) (Ent.sep enn) ?_
      refine Hd.takenH 9 rfl (by kernel_rfl) (by kernel_rfl) (by kernel_rfl) (by kernel_rfl) rfl rfl rfl (fun _ _ => rfl) (Ent.sep enn) ?_
      refine Hd.takenH 10 rfl (by kernel_rfl) (by kernel_rfl) (by kernel_rfl) (by kernel_rfl) rfl rfl rfl (fun _ _ => rfl) (Ent.sep enn) ?_
      refine Hd.takenH 11 rfl (by kernel_rfl) (by kernel_rfl) (by kernel_rfl) (by kernel_rfl) rfl rfl rfl (fun _ _ => rfl) (Ent.sep enn) ?_
      refine Hd.takenH 12 rfl (by kernel_rfl) (by kernel_rfl) (by kernel_rfl) (by kernel_rfl) rfl rfl rfl (fun _ _ => rfl) (Ent.sep enn) ?_
      refine Hd.takenH 13 rfl (by kernel_rfl) (by kernel_rfl) (by kernel_rfl) (by kernel_rfl) rfl rfl rfl (fun _ _ => rfl) (Ent.sep enn) ?_
      refine Hd.takenH 14 rfl (by kernel_rfl) (by kernel_rfl) (by kernel_rfl) (by kernel_rfl) rfl rfl rfl (fun _ _ => rfl) (Ent.sep enn) ?_
      refine Hd.onlyH 15 rfl (by kernel_rfl) ?_
      refine Hd.ng rfl rfl rfl ?_
      refine Hd.nil ?_
      refine Hd.thenN ?_
      refine Hd.heldK (J := (fun _ => true)) (i := 15) (Ent.sep enn) ?_
      refine Hd.takenH 16 rfl (by kernel_rfl) (by kernel_rfl) (by kernel_rfl) (by kernel_rfl) rfl rfl rfl (fun _ _ => rfl) (Ent.sep enn) ?_
      first | (refine Hd.takeH 17 rfl (by kernel_rfl) (by kernel_rfl) (by kernel_rfl) (by kernel_rfl) (y_pickT rfl rfl) (fun _ _ => rfl) (Ent.sep enn) ?_) | (refine Hd.takeH 17 rfl (by kernel_rfl) (by kernel_rfl) (by kernel_rfl) (by kernel_rfl) (y_pickF rfl rfl) (fun _ _ => rfl) (Ent.sep enn) ?_) | (refine Hd.takeH 17 rfl (by kernel_rfl) (by kernel_rfl) (by kernel_rfl) (by kernel_rfl) (y_pickb rfl rfl rfl) (fun _ _ => rfl) (Ent.sep enn) ?_) | (refine Hd.takeH 17 rfl (by kernel_rfl) (by kernel_rfl) (by kernel_rfl) (by kernel_rfl) (y_pick rfl rfl rfl) (fun _ _ => rfl) (Ent.sep enn) ?_)
      refine Hd.endH (by kernel_rfl) ?_
      refine Hd.slots [(0, _), (1, _), (2, _), (21, _)] ⟨rfl, rfl, rfl, rfl, trivial⟩ ?_
      refine Hd.toK hK1 ?_
      refine Hd.condF rfl ?_
      refine Hd.skip ?_
      clear hK1
      refine Hd.thenN ?_
      exact Hd.meet () (by repeat (first | exact trivial | refine ⟨rfl, ?_⟩)) (fun k' h => h)
  ·
    intro _
    obtain ⟨pre0, hpre0⟩ : ∃ pre0, (if s.isSome = true then [0] else []) = pre0 := ⟨_, rfl⟩
    rw [hpre0]
    have hit : itS s gs = pre0 ++ (if gs.isSome = true then [1] else []) := by unfold itS; rw [hpre0]
    refine Hd.seq (fun K2 hK2 => ?_)
    refine Hd.quiet mixed (by kernel_rfl) ?_
    first | (refine Hq.yv (y_load1 ag28 rfl (Rd.pt1 pkk (by (first | exact (encL_at hk).trans (by rw [hs0]) | exact (encG_at hk).trans (by rw [hgk]) | rfl)))) ?_) | (refine Hq.yv (y_load1 ag28 rfl (Rd.seg1 pkk (by (first | exact (encL_at hk).trans (by rw [hs0]) | exact (encG_at hk).trans (by rw [hgk]) | rfl)))) ?_) | (refine Hq.yv (y_loadR1 ag28 rfl (by (first | exact RdS.own pkk)) (by (first | exact (encL_at hk).trans (by rw [hs0]) | exact (encG_at hk).trans (by rw [hgk]) | rfl))) ?_)
    refine Hq.yv (y_nilp rfl) ?_
    first | (refine Hq.yv (y_field' (q := 3) (ft := 47) Tryd.underlying79 rfl sz47 rfl rfl) ?_) | (refine Hq.yv (y_fieldR (q := 3) (ft := 47) Tryd.underlying79 rfl sz47 rfl rfl) ?_)
    first | (refine Hq.yv (y_load1 ag47 rfl (Rd.pt1 pkk (by (first | exact (encL_at hk).trans (by rw [hs0]) | exact (encG_at hk).trans (by rw [hgk]) | rfl)))) ?_) | (refine Hq.yv (y_load1 ag47 rfl (Rd.seg1 pkk (by (first | exact (encL_at hk).trans (by rw [hs0]) | exact (encG_at hk).trans (by rw [hgk]) | rfl)))) ?_) | (refine Hq.yv (y_loadR1 ag47 rfl (by (first | exact RdS.own pkk)) (by (first | exact (encL_at hk).trans (by rw [hs0]) | exact (encG_at hk).trans (by rw [hgk]) | rfl))) ?_)
    refine Hq.yv (y_neq_pointer Tryd.underlying47 rfl rfl) ?_
    refine Hq.yv (y_move rfl) ?_
    refine Hq.part (gd := 27) rfl (fun hg1_27 => ?_) (fun hg1_27 => ?_)
    ·
      try simp only [decide_eq_true_eq, decide_eq_false_iff_not, Bool.and_eq_true, Bool.or_eq_true, Bool.and_eq_false_iff, Bool.or_eq_false_iff, Bool.not_eq_true', Bool.not_eq_false', Bool.not_eq_true, Bool.not_eq_false, Int.not_lt, Int.not_le, Decidable.not_not, ne_eq] at hg1_27
      obtain ⟨gb, rfl⟩ : ∃ gb, g = some gb := by cases g with | none => simp at hg1_27 | some p => exact ⟨p, rfl⟩
      have hgk : G.b k = gs := hgs
      simp only [goH_some]
      first | (refine Hq.yg rfl rfl (y_load1 ag28 rfl (Rd.pt1 pkk (by (first | exact (encL_at hk).trans (by rw [hs0]) | exact (encG_at hk).trans (by rw [hgk]) | rfl)))) ?_) | (refine Hq.yg rfl rfl (y_load1 ag28 rfl (Rd.seg1 pkk (by (first | exact (encL_at hk).trans (by rw [hs0]) | exact (encG_at hk).trans (by rw [hgk]) | rfl)))) ?_) | (refine Hq.yg rfl rfl (y_loadR1 ag28 rfl (by (first | exact RdS.own pkk)) (by (first | exact (encL_at hk).trans (by rw [hs0]) | exact (encG_at hk).trans (by rw [hgk]) | rfl))) ?_)
      refine Hq.yg rfl rfl (y_nilp rfl) ?_
      first | (refine Hq.yg rfl rfl (y_field' (q := 3) (ft := 47) Tryd.underlying79 rfl sz47 rfl rfl) ?_) | (refine Hq.yg rfl rfl (y_fieldR (q := 3) (ft := 47) Tryd.underlying79 rfl sz47 rfl rfl) ?_)
      first | (refine Hq.yg rfl rfl (y_load1 ag47 rfl (Rd.pt1 pkk (by (first | exact (encL_at hk).trans (by rw [hs0]) | exact (encG_at hk).trans (by rw [hgk]) | rfl)))) ?_) | (refine Hq.yg rfl rfl (y_load1 ag47 rfl (Rd.seg1 pkk (by (first | exact (encL_at hk).trans (by rw [hs0]) | exact (encG_at hk).trans (by rw [hgk]) | rfl)))) ?_) | (refine Hq.yg rfl rfl (y_loadR1 ag47 rfl (by (first | exact RdS.own pkk)) (by (first | exact (encL_at hk).trans (by rw [hs0]) | exact (encG_at hk).trans (by rw [hgk]) | rfl))) ?_)
      first | (refine Hq.yg rfl rfl (y_load1 ag3 rfl (Rd.pt1 pkk (by (first | exact (encL_at hk).trans (by rw [hs0]) | exact (encG_at hk).trans (by rw [hgk]) | rfl)))) ?_) | (refine Hq.yg rfl rfl (y_load1 ag3 rfl (Rd.seg1 pkk (by (first | exact (encL_at hk).trans (by rw [hs0]) | exact (encG_at hk).trans (by rw [hgk]) | rfl)))) ?_) | (refine Hq.yg rfl rfl (y_loadR1 ag3 rfl (by (first | exact RdS.own pkk)) (by (first | exact (encL_at hk).trans (by rw [hs0]) | exact (encG_at hk).trans (by rw [hgk]) | rfl))) ?_)
      refine Hq.yg rfl rfl (y_nilp rfl) ?_
      first | (refine Hq.yg rfl rfl (y_field' (q := 0) (ft := 77) Tryd.underlying110 rfl sz77 rfl rfl) ?_) | (refine Hq.yg rfl rfl (y_fieldR (q := 0) (ft := 77) Tryd.underlying110 rfl sz77 rfl rfl) ?_)
      refine Hq.yg rfl rfl (y_idxA Tryd.underlying77 sz76 rfl rfl (by first | omega | decide)) ?_
      first | (refine Hq.yg rfl rfl (y_load1 ag76 rfl (Rd.pt1 pkk (by (first | exact (encL_at hk).trans (by rw [hs0]) | exact (encG_at hk).trans (by rw [hgk]) | rfl)))) ?_) | (refine Hq.yg rfl rfl (y_load1 ag76 rfl (Rd.seg1 pkk (by (first | exact (encL_at hk).trans (by rw [hs0]) | exact (encG_at hk).trans (by rw [hgk]) | rfl)))) ?_) | (refine Hq.yg rfl rfl (y_loadR1 ag76 rfl (by (first | exact RdS.own pkk)) (by (first | exact (encL_at hk).trans (by rw [hs0]) | exact (encG_at hk).trans (by rw [hgk]) | rfl))) ?_)
      refine Hq.yg rfl rfl (y_neq_pointer Tryd.underlying76 rfl rfl) ?_
      first | (refine Hq.yv (y_pickT rfl rfl) ?_) | (refine Hq.yv (y_pickF rfl rfl) ?_) | (refine Hq.yv (y_pickb rfl rfl rfl) ?_) | (refine Hq.yv (y_pick rfl rfl rfl) ?_)
      refine Hq.nil ?_
      refine Hd.slots [(0, _), (1, _), (2, _), (38, _)] ⟨rfl, rfl, rfl, rfl, trivial⟩ ?_
      refine Hd.toK hK2 ?_
      refine Hd.cond rfl (fun hc1 => ?_) (fun hc1 => ?_)
      ·
        try simp only [decide_eq_true_eq, decide_eq_false_iff_not, Bool.and_eq_true, Bool.or_eq_true, Bool.and_eq_false_iff, Bool.or_eq_false_iff, Bool.not_eq_true', Bool.not_eq_false', Bool.not_eq_true, Bool.not_eq_false, Int.not_lt, Int.not_le, Decidable.not_not, ne_eq] at hc1
        obtain ⟨p, rfl⟩ : ∃ p, gs = some p := by cases gs with | none => simp at hc1 | some p => exact ⟨p, rfl⟩
        have hp1 : pre0 ++ [1] <+: itS s (some p) := by rw [hit]; exact ⟨[], by simp⟩
        refine Hd.drawsH ([pt bl [.pointer (some ⟨lb, 0, none⟩)] 28, pt bk [.int .i64 (k : Int)] 3, LmH lb ⟨buf, tw, some gb⟩, GrH gb G]) (fun _ => true) mixed ?_
        simp only [List.length, Nat.zero_add, Nat.reduceAdd]
        refine Hd.takeH 0 rfl (by kernel_rfl) (by kernel_rfl) (by kernel_rfl) (by kernel_rfl) (y_move rfl) (fun _ _ => rfl) (Ent.sep enn) ?_
        first | (refine Hd.takeH 1 rfl (by kernel_rfl) (by kernel_rfl) (by kernel_rfl) (by kernel_rfl) (y_load1 ag28 rfl (Rd.pt1 pkk (by (first | exact (encL_at hk).trans (by rw [hs0]) | exact (encG_at hk).trans (by rw [hgk]) | rfl)))) (fun _ _ => rfl) (Ent.sep enn) ?_) | (refine Hd.takeH 1 rfl (by kernel_rfl) (by kernel_rfl) (by kernel_rfl) (by kernel_rfl) (y_load1 ag28 rfl (Rd.seg1 pkk (by (first | exact (encL_at hk).trans (by rw [hs0]) | exact (encG_at hk).trans (by rw [hgk]) | rfl)))) (fun _ _ => rfl) (Ent.sep enn) ?_) | (refine Hd.takeH 1 rfl (by kernel_rfl) (by kernel_rfl) (by kernel_rfl) (by kernel_rfl) (y_loadR1 ag28 rfl (by (first | exact RdS.own pkk)) (by (first | exact (encL_at hk).trans (by rw [hs0]) | exact (encG_at hk).trans (by rw [hgk]) | rfl))) (fun _ _ => rfl) (Ent.sep enn) ?_)
        refine Hd.takeH 2 rfl (by kernel_rfl) (by kernel_rfl) (by kernel_rfl) (by kernel_rfl) (y_nilp rfl) (fun _ _ => rfl) (Ent.sep enn) ?_
        first | (refine Hd.takeH 3 rfl (by kernel_rfl) (by kernel_rfl) (by kernel_rfl) (by kernel_rfl) (y_field' (q := 3) (ft := 47) Tryd.underlying79 rfl sz47 rfl rfl) (fun _ _ => rfl) (Ent.sep enn) ?_) | (refine Hd.takeH 3 rfl (by kernel_rfl) (by kernel_rfl) (by kernel_rfl) (by kernel_rfl) (y_fieldR (q := 3) (ft := 47) Tryd.underlying79 rfl sz47 rfl rfl) (fun _ _ => rfl) (Ent.sep enn) ?_)
        first | (refine Hd.takeH 4 rfl (by kernel_rfl) (by kernel_rfl) (by kernel_rfl) (by kernel_rfl) (y_load1 ag47 rfl (Rd.pt1 pkk (by (first | exact (encL_at hk).trans (by rw [hs0]) | exact (encG_at hk).trans (by rw [hgk]) | rfl)))) (fun _ _ => rfl) (Ent.sep enn) ?_) | (refine Hd.takeH 4 rfl (by kernel_rfl) (by kernel_rfl) (by kernel_rfl) (by kernel_rfl) (y_load1 ag47 rfl (Rd.seg1 pkk (by (first | exact (encL_at hk).trans (by rw [hs0]) | exact (encG_at hk).trans (by rw [hgk]) | rfl)))) (fun _ _ => rfl) (Ent.sep enn) ?_) | (refine Hd.takeH 4 rfl (by kernel_rfl) (by kernel_rfl) (by kernel_rfl) (by kernel_rfl) (y_loadR1 ag47 rfl (by (first | exact RdS.own pkk)) (by (first | exact (encL_at hk).trans (by rw [hs0]) | exact (encG_at hk).trans (by rw [hgk]) | rfl))) (fun _ _ => rfl) (Ent.sep enn) ?_)
        first | (refine Hd.takeH 5 rfl (by kernel_rfl) (by kernel_rfl) (by kernel_rfl) (by kernel_rfl) (y_load1 ag3 rfl (Rd.pt1 pkk (by (first | exact (encL_at hk).trans (by rw [hs0]) | exact (encG_at hk).trans (by rw [hgk]) | rfl)))) (fun _ _ => rfl) (Ent.sep enn) ?_) | (refine Hd.takeH 5 rfl (by kernel_rfl) (by kernel_rfl) (by kernel_rfl) (by kernel_rfl) (y_load1 ag3 rfl (Rd.seg1 pkk (by (first | exact (encL_at hk).trans (by rw [hs0]) | exact (encG_at hk).trans (by rw [hgk]) | rfl)))) (fun _ _ => rfl) (Ent.sep enn) ?_) | (refine Hd.takeH 5 rfl (by kernel_rfl) (by kernel_rfl) (by kernel_rfl) (by kernel_rfl) (y_loadR1 ag3 rfl (by (first | exact RdS.own pkk)) (by (first | exact (encL_at hk).trans (by rw [hs0]) | exact (encG_at hk).trans (by rw [hgk]) | rfl))) (fun _ _ => rfl) (Ent.sep enn) ?_)
        refine Hd.takeH 6 rfl (by kernel_rfl) (by kernel_rfl) (by kernel_rfl) (by kernel_rfl) (y_nilp rfl) (fun _ _ => rfl) (Ent.sep enn) ?_
        first | (refine Hd.takeH 7 rfl (by kernel_rfl) (by kernel_rfl) (by kernel_rfl) (by kernel_rfl) (y_field' (q := 0) (ft := 77) Tryd.underlying110 rfl sz77 rfl rfl) (fun _ _ => rfl) (Ent.sep enn) ?_) | (refine Hd.takeH 7 rfl (by kernel_rfl) (by kernel_rfl) (by kernel_rfl) (by kernel_rfl) (y_fieldR (q := 0) (ft := 77) Tryd.underlying110 rfl sz77 rfl rfl) (fun _ _ => rfl) (Ent.sep enn) ?_)
        refine Hd.takeH 8 rfl (by kernel_rfl) (by kernel_rfl) (by kernel_rfl) (by kernel_rfl) (y_idxA Tryd.underlying77 sz76 rfl rfl (by first | omega | decide)) (fun _ _ => rfl) (Ent.sep enn) ?_
        first | (refine Hd.takeH 9 rfl (by kernel_rfl) (by kernel_rfl) (by kernel_rfl) (by kernel_rfl) (y_load1 ag76 rfl (Rd.pt1 pkk (by (first | exact (encL_at hk).trans (by rw [hs0]) | exact (encG_at hk).trans (by rw [hgk]) | rfl)))) (fun _ _ => rfl) (Ent.sep enn) ?_) | (refine Hd.takeH 9 rfl (by kernel_rfl) (by kernel_rfl) (by kernel_rfl) (by kernel_rfl) (y_load1 ag76 rfl (Rd.seg1 pkk (by (first | exact (encL_at hk).trans (by rw [hs0]) | exact (encG_at hk).trans (by rw [hgk]) | rfl)))) (fun _ _ => rfl) (Ent.sep enn) ?_) | (refine Hd.takeH 9 rfl (by kernel_rfl) (by kernel_rfl) (by kernel_rfl) (by kernel_rfl) (y_loadR1 ag76 rfl (by (first | exact RdS.own pkk)) (by (first | exact (encL_at hk).trans (by rw [hs0]) | exact (encG_at hk).trans (by rw [hgk]) | rfl))) (fun _ _ => rfl) (Ent.sep enn) ?_)
        refine Hd.onlyH 10 rfl (by kernel_rfl) ?_
        refine Hd.yield (pre := pre0) (c := 1) (M := [pt bl [.pointer (some ⟨lb, 0, none⟩)] 28, pt bk [.int .i64 (k : Int)] 3, LmH lb ⟨buf, tw, some gb⟩, GrH gb G]) hy rfl rfl hp1 (fun k' h => sep_app (show sep ([pt bl [.pointer (some ⟨lb, 0, none⟩)] 28, pt bk [.int .i64 (k : Int)] 3, LmH lb ⟨buf, tw, some gb⟩, GrH gb G] ++ J pre0) k' from h)) ?_
        intro yb
        refine Hd.nil ?_
        refine Hd.thenN ?_
        refine Hd.heldK (J := (fun _ => true)) (i := 10) (Ent.sep enn) ?_
        refine Hd.endH (by kernel_rfl) ?_
        refine Hd.slots [] trivial ?_
        clear hK2
        cases yb with
        | true =>
          simp only [cond_true]
          exact Hd.end0 rfl (pre0 ++ [1], true) rfl (fun k' h => Ent.sep (.pure (by show pre0 ++ [1] = itS s (some p); rw [hit]; rfl) .same) k' (sep_right (fun k' s => Ent.sep enn k' s) (show sep (J (pre0 ++ [1]) ++ [pt bl [.pointer (some ⟨lb, 0, none⟩)] 28, pt bk [.int .i64 (k : Int)] 3, LmH lb ⟨buf, tw, some gb⟩, GrH gb G]) k' from h)))
        | false =>
          simp only [cond_false]
          exact Hd.end0 rfl (pre0 ++ [1], false) rfl (fun k' h => Ent.sep (.pure hp1 .same) k' (sep_right (fun k' s => Ent.sep enn k' s) (show sep (X (pre0 ++ [1]) ++ [pt bl [.pointer (some ⟨lb, 0, none⟩)] 28, pt bk [.int .i64 (k : Int)] 3, LmH lb ⟨buf, tw, some gb⟩, GrH gb G]) k' from h)))
      ·
        try simp only [decide_eq_true_eq, decide_eq_false_iff_not, Bool.and_eq_true, Bool.or_eq_true, Bool.and_eq_false_iff, Bool.or_eq_false_iff, Bool.not_eq_true', Bool.not_eq_false', Bool.not_eq_true, Bool.not_eq_false, Int.not_lt, Int.not_le, Decidable.not_not, ne_eq] at hc1
        refine Hd.skip ?_
        clear hK2
        obtain rfl : gs = none := by cases gs with | none => rfl | some p => simp at hc1
        have hit2 : pre0 = itS s none := by rw [hit]; simp
        exact Hd.end0 rfl (pre0, true) rfl (fun k' h => Ent.sep (.pure hit2 .same) k' (sep_right (fun k' s => Ent.sep enn k' s) (sep_app (show sep ([pt bl [.pointer (some ⟨lb, 0, none⟩)] 28, pt bk [.int .i64 (k : Int)] 3, LmH lb ⟨buf, tw, some gb⟩, GrH gb G] ++ J pre0) k' from h))))
    ·
      try simp only [decide_eq_true_eq, decide_eq_false_iff_not, Bool.and_eq_true, Bool.or_eq_true, Bool.and_eq_false_iff, Bool.or_eq_false_iff, Bool.not_eq_true', Bool.not_eq_false', Bool.not_eq_true, Bool.not_eq_false, Int.not_lt, Int.not_le, Decidable.not_not, ne_eq] at hg1_27
      obtain rfl : g = none := by cases g with | none => rfl | some p => simp at hg1_27
      obtain rfl : gs = none := hgs.symm
      refine Hq.ng rfl rfl rfl ?_
      refine Hq.ng rfl rfl rfl ?_
      refine Hq.ng rfl rfl rfl ?_
      refine Hq.ng rfl rfl rfl ?_
      refine Hq.ng rfl rfl rfl ?_
      refine Hq.ng rfl rfl rfl ?_
      refine Hq.ng rfl rfl rfl ?_
      refine Hq.ng rfl rfl rfl ?_
      refine Hq.ng rfl rfl rfl ?_
      refine Hq.ng rfl rfl rfl ?_
      first | (refine Hq.yv (y_pickT rfl rfl) ?_) | (refine Hq.yv (y_pickF rfl rfl) ?_) | (refine Hq.yv (y_pickb rfl rfl rfl) ?_) | (refine Hq.yv (y_pick rfl rfl rfl) ?_)
      refine Hq.nil ?_
      refine Hd.slots [(0, _), (1, _), (2, _), (38, _)] ⟨rfl, rfl, rfl, rfl, trivial⟩ ?_
      refine Hd.toK hK2 ?_
      refine Hd.condF rfl ?_
      refine Hd.skip ?_
      clear hK2
      have hit2 : pre0 = itS s none := by rw [hit]; simp
      exact Hd.end0 rfl (pre0, true) rfl (fun k' h => Ent.sep (.pure hit2 .same) k' (sep_right (fun k' s => Ent.sep enn k' s) (sep_app (show sep ([pt bl [.pointer (some ⟨lb, 0, none⟩)] 28, pt bk [.int .i64 (k : Int)] 3, LmH lb ⟨buf, tw, none⟩, GoH none G] ++ J pre0) k' from h))))
end Lm
end Go.Proofs.YtmpemhbfgbochaaDoor
namespace Go.RX
set_option linter.unusedSimpArgs false
set_option linter.unusedVariables false
set_option linter.unnecessarySimpa false
section
variable {E : World} {n : Nat} {ds : List Deferred} {st : List (Nat × Value)} {L L' : List SP} {r : Option Nat} {P : Program} {Q : Exit → Act → World → Prop}
theorem Hd.loopD {c : Code} {ι : Type} (D : ι → List Deferred) (S : ι → List (Nat × Value)) (H : ι → List SP) (μ : ι → Nat) (i0 : ι) (hs : sub st (S i0)) (hd : ds = D i0) (hh : ∀ k, sep L k → sep (H i0) k)
    (round : ∀ i, Hd E n (D i) (S i) (H i) (CW r P c (Exit.then (fun a w => ∃ j, μ j < μ i ∧ Fr n (D j) (S j) a ∧ Sat E (H j) w) Q))) :
    Hd E n ds st L (CW r P (.loop c) Q) := by
  intro a w f s
  subst hd
  have key : ∀ m : Nat, ∀ i, μ i = m → ∀ a w, Fr n (D i) (S i) a → Sat E (H i) w → (Code.loop c).wpIn (FW r) 0 P Q a w := by
    intro m
    induction m using Nat.strongRecOn with
    | _ m ih =>
      intro i hi a w f s
      subst hi
      refine wpIn_loop (fun a' w' => (∃ j, μ j ≤ μ i ∧ Fr n (D j) (S j) a' ∧ Sat E (H j) w')) (fun a' w' => Classical.epsilon fun m => ∃ j, μ j = m ∧ m ≤ μ i ∧ Fr n (D j) (S j) a' ∧ Sat E (H j) w' ∧ ∀ j', Fr n (D j') (S j') a' → Sat E (H j') w' → m ≤ μ j') ⟨i, Nat.le_refl _, f, s⟩ ?_
      rintro a1 w1 ⟨j, hj, f1, s1⟩
      have ex : ∀ (m0 : Nat) (a' : Act) (w' : World), (∃ j, μ j ≤ m0 ∧ Fr n (D j) (S j) a' ∧ Sat E (H j) w') → ∃ m, ∃ j, μ j = m ∧ m ≤ m0 ∧ Fr n (D j) (S j) a' ∧ Sat E (H j) w' ∧ ∀ j', Fr n (D j') (S j') a' → Sat E (H j') w' → m ≤ μ j' := by
        intro m0
        induction m0 using Nat.strongRecOn with
        | _ m0 ih0 =>
          rintro a' w' ⟨j, hj, f', s'⟩
          by_cases hl : ∃ j', μ j' < μ j ∧ Fr n (D j') (S j') a' ∧ Sat E (H j') w'
          · obtain ⟨j', hj', f'', s''⟩ := hl
            obtain ⟨m, j3, e3, l3, f3, s3, b3⟩ := ih0 (μ j') (by omega) a' w' ⟨j', Nat.le_refl _, f'', s''⟩
            exact ⟨m, j3, e3, by omega, f3, s3, b3⟩
          · exact ⟨μ j, j, rfl, hj, f', s', fun j' f'' s'' => Nat.le_of_not_lt fun hlt => hl ⟨j', hlt, f'', s''⟩⟩
      have spec1 := Classical.epsilon_spec (ex (μ i) a1 w1 ⟨j, hj, f1, s1⟩)
      obtain ⟨j1, e1, l1, g1, t1, b1⟩ := spec1
      refine Go.wpIn_mono (round j1 a1 w1 g1 t1) ?_
      intro e a2 w2 hq
      cases e with
      | normal =>
        obtain ⟨j2, hlt, f2, s2⟩ := hq
        refine ⟨⟨j2, by omega, f2, s2⟩, ?_⟩
        have spec2 := Classical.epsilon_spec (ex (μ i) a2 w2 ⟨j2, by omega, f2, s2⟩)
        obtain ⟨j3, e3, l3, g3, t3, b3⟩ := spec2
        have := b3 j2 f2 s2
        show (Classical.epsilon _) < (Classical.epsilon _)
        omega
      | exit id => exact hq
      | goto l => exact hq
      | ret => exact hq
      | panic ch => exact hq
      | outgrown => exact hq
  exact key (μ i0) i0 rfl a w (f.sub hs) (s.mp hh)
def mks (rs : List Nat) (ds : List Deferred) : List Deferred := rs.map mark ++ ds
def MkS : List Nat → SP
  | [] => pu True
  | r0 :: rs => RX.ex fun _ : Unit => [ob r0 (.deferred (some [])), MkS rs]
theorem MkS.cons {r0 : Nat} {rs : List Nat} {L : List SP} : ∀ k, sep (ob r0 (.deferred (some [])) :: MkS rs :: L) k → sep (MkS (r0 :: rs) :: L) k :=
  fun k s => Ent.sep (.ex () (.pick (.here) (.pick .here .same))) k s
theorem Hd.loopM {c : Code} {ι : Type} (keep : List (Nat × Value)) (S : ι → List (Nat × Value)) (H : ι → List SP) (μ : ι → Nat) (i0 : ι) (hk : sub st keep) (hs : sub st (S i0)) (hh : ∀ k, sep L k → sep (H i0) k)
    (round : ∀ rs i, Hd E n (mks rs ds) (S i ++ keep) (MkS rs :: H i) (CW r P c (Exit.then (fun a w => ∃ rs j, μ j < μ i ∧ Fr n (mks rs ds) (S j ++ keep) a ∧ Sat E (MkS rs :: H j) w) Q))) :
    Hd E n ds st L (CW r P (.loop c) Q) :=
  Hd.loopD (ι := List Nat × ι) (fun j => mks j.1 ds) (fun j => S j.2 ++ keep) (fun j => MkS j.1 :: H j.2) (fun j => μ j.2) ([], i0) (sub_append hs hk) rfl (fun k s => Ent.sep (.pure trivial .same) k (hh k s)) (fun j a w f s => Go.wpIn_mono (round j.1 j.2 a w f s) fun e a2 w2 hq => by
    cases e with
    | normal => obtain ⟨rs, j, h1, h2, h3⟩ := hq; exact ⟨(rs, j), h1, h2, h3⟩
    | _ => exact hq)
theorem Hd.againM {ι : Type} {ds0 : List Deferred} {S : ι → List (Nat × Value)} {H : ι → List SP} {μ : ι → Nat} {m : Nat} (rs : List Nat) (j : ι) (hd : ds = mks rs ds0) (hm : μ j < m) (hs : sub st (S j)) (hh : ∀ k, sep L k → sep (MkS rs :: H j) k) :
    Hd E n ds st L (fun a w => ∃ rs j, μ j < m ∧ Fr n (mks rs ds0) (S j) a ∧ Sat E (MkS rs :: H j) w) := fun _ _ f s => by
  subst hd
  exact ⟨rs, j, hm, f.sub hs, s.mp hh⟩
theorem sepMk {r0 : Nat} {rs : List Nat} {L : List SP} {k : PH} (s : sep (MkS (r0 :: rs) :: L) k) : sep (ob r0 (.deferred (some [])) :: MkS rs :: L) k := by
  obtain ⟨h1, h2, d, a, b, ⟨_, x⟩, y⟩ := s
  exact sep_join d a b x y
theorem Lv.marks {fn : Func} {tm : Array Value} {ι : Type} {val : ι → Value} {post : ι → List SP} : ∀ {rs : List Nat} {L : List SP}, Lv E P fn tm ds L val post → Lv E P fn tm (mks rs ds) (MkS rs :: L) val post
  | [], L, h => fun w s => h w (s.mp fun k ⟨_, _, _, _, b, _, y⟩ => y.up b)
  | r0 :: rs, L, h => fun w s => by
    have h2 : Lv E P fn tm (mks rs ds) (MkS rs :: L) val post := Lv.marks h
    exact Lv.mark .here h2 w (s.mp fun k s => sepMk s)
theorem Lv.marksP {fn : Func} {tm : Array Value} {ι : Type} {val : ι → Value} {post : ι → List SP} {rs : List Nat} (p : Pick L (MkS rs) L') (h : Lv E P fn tm ds L' val post) : Lv E P fn tm (mks rs ds) L val post := fun w s =>
  Lv.marks h w (s.mp fun k s => p.sep s)
end
end Go.RX
namespace Go.Proofs.YtmpemhbfgbochaaDoor
set_option linter.unusedSimpArgs false
set_option linter.unusedVariables false
set_option linter.unnecessarySimpa false
open Go.RX Fx
namespace Lm
open Bu
set_option maxRecDepth 8000
theorem item_out {f : BkA → BkA} {s gs : Option Nat} {X Y : BkA} {pre : List Nat} {c : Nat} (h : pre ++ [c] <+: itS s gs) : ∃ (p : Nat) (z : BkA) (O : SP), pN (if c = 0 then s else gs) = .pointer (some ⟨p, 0, none⟩) ∧
    ((z = X ∧ c = 0) ∨ (z = Y ∧ c = 1)) ∧
    (∀ L k, sep (SlB s (efX f 0 pre X) :: SlB gs (efX f 1 pre Y) :: L) k → sep (BkP p z :: O :: L) k) ∧
    (∀ L k, sep (BkP p (f z) :: O :: L) k → sep (SlB s (efX f 0 (pre ++ [c]) X) :: SlB gs (efX f 1 (pre ++ [c]) Y) :: L) k) := by
  rcases its_mem h with ⟨rfl, rfl, hs⟩ | ⟨rfl, hp, hs⟩
  · obtain ⟨p, rfl⟩ : ∃ p, s = some p := by cases s with | none => simp at hs | some p => exact ⟨p, rfl⟩
    exact ⟨p, X, SlB gs Y, rfl, .inl ⟨rfl, rfl⟩, fun L k h => by rw [← slB_some]; simpa [efX] using h, fun L k h => by rw [← slB_some] at h; simpa [efX] using h⟩
  · obtain ⟨p, rfl⟩ : ∃ p, gs = some p := by cases gs with | none => simp at hs | some p => exact ⟨p, rfl⟩
    have e0 : efX f 1 pre Y = Y := if_neg hp
    have e1 : efX f 1 (pre ++ [1]) Y = f Y := if_pos (by simp)
    have e2 : efX f 0 (pre ++ [1]) X = efX f 0 pre X := by unfold efX; simp
    refine ⟨p, Y, SlB s (efX f 0 pre X), rfl, .inr ⟨rfl, rfl⟩, fun L k h => ?_, fun L k h => ?_⟩
    · rw [e0, slB_some] at h; exact Ent.sep enn k h
    · rw [e1, e2, slB_some]; exact Ent.sep enn k h
abbrev LgL (lb : Nat) (l : LmA) (G : GrA) (x y : Nat → BkA) (L : List SP) : List SP := LmH lb l :: GoH l.g G :: SlB (l.b 0) (x 0) :: SlB (l.b 1) (x 1) :: SlB (gsl l.g G 0) (y 0) :: SlB (gsl l.g G 1) (y 1) :: L
theorem lg_k {lb : Nat} {l : LmA} {G : GrA} {x y : Nat → BkA} {k : Nat} (hk : k < 2) {L : List SP} : ∀ h, sep (LgL lb l G x y L) h → sep (SlB (l.b k) (x k) :: SlB (gsl l.g G k) (y k) :: SlB (l.b (1 - k)) (x (1 - k)) :: SlB (gsl l.g G (1 - k)) (y (1 - k)) :: LmH lb l :: GoH l.g G :: L) h := fun h s => by
  rcases (show k = 0 ∨ k = 1 by omega) with rfl | rfl
  · exact Ent.sep enn h s
  · exact Ent.sep enn h s
theorem lg_l {lb : Nat} {l : LmA} {G : GrA} {x y : Nat → BkA} {k : Nat} (hk : k < 2) {L : List SP} : ∀ h, sep (SlB (l.b k) (x k) :: SlB (gsl l.g G k) (y k) :: SlB (l.b (1 - k)) (x (1 - k)) :: SlB (gsl l.g G (1 - k)) (y (1 - k)) :: LmH lb l :: GoH l.g G :: L) h → sep (LgL lb l G x y L) h := fun h s => by
  rcases (show k = 0 ∨ k = 1 by omega) with rfl | rfl
  · exact Ent.sep enn h s
  · exact Ent.sep enn h s
structure ConOk (x y : Nat → BkA) : Prop where
  x : ∀ k, BkOk (x k)
  y : ∀ k, BkOk (y k)
theorem ef_nil (f : BkA → BkA) (i : Nat) (x : BkA) : efX f i [] x = x := rfl
def cmA (now : Int) (x : Nat → BkA) : Nat → BkA := fun k => come (x k) now
abbrev cmX (now : Int) (k : Nat) (x : Nat → BkA) : Nat → BkA := fun j => if j < k then come (x j) now else x j
theorem cmX_n (now : Int) (k : Nat) (x : Nat → BkA) : cmX now k x (1 - k) = cmX now (k + 1) x (1 - k) ∨ ¬ k < 2 := by
  by_cases hk : k < 2
  · left
    rcases (show k = 0 ∨ k = 1 by omega) with rfl | rfl
    · rfl
    · rfl
  · right; exact hk
set_option maxHeartbeats 2000000 in
theorem lcomes_ct (L : List SP) (lb : Nat) (l : LmA) (G : GrA) (x y : Nat → BkA) (h : ConOk x y) (now : Int) (hn : InK .u64 now) : Ct Tryd.prog 39 #[.pointer (some ⟨lb, 0, none⟩), .int .u64 now] (LgL lb l G x y L) (fun _ : Unit => .tuple #[]) (fun _ : Unit => LgL lb l G (cmA now x) (cmA now y) L) := by
  refine Ct.ofM (vs := [.pointer (some ⟨lb, 0, none⟩), .int .u64 now]) Tryd.func39 rfl rfl [(0, .pointer (some ⟨lb, 0, none⟩)), (1, .int .u64 now)] (by repeat (first | exact trivial | refine ⟨rfl, ?_⟩)) ?_
  intro E
  show Hd E 17 _ _ _ _
  refine Hd.seq (fun K1 hK1 => ?_)
  refine Hd.region ?_
  refine Hd.box rfl rfl (fun b3 => ?_)
  refine Hd.nil ?_
  refine Hd.slots [(0, _), (3, _)] ⟨rfl, rfl, trivial⟩ ?_
  refine Hd.toK hK1 ?_
  refine Hd.seq (fun K2 hK2 => ?_)
  refine Hd.region ?_
  refine Hd.yv (y_move rfl) ?_
  refine Hd.nil ?_
  refine Hd.slots [(0, _), (3, _), (6, _)] ⟨rfl, rfl, rfl, trivial⟩ ?_
  refine Hd.toK hK2 ?_
  refine Hd.block ?_
  refine Hd.loopM (ι := Nat) [(0, _), (3, _)] (fun k => [(6, .int .i64 (k : Int))]) (fun k => pu (k ≤ 2) :: LgL lb l G (cmX now k x) (cmX now k y) (pt b3 [.int .u64 now] 22 :: L)) (fun k => 2 - k) 0 (by repeat (first | exact trivial | refine ⟨rfl, ?_⟩)) (by repeat (first | exact trivial | refine ⟨rfl, ?_⟩)) (fun q s => Ent.sep (.pure (Nat.zero_le _) .same) q (show sep (LgL lb l G x y (pt b3 [.int .u64 now] 22 :: L)) q from Ent.sep enn q s)) ?_
  intro rs0 k
  try dsimp only
  refine Hd.heap (pu _ :: MkS rs0 :: _) (fun q s => Ent.sep (.pick (.there .here) (.pick .here .same)) q s) ?_
  refine Hd.pure (fun hp0 => ?_)
  try dsimp only at hp0
  refine Hd.seq (fun K3 hK3 => ?_)
  refine Hd.region ?_
  refine Hd.yv (y_lss rfl rfl) ?_
  refine Hd.nil ?_
  refine Hd.slots [(0, _), (3, _), (6, _), (7, _)] ⟨rfl, rfl, rfl, rfl, trivial⟩ ?_
  refine Hd.toK hK3 ?_
  refine Hd.seq (fun K4 hK4 => ?_)
  refine Hd.cond rfl (fun hc0 => ?_) (fun hc0 => ?_)
  ·
    try simp only [decide_eq_true_eq, decide_eq_false_iff_not, Bool.and_eq_true, Bool.or_eq_true, Bool.and_eq_false_iff, Bool.or_eq_false_iff, Bool.not_eq_true', Bool.not_eq_false', Bool.not_eq_true, Bool.not_eq_false, Int.not_lt, Int.not_le, Decidable.not_not, ne_eq] at hc0
    have hk : k < 2 := by omega
    refine Hd.skip ?_
    refine Hd.toK hK4 ?_
    refine Hd.seq (fun K5 hK5 => ?_)
    refine Hd.block ?_
    refine Hd.seq (fun K6 hK6 => ?_)
    refine Hd.region ?_
    refine Hd.yv (y_move rfl) ?_
    refine Hd.yv (y_assign rfl) ?_
    refine Hd.nil ?_
    refine Hd.slots [(0, _), (3, _), (4, _), (6, _)] ⟨rfl, rfl, rfl, rfl, trivial⟩ ?_
    refine Hd.toK hK6 ?_
    refine Hd.seq (fun K7 hK7 => ?_)
    refine Hd.region ?_
    refine Hd.yv (y_move rfl) ?_
    refine Hd.yv (y_move rfl) ?_
    refine Hd.callE rfl fk35 (buckets_ct _ lb k) (Ent.sep enn) ?_
    rintro ⟨bl, bk⟩
    dsimp only
    refine Hd.heap (pt bl [.pointer (some ⟨lb, 0, none⟩)] 28 :: pt bk [.int .i64 (k : Int)] 3 :: MkS rs0 :: SlB (l.b k) (cmX now k x k) :: SlB (gsl l.g G k) (cmX now k y k) :: SlB (l.b (1 - k)) (cmX now k x (1 - k)) :: SlB (gsl l.g G (1 - k)) (cmX now k y (1 - k)) :: LmH lb l :: GoH l.g G :: pt b3 [.int .u64 now] 22 :: L) (fun q s => sep_right (M := [_, _, _]) (fun q s => lg_k hk q s) s) ?_
    have hxk : cmX now k x k = x k := if_neg (Nat.lt_irrefl k)
    have hyk : cmX now k y k = y k := if_neg (Nat.lt_irrefl k)
    rw [hxk, hyk]
    refine Hd.nil ?_
    refine Hd.slots [(0, _), (3, _), (6, _), (11, _)] ⟨rfl, rfl, rfl, rfl, trivial⟩ ?_
    refine Hd.toK hK7 ?_
    refine Hd.block ?_
    refine Hd.rangeF (enc := encI (l.b k) (gsl l.g G k)) (S := fun ys => ys = itS (l.b k) (gsl l.g G k)) (Sp := fun ys => ys <+: itS (l.b k) (gsl l.g G k))
      (fun pre => SlB (l.b k) (efX (come · now) 0 pre (x k)) :: SlB (gsl l.g G k) (efX (come · now) 1 pre (y k)) :: SlB (l.b (1 - k)) (cmX now k x (1 - k)) :: SlB (gsl l.g G (1 - k)) (cmX now k y (1 - k)) :: pt b3 [.int .u64 now] 22 :: MkS rs0 :: L) (fun _ _ => [pu False])
      rfl (by kernel_rfl) (fun _ => rfl) rfl (buckets_it lb bl bk l G k hk) (by simp only [ef_nil]; refine Ent.sep ?_; refine Ent.pick pkk ?_; refine Ent.pick pkk ?_; refine Ent.pick pkk ?_; refine Ent.pick pkk ?_; refine Ent.pick pkk ?_; refine Ent.pick pkk ?_; exact Ent.swap (L := [_, _, _, _])) ?_ ?_ ?_
    ·
      intro E l' R pre c N hR hG
      obtain ⟨p, z, O, hpp, hz, ho, hi⟩ := item_out (f := (come · now)) (X := x k) (Y := y k) hG
      have hzo : BkOk z := by
        rcases hz with ⟨rfl, _⟩ | ⟨rfl, _⟩
        · exact h.x k
        · exact h.y k
      unfold Rnd
      simp only [List.cons_append, List.nil_append, pz, encI]
      rw [hpp]
      refine Hd.region ?_
      refine Hd.yv (y_assign rfl) ?_
      refine Hd.nil ?_
      refine Hd.slots [(0, _), (3, _), (5, _), (6, _)] ⟨rfl, rfl, rfl, rfl, trivial⟩ ?_
      refine Hd.thenN ?_
      refine Hd.begin hR pkk ?_
      refine Hd.block ?_
      refine Hd.heap (BkP p z :: O :: _) (fun q s => ho _ q (Ent.sep (.pick pkk (.pick pkk .same)) q s)) ?_
      refine Hd.region ?_
      refine Hd.yv (y_move rfl) ?_
      first | (refine Hd.yv (y_load1 ag22 rfl (Rd.pt1 pkk (by (first | rfl)))) ?_) | (refine Hd.yv (y_load1 ag22 rfl (Rd.seg1 pkk (by (first | rfl)))) ?_) | (refine Hd.yv (y_loadR1 ag22 rfl (by (first | exact RdS.own pkk)) (by (first | rfl))) ?_)
      refine Hd.callE rfl fk43 (have_ct _ p z hzo now hn) (Ent.sep enn) ?_
      intro _
      refine Hd.nil ?_
      refine Hd.slots [(0, _), (3, _), (6, _)] ⟨rfl, rfl, rfl, trivial⟩ ?_
      refine Hd.inB ?_
      clear hK1 hK2 hK3 hK4 hK5 hK6 hK7
      refine Hd.reN ?_
      simp only [List.cons_append, List.nil_append]
      intro q s
      have s1 : sep (BkP p (come z now) :: O :: _) q := Ent.sep (.pick pkk (.pick pkk .same)) q s
      have s2 := hi _ q s1
      exact Ent.sep enn q s2
    ·
      intro r0 ys hys
      obtain rfl : ys = itS (l.b k) (gsl l.g G k) := hys
      rw [(slB_all (x k) (y k)).1, (slB_all (x k) (y k)).2]
      try simp only [List.cons_append, List.nil_append]
      refine Hd.inB ?_
      refine Hd.inB ?_
      refine Hd.toK hK5 ?_
      refine Hd.region ?_
      first | (refine Hd.yv (y_addn rfl rfl (by simp only [InK]; omega)) ?_) | (refine Hd.yv (y_add rfl rfl) ?_)
      refine Hd.yv (y_move rfl) ?_
      refine Hd.nil ?_
      refine Hd.slots [(0, _), (3, _), (6, _)] ⟨rfl, rfl, rfl, trivial⟩ ?_
      clear hK1 hK2 hK3 hK4 hK5 hK6 hK7
      refine Hd.thenN ?_
      have e1 : ∀ x : Nat → BkA, cmX now (k + 1) x k = come (x k) now := fun x => if_pos (Nat.lt_succ_self k)
      have e2 : ∀ x : Nat → BkA, cmX now (k + 1) x (1 - k) = cmX now k x (1 - k) := fun x => ((cmX_n now k x).resolve_right (fun h => h hk)).symm
      refine Hd.againM (r0 :: rs0) (k + 1) rfl (by omega) (by repeat (first | exact trivial | refine ⟨rfl, ?_⟩)) (fun q s => MkS.cons q ?_)
      have s2 : sep ([ob r0 (.deferred (some [])), MkS rs0] ++ (SlB (l.b k) (cmX now (k + 1) x k) :: SlB (gsl l.g G k) (cmX now (k + 1) y k) :: SlB (l.b (1 - k)) (cmX now (k + 1) x (1 - k)) :: SlB (gsl l.g G (1 - k)) (cmX now (k + 1) y (1 - k)) :: LmH lb l :: GoH l.g G :: pt b3 [.int .u64 now] 22 :: L)) q := by
        rw [e1, e1, e2, e2]
        exact Ent.sep (.pick pkk (.pick pkk (.pick pkk (.pick pkk (.pick pkk (.pick pkk (.pick pkk (.pick pkk (.pick pkk Ent.left))))))))) q s
      exact sep_right (M := [_, _]) (fun q s => Ent.sep (.pure (show k + 1 ≤ 2 by omega) .same) q (lg_l hk q s)) s2
    ·
      rintro r0_0 (_ | id0) pre0 hG0
      ·
        exact Hd.absurd (by first | exact id | simp)
      ·
        exact Hd.absurd (by first | exact id | simp)
  ·
    try simp only [decide_eq_true_eq, decide_eq_false_iff_not, Bool.and_eq_true, Bool.or_eq_true, Bool.and_eq_false_iff, Bool.or_eq_false_iff, Bool.not_eq_true', Bool.not_eq_false', Bool.not_eq_true, Bool.not_eq_false, Int.not_lt, Int.not_le, Decidable.not_not, ne_eq] at hc0
    refine Hd.exit ?_
    refine Hd.thenExit ?_
    refine Hd.thenExit ?_
    refine Hd.inBexit ?_
    clear hK1 hK2 hK3 hK4
    obtain rfl : k = 2 := by omega
    have f1 : ∀ x : Nat → BkA, cmX now 2 x 0 = cmA now x 0 := fun x => if_pos (by decide)
    have f2 : ∀ x : Nat → BkA, cmX now 2 x 1 = cmA now x 1 := fun x => if_pos (by decide)
    refine Hd.heap (LgL lb l G (cmA now x) (cmA now y) (MkS rs0 :: pt b3 [.int .u64 now] 22 :: L)) (fun q s => ?_) ?_
    · have s2 : sep (MkS rs0 :: LmH lb l :: GoH l.g G :: SlB (l.b 0) (cmX now 2 x 0) :: SlB (l.b 1) (cmX now 2 x 1) :: SlB (gsl l.g G 0) (cmX now 2 y 0) :: SlB (gsl l.g G 1) (cmX now 2 y 1) :: pt b3 [.int .u64 now] 22 :: L) q := s
      rw [f1, f1, f2, f2] at s2
      exact Ent.sep enn q s2
    exact Hd.endM (fun a fr => Lv.marksP pkk (Lv.end0 rfl () rfl (Ent.sep enn)))
end Lm
end Go.Proofs.YtmpemhbfgbochaaDoor
namespace Go.Proofs.YtmpemhbfgbochaaDoor
set_option linter.unusedSimpArgs false
set_option linter.unusedVariables false
set_option linter.unnecessarySimpa false
open Go.RX Fx
namespace Lm
open Bu
set_option maxRecDepth 8000
theorem item_same {s gs : Option Nat} (X Y : BkA) {pre : List Nat} {c : Nat} (h : pre ++ [c] <+: itS s gs) : ∃ (p : Nat) (z : BkA) (O : SP), pN (if c = 0 then s else gs) = .pointer (some ⟨p, 0, none⟩) ∧
    (z = if c = 0 then X else Y) ∧ (c = 0 ∨ c = 1) ∧
    (∀ L k, sep (SlB s X :: SlB gs Y :: L) k → sep (BkP p z :: O :: L) k) ∧
    (∀ L k, sep (BkP p z :: O :: L) k → sep (SlB s X :: SlB gs Y :: L) k) := by
  rcases its_mem h with ⟨rfl, rfl, hs⟩ | ⟨rfl, hp, hs⟩
  · obtain ⟨p, rfl⟩ : ∃ p, s = some p := by cases s with | none => simp at hs | some p => exact ⟨p, rfl⟩
    exact ⟨p, X, SlB gs Y, rfl, rfl, .inl rfl, fun L k h => h, fun L k h => h⟩
  · obtain ⟨p, rfl⟩ : ∃ p, gs = some p := by cases gs with | none => simp at hs | some p => exact ⟨p, rfl⟩
    refine ⟨p, Y, SlB s X, rfl, rfl, .inr rfl, fun L k h => ?_, fun L k h => ?_⟩
    · rw [slB_some] at h; exact Ent.sep enn k h
    · rw [slB_some]; exact Ent.sep enn k h
def nV (X Y : BkA) (pre : List Nat) : Int := pre.foldl (fun n i => min n (if i = 0 then X.have_ else Y.have_)) 4096
theorem nV_snoc (X Y : BkA) (pre : List Nat) (c : Nat) : nV X Y (pre ++ [c]) = min (nV X Y pre) (if c = 0 then X.have_ else Y.have_) := by unfold nV; rw [List.foldl_append]; rfl
theorem nV_le (X Y : BkA) : ∀ (pre t : List Nat), nV X Y (pre ++ t) ≤ nV X Y pre
  | pre, [] => by rw [List.append_nil]; exact Int.le_refl _
  | pre, c :: t => by
    have h := nV_le X Y (pre ++ [c]) t
    rw [List.append_assoc, nV_snoc] at h
    have e : pre ++ ([c] ++ t) = pre ++ c :: t := rfl
    rw [e] at h
    omega
def lvS (s gs : Option Nat) (X Y : BkA) : Int := if nV X Y (itS s gs) < 1 then 0 else nV X Y (itS s gs)
theorem lvS_in (s gs : Option Nat) (X Y : BkA) : 0 ≤ lvS s gs X Y ∧ lvS s gs X Y ≤ 4096 := by
  have := nV_le X Y [] (itS s gs)
  rw [List.nil_append] at this
  have h0 : nV X Y [] = 4096 := rfl
  unfold lvS
  split <;> omega
structure AtN (now : Int) (x y : Nat → BkA) : Prop where
  x : ∀ k, k < 2 → come (x k) now = x k
  y : ∀ k, k < 2 → come (y k) now = y k
theorem at_come {x y : Nat → BkA} (h : ConOk x y) {now : Int} (hn : InK .u64 now) : AtN now (cmA now x) (cmA now y) :=
  ⟨fun k hk => come_idem (h.x k) hn, fun k hk => come_idem (h.y k) hn⟩
theorem con_come {x y : Nat → BkA} (h : ConOk x y) {now : Int} (hn : InK .u64 now) : ConOk (cmA now x) (cmA now y) :=
  ⟨fun k => come_ok (h.x k) hn, fun k => come_ok (h.y k) hn⟩
set_option maxHeartbeats 2000000 in
theorem leave_ct (L : List SP) (lb : Nat) (l : LmA) (G : GrA) (x y : Nat → BkA) (h : ConOk x y) (k : Nat) (hk : k < 2) (now : Int) (hn : InK .u64 now) (hat : AtN now x y) : Ct Tryd.prog 40 #[.pointer (some ⟨lb, 0, none⟩), .int .i64 (k : Int), .int .u64 now] (LgL lb l G x y L) (fun _ : Unit => .int .i64 (lvS (l.b k) (gsl l.g G k) (x k) (y k))) (fun _ : Unit => LgL lb l G x y L) := by
  refine Ct.ofM (vs := [.pointer (some ⟨lb, 0, none⟩), .int .i64 (k : Int), .int .u64 now]) Tryd.func40 rfl rfl [(0, .pointer (some ⟨lb, 0, none⟩)), (1, .int .i64 (k : Int)), (2, .int .u64 now)] (by repeat (first | exact trivial | refine ⟨rfl, ?_⟩)) ?_
  intro E
  show Hd E 21 _ _ _ _
  refine Hd.seq (fun K1 hK1 => ?_)
  refine Hd.region ?_
  refine Hd.box rfl rfl (fun b5 => ?_)
  refine Hd.yv (y_assign rfl) ?_
  refine Hd.nil ?_
  refine Hd.slots [(0, _), (1, _), (5, _)] ⟨rfl, rfl, rfl, trivial⟩ ?_
  refine Hd.toK hK1 ?_
  refine Hd.scope ?_
  refine Hd.seq (fun K2 hK2 => ?_)
  refine Hd.region ?_
  refine Hd.alloc zr2 (fun b7 => ?_)
  first | (refine Hd.store1 sz2 rfl rfl rfl pkk (by first | decide | (simp; done) | (simp; omega)) ?_) | (refine Hd.storeG1 sz2 rfl rfl rfl pkk (by first | decide | (simp; done) | (simp; omega)) ?_) | (refine Hd.storeO1 sz2 rfl rfl rfl pkk (by first | omega | (simp; done) | (simp; omega)) ?_)
  try simp only [List.set_cons_zero, List.set_cons_succ]
  refine Hd.nil ?_
  refine Hd.slots [(0, _), (1, _), (5, _), (7, _)] ⟨rfl, rfl, rfl, rfl, trivial⟩ ?_
  refine Hd.toK hK2 ?_
  refine Hd.seq (fun K3 hK3 => ?_)
  refine Hd.label ?_
  refine Hd.toK hK3 ?_
  refine Hd.seq (fun K4 hK4 => ?_)
  refine Hd.seq (fun K5 hK5 => ?_)
  refine Hd.region ?_
  refine Hd.yv (y_move rfl) ?_
  refine Hd.yv (y_move rfl) ?_
  refine Hd.callE rfl fk35 (buckets_ct _ lb k) (Ent.sep enn) ?_
  rintro ⟨bl, bk⟩
  dsimp only
  refine Hd.heap (pt bl [.pointer (some ⟨lb, 0, none⟩)] 28 :: pt bk [.int .i64 (k : Int)] 3 :: pt b7 [.int .i64 4096] 2 :: pt b5 [.int .u64 now] 22 :: SlB (l.b k) (x k) :: SlB (gsl l.g G k) (y k) :: SlB (l.b (1 - k)) (x (1 - k)) :: SlB (gsl l.g G (1 - k)) (y (1 - k)) :: LmH lb l :: GoH l.g G :: L) (fun q s => sep_right (M := [_, _, _, _]) (fun q s => lg_k hk q s) s) ?_
  refine Hd.nil ?_
  refine Hd.slots [(5, _), (7, _), (11, _)] ⟨rfl, rfl, rfl, trivial⟩ ?_
  refine Hd.toK hK5 ?_
  refine Hd.block ?_
  refine Hd.rangeF (enc := encI (l.b k) (gsl l.g G k)) (S := fun ys => ys = itS (l.b k) (gsl l.g G k)) (Sp := fun ys => ys <+: itS (l.b k) (gsl l.g G k))
    (fun pre => pu (1 ≤ nV (x k) (y k) pre) :: SlB (l.b k) (x k) :: SlB (gsl l.g G k) (y k) :: SlB (l.b (1 - k)) (x (1 - k)) :: SlB (gsl l.g G (1 - k)) (y (1 - k)) :: pt b7 [.int .i64 (nV (x k) (y k) pre)] 2 :: pt b5 [.int .u64 now] 22 :: L)
    (fun j pre => pu (j = some 0) :: pu (nV (x k) (y k) pre < 1) :: SlB (l.b k) (x k) :: SlB (gsl l.g G k) (y k) :: SlB (l.b (1 - k)) (x (1 - k)) :: SlB (gsl l.g G (1 - k)) (y (1 - k)) :: pt b7 [.int .i64 0] 2 :: pt b5 [.int .u64 now] 22 :: L)
    rfl (by kernel_rfl) (fun _ => rfl) rfl (buckets_it lb bl bk l G k hk) (by refine Ent.sep ?_; refine Ent.pure (by show (1 : Int) ≤ 4096; omega) ?_; refine Ent.pick pkk ?_; refine Ent.pick pkk ?_; refine Ent.pick pkk ?_; refine Ent.pick pkk ?_; refine Ent.eq pkk (pt_eq (by rfl)) ?_; refine Ent.pick pkk ?_; exact Ent.swap (L := [_, _, _, _])) ?_ ?_ ?_
  ·
    intro E l' R pre c N hR hG
    obtain ⟨p, z, O, hpp, hz, hc01, ho, hi⟩ := item_same (x k) (y k) hG
    have hzo : BkOk z := by rw [hz]; split; exact h.x k; exact h.y k
    have hza : come z now = z := by rw [hz]; split; exact hat.x k hk; exact hat.y k hk
    have hnv := nV_snoc (x k) (y k) pre c
    have hzh : (if c = 0 then (x k).have_ else (y k).have_) = z.have_ := by rw [hz]; split <;> rfl
    rw [hzh] at hnv
    unfold Rnd
    simp only [List.cons_append, List.nil_append, pz, encI]
    rw [hpp]
    refine Hd.region ?_
    refine Hd.yv (y_assign rfl) ?_
    refine Hd.nil ?_
    refine Hd.slots [(5, _), (7, _), (8, _)] ⟨rfl, rfl, rfl, trivial⟩ ?_
    refine Hd.thenN ?_
    refine Hd.begin hR pkk ?_
    refine Hd.block ?_
    refine Hd.seq (fun K6 hK6 => ?_)
    refine Hd.heap (pu (1 ≤ nV (x k) (y k) pre) :: _) (fun q s => Ent.sep (.pick pkk .same) q s) ?_
    refine Hd.pure (fun hge => ?_)
    refine Hd.heap (BkP p z :: O :: _) (fun q s => ho _ q (Ent.sep (.pick pkk (.pick pkk .same)) q s)) ?_
    refine Hd.drawsH ([pt b7 [.int .i64 (nV (x k) (y k) pre)] 2, pt b5 [.int .u64 now] 22]) (fun j => !([5].contains j)) mixed ?_
    simp only [List.length, Nat.zero_add, Nat.reduceAdd]
    first | (refine Hd.takeH 0 rfl (by kernel_rfl) (by kernel_rfl) (by kernel_rfl) (by kernel_rfl) (y_load1 ag2 rfl (Rd.pt1 pkk (by (first | rfl)))) (fun _ _ => rfl) (Ent.sep enn) ?_) | (refine Hd.takeH 0 rfl (by kernel_rfl) (by kernel_rfl) (by kernel_rfl) (by kernel_rfl) (y_load1 ag2 rfl (Rd.seg1 pkk (by (first | rfl)))) (fun _ _ => rfl) (Ent.sep enn) ?_) | (refine Hd.takeH 0 rfl (by kernel_rfl) (by kernel_rfl) (by kernel_rfl) (by kernel_rfl) (y_loadR1 ag2 rfl (by (first | exact RdS.own pkk)) (by (first | rfl))) (fun _ _ => rfl) (Ent.sep enn) ?_)
    refine Hd.takeH 1 rfl (by kernel_rfl) (by kernel_rfl) (by kernel_rfl) (by kernel_rfl) (y_move rfl) (fun _ _ => rfl) (Ent.sep enn) ?_
    first | (refine Hd.takeH 2 rfl (by kernel_rfl) (by kernel_rfl) (by kernel_rfl) (by kernel_rfl) (y_load1 ag22 rfl (Rd.pt1 pkk (by (first | rfl)))) (fun _ _ => rfl) (Ent.sep enn) ?_) | (refine Hd.takeH 2 rfl (by kernel_rfl) (by kernel_rfl) (by kernel_rfl) (by kernel_rfl) (y_load1 ag22 rfl (Rd.seg1 pkk (by (first | rfl)))) (fun _ _ => rfl) (Ent.sep enn) ?_) | (refine Hd.takeH 2 rfl (by kernel_rfl) (by kernel_rfl) (by kernel_rfl) (by kernel_rfl) (y_loadR1 ag22 rfl (by (first | exact RdS.own pkk)) (by (first | rfl))) (fun _ _ => rfl) (Ent.sep enn) ?_)
    refine Hd.onlyH 3 rfl (by kernel_rfl) ?_
    refine Hd.callE rfl fk43 (have_ct _ p z hzo now hn) (Ent.sep enn) ?_
    intro _
    rw [hza]
    refine Hd.nil ?_
    refine Hd.thenN ?_
    refine Hd.heldK (J := (fun j => !([5].contains j))) (i := 3) (Ent.sep enn) ?_
    refine Hd.takeH 4 rfl (by kernel_rfl) (by kernel_rfl) (by kernel_rfl) (by kernel_rfl) (y_min rfl rfl) (fun _ _ => rfl) (Ent.sep enn) ?_
    refine Hd.onlyH 5 rfl (by kernel_rfl) ?_
    first | (refine Hd.store1 sz2 rfl rfl rfl pkk (by first | decide | (simp; done) | (simp; omega)) ?_) | (refine Hd.storeG1 sz2 rfl rfl rfl pkk (by first | decide | (simp; done) | (simp; omega)) ?_) | (refine Hd.storeO1 sz2 rfl rfl rfl pkk (by first | omega | (simp; done) | (simp; omega)) ?_)
    try simp only [List.set_cons_zero, List.set_cons_succ]
    refine Hd.nil ?_
    refine Hd.thenN ?_
    refine Hd.heldN (J := (fun j => !([5].contains j))) (i := 5) rfl ?_
    refine Hd.endH (by kernel_rfl) ?_
    rw [← hnv]
    refine Hd.slots [(7, _)] ⟨rfl, trivial⟩ ?_
    refine Hd.toK hK6 ?_
    refine Hd.seq (fun K7 hK7 => ?_)
    refine Hd.region ?_
    first | (refine Hd.yv (y_load1 ag2 rfl (Rd.pt1 pkk (by (first | rfl)))) ?_) | (refine Hd.yv (y_load1 ag2 rfl (Rd.seg1 pkk (by (first | rfl)))) ?_) | (refine Hd.yv (y_loadR1 ag2 rfl (by (first | exact RdS.own pkk)) (by (first | rfl))) ?_)
    refine Hd.yv (y_lss rfl rfl) ?_
    refine Hd.nil ?_
    refine Hd.slots [(7, _), (19, _)] ⟨rfl, rfl, trivial⟩ ?_
    refine Hd.toK hK7 ?_
    refine Hd.cond rfl (fun hc0 => ?_) (fun hc0 => ?_)
    ·
      try simp only [decide_eq_true_eq, decide_eq_false_iff_not, Bool.and_eq_true, Bool.or_eq_true, Bool.and_eq_false_iff, Bool.or_eq_false_iff, Bool.not_eq_true', Bool.not_eq_false', Bool.not_eq_true, Bool.not_eq_false, Int.not_lt, Int.not_le, Decidable.not_not, ne_eq] at hc0
      refine Hd.seq (fun K8 hK8 => ?_)
      refine Hd.region ?_
      first | (refine Hd.store1 sz2 rfl rfl rfl pkk (by first | decide | (simp; done) | (simp; omega)) ?_) | (refine Hd.storeG1 sz2 rfl rfl rfl pkk (by first | decide | (simp; done) | (simp; omega)) ?_) | (refine Hd.storeO1 sz2 rfl rfl rfl pkk (by first | omega | (simp; done) | (simp; omega)) ?_)
      try simp only [List.set_cons_zero, List.set_cons_succ]
      refine Hd.nil ?_
      refine Hd.slots [(7, _)] ⟨rfl, trivial⟩ ?_
      refine Hd.toK hK8 ?_
      refine Hd.exit ?_
      refine Hd.inBexit' rfl ?_
      clear hK1 hK2 hK3 hK4 hK5 hK6 hK7 hK8
      refine Hd.reX ?_
      simp only [List.cons_append, List.nil_append]
      intro q s
      have s1 : sep (BkP p z :: O :: _) q := Ent.sep (.pick pkk (.pick pkk .same)) q s
      have s2 := hi _ q s1
      exact Ent.sep (.pick pkk (.pure (by first | trivial | rfl) (.pure (by omega) enn))) q s2
    ·
      try simp only [decide_eq_true_eq, decide_eq_false_iff_not, Bool.and_eq_true, Bool.or_eq_true, Bool.and_eq_false_iff, Bool.or_eq_false_iff, Bool.not_eq_true', Bool.not_eq_false', Bool.not_eq_true, Bool.not_eq_false, Int.not_lt, Int.not_le, Decidable.not_not, ne_eq] at hc0
      refine Hd.skip ?_
      refine Hd.inB ?_
      clear hK1 hK2 hK3 hK4 hK5 hK6 hK7
      refine Hd.reN ?_
      simp only [List.cons_append, List.nil_append]
      intro q s
      have s1 : sep (BkP p z :: O :: _) q := Ent.sep (.pick pkk (.pick pkk .same)) q s
      have s2 := hi _ q s1
      exact Ent.sep (.pick pkk (.pure (by omega) enn)) q s2
  ·
    intro r0 ys hys
    obtain rfl : ys = itS (l.b k) (gsl l.g G k) := hys
    simp only [List.cons_append, List.nil_append]
    refine Hd.pure (fun hge => ?_)
    try simp only [List.cons_append, List.nil_append]
    refine Hd.inB ?_
    refine Hd.toK hK4 ?_
    refine Hd.seq (fun K9 hK9 => ?_)
    refine Hd.region ?_
    first | (refine Hd.yv (y_load1 ag2 rfl (Rd.pt1 pkk (by (first | rfl)))) ?_) | (refine Hd.yv (y_load1 ag2 rfl (Rd.seg1 pkk (by (first | rfl)))) ?_) | (refine Hd.yv (y_loadR1 ag2 rfl (by (first | exact RdS.own pkk)) (by (first | rfl))) ?_)
    refine Hd.yv (y_assign rfl) ?_
    refine Hd.nil ?_
    refine Hd.slots [(6, _)] ⟨rfl, trivial⟩ ?_
    refine Hd.toK hK9 ?_
    refine Hd.ret ?_
    refine Hd.scRet ?_
    clear hK1 hK2 hK3 hK4 hK5 hK9
    rw [show lvS (l.b k) (gsl l.g G k) (x k) (y k) = nV (x k) (y k) (itS (l.b k) (gsl l.g G k)) from if_neg (by omega)]
    exact Hd.retM (fun a fr => Lv.mark pkk (Lv.end1 fr rfl () rfl (fun q s => lg_l hk q (Ent.sep enn q s))))
  ·
    rintro r0_0 (_ | id0) pre0 hG0
    ·
      exact Hd.absurd (by first | exact id | simp)
    ·
      by_cases hid0 : id0 = 0
      · subst hid0
        simp only [List.cons_append, List.nil_append]
        refine Hd.pure (fun _ => ?_)
        refine Hd.pure (fun hlt => ?_)
        try simp only [List.cons_append, List.nil_append]
        refine Hd.exit ?_
        refine Hd.inBexit ?_
        refine Hd.toK hK4 ?_
        refine Hd.seq (fun K10 hK10 => ?_)
        refine Hd.region ?_
        first | (refine Hd.yv (y_load1 ag2 rfl (Rd.pt1 pkk (by (first | rfl)))) ?_) | (refine Hd.yv (y_load1 ag2 rfl (Rd.seg1 pkk (by (first | rfl)))) ?_) | (refine Hd.yv (y_loadR1 ag2 rfl (by (first | exact RdS.own pkk)) (by (first | rfl))) ?_)
        refine Hd.yv (y_assign rfl) ?_
        refine Hd.nil ?_
        refine Hd.slots [(6, _)] ⟨rfl, trivial⟩ ?_
        refine Hd.toK hK10 ?_
        refine Hd.ret ?_
        refine Hd.scRet ?_
        clear hK1 hK2 hK3 hK4 hK5 hK10
        obtain ⟨t, ht⟩ := hG0
        have hle := nV_le (x k) (y k) pre0 t
        rw [ht] at hle
        rw [show lvS (l.b k) (gsl l.g G k) (x k) (y k) = 0 from if_pos (by omega)]
        exact Hd.retM (fun a fr => Lv.mark pkk (Lv.end1 fr rfl () rfl (fun q s => lg_l hk q (Ent.sep enn q s))))
      · exact Hd.absurd (by first | exact hid0 | (simpa using hid0))
set_option maxHeartbeats 2000000 in
theorem leaves_ct (L : List SP) (lb : Nat) (l : LmA) (G : GrA) (x y : Nat → BkA) (h : ConOk x y) (now : Int) (hn : InK .u64 now) : Ct Tryd.prog 14 #[.pointer (some ⟨lb, 0, none⟩), .int .u64 now] (LgL lb l G x y L) (fun _ : Unit => .tuple #[.int .i64 (lvS (l.b 0) (gsl l.g G 0) (cmA now x 0) (cmA now y 0)), .int .i64 (lvS (l.b 1) (gsl l.g G 1) (cmA now x 1) (cmA now y 1))]) (fun _ : Unit => LgL lb l G (cmA now x) (cmA now y) L) := by
  refine Ct.of (vs := [.pointer (some ⟨lb, 0, none⟩), .int .u64 now]) Tryd.func14 rfl rfl [(0, .pointer (some ⟨lb, 0, none⟩)), (1, .int .u64 now)] (by repeat (first | exact trivial | refine ⟨rfl, ?_⟩)) ?_
  intro E
  show Hd E 17 _ _ _ _
  refine Hd.seq (fun K1 hK1 => ?_)
  refine Hd.region ?_
  refine Hd.yv (y_assign rfl) ?_
  refine Hd.yv (y_assign rfl) ?_
  refine Hd.nil ?_
  refine Hd.slots [(0, _), (1, _)] ⟨rfl, rfl, trivial⟩ ?_
  refine Hd.toK hK1 ?_
  refine Hd.seq (fun K2 hK2 => ?_)
  refine Hd.seq (fun K3 hK3 => ?_)
  refine Hd.region ?_
  refine Hd.yv (y_move rfl) ?_
  refine Hd.callE rfl fk30 (lnone_ct _ lb l) (Ent.sep enn) ?_
  intro _
  refine Hd.nil ?_
  refine Hd.slots [(0, _), (1, _), (7, _)] ⟨rfl, rfl, rfl, trivial⟩ ?_
  refine Hd.toK hK3 ?_
  refine Hd.condF rfl ?_
  refine Hd.skip ?_
  refine Hd.toK hK2 ?_
  refine Hd.seq (fun K4 hK4 => ?_)
  refine Hd.region ?_
  refine Hd.yv (y_move rfl) ?_
  refine Hd.yv (y_move rfl) ?_
  refine Hd.callE rfl fk39 (lcomes_ct _ lb l G x y h now hn) (Ent.sep enn) ?_
  intro _
  refine Hd.nil ?_
  refine Hd.slots [(0, _), (1, _)] ⟨rfl, rfl, trivial⟩ ?_
  refine Hd.toK hK4 ?_
  refine Hd.seq (fun K5 hK5 => ?_)
  refine Hd.region ?_
  refine Hd.yv (y_move rfl) ?_
  refine Hd.yv (y_move rfl) ?_
  refine Hd.callE rfl fk40 (leave_ct _ lb l G (cmA now x) (cmA now y) (con_come h hn) 0 (by decide) now hn (at_come h hn)) (Ent.sep enn) ?_
  intro _
  refine Hd.yv (y_move rfl) ?_
  refine Hd.yv (y_move rfl) ?_
  refine Hd.callE rfl fk40 (leave_ct _ lb l G (cmA now x) (cmA now y) (con_come h hn) 1 (by decide) now hn (at_come h hn)) (Ent.sep enn) ?_
  intro _
  refine Hd.yv (y_assign rfl) ?_
  refine Hd.yv (y_assign rfl) ?_
  refine Hd.nil ?_
  refine Hd.slots [(4, _), (5, _)] ⟨rfl, rfl, trivial⟩ ?_
  refine Hd.toK hK5 ?_
  refine Hd.ret ?_
  clear hK1 hK2 hK3 hK4 hK5
  exact Hd.ret2 rfl () rfl rfl (by first | rfl | (simp only [*]; done) | (simp [*]; done)) (Ent.sep enn)
end Lm
end Go.Proofs.YtmpemhbfgbochaaDoor
