/-
  Timers: Left, Over, Wait; what is due.
-/
import Derived.Test.YtdjoofidicoimaaTi2
namespace Go.Proofs.Ytdjoofidicoimaa
set_option linter.unusedSimpArgs false
set_option linter.unusedVariables false
set_option linter.unnecessarySimpa false
open Go.RX Fx Hp Cm
namespace Tm
set_option maxRecDepth 8000
def leftV (o : Option It) (now : Int) : Int × Bool := match o with
  | none => (0, false)
  | some x => (lf now x.at_, true)
set_option maxHeartbeats 2000000 in
theorem tleft_ct (L : List SP) (b : Nat) (qs : List Q) (s : List It) (nx : Int) (af : AF) (lim : Int) (id now : Int) (hn : InK .u64 now) : Ct Try.prog 18 #[.pointer (some ⟨b, 0, none⟩), .int .i64 id, .int .u64 now] (TmA b qs s nx af lim :: L) (fun _ : Unit => .tuple #[.int .u64 (leftV (findI id s) now).1, .bool (leftV (findI id s) now).2]) (fun _ : Unit => TmA b qs s nx af lim :: L) := by
  refine Ct.of (vs := [.pointer (some ⟨b, 0, none⟩), .int .i64 id, .int .u64 now]) Try.func18 rfl rfl [(0, .pointer (some ⟨b, 0, none⟩)), (1, .int .i64 id), (2, .int .u64 now)] (by repeat (first | exact trivial | refine ⟨rfl, ?_⟩)) ?_
  intro E
  show Hd E 27 _ _ _ _
  refine Hd.exs .here ?_
  intro t
  simp only [List.cons_append, List.nil_append]
  refine Hd.pure (fun hq => ?_)
  refine Hd.seq (fun K1 hK1 => ?_)
  refine Hd.region ?_
  refine Hd.yv (y_assign rfl) ?_
  refine Hd.yv (y_assign rfl) ?_
  refine Hd.nil ?_
  refine Hd.slots [(0, _), (1, _), (2, _)] ⟨rfl, rfl, rfl, trivial⟩ ?_
  refine Hd.toK hK1 ?_
  refine Hd.seq (fun K2 hK2 => ?_)
  refine Hd.seq (fun K3 hK3 => ?_)
  refine Hd.region ?_
  refine Hd.yv (y_move rfl) ?_
  refine Hd.callE rfl fk34 (tnone_ct _ b t lim) (Ent.sep enn) ?_
  intro _
  refine Hd.nil ?_
  refine Hd.slots [(0, _), (1, _), (2, _), (11, _)] ⟨rfl, rfl, rfl, rfl, trivial⟩ ?_
  refine Hd.toK hK3 ?_
  refine Hd.condF rfl ?_
  refine Hd.skip ?_
  refine Hd.toK hK2 ?_
  refine Hd.seq (fun K4 hK4 => ?_)
  refine Hd.region ?_
  refine Hd.yv (y_move rfl) ?_
  refine Hd.yv (y_nilp rfl) ?_
  first | (refine Hd.yv (y_field' (q := 0) (ft := 62) Try.underlying66 rfl sz62 rfl rfl) ?_) | (refine Hd.yv (y_fieldR (q := 0) (ft := 62) Try.underlying66 rfl sz62 rfl rfl) ?_)
  first | (refine Hd.yv (y_load1 ag62 rfl (Rd.pt1 pkk (by (first | rfl)))) ?_) | (refine Hd.yv (y_load1 ag62 rfl (Rd.seg1 pkk (by (first | rfl)))) ?_) | (refine Hd.yv (y_loadR1 ag62 rfl (by (first | exact RdS.own pkk)) (by (first | rfl))) ?_)
  refine Hd.yv (y_move rfl) ?_
  refine Hd.callE rfl fk44 (cfind_ct _ t.o qs s nx id) (Ent.sep enn) ?_
  intro _
  refine Hd.yv (y_move rfl) ?_
  refine Hd.yv (y_extract rfl rfl) ?_
  refine Hd.yv (y_extract rfl rfl) ?_
  refine Hd.alloc zr69 (fun b8 => ?_)
  refine Hd.storeA (us := Hp.encI (findV (findI id s)).1) sz69 rfl rfl rfl (encI_one _) pkk (by exact rfl) ?_
  refine Hd.yv (y_assign rfl) ?_
  refine Hd.nil ?_
  refine Hd.slots [(2, _), (8, _), (9, _)] ⟨rfl, rfl, rfl, trivial⟩ ?_
  refine Hd.toK hK4 ?_
  refine Hd.seq (fun K5 hK5 => ?_)
  refine Hd.seq (fun K6 hK6 => ?_)
  refine Hd.region ?_
  refine Hd.yv (y_move rfl) ?_
  refine Hd.yv (y_not rfl) ?_
  refine Hd.nil ?_
  refine Hd.slots [(2, _), (8, _), (22, _)] ⟨rfl, rfl, rfl, trivial⟩ ?_
  refine Hd.toK hK6 ?_
  refine Hd.cond rfl (fun hc1 => ?_) (fun hc1 => ?_)
  ·
    try simp only [decide_eq_true_eq, decide_eq_false_iff_not, Bool.and_eq_true, Bool.or_eq_true, Bool.and_eq_false_iff, Bool.or_eq_false_iff, Bool.not_eq_true', Bool.not_eq_false', Bool.not_eq_true, Bool.not_eq_false, Int.not_lt, Int.not_le, Decidable.not_not, ne_eq] at hc1
    refine Hd.seq (fun K7 hK7 => ?_)
    refine Hd.region ?_
    refine Hd.yv (y_assign rfl) ?_
    refine Hd.yv (y_assign rfl) ?_
    refine Hd.nil ?_
    refine Hd.slots [(6, _), (7, _)] ⟨rfl, rfl, trivial⟩ ?_
    refine Hd.toK hK7 ?_
    refine Hd.ret ?_
    refine Hd.thenRet ?_
    clear hK1 hK2 hK3 hK4 hK5 hK6 hK7
    have hfi : findI id s = none := by
      cases h : findI id s with
      | none => rfl
      | some x => rw [h] at hc1; simp [findV] at hc1
    rw [hfi]
    exact Hd.ret2 rfl () rfl rfl rfl (Ent.sep (.ex t (.pure hq enn)))
  ·
    try simp only [decide_eq_true_eq, decide_eq_false_iff_not, Bool.and_eq_true, Bool.or_eq_true, Bool.and_eq_false_iff, Bool.or_eq_false_iff, Bool.not_eq_true', Bool.not_eq_false', Bool.not_eq_true, Bool.not_eq_false, Int.not_lt, Int.not_le, Decidable.not_not, ne_eq] at hc1
    obtain ⟨x, hfx⟩ : ∃ x, findI id s = some x := by
      cases h : findI id s with
      | none => rw [h] at hc1; simp [findV] at hc1
      | some x => exact ⟨x, rfl⟩
    have hx := hq.1 x (findI_id hfx).2
    rw [hfx]
    refine Hd.skip ?_
    refine Hd.toK hK5 ?_
    refine Hd.seq (fun K8 hK8 => ?_)
    refine Hd.region ?_
    refine Hd.yv (y_move rfl) ?_
    first | (refine Hd.yv (y_field' (q := 1) (ft := 23) Try.underlying69 rfl sz23 rfl rfl) ?_) | (refine Hd.yv (y_fieldR (q := 1) (ft := 23) Try.underlying69 rfl sz23 rfl rfl) ?_)
    first | (refine Hd.yv (y_load1 ag23 rfl (Rd.pt1 pkk (by (first | rfl)))) ?_) | (refine Hd.yv (y_load1 ag23 rfl (Rd.seg1 pkk (by (first | rfl)))) ?_) | (refine Hd.yv (y_loadR1 ag23 rfl (by (first | exact RdS.own pkk)) (by (first | rfl))) ?_)
    refine Hd.callE rfl fk37 (left_ct _ now x.at_ hn hx) (Ent.sep enn) ?_
    intro _
    refine Hd.yv (y_assign rfl) ?_
    refine Hd.yv (y_assign rfl) ?_
    refine Hd.nil ?_
    refine Hd.slots [(6, _), (7, _)] ⟨rfl, rfl, trivial⟩ ?_
    refine Hd.toK hK8 ?_
    refine Hd.ret ?_
    clear hK1 hK2 hK3 hK4 hK5 hK6 hK8
    exact Hd.ret2 rfl () rfl rfl (by rw [hfx]; rfl) (Ent.sep (.ex t (.pure hq enn)))
set_option maxHeartbeats 2000000 in
theorem tover_ct (L : List SP) (b : Nat) (qs : List Q) (s : List It) (nx : Int) (af : AF) (lim : Int) (now : Int) : Ct Try.prog 17 #[.pointer (some ⟨b, 0, none⟩), .int .u64 now] (TmA b qs s nx af lim :: L) (fun _ : Unit => .bool (decide (lim ≠ NV) && decide (lim ≤ now))) (fun _ : Unit => TmA b qs s nx af lim :: L) := by
  refine Ct.of (vs := [.pointer (some ⟨b, 0, none⟩), .int .u64 now]) Try.func17 rfl rfl [(0, .pointer (some ⟨b, 0, none⟩)), (1, .int .u64 now)] (by repeat (first | exact trivial | refine ⟨rfl, ?_⟩)) ?_
  intro E
  show Hd E 23 _ _ _ _
  refine Hd.exs .here ?_
  intro t
  simp only [List.cons_append, List.nil_append]
  refine Hd.pure (fun hq => ?_)
  refine Hd.seq (fun K1 hK1 => ?_)
  refine Hd.region ?_
  refine Hd.yv (y_assign rfl) ?_
  refine Hd.nil ?_
  refine Hd.slots [(0, _), (1, _)] ⟨rfl, rfl, trivial⟩ ?_
  refine Hd.toK hK1 ?_
  refine Hd.seq (fun K2 hK2 => ?_)
  refine Hd.region ?_
  refine Hd.yv (y_move rfl) ?_
  refine Hd.callE rfl fk34 (tnone_ct _ b t lim) (Ent.sep enn) ?_
  intro _
  refine Hd.yv (y_not rfl) ?_
  refine Hd.yv (y_move rfl) ?_
  refine Hd.yg rfl rfl (y_move rfl) ?_
  refine Hd.yg rfl rfl (y_nilp rfl) ?_
  first | (refine Hd.yg rfl rfl (y_field' (q := 2) (ft := 23) Try.underlying66 rfl sz23 rfl rfl) ?_) | (refine Hd.yg rfl rfl (y_fieldR (q := 2) (ft := 23) Try.underlying66 rfl sz23 rfl rfl) ?_)
  first | (refine Hd.yg rfl rfl (y_load1 ag23 rfl (Rd.pt1 pkk (by (first | rfl)))) ?_) | (refine Hd.yg rfl rfl (y_load1 ag23 rfl (Rd.seg1 pkk (by (first | rfl)))) ?_) | (refine Hd.yg rfl rfl (y_loadR1 ag23 rfl (by (first | exact RdS.own pkk)) (by (first | rfl))) ?_)
  refine Hd.yg rfl rfl (y_neq rfl rfl) ?_
  first | (refine Hd.yv (y_pickT rfl rfl) ?_) | (refine Hd.yv (y_pickF rfl rfl) ?_) | (refine Hd.yv (y_pickb rfl rfl rfl) ?_) | (refine Hd.yv (y_pick rfl rfl rfl) ?_)
  refine Hd.yv (y_move rfl) ?_
  apply Hd.andg 7 15 22 [] rfl trivial
  · intro hg1_15
    try simp only [decide_eq_true_eq, decide_eq_false_iff_not, Bool.and_eq_true, Bool.or_eq_true, Bool.and_eq_false_iff, Bool.or_eq_false_iff, Bool.not_eq_true', Bool.not_eq_false', Bool.not_eq_true, Bool.not_eq_false, Int.not_lt, Int.not_le, Decidable.not_not, ne_eq] at hg1_15
    simp only [List.take]
    refine Hd.yg rfl rfl (y_move rfl) ?_
    refine Hd.yg rfl rfl (y_nilp rfl) ?_
    first | (refine Hd.yg rfl rfl (y_field' (q := 2) (ft := 23) Try.underlying66 rfl sz23 rfl rfl) ?_) | (refine Hd.yg rfl rfl (y_fieldR (q := 2) (ft := 23) Try.underlying66 rfl sz23 rfl rfl) ?_)
    first | (refine Hd.yg rfl rfl (y_load1 ag23 rfl (Rd.pt1 pkk (by (first | rfl)))) ?_) | (refine Hd.yg rfl rfl (y_load1 ag23 rfl (Rd.seg1 pkk (by (first | rfl)))) ?_) | (refine Hd.yg rfl rfl (y_loadR1 ag23 rfl (by (first | exact RdS.own pkk)) (by (first | rfl))) ?_)
    refine Hd.yg rfl rfl (y_move rfl) ?_
    refine Hd.yg rfl rfl (y_leq rfl rfl) ?_
    first | (refine Hd.yv (y_pickT rfl rfl) ?_) | (refine Hd.yv (y_pickF rfl rfl) ?_) | (refine Hd.yv (y_pickb rfl rfl rfl) ?_) | (refine Hd.yv (y_pick rfl rfl rfl) ?_)
    refine Hd.nil ?_
    exact Hd.mend (by repeat (first | exact trivial | refine ⟨rfl, ?_⟩)) (Ent.sep enn)
  · intro hg1_15
    try simp only [decide_eq_true_eq, decide_eq_false_iff_not, Bool.and_eq_true, Bool.or_eq_true, Bool.and_eq_false_iff, Bool.or_eq_false_iff, Bool.not_eq_true', Bool.not_eq_false', Bool.not_eq_true, Bool.not_eq_false, Int.not_lt, Int.not_le, Decidable.not_not, ne_eq] at hg1_15
    simp only [List.take]
    refine Hd.ng rfl rfl rfl ?_
    refine Hd.ng rfl rfl rfl ?_
    refine Hd.ng rfl rfl rfl ?_
    refine Hd.ng rfl rfl rfl ?_
    refine Hd.ng rfl rfl rfl ?_
    refine Hd.ng rfl rfl rfl ?_
    first | (refine Hd.yv (y_pickT rfl rfl) ?_) | (refine Hd.yv (y_pickF rfl rfl) ?_) | (refine Hd.yv (y_pickb rfl rfl rfl) ?_) | (refine Hd.yv (y_pick rfl rfl rfl) ?_)
    refine Hd.nil ?_
    exact Hd.mend (by repeat (first | exact trivial | refine ⟨rfl, ?_⟩)) (Ent.sep enn)
  simp only [List.drop]
  refine Hd.yv (y_assign rfl) ?_
  refine Hd.nil ?_
  refine Hd.slots [(4, _)] ⟨rfl, trivial⟩ ?_
  refine Hd.toK hK2 ?_
  refine Hd.ret ?_
  clear hK1 hK2
  exact Hd.ret1 rfl () rfl (Ent.sep (.ex t (.pure hq enn)))
/-- what is left until the first deadline, or the limit -/
def wl (s : List It) (lim now : Int) : Int := if (topI s).2 then min (lf now lim) (lf now (topI s).1.at_) else lf now lim
def waitV (s : List It) (lim now : Int) (busy : Bool) : Int × Bool := if busy then (0, false) else if wl s lim now = NV then (0, true) else (min (wl s lim now) 1048576, false)
set_option maxHeartbeats 2000000 in
theorem twait_ct (L : List SP) (b : Nat) (qs : List Q) (s : List It) (nx : Int) (af : AF) (lim : Int) (now : Int) (hn : InK .u64 now) (busy : Bool) : Ct Try.prog 14 #[.pointer (some ⟨b, 0, none⟩), .int .u64 now, .bool busy] (TmA b qs s nx af lim :: L) (fun _ : Unit => .tuple #[.int .u64 (waitV s lim now busy).1, .bool (waitV s lim now busy).2]) (fun _ : Unit => TmA b qs s nx af lim :: L) := by
  refine Ct.of (vs := [.pointer (some ⟨b, 0, none⟩), .int .u64 now, .bool busy]) Try.func14 rfl rfl [(0, .pointer (some ⟨b, 0, none⟩)), (1, .int .u64 now), (2, .bool busy)] (by repeat (first | exact trivial | refine ⟨rfl, ?_⟩)) ?_
  intro E
  show Hd E 42 _ _ _ _
  refine Hd.exs .here ?_
  intro t
  simp only [List.cons_append, List.nil_append]
  refine Hd.pure (fun hq => ?_)
  refine Hd.seq (fun K1 hK1 => ?_)
  refine Hd.region ?_
  refine Hd.yv (y_assign rfl) ?_
  refine Hd.yv (y_assign rfl) ?_
  refine Hd.nil ?_
  refine Hd.slots [(0, _), (1, _), (2, _)] ⟨rfl, rfl, rfl, trivial⟩ ?_
  refine Hd.toK hK1 ?_
  refine Hd.seq (fun K2 hK2 => ?_)
  refine Hd.seq (fun K3 hK3 => ?_)
  refine Hd.region ?_
  refine Hd.yv (y_move rfl) ?_
  refine Hd.callE rfl fk34 (tnone_ct _ b t lim) (Ent.sep enn) ?_
  intro _
  refine Hd.yv (y_move rfl) ?_
  refine Hd.yg rfl rfl (y_move rfl) ?_
  first | (refine Hd.yv (y_pickT rfl rfl) ?_) | (refine Hd.yv (y_pickF rfl rfl) ?_) | (refine Hd.yv (y_pickb rfl rfl rfl) ?_) | (refine Hd.yv (y_pick rfl rfl rfl) ?_)
  refine Hd.nil ?_
  refine Hd.slots [(0, _), (1, _), (15, _)] ⟨rfl, rfl, rfl, trivial⟩ ?_
  refine Hd.toK hK3 ?_
  refine Hd.cond rfl (fun hc0 => ?_) (fun hc0 => ?_)
  ·
    try simp only [decide_eq_true_eq, decide_eq_false_iff_not, Bool.and_eq_true, Bool.or_eq_true, Bool.and_eq_false_iff, Bool.or_eq_false_iff, Bool.not_eq_true', Bool.not_eq_false', Bool.not_eq_true, Bool.not_eq_false, Int.not_lt, Int.not_le, Decidable.not_not, ne_eq] at hc0
    refine Hd.seq (fun K4 hK4 => ?_)
    refine Hd.region ?_
    refine Hd.yv (y_assign rfl) ?_
    refine Hd.yv (y_assign rfl) ?_
    refine Hd.nil ?_
    refine Hd.slots [(6, _), (7, _)] ⟨rfl, rfl, trivial⟩ ?_
    refine Hd.toK hK4 ?_
    refine Hd.ret ?_
    refine Hd.thenRet ?_
    clear hK1 hK2 hK3 hK4
    rw [show waitV s lim now busy = (0, false) by unfold waitV; rw [if_pos hc0]]
    exact Hd.ret2 rfl () rfl rfl rfl (Ent.sep (.ex t (.pure hq enn)))
  ·
    try simp only [decide_eq_true_eq, decide_eq_false_iff_not, Bool.and_eq_true, Bool.or_eq_true, Bool.and_eq_false_iff, Bool.or_eq_false_iff, Bool.not_eq_true', Bool.not_eq_false', Bool.not_eq_true, Bool.not_eq_false, Int.not_lt, Int.not_le, Decidable.not_not, ne_eq] at hc0
    refine Hd.skip ?_
    refine Hd.toK hK2 ?_
    refine Hd.seq (fun K5 hK5 => ?_)
    refine Hd.region ?_
    refine Hd.yv (y_move rfl) ?_
    refine Hd.yv (y_move rfl) ?_
    refine Hd.yv (y_nilp rfl) ?_
    first | (refine Hd.yv (y_field' (q := 2) (ft := 23) Try.underlying66 rfl sz23 rfl rfl) ?_) | (refine Hd.yv (y_fieldR (q := 2) (ft := 23) Try.underlying66 rfl sz23 rfl rfl) ?_)
    first | (refine Hd.yv (y_load1 ag23 rfl (Rd.pt1 pkk (by (first | rfl)))) ?_) | (refine Hd.yv (y_load1 ag23 rfl (Rd.seg1 pkk (by (first | rfl)))) ?_) | (refine Hd.yv (y_loadR1 ag23 rfl (by (first | exact RdS.own pkk)) (by (first | rfl))) ?_)
    refine Hd.callE rfl fk37 (left_ct _ now lim hn hq.2) (Ent.sep enn) ?_
    intro _
    refine Hd.yv (y_assign rfl) ?_
    refine Hd.nil ?_
    refine Hd.slots [(0, _), (1, _), (8, _)] ⟨rfl, rfl, rfl, trivial⟩ ?_
    refine Hd.toK hK5 ?_
    refine Hd.cutK (ι := Unit) [] (fun _ => [(8, .int .u64 (wl s lim now))]) (fun _ => TmL b t qs s nx af lim L) ?_ ?_ trivial
    ·
      refine Hd.seq (fun K6 hK6 => ?_)
      refine Hd.region ?_
      refine Hd.yv (y_move rfl) ?_
      refine Hd.yv (y_nilp rfl) ?_
      first | (refine Hd.yv (y_field' (q := 0) (ft := 62) Try.underlying66 rfl sz62 rfl rfl) ?_) | (refine Hd.yv (y_fieldR (q := 0) (ft := 62) Try.underlying66 rfl sz62 rfl rfl) ?_)
      first | (refine Hd.yv (y_load1 ag62 rfl (Rd.pt1 pkk (by (first | rfl)))) ?_) | (refine Hd.yv (y_load1 ag62 rfl (Rd.seg1 pkk (by (first | rfl)))) ?_) | (refine Hd.yv (y_loadR1 ag62 rfl (by (first | exact RdS.own pkk)) (by (first | rfl))) ?_)
      refine Hd.callE rfl fk38 (ctop_ct _ t.o qs s nx) (Ent.sep enn) ?_
      intro _
      refine Hd.yv (y_move rfl) ?_
      refine Hd.yv (y_extract rfl rfl) ?_
      refine Hd.yv (y_extract rfl rfl) ?_
      refine Hd.alloc zr69 (fun b9 => ?_)
      refine Hd.storeA (us := Hp.encI (topI s).1) sz69 rfl rfl rfl (encI_one _) pkk (by exact rfl) ?_
      refine Hd.yv (y_assign rfl) ?_
      refine Hd.nil ?_
      refine Hd.slots [(1, _), (8, _), (9, _), (10, _)] ⟨rfl, rfl, rfl, rfl, trivial⟩ ?_
      refine Hd.toK hK6 ?_
      refine Hd.seq (fun K7 hK7 => ?_)
      refine Hd.region ?_
      refine Hd.yv (y_move rfl) ?_
      refine Hd.nil ?_
      refine Hd.slots [(1, _), (8, _), (9, _), (30, _)] ⟨rfl, rfl, rfl, rfl, trivial⟩ ?_
      refine Hd.toK hK7 ?_
      refine Hd.cond rfl (fun hc1 => ?_) (fun hc1 => ?_)
      ·
        try simp only [decide_eq_true_eq, decide_eq_false_iff_not, Bool.and_eq_true, Bool.or_eq_true, Bool.and_eq_false_iff, Bool.or_eq_false_iff, Bool.not_eq_true', Bool.not_eq_false', Bool.not_eq_true, Bool.not_eq_false, Int.not_lt, Int.not_le, Decidable.not_not, ne_eq] at hc1
        have hx : InK .u64 (topI s).1.at_ := by
          cases s with
          | nil => simp [topI] at hc1
          | cons x r => exact hq.1 x List.mem_cons_self
        refine Hd.region ?_
        refine Hd.yv (y_move rfl) ?_
        refine Hd.yv (y_move rfl) ?_
        first | (refine Hd.yv (y_field' (q := 1) (ft := 23) Try.underlying69 rfl sz23 rfl rfl) ?_) | (refine Hd.yv (y_fieldR (q := 1) (ft := 23) Try.underlying69 rfl sz23 rfl rfl) ?_)
        first | (refine Hd.yv (y_load1 ag23 rfl (Rd.pt1 pkk (by (first | rfl)))) ?_) | (refine Hd.yv (y_load1 ag23 rfl (Rd.seg1 pkk (by (first | rfl)))) ?_) | (refine Hd.yv (y_loadR1 ag23 rfl (by (first | exact RdS.own pkk)) (by (first | rfl))) ?_)
        refine Hd.callE rfl fk37 (left_ct _ now (topI s).1.at_ hn hx) (Ent.sep enn) ?_
        intro _
        refine Hd.bslice (vs := [(0, _), (1, _)]) rfl (by first | exact bs14_36 .. | kernel_rfl) (fun b36 => ?_)
        refine Hd.callE rfl fk39 (least_ct _ b36 (lf now lim) (lf now (topI s).1.at_) (lf_in hn hq.2) (lf_in hn hx)) (Ent.sep enn) ?_
        intro _
        refine Hd.yv (y_to (v' := .int .u64 (wl s lim now)) (y_assign rfl) (by (unfold wl; rw [if_pos hc1]))) ?_
        refine Hd.nil ?_
        refine Hd.slots [(8, _)] ⟨rfl, trivial⟩ ?_
        clear hK1 hK2 hK3 hK5 hK6 hK7
        refine Hd.thenN ?_
        exact Hd.meet () (by repeat (first | exact trivial | refine ⟨rfl, ?_⟩)) (Ent.sep enn)
      ·
        try simp only [decide_eq_true_eq, decide_eq_false_iff_not, Bool.and_eq_true, Bool.or_eq_true, Bool.and_eq_false_iff, Bool.or_eq_false_iff, Bool.not_eq_true', Bool.not_eq_false', Bool.not_eq_true, Bool.not_eq_false, Int.not_lt, Int.not_le, Decidable.not_not, ne_eq] at hc1
        have hw : lf now lim = wl s lim now := by unfold wl; rw [if_neg (by rw [hc1]; simp)]
        rw [hw]
        refine Hd.skip ?_
        clear hK1 hK2 hK3 hK5 hK6 hK7
        refine Hd.thenN ?_
        exact Hd.meet () (by repeat (first | exact trivial | refine ⟨rfl, ?_⟩)) (Ent.sep enn)
    ·
      intro _
      refine Hd.seq (fun K8 hK8 => ?_)
      refine Hd.seq (fun K9 hK9 => ?_)
      refine Hd.region ?_
      refine Hd.yv (y_move rfl) ?_
      first | (refine Hd.yv (y_eqlT rfl rfl) ?_) | (refine Hd.yv (y_eql rfl rfl) ?_)
      refine Hd.nil ?_
      refine Hd.slots [(8, _), (39, _)] ⟨rfl, rfl, trivial⟩ ?_
      refine Hd.toK hK9 ?_
      refine Hd.cond rfl (fun hc2 => ?_) (fun hc2 => ?_)
      ·
        try simp only [decide_eq_true_eq, decide_eq_false_iff_not, Bool.and_eq_true, Bool.or_eq_true, Bool.and_eq_false_iff, Bool.or_eq_false_iff, Bool.not_eq_true', Bool.not_eq_false', Bool.not_eq_true, Bool.not_eq_false, Int.not_lt, Int.not_le, Decidable.not_not, ne_eq] at hc2
        refine Hd.seq (fun K10 hK10 => ?_)
        refine Hd.region ?_
        refine Hd.yv (y_assign rfl) ?_
        refine Hd.yv (y_assign rfl) ?_
        refine Hd.nil ?_
        refine Hd.slots [(6, _), (7, _)] ⟨rfl, rfl, trivial⟩ ?_
        refine Hd.toK hK10 ?_
        refine Hd.ret ?_
        refine Hd.thenRet ?_
        clear hK1 hK2 hK3 hK5 hK8 hK9 hK10
        rw [show waitV s lim now busy = (0, true) by unfold waitV; rw [if_neg (by rw [hc0]; simp), if_pos hc2]]
        exact Hd.ret2 rfl () rfl rfl rfl (Ent.sep (.ex t (.pure hq enn)))
      ·
        try simp only [decide_eq_true_eq, decide_eq_false_iff_not, Bool.and_eq_true, Bool.or_eq_true, Bool.and_eq_false_iff, Bool.or_eq_false_iff, Bool.not_eq_true', Bool.not_eq_false', Bool.not_eq_true, Bool.not_eq_false, Int.not_lt, Int.not_le, Decidable.not_not, ne_eq] at hc2
        refine Hd.skip ?_
        refine Hd.toK hK8 ?_
        refine Hd.seq (fun K11 hK11 => ?_)
        refine Hd.region ?_
        refine Hd.yv (y_move rfl) ?_
        refine Hd.callE rfl fk40 (wait_ct _ (wl s lim now) hc2) (Ent.sep enn) ?_
        intro _
        refine Hd.yv (y_assign rfl) ?_
        refine Hd.yv (y_assign rfl) ?_
        refine Hd.nil ?_
        refine Hd.slots [(6, _), (7, _)] ⟨rfl, rfl, trivial⟩ ?_
        refine Hd.toK hK11 ?_
        refine Hd.ret ?_
        clear hK1 hK2 hK3 hK5 hK8 hK9 hK11
        rw [show waitV s lim now busy = (min (wl s lim now) 1048576, false) by unfold waitV; rw [if_neg (by rw [hc0]; simp), if_neg hc2]]
        exact Hd.ret2 rfl () rfl rfl rfl (Ent.sep (.ex t (.pure hq enn)))
abbrev encN (x : It) : List Value := [.int .i64 x.id]
set_option maxHeartbeats 2000000 in
theorem tnum_ct (L : List SP) (ad : Option Addr) (n cap : Nat) : Ct Try.prog 42 #[.slice ad n cap] (L) (fun b : Nat => .func (.func 59) #[] #[.pointer (some ⟨b, 0, none⟩)]) (fun b : Nat => SlI b ad n cap :: L) := by
  refine Ct.of (vs := [.slice ad n cap]) Try.func42 rfl rfl [(0, .slice ad n cap)] (by repeat (first | exact trivial | refine ⟨rfl, ?_⟩)) ?_
  intro E
  show Hd E 4 _ _ _ _
  refine Hd.seq (fun K1 hK1 => ?_)
  refine Hd.region ?_
  refine Hd.box rfl rfl (fun b1 => ?_)
  refine Hd.yv (y_assign rfl) ?_
  refine Hd.nil ?_
  refine Hd.slots [(1, _)] ⟨rfl, trivial⟩ ?_
  refine Hd.toK hK1 ?_
  refine Hd.seq (fun K2 hK2 => ?_)
  refine Hd.region ?_
  refine Hd.yv (y_mkf (fv := []) (cv := [_]) rfl rfl) ?_
  refine Hd.yv (y_assign rfl) ?_
  refine Hd.nil ?_
  refine Hd.slots [(2, _)] ⟨rfl, trivial⟩ ?_
  refine Hd.toK hK2 ?_
  refine Hd.ret ?_
  clear hK1 hK2
  exact Hd.ret1 rfl b1 rfl (Ent.sep enn)
theorem num_it (b1 : Nat) (ad : Option Addr) (n cap : Nat) (xs : List It) (hn : xs.length = n) (hlen : n ≤ 1000000) (hne : ∀ x ∈ xs, x.at_ ≠ NV) : RX.It Try.prog 59 [.pointer (some ⟨b1, 0, none⟩)] encN (fun ys => ys = xs) (fun ys => ys <+: xs)
    [SlI b1 ad n cap, OwI ad n cap xs] [SlI b1 ad n cap, OwI ad n cap xs] := by
  intro l J X hy
  refine Ct.of (vs := [.func (.yield l) #[] #[], .pointer (some ⟨b1, 0, none⟩)]) Try.func59 rfl rfl [(0, .func (.yield l) #[] #[]), (1, .pointer (some ⟨b1, 0, none⟩))] ⟨rfl, rfl, trivial⟩ ?_
  intro E
  show Hd E 20 _ _ _ _
  refine Hd.heap (SlI b1 ad n cap :: OwI ad n cap xs :: J []) (fun k h => by have := sep_app h; exact this) ?_
  refine Hd.scope ?_
  refine Hd.seq (fun K1 hK1 => ?_)
  refine Hd.label ?_
  refine Hd.toK hK1 ?_
  refine Hd.seq (fun K2 hK2 => ?_)
  refine Hd.region ?_
  first | (refine Hd.yv (y_load1 ag77 rfl (Rd.pt1 pkk (by (first | rfl)))) ?_) | (refine Hd.yv (y_load1 ag77 rfl (Rd.seg1 pkk (by (first | rfl)))) ?_) | (refine Hd.yv (y_loadR1 ag77 rfl (by (first | exact RdS.own pkk)) (by (first | rfl))) ?_)
  refine Hd.yv (y_len Try.underlying77 rfl) ?_
  refine Hd.yv (y_move rfl) ?_
  refine Hd.nil ?_
  refine Hd.slots [(0, _), (5, _), (6, _), (7, _)] ⟨rfl, rfl, rfl, rfl, trivial⟩ ?_
  refine Hd.toK hK2 ?_
  refine Hd.block ?_
  refine Hd.loopK (ι := Nat) [(0, _), (5, _), (6, _)] (fun i => [(7, .int .i64 (i : Int))]) (fun i => pu (i ≤ n) :: SlI b1 ad n cap :: OwI ad n cap xs :: J (xs.take i)) (fun i => n - i) 0 (by repeat (first | exact trivial | refine ⟨rfl, ?_⟩)) (by repeat (first | exact trivial | refine ⟨rfl, ?_⟩)) (Ent.sep (.pure (by first | omega | (simp; done) | (simp; omega) | exact ⟨by simp, by simp⟩) enn)) ?_
  intro i
  try dsimp only
  refine Hd.pure (fun hp0 => ?_)
  try dsimp only at hp0
  refine Hd.seq (fun K3 hK3 => ?_)
  refine Hd.region ?_
  refine Hd.yv (y_lss rfl rfl) ?_
  refine Hd.nil ?_
  refine Hd.slots [(0, _), (5, _), (6, _), (7, _), (8, _)] ⟨rfl, rfl, rfl, rfl, rfl, trivial⟩ ?_
  refine Hd.toK hK3 ?_
  refine Hd.seq (fun K4 hK4 => ?_)
  refine Hd.cond rfl (fun hc0 => ?_) (fun hc0 => ?_)
  ·
    try simp only [decide_eq_true_eq, decide_eq_false_iff_not, Bool.and_eq_true, Bool.or_eq_true, Bool.and_eq_false_iff, Bool.or_eq_false_iff, Bool.not_eq_true', Bool.not_eq_false', Bool.not_eq_true, Bool.not_eq_false, Int.not_lt, Int.not_le, Decidable.not_not, ne_eq] at hc0
    have hi : i < n := by omega
    have hgi : xs[i]? = some (g xs i) := g_at (by omega)
    have htk : xs.take (i + 1) = xs.take i ++ [g xs i] := by rw [List.take_add_one, hgi]; rfl
    have hpr : xs.take i ++ [g xs i] <+: xs := by rw [← htk]; exact List.take_prefix _ _
    have hnv := hne (g xs i) (g_mem (by omega))
    refine Hd.skip ?_
    refine Hd.toK hK4 ?_
    refine Hd.seq (fun K5 hK5 => ?_)
    refine Hd.block ?_
    refine Hd.seq (fun K6 hK6 => ?_)
    refine Hd.region ?_
    first | (refine Hd.yv (y_idxS Try.underlying77 sz69 rfl rfl (by first | omega | decide)) ?_) | (refine Hd.yv (y_idxR Try.underlying77 sz69 rfl rfl (by first | omega | decide) (by (first | exact RdS.own pkk))) ?_)
    refine Hd.yv (y_loadRn (vs := [_, _, _]) ag69 rfl (RdS.own pkk) (flat_cells Hp.encI 3 (fun _ => rfl) hgi) (by exact sz69) (by simp)) ?_
    refine Hd.alloc zr69 (fun b4 => ?_)
    refine Hd.storeA (us := Hp.encI (g xs i)) sz69 rfl rfl rfl (encI_one _) pkk (by exact rfl) ?_
    refine Hd.nil ?_
    refine Hd.slots [(0, _), (4, _), (5, _), (6, _), (7, _)] ⟨rfl, rfl, rfl, rfl, rfl, trivial⟩ ?_
    refine Hd.toK hK6 ?_
    refine Hd.seq (fun K7 hK7 => ?_)
    refine Hd.seq (fun K8 hK8 => ?_)
    refine Hd.region ?_
    first | (refine Hd.yv (y_field' (q := 1) (ft := 23) Try.underlying69 rfl sz23 rfl rfl) ?_) | (refine Hd.yv (y_fieldR (q := 1) (ft := 23) Try.underlying69 rfl sz23 rfl rfl) ?_)
    first | (refine Hd.yv (y_load1 ag23 rfl (Rd.pt1 pkk (by (first | rfl)))) ?_) | (refine Hd.yv (y_load1 ag23 rfl (Rd.seg1 pkk (by (first | rfl)))) ?_) | (refine Hd.yv (y_loadR1 ag23 rfl (by (first | exact RdS.own pkk)) (by (first | rfl))) ?_)
    first | (refine Hd.yv (y_to (y_eqlT rfl rfl) (congrArg Value.bool (decide_eq_false ((hnv))))) ?_) | (refine Hd.yv (y_to (y_eql rfl rfl) (congrArg Value.bool (decide_eq_false ((hnv))))) ?_)
    refine Hd.nil ?_
    refine Hd.slots [(0, _), (4, _), (5, _), (6, _), (7, _), (13, _)] ⟨rfl, rfl, rfl, rfl, rfl, rfl, trivial⟩ ?_
    refine Hd.toK hK8 ?_
    refine Hd.condF rfl ?_
    refine Hd.skip ?_
    refine Hd.toK hK7 ?_
    refine Hd.seq (fun K9 hK9 => ?_)
    refine Hd.region ?_
    refine Hd.yv (y_move rfl) ?_
    first | (refine Hd.yv (y_field' (q := 0) (ft := 3) Try.underlying69 rfl sz3 rfl rfl) ?_) | (refine Hd.yv (y_fieldR (q := 0) (ft := 3) Try.underlying69 rfl sz3 rfl rfl) ?_)
    first | (refine Hd.yv (y_load1 ag3 rfl (Rd.pt1 pkk (by (first | rfl)))) ?_) | (refine Hd.yv (y_load1 ag3 rfl (Rd.seg1 pkk (by (first | rfl)))) ?_) | (refine Hd.yv (y_loadR1 ag3 rfl (by (first | exact RdS.own pkk)) (by (first | rfl))) ?_)
    refine Hd.yield (pre := xs.take i) (c := g xs i) (M := [SlI b1 ad n cap, OwI ad n cap xs]) hy rfl rfl hpr (fun k' h => sep_app (show sep ([SlI b1 ad n cap, OwI ad n cap xs] ++ J (xs.take i)) k' from Ent.sep (show Ent _ (SlI b1 ad n cap :: OwI ad n cap xs :: J (xs.take i)) from enn) k' h)) ?_
    intro yb
    refine Hd.yv (y_not rfl) ?_
    refine Hd.nil ?_
    refine Hd.slots [(0, _), (5, _), (6, _), (7, _), (18, _)] ⟨rfl, rfl, rfl, rfl, rfl, trivial⟩ ?_
    refine Hd.toK hK9 ?_
    refine Hd.cond rfl (fun hc2 => ?_) (fun hc2 => ?_)
    ·
      try simp only [decide_eq_true_eq, decide_eq_false_iff_not, Bool.and_eq_true, Bool.or_eq_true, Bool.and_eq_false_iff, Bool.or_eq_false_iff, Bool.not_eq_true', Bool.not_eq_false', Bool.not_eq_true, Bool.not_eq_false, Int.not_lt, Int.not_le, Decidable.not_not, ne_eq] at hc2
      subst hc2
      simp only [cond_false]
      refine Hd.ret ?_
      refine Hd.inBret ?_
      refine Hd.thenRet ?_
      refine Hd.thenRet ?_
      refine Hd.inBret ?_
      refine Hd.scRet ?_
      clear hK1 hK2 hK3 hK4 hK5 hK6 hK7 hK8 hK9
      exact Hd.ret0 rfl (xs.take i ++ [g xs i], false) rfl (fun k' h => Ent.sep (.pure hpr .same) k' h)
    ·
      try simp only [decide_eq_true_eq, decide_eq_false_iff_not, Bool.and_eq_true, Bool.or_eq_true, Bool.and_eq_false_iff, Bool.or_eq_false_iff, Bool.not_eq_true', Bool.not_eq_false', Bool.not_eq_true, Bool.not_eq_false, Int.not_lt, Int.not_le, Decidable.not_not, ne_eq] at hc2
      subst hc2
      simp only [cond_true]
      refine Hd.heap (SlI b1 ad n cap :: OwI ad n cap xs :: J (xs.take (i + 1))) (fun k' h => by rw [htk]; exact sep_app h) ?_
      refine Hd.skip ?_
      refine Hd.inB ?_
      refine Hd.toK hK5 ?_
      refine Hd.region ?_
      first | (refine Hd.yv (y_addn rfl rfl (by simp only [InK]; omega)) ?_) | (refine Hd.yv (y_add rfl rfl) ?_)
      refine Hd.yv (y_move rfl) ?_
      refine Hd.nil ?_
      refine Hd.slots [(0, _), (5, _), (6, _), (7, _)] ⟨rfl, rfl, rfl, rfl, trivial⟩ ?_
      clear hK1 hK2 hK3 hK4 hK5 hK6 hK7 hK8 hK9
      refine Hd.thenN ?_
      exact Hd.again (i + 1) (by first | omega | (simp only; omega) | (simp; omega)) (by repeat (first | exact trivial | refine ⟨rfl, ?_⟩)) (Ent.sep (.pure (by first | omega | (simp; done) | (simp; omega) | (dsimp only; omega)) enn))
  ·
    try simp only [decide_eq_true_eq, decide_eq_false_iff_not, Bool.and_eq_true, Bool.or_eq_true, Bool.and_eq_false_iff, Bool.or_eq_false_iff, Bool.not_eq_true', Bool.not_eq_false', Bool.not_eq_true, Bool.not_eq_false, Int.not_lt, Int.not_le, Decidable.not_not, ne_eq] at hc0
    refine Hd.exit ?_
    refine Hd.thenExit ?_
    refine Hd.thenExit ?_
    refine Hd.inBexit ?_
    refine Hd.scNorm ?_
    clear hK1 hK2 hK3 hK4
    have hi : i = n := by omega
    have hx : xs.take i = xs := List.take_of_length_le (by omega)
    rw [hx]
    exact Hd.end0 rfl (xs, true) rfl (fun k' h => Ent.sep (.pure rfl .same) k' (sep_app (M := [SlI b1 ad n cap, OwI ad n cap xs]) (N := J xs) h))
abbrev eN (l : List It) : List Value := l.map fun x => .int .i64 x.id
abbrev ownN (ad : Option Addr) (n cap : Nat) (l : List It) : SP := own 3 1 ad n cap (eN l)
abbrev OutN (b : Nat) (xs : List It) : SP := RX.ex fun i : Option Addr × Nat => [pt b [.slice i.1 xs.length i.2] 35, ownN i.1 xs.length i.2 xs]
/-- what is due, but never -/
abbrev du (now : Int) (s : List It) : List It := dueI (min now 18446744073709551614) s
theorem du_ne {now : Int} : ∀ {s : List It}, ∀ x ∈ du now s, x.at_ ≠ NV
  | [], x, h => by cases h
  | y :: s, x, h => by
    unfold du dueI at h
    rw [List.takeWhile_cons] at h
    split at h
    · rename_i hy
      rcases List.mem_cons.1 h with rfl | h
      · have : x.at_ ≤ min now 18446744073709551614 := by simpa using hy
        show x.at_ ≠ 18446744073709551615; omega
      · exact du_ne x h
    · cases h
set_option maxHeartbeats 2000000 in
theorem tdue_ct (L : List SP) (b : Nat) (qs : List Q) (s : List It) (nx : Int) (af : AF) (lim : Int) (hs : s.length < 999900) (now : Int) : Ct Try.prog 16 #[.pointer (some ⟨b, 0, none⟩), .int .u64 now] (TmA b qs s nx af lim :: L) (fun q_ : Option Addr × Nat => .slice q_.1 (du now s).length q_.2) (fun q_ : Option Addr × Nat => ownN q_.1 (du now s).length q_.2 (du now s) :: TmA b (cutAll (du now s) qs) (restI (min now 18446744073709551614) s) nx af lim :: L) := by
  refine Ct.ofM (vs := [.pointer (some ⟨b, 0, none⟩), .int .u64 now]) Try.func16 rfl rfl [(0, .pointer (some ⟨b, 0, none⟩)), (1, .int .u64 now)] (by repeat (first | exact trivial | refine ⟨rfl, ?_⟩)) ?_
  intro E
  show Hd E 23 _ _ _ _
  refine Hd.exs .here ?_
  intro t
  simp only [List.cons_append, List.nil_append]
  refine Hd.pure (fun hq => ?_)
  have hdl : (du now s).length ≤ s.length := (List.takeWhile_sublist _).length_le
  refine Hd.seq (fun K1 hK1 => ?_)
  refine Hd.region ?_
  refine Hd.yv (y_assign rfl) ?_
  refine Hd.nil ?_
  refine Hd.slots [(0, _), (1, _)] ⟨rfl, rfl, trivial⟩ ?_
  refine Hd.toK hK1 ?_
  refine Hd.seq (fun K2 hK2 => ?_)
  refine Hd.seq (fun K3 hK3 => ?_)
  refine Hd.region ?_
  refine Hd.yv (y_move rfl) ?_
  refine Hd.callE rfl fk34 (tnone_ct _ b t lim) (Ent.sep enn) ?_
  intro _
  refine Hd.nil ?_
  refine Hd.slots [(0, _), (1, _), (8, _)] ⟨rfl, rfl, rfl, trivial⟩ ?_
  refine Hd.toK hK3 ?_
  refine Hd.condF rfl ?_
  refine Hd.skip ?_
  refine Hd.toK hK2 ?_
  refine Hd.seq (fun K4 hK4 => ?_)
  refine Hd.region ?_
  refine Hd.alloc zr35 (fun b5 => ?_)
  refine Hd.nil ?_
  refine Hd.slots [(0, _), (1, _), (5, _)] ⟨rfl, rfl, rfl, trivial⟩ ?_
  refine Hd.toK hK4 ?_
  refine Hd.seq (fun K5 hK5 => ?_)
  refine Hd.seq (fun K6 hK6 => ?_)
  refine Hd.region ?_
  refine Hd.yv (y_move rfl) ?_
  refine Hd.yv (y_nilp rfl) ?_
  first | (refine Hd.yv (y_field' (q := 0) (ft := 62) Try.underlying66 rfl sz62 rfl rfl) ?_) | (refine Hd.yv (y_fieldR (q := 0) (ft := 62) Try.underlying66 rfl sz62 rfl rfl) ?_)
  first | (refine Hd.yv (y_load1 ag62 rfl (Rd.pt1 pkk (by (first | rfl)))) ?_) | (refine Hd.yv (y_load1 ag62 rfl (Rd.seg1 pkk (by (first | rfl)))) ?_) | (refine Hd.yv (y_loadR1 ag62 rfl (by (first | exact RdS.own pkk)) (by (first | rfl))) ?_)
  refine Hd.yv (y_move rfl) ?_
  refine Hd.yv (y_min rfl rfl) ?_
  refine Hd.callE rfl fk43 (cdue_ct _ t.o qs s nx hs (min now 18446744073709551614)) (Ent.sep enn) ?_
  rintro ⟨ad, cap⟩
  dsimp only
  refine Hd.callE rfl fk42 (tnum_ct _ ad (du now s).length cap) (Ent.sep enn) ?_
  intro b1
  refine Hd.nil ?_
  refine Hd.slots [(5, _), (16, _)] ⟨rfl, rfl, trivial⟩ ?_
  refine Hd.toK hK6 ?_
  refine Hd.block ?_
  refine Hd.rangeF (enc := encN) (S := fun ys => ys = du now s) (Sp := fun ys => ys <+: du now s)
    (fun pre => OutN b5 pre :: TmH b t lim :: CoA t.o (cutAll (du now s) qs) (restI (min now 18446744073709551614) s) nx :: MP t.mb (afm af) :: L) (fun _ _ => [pu False])
    rfl (by kernel_rfl) (fun _ => rfl) rfl (num_it b1 ad (du now s).length cap (du now s) rfl (by omega) du_ne) (Ent.sep (.ex (none, 0) (.eq pkk (pt_eq (by rfl)) (.ownNil (.pick pkk (.pick pkk (.pick pkk Ent.two))))))) ?_ ?_ ?_
  ·
    intro E l' R pre c N hR hG
    have hpl : pre.length + 1 ≤ 1000000 := by have h1 := hG.length_le; simp at h1; omega
    unfold Rnd
    simp only [List.cons_append, List.nil_append, pz, encN]
    refine Hd.region ?_
    refine Hd.yv (y_assign rfl) ?_
    refine Hd.nil ?_
    refine Hd.slots [(5, _), (6, _)] ⟨rfl, rfl, trivial⟩ ?_
    refine Hd.thenN ?_
    refine Hd.begin hR pkk ?_
    refine Hd.block ?_
    refine Hd.exs pkk ?_
    rintro ⟨a3, c3⟩
    simp only [List.cons_append, List.nil_append]
    refine Hd.region ?_
    first | (refine Hd.yv (y_load1 ag35 rfl (Rd.pt1 pkk (by (first | rfl)))) ?_) | (refine Hd.yv (y_load1 ag35 rfl (Rd.seg1 pkk (by (first | rfl)))) ?_) | (refine Hd.yv (y_loadR1 ag35 rfl (by (first | exact RdS.own pkk)) (by (first | rfl))) ?_)
    refine Hd.yv (y_move rfl) ?_
    refine Hd.bslice (vs := [(0, _)]) rfl (by first | exact bs16_20 .. | kernel_rfl) (fun b20 => ?_)
    refine Hd.append Try.underlying35 ty3 rfl rfl rfl pkk (by first | exact RdS.rd (Rd.pt pkk (fun j v e => by simpa using e)) rfl | (first | exact RdS.own pkk)) (by first | (simp [Value.oneCell']; done) | assumption) (by first | (simp only [maxLen]; omega) | assumption) (by omega) (fun ad21 cap21 => ?_)
    first | (refine Hd.store1 sz35 rfl rfl rfl pkk (by first | decide | (simp; done) | (simp; omega)) ?_) | (refine Hd.storeG1 sz35 rfl rfl rfl pkk (by first | decide | (simp; done) | (simp; omega)) ?_) | (refine Hd.storeO1 sz35 rfl rfl rfl pkk (by first | omega | (simp; done) | (simp; omega)) ?_)
    try simp only [List.set_cons_zero, List.set_cons_succ]
    refine Hd.nil ?_
    refine Hd.slots [(5, _)] ⟨rfl, trivial⟩ ?_
    refine Hd.inB ?_
    clear hK1 hK2 hK3 hK4 hK5 hK6
    refine Hd.reN ?_
    simp only [List.cons_append, List.nil_append]
    exact Ent.sep (.pick pkk (.ex (ad21, cap21) (.eq pkk (pt_eq (by simp)) (.eq pkk (own_eq (by simp) (by simp)) enn))))
  ·
    intro r0 ys hys
    obtain rfl : ys = du now s := hys
    simp only [List.cons_append, List.nil_append]
    refine Hd.inB ?_
    refine Hd.toK hK5 ?_
    refine Hd.seq (fun K7 hK7 => ?_)
    refine Hd.exs pkk ?_
    rintro ⟨a3, c3⟩
    simp only [List.cons_append, List.nil_append]
    refine Hd.region ?_
    first | (refine Hd.yv (y_load1 ag35 rfl (Rd.pt1 pkk (by (first | rfl)))) ?_) | (refine Hd.yv (y_load1 ag35 rfl (Rd.seg1 pkk (by (first | rfl)))) ?_) | (refine Hd.yv (y_loadR1 ag35 rfl (by (first | exact RdS.own pkk)) (by (first | rfl))) ?_)
    refine Hd.yv (y_assign rfl) ?_
    refine Hd.nil ?_
    refine Hd.slots [(4, _)] ⟨rfl, trivial⟩ ?_
    refine Hd.toK hK7 ?_
    refine Hd.ret ?_
    clear hK1 hK2 hK3 hK4 hK5 hK6 hK7
    exact Hd.retM (fun a fr => Lv.mark pkk (Lv.end1 fr rfl (a3, c3) rfl (Ent.sep (.pick pkk (.ex t (.pure ⟨hq.1.rest _, hq.2⟩ enn))))))
  ·
    rintro r0_0 (_ | id0) pre0 hG0
    ·
      exact Hd.absurd (by first | exact id | simp)
    ·
      exact Hd.absurd (by first | exact id | simp)
end Tm
end Go.Proofs.Ytdjoofidicoimaa
