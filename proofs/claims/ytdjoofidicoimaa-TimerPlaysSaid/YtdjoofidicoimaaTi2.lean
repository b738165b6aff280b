/-
  Timers: the calls.
-/
import Derived.Test.YtdjoofidicoimaaTi1
namespace Go.Proofs.Ytdjoofidicoimaa
set_option linter.unusedSimpArgs false
set_option linter.unusedVariables false
set_option linter.unnecessarySimpa false
open Go.RX Fx Hp Cm
namespace Tm
set_option maxRecDepth 8000
set_option maxHeartbeats 2000000 in
theorem tcommon_ct (L : List SP) (b : Nat) (qs : List Q) (s : List It) (nx : Int) (af : AF) (lim : Int) (a : Int) : Ct Try.prog 11 #[.pointer (some ⟨b, 0, none⟩), .int .u64 a] (TmA b qs s nx af lim :: L) (fun _ : Unit => .int .i64 (mkV qs a)) (fun _ : Unit => TmA b (mkS qs a) s nx af lim :: L) := by
  refine Ct.of (vs := [.pointer (some ⟨b, 0, none⟩), .int .u64 a]) Try.func11 rfl rfl [(0, .pointer (some ⟨b, 0, none⟩)), (1, .int .u64 a)] (by repeat (first | exact trivial | refine ⟨rfl, ?_⟩)) ?_
  intro E
  show Hd E 13 _ _ _ _
  refine Hd.exs .here ?_
  intro t
  simp only [List.cons_append, List.nil_append]
  refine Hd.pure (fun hq => ?_)
  refine Hd.seq (fun K1 hK1 => ?_)
  refine Hd.region ?_
  refine Hd.yv (y_assign rfl) ?_
  refine Hd.nil ?_
  refine Hd.slots [(0, _), (1, _)] ⟨rfl, rfl, trivial⟩ ?_
  refine Hd.toK hK1 ?_
  refine Hd.seq (fun K2 hK2 => ?_)
  refine Hd.seq (fun K3 hK3 => ?_)
  refine Hd.region ?_
  refine Hd.yv (y_move rfl) ?_
  refine Hd.callE rfl fk34 (tnone_ct _ b t lim) (Ent.sep enn) ?_
  intro _
  refine Hd.nil ?_
  refine Hd.slots [(0, _), (1, _), (6, _)] ⟨rfl, rfl, rfl, trivial⟩ ?_
  refine Hd.toK hK3 ?_
  refine Hd.condF rfl ?_
  refine Hd.skip ?_
  refine Hd.toK hK2 ?_
  refine Hd.seq (fun K4 hK4 => ?_)
  refine Hd.region ?_
  refine Hd.yv (y_move rfl) ?_
  refine Hd.yv (y_nilp rfl) ?_
  first | (refine Hd.yv (y_field' (q := 0) (ft := 62) Try.underlying66 rfl sz62 rfl rfl) ?_) | (refine Hd.yv (y_fieldR (q := 0) (ft := 62) Try.underlying66 rfl sz62 rfl rfl) ?_)
  first | (refine Hd.yv (y_load1 ag62 rfl (Rd.pt1 pkk (by (first | rfl)))) ?_) | (refine Hd.yv (y_load1 ag62 rfl (Rd.seg1 pkk (by (first | rfl)))) ?_) | (refine Hd.yv (y_loadR1 ag62 rfl (by (first | exact RdS.own pkk)) (by (first | rfl))) ?_)
  refine Hd.yv (y_move rfl) ?_
  refine Hd.callE rfl fk35 (common_ct _ t.o qs s nx a) (Ent.sep enn) ?_
  intro _
  refine Hd.yv (y_assign rfl) ?_
  refine Hd.nil ?_
  refine Hd.slots [(4, _)] ⟨rfl, trivial⟩ ?_
  refine Hd.toK hK4 ?_
  refine Hd.ret ?_
  clear hK1 hK2 hK3 hK4
  exact Hd.ret1 rfl () rfl (Ent.sep (.ex t (.pure hq enn)))
set_option maxHeartbeats 2000000 in
theorem tadd_ct (L : List SP) (b : Nat) (qs : List Q) (s : List It) (nx : Int) (af : AF) (lim : Int) (hs : s.length < 900000) (hnx : nx < 1000000) (id now a : Int) (hn : InK .u64 now) (ha : InK .u64 a) : Ct Try.prog 13 #[.pointer (some ⟨b, 0, none⟩), .int .i64 id, .int .u64 now, .int .u64 a] (TmA b qs s nx af lim :: L) (fun _ : Unit => .int .i64 (addV id)) (fun _ : Unit => TmA b (addQ qs id now a nx) (addS s id now a nx) (addN id nx) (addF af id a) lim :: L) := by
  refine Ct.of (vs := [.pointer (some ⟨b, 0, none⟩), .int .i64 id, .int .u64 now, .int .u64 a]) Try.func13 rfl rfl [(0, .pointer (some ⟨b, 0, none⟩)), (1, .int .i64 id), (2, .int .u64 now), (3, .int .u64 a)] (by repeat (first | exact trivial | refine ⟨rfl, ?_⟩)) ?_
  intro E
  show Hd E 29 _ _ _ _
  refine Hd.exs .here ?_
  intro t
  simp only [List.cons_append, List.nil_append]
  refine Hd.pure (fun hq => ?_)
  have hq2 := hq.1.add hn ha id nx
  refine Hd.seq (fun K1 hK1 => ?_)
  refine Hd.region ?_
  refine Hd.yv (y_assign rfl) ?_
  refine Hd.nil ?_
  refine Hd.slots [(0, _), (1, _), (2, _), (3, _)] ⟨rfl, rfl, rfl, rfl, trivial⟩ ?_
  refine Hd.toK hK1 ?_
  refine Hd.seq (fun K2 hK2 => ?_)
  refine Hd.seq (fun K3 hK3 => ?_)
  refine Hd.region ?_
  refine Hd.yv (y_move rfl) ?_
  refine Hd.callE rfl fk34 (tnone_ct _ b t lim) (Ent.sep enn) ?_
  intro _
  refine Hd.nil ?_
  refine Hd.slots [(0, _), (1, _), (2, _), (3, _), (11, _)] ⟨rfl, rfl, rfl, rfl, rfl, trivial⟩ ?_
  refine Hd.toK hK3 ?_
  refine Hd.condF rfl ?_
  refine Hd.skip ?_
  refine Hd.toK hK2 ?_
  refine Hd.seq (fun K4 hK4 => ?_)
  refine Hd.seq (fun K5 hK5 => ?_)
  refine Hd.region ?_
  refine Hd.yv (y_move rfl) ?_
  refine Hd.yv (y_nilp rfl) ?_
  first | (refine Hd.yv (y_field' (q := 0) (ft := 62) Try.underlying66 rfl sz62 rfl rfl) ?_) | (refine Hd.yv (y_fieldR (q := 0) (ft := 62) Try.underlying66 rfl sz62 rfl rfl) ?_)
  first | (refine Hd.yv (y_load1 ag62 rfl (Rd.pt1 pkk (by (first | rfl)))) ?_) | (refine Hd.yv (y_load1 ag62 rfl (Rd.seg1 pkk (by (first | rfl)))) ?_) | (refine Hd.yv (y_loadR1 ag62 rfl (by (first | exact RdS.own pkk)) (by (first | rfl))) ?_)
  refine Hd.yv (y_move rfl) ?_
  refine Hd.yv (y_move rfl) ?_
  refine Hd.yv (y_move rfl) ?_
  refine Hd.callE rfl fk36 (add_ct _ t.o qs s nx hs hnx id now a hn ha) (Ent.sep enn) ?_
  intro _
  refine Hd.yv (y_assign rfl) ?_
  refine Hd.nil ?_
  refine Hd.slots [(0, _), (1, _), (3, _), (9, _)] ⟨rfl, rfl, rfl, rfl, trivial⟩ ?_
  refine Hd.toK hK5 ?_
  refine Hd.seq (fun K6 hK6 => ?_)
  refine Hd.region ?_
  refine Hd.yv (y_move rfl) ?_
  refine Hd.yv (y_neq rfl rfl) ?_
  refine Hd.nil ?_
  refine Hd.slots [(0, _), (1, _), (3, _), (9, _), (21, _)] ⟨rfl, rfl, rfl, rfl, rfl, trivial⟩ ?_
  refine Hd.toK hK6 ?_
  refine Hd.cond rfl (fun hc1 => ?_) (fun hc1 => ?_)
  ·
    try simp only [decide_eq_true_eq, decide_eq_false_iff_not, Bool.and_eq_true, Bool.or_eq_true, Bool.and_eq_false_iff, Bool.or_eq_false_iff, Bool.not_eq_true', Bool.not_eq_false', Bool.not_eq_true, Bool.not_eq_false, Int.not_lt, Int.not_le, Decidable.not_not, ne_eq] at hc1
    refine Hd.seq (fun K7 hK7 => ?_)
    refine Hd.region ?_
    refine Hd.yv (y_move rfl) ?_
    refine Hd.yv (y_assign rfl) ?_
    refine Hd.nil ?_
    refine Hd.slots [(8, _)] ⟨rfl, trivial⟩ ?_
    refine Hd.toK hK7 ?_
    refine Hd.ret ?_
    refine Hd.thenRet ?_
    clear hK1 hK2 hK3 hK4 hK5 hK6 hK7
    have hid : id < 0 := Decidable.byContradiction fun h => hc1 (by unfold addV; rw [if_neg h])
    rw [show addF af id a = af by unfold addF; rw [if_pos hid]]
    exact Hd.ret1 rfl () rfl (Ent.sep (.ex t (.pure ⟨hq2, hq.2⟩ enn)))
  ·
    try simp only [decide_eq_true_eq, decide_eq_false_iff_not, Bool.and_eq_true, Bool.or_eq_true, Bool.and_eq_false_iff, Bool.or_eq_false_iff, Bool.not_eq_true', Bool.not_eq_false', Bool.not_eq_true, Bool.not_eq_false, Int.not_lt, Int.not_le, Decidable.not_not, ne_eq] at hc1
    have hid : ¬ id < 0 := fun h => by unfold addV at hc1; rw [if_pos h] at hc1; omega
    refine Hd.exs (f := fun m : Nat => [mp t.mb .i64 (afm af) m]) pkk ?_
    intro m
    simp only [List.cons_append, List.nil_append]
    refine Hd.skip ?_
    refine Hd.toK hK4 ?_
    refine Hd.seq (fun K8 hK8 => ?_)
    refine Hd.region ?_
    refine Hd.yv (y_move rfl) ?_
    refine Hd.yv (y_nilp rfl) ?_
    first | (refine Hd.yv (y_field' (q := 1) (ft := 64) Try.underlying66 rfl sz64 rfl rfl) ?_) | (refine Hd.yv (y_fieldR (q := 1) (ft := 64) Try.underlying66 rfl sz64 rfl rfl) ?_)
    first | (refine Hd.yv (y_load1 ag64 rfl (Rd.pt1 pkk (by (first | rfl)))) ?_) | (refine Hd.yv (y_load1 ag64 rfl (Rd.seg1 pkk (by (first | rfl)))) ?_) | (refine Hd.yv (y_loadR1 ag64 rfl (by (first | exact RdS.own pkk)) (by (first | rfl))) ?_)
    refine Hd.yv (y_move rfl) ?_
    refine Hd.yv (y_move rfl) ?_
    refine Hd.mapUpdate mapt64 rfl rfl rfl pkk ?_
    refine Hd.nil ?_
    refine Hd.slots [] trivial ?_
    refine Hd.toK hK8 ?_
    refine Hd.seq (fun K9 hK9 => ?_)
    refine Hd.region ?_
    refine Hd.yv (y_assign rfl) ?_
    refine Hd.nil ?_
    refine Hd.slots [(8, _)] ⟨rfl, trivial⟩ ?_
    refine Hd.toK hK9 ?_
    refine Hd.ret ?_
    clear hK1 hK2 hK3 hK4 hK5 hK6 hK8 hK9
    rw [hc1, show addF af id a = fun k => if k = id then some a else af k by unfold addF; rw [if_neg hid]]
    exact Hd.ret1 rfl () rfl (Ent.sep (.ex t (.pure ⟨hq2, hq.2⟩ (.pick pkk (.pick pkk (.ex _ (.eq pkk (mp_eq (afm_put ..)) enn)))))))
set_option maxHeartbeats 2000000 in
theorem tafter_ct (L : List SP) (b : Nat) (qs : List Q) (s : List It) (nx : Int) (af : AF) (lim : Int) (id : Int) : Ct Try.prog 22 #[.pointer (some ⟨b, 0, none⟩), .int .i64 id] (TmA b qs s nx af lim :: L) (fun _ : Unit => .tuple #[.int .u64 ((af id).getD 0), .bool (af id).isSome]) (fun _ : Unit => TmA b qs s nx af lim :: L) := by
  refine Ct.of (vs := [.pointer (some ⟨b, 0, none⟩), .int .i64 id]) Try.func22 rfl rfl [(0, .pointer (some ⟨b, 0, none⟩)), (1, .int .i64 id)] (by repeat (first | exact trivial | refine ⟨rfl, ?_⟩)) ?_
  intro E
  show Hd E 21 _ _ _ _
  refine Hd.exs .here ?_
  intro t
  simp only [List.cons_append, List.nil_append]
  refine Hd.pure (fun hq => ?_)
  refine Hd.exs (f := fun m : Nat => [mp t.mb .i64 (afm af) m]) pkk ?_
  intro m
  simp only [List.cons_append, List.nil_append]
  refine Hd.seq (fun K1 hK1 => ?_)
  refine Hd.region ?_
  refine Hd.yv (y_assign rfl) ?_
  refine Hd.yv (y_assign rfl) ?_
  refine Hd.nil ?_
  refine Hd.slots [(0, _), (1, _)] ⟨rfl, rfl, trivial⟩ ?_
  refine Hd.toK hK1 ?_
  refine Hd.seq (fun K2 hK2 => ?_)
  refine Hd.seq (fun K3 hK3 => ?_)
  refine Hd.region ?_
  refine Hd.yv (y_move rfl) ?_
  refine Hd.callE rfl fk34 (tnone_ct _ b t lim) (Ent.sep enn) ?_
  intro _
  refine Hd.nil ?_
  refine Hd.slots [(0, _), (1, _), (9, _)] ⟨rfl, rfl, rfl, trivial⟩ ?_
  refine Hd.toK hK3 ?_
  refine Hd.condF rfl ?_
  refine Hd.skip ?_
  refine Hd.toK hK2 ?_
  refine Hd.seq (fun K4 hK4 => ?_)
  refine Hd.region ?_
  refine Hd.yv (y_move rfl) ?_
  refine Hd.yv (y_nilp rfl) ?_
  first | (refine Hd.yv (y_field' (q := 1) (ft := 64) Try.underlying66 rfl sz64 rfl rfl) ?_) | (refine Hd.yv (y_fieldR (q := 1) (ft := 64) Try.underlying66 rfl sz64 rfl rfl) ?_)
  first | (refine Hd.yv (y_load1 ag64 rfl (Rd.pt1 pkk (by (first | rfl)))) ?_) | (refine Hd.yv (y_load1 ag64 rfl (Rd.seg1 pkk (by (first | rfl)))) ?_) | (refine Hd.yv (y_loadR1 ag64 rfl (by (first | exact RdS.own pkk)) (by (first | rfl))) ?_)
  refine Hd.yv (y_move rfl) ?_
  refine Hd.yv (y_lookup2 mapt64 rfl rfl pkk) ?_
  refine Hd.yv (y_move rfl) ?_
  refine Hd.yv (y_to (v' := .int .u64 ((af id).getD 0)) (y_extract rfl rfl) (by exact afm_get af id)) ?_
  refine Hd.yv (y_to (v' := .bool (af id).isSome) (y_extract rfl rfl) (by exact congrArg Value.bool (afm_is af id))) ?_
  refine Hd.yv (y_assign rfl) ?_
  refine Hd.yv (y_assign rfl) ?_
  refine Hd.nil ?_
  refine Hd.slots [(6, _), (7, _)] ⟨rfl, rfl, trivial⟩ ?_
  refine Hd.toK hK4 ?_
  refine Hd.seq (fun K5 hK5 => ?_)
  refine Hd.region ?_
  refine Hd.yv (y_move rfl) ?_
  refine Hd.yv (y_move rfl) ?_
  refine Hd.yv (y_assign rfl) ?_
  refine Hd.yv (y_assign rfl) ?_
  refine Hd.nil ?_
  refine Hd.slots [(4, _), (5, _)] ⟨rfl, rfl, trivial⟩ ?_
  refine Hd.toK hK5 ?_
  refine Hd.ret ?_
  clear hK1 hK2 hK3 hK4 hK5
  exact Hd.ret2 rfl () rfl rfl rfl (Ent.sep (.ex t (.pure hq (.pick pkk (.pick pkk (.ex m enn))))))
def agV (af : AF) (id : Int) : Int := if (af id).isSome then addV id else 220
abbrev agA (af : AF) (id : Int) : Int := (af id).getD 0
def agQ (qs : List Q) (af : AF) (id now nx : Int) : List Q := if (af id).isSome then addQ qs id now (agA af id) nx else qs
def agS (s : List It) (af : AF) (id now nx : Int) : List It := if (af id).isSome then addS s id now (agA af id) nx else s
def agN (af : AF) (id nx : Int) : Int := if (af id).isSome then addN id nx else nx
def agF (af : AF) (id : Int) : AF := if (af id).isSome then addF af id (agA af id) else af
set_option maxHeartbeats 2000000 in
theorem tagain_ct (L : List SP) (b : Nat) (qs : List Q) (s : List It) (nx : Int) (af : AF) (lim : Int) (hs : s.length < 900000) (hnx : nx < 1000000) (hA : ∀ k a, af k = some a → InK .u64 a) (id now : Int) (hn : InK .u64 now) : Ct Try.prog 19 #[.pointer (some ⟨b, 0, none⟩), .int .i64 id, .int .u64 now] (TmA b qs s nx af lim :: L) (fun _ : Unit => .int .i64 (agV af id)) (fun _ : Unit => TmA b (agQ qs af id now nx) (agS s af id now nx) (agN af id nx) (agF af id) lim :: L) := by
  refine Ct.of (vs := [.pointer (some ⟨b, 0, none⟩), .int .i64 id, .int .u64 now]) Try.func19 rfl rfl [(0, .pointer (some ⟨b, 0, none⟩)), (1, .int .i64 id), (2, .int .u64 now)] (by repeat (first | exact trivial | refine ⟨rfl, ?_⟩)) ?_
  intro E
  show Hd E 24 _ _ _ _
  refine Hd.seq (fun K1 hK1 => ?_)
  refine Hd.region ?_
  refine Hd.yv (y_assign rfl) ?_
  refine Hd.nil ?_
  refine Hd.slots [(0, _), (1, _), (2, _)] ⟨rfl, rfl, rfl, trivial⟩ ?_
  refine Hd.toK hK1 ?_
  refine Hd.seq (fun K2 hK2 => ?_)
  refine Hd.seq (fun K3 hK3 => ?_)
  refine Hd.region ?_
  refine Hd.yv (y_move rfl) ?_
  refine Hd.callE rfl fk34 (tnoneA_ct L b qs s nx af lim) (Ent.sep enn) ?_
  intro _
  refine Hd.nil ?_
  refine Hd.slots [(0, _), (1, _), (2, _), (10, _)] ⟨rfl, rfl, rfl, rfl, trivial⟩ ?_
  refine Hd.toK hK3 ?_
  refine Hd.condF rfl ?_
  refine Hd.skip ?_
  refine Hd.toK hK2 ?_
  refine Hd.seq (fun K4 hK4 => ?_)
  refine Hd.region ?_
  refine Hd.yv (y_move rfl) ?_
  refine Hd.yv (y_move rfl) ?_
  refine Hd.callE rfl fk22 (tafter_ct L b qs s nx af lim id) (Ent.sep enn) ?_
  intro _
  refine Hd.yv (y_move rfl) ?_
  refine Hd.yv (y_extract rfl rfl) ?_
  refine Hd.yv (y_extract rfl rfl) ?_
  refine Hd.yv (y_assign rfl) ?_
  refine Hd.yv (y_assign rfl) ?_
  refine Hd.nil ?_
  refine Hd.slots [(0, _), (1, _), (2, _), (7, _), (8, _)] ⟨rfl, rfl, rfl, rfl, rfl, trivial⟩ ?_
  refine Hd.toK hK4 ?_
  refine Hd.seq (fun K5 hK5 => ?_)
  refine Hd.seq (fun K6 hK6 => ?_)
  refine Hd.region ?_
  refine Hd.yv (y_move rfl) ?_
  refine Hd.yv (y_not rfl) ?_
  refine Hd.nil ?_
  refine Hd.slots [(0, _), (1, _), (2, _), (7, _), (18, _)] ⟨rfl, rfl, rfl, rfl, rfl, trivial⟩ ?_
  refine Hd.toK hK6 ?_
  refine Hd.cond rfl (fun hc1 => ?_) (fun hc1 => ?_)
  ·
    try simp only [decide_eq_true_eq, decide_eq_false_iff_not, Bool.and_eq_true, Bool.or_eq_true, Bool.and_eq_false_iff, Bool.or_eq_false_iff, Bool.not_eq_true', Bool.not_eq_false', Bool.not_eq_true, Bool.not_eq_false, Int.not_lt, Int.not_le, Decidable.not_not, ne_eq] at hc1
    refine Hd.seq (fun K7 hK7 => ?_)
    refine Hd.region ?_
    refine Hd.yv (y_assign rfl) ?_
    refine Hd.nil ?_
    refine Hd.slots [(6, _)] ⟨rfl, trivial⟩ ?_
    refine Hd.toK hK7 ?_
    refine Hd.ret ?_
    refine Hd.thenRet ?_
    clear hK1 hK2 hK3 hK4 hK5 hK6 hK7
    have hno : ¬ (af id).isSome = true := by rw [hc1]; simp
    rw [show agV af id = 220 by unfold agV; rw [if_neg hno], show agQ qs af id now nx = qs by unfold agQ; rw [if_neg hno], show agS s af id now nx = s by unfold agS; rw [if_neg hno], show agN af id nx = nx by unfold agN; rw [if_neg hno], show agF af id = af by unfold agF; rw [if_neg hno]]
    exact Hd.ret1 rfl () rfl (Ent.sep enn)
  ·
    try simp only [decide_eq_true_eq, decide_eq_false_iff_not, Bool.and_eq_true, Bool.or_eq_true, Bool.and_eq_false_iff, Bool.or_eq_false_iff, Bool.not_eq_true', Bool.not_eq_false', Bool.not_eq_true, Bool.not_eq_false, Int.not_lt, Int.not_le, Decidable.not_not, ne_eq] at hc1
    have hin : InK .u64 ((af id).getD 0) := by
      cases h : af id with
      | none => simp [InK]
      | some a => exact hA id a h
    refine Hd.skip ?_
    refine Hd.toK hK5 ?_
    refine Hd.seq (fun K8 hK8 => ?_)
    refine Hd.region ?_
    refine Hd.yv (y_move rfl) ?_
    refine Hd.yv (y_move rfl) ?_
    refine Hd.yv (y_move rfl) ?_
    refine Hd.yv (y_move rfl) ?_
    refine Hd.callE rfl fk13 (tadd_ct L b qs s nx af lim hs hnx id now ((af id).getD 0) hn hin) (Ent.sep enn) ?_
    intro _
    refine Hd.yv (y_assign rfl) ?_
    refine Hd.nil ?_
    refine Hd.slots [(6, _)] ⟨rfl, trivial⟩ ?_
    refine Hd.toK hK8 ?_
    refine Hd.ret ?_
    clear hK1 hK2 hK3 hK4 hK5 hK6 hK8
    rw [show agV af id = addV id by unfold agV; rw [if_pos hc1], show agQ qs af id now nx = addQ qs id now ((af id).getD 0) nx by unfold agQ; rw [if_pos hc1], show agS s af id now nx = addS s id now ((af id).getD 0) nx by unfold agS; rw [if_pos hc1], show agN af id nx = addN id nx by unfold agN; rw [if_pos hc1], show agF af id = addF af id ((af id).getD 0) by unfold agF; rw [if_pos hc1]]
    exact Hd.ret1 rfl () rfl (Ent.sep enn)
set_option maxHeartbeats 2000000 in
theorem tcut_ct (L : List SP) (b : Nat) (qs : List Q) (s : List It) (nx : Int) (af : AF) (lim : Int) (hs : s.length < 999900) (id : Int) : Ct Try.prog 20 #[.pointer (some ⟨b, 0, none⟩), .int .i64 id] (TmA b qs s nx af lim :: L) (fun _ : Unit => .bool (findI id s).isSome) (fun _ : Unit => TmA b (cutQ id qs) (remI id s) nx af lim :: L) := by
  refine Ct.of (vs := [.pointer (some ⟨b, 0, none⟩), .int .i64 id]) Try.func20 rfl rfl [(0, .pointer (some ⟨b, 0, none⟩)), (1, .int .i64 id)] (by repeat (first | exact trivial | refine ⟨rfl, ?_⟩)) ?_
  intro E
  show Hd E 16 _ _ _ _
  refine Hd.exs .here ?_
  intro t
  simp only [List.cons_append, List.nil_append]
  refine Hd.pure (fun hq => ?_)
  refine Hd.seq (fun K1 hK1 => ?_)
  refine Hd.region ?_
  refine Hd.yv (y_assign rfl) ?_
  refine Hd.nil ?_
  refine Hd.slots [(0, _), (1, _)] ⟨rfl, rfl, trivial⟩ ?_
  refine Hd.toK hK1 ?_
  refine Hd.seq (fun K2 hK2 => ?_)
  refine Hd.region ?_
  refine Hd.yv (y_move rfl) ?_
  refine Hd.callE rfl fk34 (tnone_ct _ b t lim) (Ent.sep enn) ?_
  intro _
  refine Hd.yv (y_not rfl) ?_
  refine Hd.yv (y_move rfl) ?_
  refine Hd.yg rfl rfl (y_move rfl) ?_
  refine Hd.yg rfl rfl (y_nilp rfl) ?_
  first | (refine Hd.yg rfl rfl (y_field' (q := 0) (ft := 62) Try.underlying66 rfl sz62 rfl rfl) ?_) | (refine Hd.yg rfl rfl (y_fieldR (q := 0) (ft := 62) Try.underlying66 rfl sz62 rfl rfl) ?_)
  first | (refine Hd.yg rfl rfl (y_load1 ag62 rfl (Rd.pt1 pkk (by (first | rfl)))) ?_) | (refine Hd.yg rfl rfl (y_load1 ag62 rfl (Rd.seg1 pkk (by (first | rfl)))) ?_) | (refine Hd.yg rfl rfl (y_loadR1 ag62 rfl (by (first | exact RdS.own pkk)) (by (first | rfl))) ?_)
  refine Hd.yg rfl rfl (y_move rfl) ?_
  refine Hd.unguard rfl rfl ?_
  refine Hd.callE rfl fk45 (cut_ct _ t.o qs s nx hs id) (Ent.sep enn) ?_
  intro _
  first | (refine Hd.yv (y_pickT rfl rfl) ?_) | (refine Hd.yv (y_pickF rfl rfl) ?_) | (refine Hd.yv (y_pickb rfl rfl rfl) ?_) | (refine Hd.yv (y_pick rfl rfl rfl) ?_)
  refine Hd.yv (y_assign rfl) ?_
  refine Hd.nil ?_
  refine Hd.slots [(4, _)] ⟨rfl, trivial⟩ ?_
  refine Hd.toK hK2 ?_
  refine Hd.ret ?_
  clear hK1 hK2
  exact Hd.ret1 rfl () rfl (Ent.sep (.ex t (.pure ⟨hq.1.cut id, hq.2⟩ enn)))
set_option maxHeartbeats 2000000 in
theorem tforget_ct (L : List SP) (b : Nat) (qs : List Q) (s : List It) (nx : Int) (af : AF) (lim : Int) (hs : s.length < 999900) (id : Int) : Ct Try.prog 21 #[.pointer (some ⟨b, 0, none⟩), .int .i64 id] (TmA b qs s nx af lim :: L) (fun _ : Unit => .tuple #[]) (fun _ : Unit => TmA b (cutQ id qs) (remI id s) nx (delA af id) lim :: L) := by
  refine Ct.of (vs := [.pointer (some ⟨b, 0, none⟩), .int .i64 id]) Try.func21 rfl rfl [(0, .pointer (some ⟨b, 0, none⟩)), (1, .int .i64 id)] (by repeat (first | exact trivial | refine ⟨rfl, ?_⟩)) ?_
  intro E
  show Hd E 15 _ _ _ _
  refine Hd.seq (fun K1 hK1 => ?_)
  refine Hd.region ?_
  refine Hd.yv (y_move rfl) ?_
  refine Hd.yv (y_move rfl) ?_
  refine Hd.callE rfl fk20 (tcut_ct L b qs s nx af lim hs id) (Ent.sep enn) ?_
  intro _
  refine Hd.nil ?_
  refine Hd.slots [(0, _), (1, _)] ⟨rfl, rfl, trivial⟩ ?_
  refine Hd.toK hK1 ?_
  refine Hd.seq (fun K2 hK2 => ?_)
  refine Hd.exs .here ?_
  intro t
  simp only [List.cons_append, List.nil_append]
  refine Hd.pure (fun hq => ?_)
  refine Hd.exs (f := fun m : Nat => [mp t.mb .i64 (afm af) m]) pkk ?_
  intro m
  simp only [List.cons_append, List.nil_append]
  refine Hd.region ?_
  refine Hd.yv (y_move rfl) ?_
  refine Hd.callE rfl fk34 (tnone_ct _ b t lim) (Ent.sep enn) ?_
  intro _
  refine Hd.yv (y_not rfl) ?_
  refine Hd.nil ?_
  refine Hd.slots [(0, _), (1, _), (9, _)] ⟨rfl, rfl, rfl, trivial⟩ ?_
  refine Hd.toK hK2 ?_
  refine Hd.condT rfl ?_
  refine Hd.region ?_
  refine Hd.yv (y_move rfl) ?_
  refine Hd.yv (y_nilp rfl) ?_
  first | (refine Hd.yv (y_field' (q := 1) (ft := 64) Try.underlying66 rfl sz64 rfl rfl) ?_) | (refine Hd.yv (y_fieldR (q := 1) (ft := 64) Try.underlying66 rfl sz64 rfl rfl) ?_)
  first | (refine Hd.yv (y_load1 ag64 rfl (Rd.pt1 pkk (by (first | rfl)))) ?_) | (refine Hd.yv (y_load1 ag64 rfl (Rd.seg1 pkk (by (first | rfl)))) ?_) | (refine Hd.yv (y_loadR1 ag64 rfl (by (first | exact RdS.own pkk)) (by (first | rfl))) ?_)
  refine Hd.yv (y_move rfl) ?_
  refine Hd.mapDelete0 mapt64 rfl rfl pkk ?_
  refine Hd.nil ?_
  refine Hd.slots [] trivial ?_
  clear hK1 hK2
  exact Hd.end0 rfl () rfl (Ent.sep (.ex t (.pure hq (.pick pkk (.pick pkk (.ex _ (.eq pkk (mp_eq (afm_del ..)) enn)))))))
set_option maxHeartbeats 2000000 in
theorem tlimit_ct (L : List SP) (b : Nat) (qs : List Q) (s : List It) (nx : Int) (af : AF) (lim : Int) (a : Int) (ha : InK .u64 a) : Ct Try.prog 12 #[.pointer (some ⟨b, 0, none⟩), .int .u64 a] (TmA b qs s nx af lim :: L) (fun _ : Unit => .tuple #[]) (fun _ : Unit => TmA b qs s nx af a :: L) := by
  refine Ct.of (vs := [.pointer (some ⟨b, 0, none⟩), .int .u64 a]) Try.func12 rfl rfl [(0, .pointer (some ⟨b, 0, none⟩)), (1, .int .u64 a)] (by repeat (first | exact trivial | refine ⟨rfl, ?_⟩)) ?_
  intro E
  show Hd E 11 _ _ _ _
  refine Hd.exs .here ?_
  intro t
  simp only [List.cons_append, List.nil_append]
  refine Hd.pure (fun hq => ?_)
  refine Hd.seq (fun K1 hK1 => ?_)
  refine Hd.region ?_
  refine Hd.yv (y_move rfl) ?_
  refine Hd.callE rfl fk34 (tnone_ct _ b t lim) (Ent.sep enn) ?_
  intro _
  refine Hd.yv (y_not rfl) ?_
  refine Hd.nil ?_
  refine Hd.slots [(0, _), (1, _), (6, _)] ⟨rfl, rfl, rfl, trivial⟩ ?_
  refine Hd.toK hK1 ?_
  refine Hd.condT rfl ?_
  refine Hd.region ?_
  refine Hd.yv (y_move rfl) ?_
  refine Hd.yv (y_move rfl) ?_
  refine Hd.yv (y_nilp rfl) ?_
  first | (refine Hd.yv (y_field' (q := 2) (ft := 23) Try.underlying66 rfl sz23 rfl rfl) ?_) | (refine Hd.yv (y_fieldR (q := 2) (ft := 23) Try.underlying66 rfl sz23 rfl rfl) ?_)
  first | (refine Hd.store1 sz23 rfl rfl rfl pkk (by first | decide | (simp; done) | (simp; omega)) ?_) | (refine Hd.storeG1 sz23 rfl rfl rfl pkk (by first | decide | (simp; done) | (simp; omega)) ?_) | (refine Hd.storeO1 sz23 rfl rfl rfl pkk (by first | omega | (simp; done) | (simp; omega)) ?_)
  try simp only [List.set_cons_zero, List.set_cons_succ]
  refine Hd.nil ?_
  refine Hd.slots [] trivial ?_
  clear hK1
  exact Hd.end0 rfl () rfl (Ent.sep (.ex t (.pure ⟨hq.1, ha⟩ enn)))
set_option maxHeartbeats 2000000 in
theorem tlen_ct (L : List SP) (b : Nat) (qs : List Q) (s : List It) (nx : Int) (af : AF) (lim : Int) : Ct Try.prog 15 #[.pointer (some ⟨b, 0, none⟩)] (TmA b qs s nx af lim :: L) (fun _ : Unit => .int .i64 (s.length : Int)) (fun _ : Unit => TmA b qs s nx af lim :: L) := by
  refine Ct.of (vs := [.pointer (some ⟨b, 0, none⟩)]) Try.func15 rfl rfl [(0, .pointer (some ⟨b, 0, none⟩))] (by repeat (first | exact trivial | refine ⟨rfl, ?_⟩)) ?_
  intro E
  show Hd E 10 _ _ _ _
  refine Hd.exs .here ?_
  intro t
  simp only [List.cons_append, List.nil_append]
  refine Hd.pure (fun hq => ?_)
  refine Hd.seq (fun K1 hK1 => ?_)
  refine Hd.region ?_
  refine Hd.yv (y_assign rfl) ?_
  refine Hd.nil ?_
  refine Hd.slots [(0, _)] ⟨rfl, trivial⟩ ?_
  refine Hd.toK hK1 ?_
  refine Hd.seq (fun K2 hK2 => ?_)
  refine Hd.seq (fun K3 hK3 => ?_)
  refine Hd.region ?_
  refine Hd.yv (y_move rfl) ?_
  refine Hd.callE rfl fk34 (tnone_ct _ b t lim) (Ent.sep enn) ?_
  intro _
  refine Hd.nil ?_
  refine Hd.slots [(0, _), (4, _)] ⟨rfl, rfl, trivial⟩ ?_
  refine Hd.toK hK3 ?_
  refine Hd.condF rfl ?_
  refine Hd.skip ?_
  refine Hd.toK hK2 ?_
  refine Hd.seq (fun K4 hK4 => ?_)
  refine Hd.region ?_
  refine Hd.yv (y_move rfl) ?_
  refine Hd.yv (y_nilp rfl) ?_
  first | (refine Hd.yv (y_field' (q := 0) (ft := 62) Try.underlying66 rfl sz62 rfl rfl) ?_) | (refine Hd.yv (y_fieldR (q := 0) (ft := 62) Try.underlying66 rfl sz62 rfl rfl) ?_)
  first | (refine Hd.yv (y_load1 ag62 rfl (Rd.pt1 pkk (by (first | rfl)))) ?_) | (refine Hd.yv (y_load1 ag62 rfl (Rd.seg1 pkk (by (first | rfl)))) ?_) | (refine Hd.yv (y_loadR1 ag62 rfl (by (first | exact RdS.own pkk)) (by (first | rfl))) ?_)
  refine Hd.callE rfl fk41 (clen_ct _ t.o qs s nx) (Ent.sep enn) ?_
  intro _
  refine Hd.yv (y_assign rfl) ?_
  refine Hd.nil ?_
  refine Hd.slots [(2, _)] ⟨rfl, trivial⟩ ?_
  refine Hd.toK hK4 ?_
  refine Hd.ret ?_
  clear hK1 hK2 hK3 hK4
  exact Hd.ret1 rfl () rfl (Ent.sep (.ex t (.pure hq enn)))
end Tm
end Go.Proofs.Ytdjoofidicoimaa
