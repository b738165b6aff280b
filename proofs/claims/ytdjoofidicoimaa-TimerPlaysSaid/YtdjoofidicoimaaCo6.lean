/-
  Sets of deadlines: Add.
-/
import Derived.Test.YtdjoofidicoimaaCo5
namespace Go.Proofs.Ytdjoofidicoimaa
set_option linter.unusedSimpArgs false
set_option linter.unusedVariables false
set_option linter.unnecessarySimpa false
open Go.RX Fx Hp
namespace Cm
set_option maxRecDepth 8000
/-- may an item of timeout a and deadline t stand behind a queue -/
def fits (a t : Int) (q : Q) : Bool := decide (q.af = a) && q.l.all fun y => decide (y.at_ ≤ t)
def putQ (a : Int) (x : It) : List Q → List Q
  | [] => []
  | q :: t => if fits a x.at_ q then ⟨q.af, q.l ++ [x]⟩ :: t else q :: putQ a x t
theorem putQ_no {a : Int} {x : It} : ∀ {qs : List Q}, (∀ q ∈ qs, fits a x.at_ q = false) → putQ a x qs = qs
  | [], _ => rfl
  | q :: t, h => by
    show (if _ then _ else _) = _
    rw [if_neg (by rw [h q List.mem_cons_self]; simp), putQ_no fun q' h' => h q' (List.mem_cons_of_mem _ h')]
theorem putQ_at {a : Int} {x : It} : ∀ {qs : List Q} {j : Nat} {q : Q}, qs[j]? = some q → fits a x.at_ q = true → (∀ q' ∈ qs.take j, fits a x.at_ q' = false) → putQ a x qs = qs.set j ⟨q.af, q.l ++ [x]⟩
  | [], j, q, h, _, _ => by simp at h
  | b :: t, 0, q, h, hf, _ => by
    obtain rfl : b = q := by simpa using h
    show (if _ then _ else _) = _
    rw [if_pos hf]; rfl
  | b :: t, j + 1, q, h, hf, hn => by
    show (if _ then _ else _) = _
    rw [if_neg (by rw [hn b (by simp)]; simp), putQ_at (qs := t) (j := j) (by simpa using h) hf (fun q' h' => hn q' (by simp [h']))]
    rfl
theorem last_le {l : List It} (hs : l.Pairwise ltI) (h0 : 0 < l.length) (t : Int) : (l.all fun y => decide (y.at_ ≤ t)) = decide ((g l (l.length - 1)).at_ ≤ t) := by
  rw [Bool.eq_iff_iff, List.all_eq_true, decide_eq_true_iff]
  constructor
  · intro h
    have := h _ (g_mem (V := l) (j := l.length - 1) (by omega))
    simpa using this
  · intro h y hy
    obtain ⟨j, hj, rfl⟩ := g_of hy
    rw [decide_eq_true_iff]
    by_cases e : j = l.length - 1
    · rw [e]; exact h
    · have h1 := List.pairwise_iff_getElem.1 hs j (l.length - 1) hj (by omega) (by omega)
      have e1 : l[j] = g l j := by
        have := g_at hj
        rw [List.getElem?_eq_getElem hj] at this; exact Option.some.inj this
      have e2 : l[l.length - 1]'(by omega) = g l (l.length - 1) := by
        have := g_at (V := l) (j := l.length - 1) (by omega)
        rw [List.getElem?_eq_getElem (by omega)] at this; exact Option.some.inj this
      rw [e1, e2] at h1
      unfold ltI at h1; omega
abbrev addX (id now after nx : Int) : It := ⟨id, dl now after, nx⟩
def addV (id : Int) : Int := if id < 0 then 2 else 0
def addQ (qs : List Q) (id now after nx : Int) : List Q := if id < 0 then qs else putQ after (addX id now after nx) (cutQ id qs)
def addS (s : List It) (id now after nx : Int) : List It := if id < 0 then s else insI (addX id now after nx) (remI id s)
def addN (id nx : Int) : Int := if id < 0 then nx else nx + 1
set_option maxHeartbeats 2000000 in
theorem add_ct (L : List SP) (o : Nat) (qs : List Q) (s : List It) (nx : Int) (hs : s.length < 900000) (hnx : nx < 1000000) (id now after : Int) (hn : InK .u64 now) (ha : InK .u64 after) : Ct Try.prog 36 #[.pointer (some ⟨o, 0, none⟩), .int .i64 id, .int .u64 now, .int .u64 after] (CoA o qs s nx :: L) (fun _ : Unit => .int .i64 (addV id)) (fun _ : Unit => CoA o (addQ qs id now after nx) (addS s id now after nx) (addN id nx) :: L) := by
  refine Ct.of (vs := [.pointer (some ⟨o, 0, none⟩), .int .i64 id, .int .u64 now, .int .u64 after]) Try.func36 rfl rfl [(0, .pointer (some ⟨o, 0, none⟩)), (1, .int .i64 id), (2, .int .u64 now), (3, .int .u64 after)] (by repeat (first | exact trivial | refine ⟨rfl, ?_⟩)) ?_
  intro E
  show Hd E 105 _ _ _ _
  refine Hd.exs .here ?_
  intro c
  simp only [List.cons_append, List.nil_append]
  refine Hd.pure (fun hq => ?_)
  refine Hd.seq (fun K1 hK1 => ?_)
  refine Hd.region ?_
  refine Hd.yv (y_assign rfl) ?_
  refine Hd.nil ?_
  refine Hd.slots [(0, _), (1, _), (2, _), (3, _)] ⟨rfl, rfl, rfl, rfl, trivial⟩ ?_
  refine Hd.toK hK1 ?_
  refine Hd.seq (fun K2 hK2 => ?_)
  refine Hd.block ?_
  refine Hd.seq (fun K3 hK3 => ?_)
  refine Hd.region ?_
  refine Hd.yv (y_move rfl) ?_
  refine Hd.callE rfl fk50 (none_ct _ o c.h c.mb c.qad qs.length c.qcap nx) (Ent.sep enn) ?_
  intro _
  refine Hd.yv (y_assign rfl) ?_
  refine Hd.nil ?_
  refine Hd.slots [(0, _), (1, _), (2, _), (3, _), (12, _)] ⟨rfl, rfl, rfl, rfl, rfl, trivial⟩ ?_
  refine Hd.toK hK3 ?_
  refine Hd.condF rfl ?_
  refine Hd.seq (fun K4 hK4 => ?_)
  refine Hd.region ?_
  refine Hd.yv (y_move rfl) ?_
  refine Hd.yv (y_lss rfl rfl) ?_
  refine Hd.yv (y_assign rfl) ?_
  refine Hd.nil ?_
  refine Hd.slots [(0, _), (1, _), (2, _), (3, _), (15, _)] ⟨rfl, rfl, rfl, rfl, rfl, trivial⟩ ?_
  refine Hd.toK hK4 ?_
  refine Hd.cond rfl (fun hc1 => ?_) (fun hc1 => ?_)
  ·
    try simp only [decide_eq_true_eq, decide_eq_false_iff_not, Bool.and_eq_true, Bool.or_eq_true, Bool.and_eq_false_iff, Bool.or_eq_false_iff, Bool.not_eq_true', Bool.not_eq_false', Bool.not_eq_true, Bool.not_eq_false, Int.not_lt, Int.not_le, Decidable.not_not, ne_eq] at hc1
    refine Hd.seq (fun K5 hK5 => ?_)
    refine Hd.region ?_
    refine Hd.yv (y_assign rfl) ?_
    refine Hd.nil ?_
    refine Hd.slots [(8, _)] ⟨rfl, trivial⟩ ?_
    refine Hd.toK hK5 ?_
    refine Hd.ret ?_
    refine Hd.inBret ?_
    refine Hd.thenRet ?_
    clear hK1 hK2 hK3 hK4 hK5
    have hid : id < 0 := hc1
    rw [show addV id = 2 by unfold addV; rw [if_pos hid], show addQ qs id now after nx = qs by unfold addQ; rw [if_pos hid], show addS s id now after nx = s by unfold addS; rw [if_pos hid], show addN id nx = nx by unfold addN; rw [if_pos hid]]
    exact Hd.ret1 rfl () rfl (Ent.sep (.ex c (.pure hq enn)))
  ·
    try simp only [decide_eq_true_eq, decide_eq_false_iff_not, Bool.and_eq_true, Bool.or_eq_true, Bool.and_eq_false_iff, Bool.or_eq_false_iff, Bool.not_eq_true', Bool.not_eq_false', Bool.not_eq_true, Bool.not_eq_false, Int.not_lt, Int.not_le, Decidable.not_not, ne_eq] at hc1
    have hid : 0 ≤ id := by omega
    refine Hd.heap (CoA o qs s nx :: L) (Ent.sep (.ex c (.pure hq enn))) ?_
    clear hq c
    refine Hd.skip ?_
    refine Hd.inB ?_
    refine Hd.toK hK2 ?_
    refine Hd.seq (fun K6 hK6 => ?_)
    refine Hd.region ?_
    refine Hd.yv (y_move rfl) ?_
    refine Hd.yv (y_move rfl) ?_
    refine Hd.callE rfl fk45 (cut_ct L o qs s nx (by omega) id) (Ent.sep enn) ?_
    intro _
    refine Hd.nil ?_
    refine Hd.slots [(0, _), (1, _), (2, _), (3, _)] ⟨rfl, rfl, rfl, rfl, trivial⟩ ?_
    refine Hd.toK hK6 ?_
    refine Hd.seq (fun K7 hK7 => ?_)
    have hs2 : (remI id s).length ≤ s.length := List.length_filter_le _ _
    refine Hd.exs .here ?_
    intro c
    simp only [List.cons_append, List.nil_append]
    refine Hd.pure (fun hq => ?_)
    obtain ⟨hok, hrs⟩ := hq
    have hlq : (cutQ id qs).length = qs.length := by unfold cutQ; rw [List.length_map]
    rw [hlq]
    refine Hd.hpF (b := c.h) (s := c.hs) pkk (fun hH => ?_)
    have hln := hok.len_le hH
    have hql : qs.length ≤ 32 := by rw [← hlq]; exact hok.ql
    have hrl : c.rs.length = qs.length := by rw [← hlq, ← hrs, List.length_map]
    have hnx0 := hok.nx0
    refine Hd.drawsH ([CmH o c.h c.mb c.qad qs.length c.qcap nx]) (fun j => !([10].contains j)) mixed ?_
    simp only [List.length, Nat.zero_add, Nat.reduceAdd]
    refine Hd.takeH 0 rfl (by kernel_rfl) (by kernel_rfl) (by kernel_rfl) (by kernel_rfl) (y_move rfl) (fun _ _ => rfl) (Ent.sep enn) ?_
    refine Hd.takeH 1 rfl (by kernel_rfl) (by kernel_rfl) (by kernel_rfl) (by kernel_rfl) (y_move rfl) (fun _ _ => rfl) (Ent.sep enn) ?_
    refine Hd.takeH 2 rfl (by kernel_rfl) (by kernel_rfl) (by kernel_rfl) (by kernel_rfl) (y_move rfl) (fun _ _ => rfl) (Ent.sep enn) ?_
    refine Hd.takeH 4 rfl (by kernel_rfl) (by kernel_rfl) (by kernel_rfl) (by kernel_rfl) (y_move rfl) (fun _ _ => rfl) (Ent.sep enn) ?_
    refine Hd.takeH 5 rfl (by kernel_rfl) (by kernel_rfl) (by kernel_rfl) (by kernel_rfl) (y_nilp rfl) (fun _ _ => rfl) (Ent.sep enn) ?_
    first | (refine Hd.takeH 6 rfl (by kernel_rfl) (by kernel_rfl) (by kernel_rfl) (by kernel_rfl) (y_field' (q := 3) (ft := 23) Try.underlying86 rfl sz23 rfl rfl) (fun _ _ => rfl) (Ent.sep enn) ?_) | (refine Hd.takeH 6 rfl (by kernel_rfl) (by kernel_rfl) (by kernel_rfl) (by kernel_rfl) (y_fieldR (q := 3) (ft := 23) Try.underlying86 rfl sz23 rfl rfl) (fun _ _ => rfl) (Ent.sep enn) ?_)
    first | (refine Hd.takeH 7 rfl (by kernel_rfl) (by kernel_rfl) (by kernel_rfl) (by kernel_rfl) (y_load1 ag23 rfl (Rd.pt1 pkk (by (first | exact pv_at hr | rfl)))) (fun _ _ => rfl) (Ent.sep enn) ?_) | (refine Hd.takeH 7 rfl (by kernel_rfl) (by kernel_rfl) (by kernel_rfl) (by kernel_rfl) (y_load1 ag23 rfl (Rd.seg1 pkk (by (first | exact pv_at hr | rfl)))) (fun _ _ => rfl) (Ent.sep enn) ?_) | (refine Hd.takeH 7 rfl (by kernel_rfl) (by kernel_rfl) (by kernel_rfl) (by kernel_rfl) (y_loadR1 ag23 rfl (by (first | exact RdS.own pkk)) (by (first | exact pv_at hr | rfl))) (fun _ _ => rfl) (Ent.sep enn) ?_)
    refine Hd.eitherH 3 9 rfl rfl (by kernel_rfl) ?_ ?_
    ·
      refine Hd.callE rfl fk53 (dl_ct _ now after hn ha) (Ent.sep enn) ?_
      intro _
      refine Hd.nil ?_
      refine Hd.thenN ?_
      refine Hd.heldK (J := (fun j => !([10].contains j))) (i := 3) (Ent.sep enn) ?_
      refine Hd.takeH 8 rfl (by kernel_rfl) (by kernel_rfl) (by kernel_rfl) (by kernel_rfl) (y_build (vs := [(0, _), (1, _), (2, _)]) rfl (by first | exact bd36_29 .. | kernel_rfl)) (fun _ _ => rfl) (Ent.sep enn) ?_
      refine Hd.onlyH 9 rfl (by kernel_rfl) ?_
      refine Hd.alloc zr69 (fun b9 => ?_)
      refine Hd.nil ?_
      refine Hd.thenN ?_
      refine Hd.heldK (J := (fun j => !([10].contains j))) (i := 9) (Ent.sep enn) ?_
      refine Hd.onlyH 10 rfl (by kernel_rfl) ?_
      refine Hd.storeA (us := Hp.encI (addX id now after nx)) sz69 rfl rfl rfl (encI_one _) pkk (by exact rfl) ?_
      refine Hd.nil ?_
      refine Hd.thenN ?_
      refine Hd.heldN (J := (fun j => !([10].contains j))) (i := 10) rfl ?_
      refine Hd.endH (by kernel_rfl) ?_
      refine Hd.slots [(0, _), (1, _), (3, _), (9, _)] ⟨rfl, rfl, rfl, rfl, trivial⟩ ?_
      refine Hd.toK hK7 ?_
      refine Hd.seq (fun K8 hK8 => ?_)
      refine Hd.region ?_
      refine Hd.yv (y_move rfl) ?_
      refine Hd.yv (y_nilp rfl) ?_
      first | (refine Hd.yv (y_field' (q := 3) (ft := 23) Try.underlying86 rfl sz23 rfl rfl) ?_) | (refine Hd.yv (y_fieldR (q := 3) (ft := 23) Try.underlying86 rfl sz23 rfl rfl) ?_)
      first | (refine Hd.yv (y_load1 ag23 rfl (Rd.pt1 pkk (by (first | exact pv_at hr | rfl)))) ?_) | (refine Hd.yv (y_load1 ag23 rfl (Rd.seg1 pkk (by (first | exact pv_at hr | rfl)))) ?_) | (refine Hd.yv (y_loadR1 ag23 rfl (by (first | exact RdS.own pkk)) (by (first | exact pv_at hr | rfl))) ?_)
      first | (refine Hd.yv (y_addn rfl rfl (by simp only [InK]; omega)) ?_) | (refine Hd.yv (y_add rfl rfl) ?_)
      refine Hd.yv (y_nilp rfl) ?_
      first | (refine Hd.yv (y_field' (q := 3) (ft := 23) Try.underlying86 rfl sz23 rfl rfl) ?_) | (refine Hd.yv (y_fieldR (q := 3) (ft := 23) Try.underlying86 rfl sz23 rfl rfl) ?_)
      first | (refine Hd.store1 sz23 rfl rfl rfl pkk (by first | decide | (simp; done) | (simp; omega)) ?_) | (refine Hd.storeG1 sz23 rfl rfl rfl pkk (by first | decide | (simp; done) | (simp; omega)) ?_) | (refine Hd.storeO1 sz23 rfl rfl rfl pkk (by first | omega | (simp; done) | (simp; omega)) ?_)
      try simp only [List.set_cons_zero, List.set_cons_succ]
      refine Hd.nil ?_
      refine Hd.slots [(0, _), (1, _), (3, _), (9, _)] ⟨rfl, rfl, rfl, rfl, trivial⟩ ?_
      refine Hd.toK hK8 ?_
      refine Hd.seq (fun K9 hK9 => ?_)
      refine Hd.seq (fun K10 hK10 => ?_)
      have hno : ∀ y ∈ remI id s, y.id ≠ (addX id now after nx).id := fun y hy => (rem_mem.1 hy).2
      refine Hd.region ?_
      refine Hd.yv (y_move rfl) ?_
      refine Hd.yv (y_nilp rfl) ?_
      first | (refine Hd.yv (y_field' (q := 1) (ft := 84) Try.underlying86 rfl sz84 rfl rfl) ?_) | (refine Hd.yv (y_fieldR (q := 1) (ft := 84) Try.underlying86 rfl sz84 rfl rfl) ?_)
      first | (refine Hd.yv (y_load1 ag84 rfl (Rd.pt1 pkk (by (first | exact pv_at hr | rfl)))) ?_) | (refine Hd.yv (y_load1 ag84 rfl (Rd.seg1 pkk (by (first | exact pv_at hr | rfl)))) ?_) | (refine Hd.yv (y_loadR1 ag84 rfl (by (first | exact RdS.own pkk)) (by (first | exact pv_at hr | rfl))) ?_)
      refine Hd.yv (y_len Try.underlying84 rfl) ?_
      refine Hd.yv (y_move rfl) ?_
      refine Hd.nil ?_
      refine Hd.slots [(0, _), (1, _), (3, _), (9, _), (40, _), (41, _), (42, _)] ⟨rfl, rfl, rfl, rfl, rfl, rfl, rfl, trivial⟩ ?_
      refine Hd.toK hK10 ?_
      refine Hd.block ?_
      refine Hd.loopK (ι := Nat) [(0, _), (1, _), (3, _), (9, _), (40, _), (41, _)] (fun j => [(42, .int .i64 (j : Int))]) (fun j => pu (j ≤ qs.length ∧ ∀ q' ∈ (cutQ id qs).take j, fits after (dl now after) q' = false) :: pt b9 (Hp.encI (addX id now after nx)) 69 :: CmH o c.h c.mb c.qad qs.length c.qcap (nx + 1) :: HpA c.h c.hs :: QP c.qad qs.length c.qcap c.rs :: MP c.mb c.f :: Qs c.rs :: L) (fun j => qs.length - j) 0 (by repeat (first | exact trivial | refine ⟨rfl, ?_⟩)) (by repeat (first | exact trivial | refine ⟨rfl, ?_⟩)) (Ent.sep (.pure ⟨Nat.zero_le _, by simp⟩ enn)) ?_
      intro j
      try dsimp only
      refine Hd.pure (fun hp0 => ?_)
      try dsimp only at hp0
      refine Hd.seq (fun K11 hK11 => ?_)
      refine Hd.region ?_
      refine Hd.yv (y_lss rfl rfl) ?_
      refine Hd.nil ?_
      refine Hd.slots [(0, _), (1, _), (3, _), (9, _), (40, _), (41, _), (42, _), (43, _)] ⟨rfl, rfl, rfl, rfl, rfl, rfl, rfl, rfl, trivial⟩ ?_
      refine Hd.toK hK11 ?_
      refine Hd.seq (fun K12 hK12 => ?_)
      refine Hd.cond rfl (fun hc2 => ?_) (fun hc2 => ?_)
      ·
        try simp only [decide_eq_true_eq, decide_eq_false_iff_not, Bool.and_eq_true, Bool.or_eq_true, Bool.and_eq_false_iff, Bool.or_eq_false_iff, Bool.not_eq_true', Bool.not_eq_false', Bool.not_eq_true, Bool.not_eq_false, Int.not_lt, Int.not_le, Decidable.not_not, ne_eq] at hc2
        have hjl : j < c.rs.length := by omega
        obtain ⟨r, hr⟩ : ∃ r, c.rs[j]? = some r := ⟨_, List.getElem?_eq_getElem hjl⟩
        have hq : (cutQ id qs)[j]? = some r.q := by rw [← hrs, List.getElem?_map, hr]; rfl
        have hmq := List.mem_of_getElem? hq
        have hrlen : r.l.length ≤ (remI id s).length := hok.q_len hmq
        have hsrt : r.l.Pairwise ltI := hok.srt r.q hmq
        refine Hd.skip ?_
        refine Hd.toK hK12 ?_
        refine Hd.seq (fun K13 hK13 => ?_)
        refine Hd.block ?_
        refine Hd.seq (fun K14 hK14 => ?_)
        refine Hd.region ?_
        refine Hd.yv (y_move rfl) ?_
        first | (refine Hd.yv (y_idxS Try.underlying84 sz88 rfl rfl (by first | omega | decide)) ?_) | (refine Hd.yv (y_idxR Try.underlying84 sz88 rfl rfl (by first | omega | decide) (by (first | exact RdS.own pkk))) ?_)
        first | (refine Hd.yv (y_load1 ag88 rfl (Rd.pt1 pkk (by (first | exact pv_at hr | rfl)))) ?_) | (refine Hd.yv (y_load1 ag88 rfl (Rd.seg1 pkk (by (first | exact pv_at hr | rfl)))) ?_) | (refine Hd.yv (y_loadR1 ag88 rfl (by (first | exact RdS.own pkk)) (by (first | exact pv_at hr | rfl))) ?_)
        refine Hd.yv (y_assign rfl) ?_
        refine Hd.yv (y_assign rfl) ?_
        refine Hd.nil ?_
        refine Hd.slots [(0, _), (1, _), (3, _), (9, _), (10, _), (11, _), (40, _), (41, _), (42, _)] ⟨rfl, rfl, rfl, rfl, rfl, rfl, rfl, rfl, rfl, trivial⟩ ?_
        refine Hd.toK hK14 ?_
        refine Hd.seq (fun K15 hK15 => ?_)
        refine Hd.seq (fun K16 hK16 => ?_)
        refine Hd.qOut pkk hr ?_
        refine Hd.quiet mixed (by kernel_rfl) ?_
        refine Hq.yv (y_move rfl) ?_
        refine Hq.yv (y_nilp rfl) ?_
        first | (refine Hq.yv (y_field' (q := 0) (ft := 23) Try.underlying90 rfl sz23 rfl rfl) ?_) | (refine Hq.yv (y_fieldR (q := 0) (ft := 23) Try.underlying90 rfl sz23 rfl rfl) ?_)
        first | (refine Hq.yv (y_load1 ag23 rfl (Rd.pt1 pkk (by (first | exact pv_at hr | rfl)))) ?_) | (refine Hq.yv (y_load1 ag23 rfl (Rd.seg1 pkk (by (first | exact pv_at hr | rfl)))) ?_) | (refine Hq.yv (y_loadR1 ag23 rfl (by (first | exact RdS.own pkk)) (by (first | exact pv_at hr | rfl))) ?_)
        refine Hq.yv (y_move rfl) ?_
        refine Hq.yv (y_neq rfl rfl) ?_
        refine Hq.yv (y_move rfl) ?_
        apply Hq.org (q := (decide (((r.l.length : Nat) : Int) > 0) && decide ((g r.l (r.l.length - 1)).at_ > (dl now after)))) 25 53 78 [(0, _), (1, _), (3, _), (9, _), (10, _), (11, _), (40, _), (41, _), (42, _)] rfl ⟨rfl, rfl, rfl, rfl, rfl, rfl, rfl, rfl, rfl, trivial⟩
        · intro hg11_53
          try simp only [decide_eq_true_eq, decide_eq_false_iff_not, Bool.and_eq_true, Bool.or_eq_true, Bool.and_eq_false_iff, Bool.or_eq_false_iff, Bool.not_eq_true', Bool.not_eq_false', Bool.not_eq_true, Bool.not_eq_false, Int.not_lt, Int.not_le, Decidable.not_not, ne_eq] at hg11_53
          simp only [List.take]
          refine Hq.ng rfl rfl rfl ?_
          refine Hq.ng rfl rfl rfl ?_
          refine Hq.ng rfl rfl rfl ?_
          refine Hq.ng rfl rfl rfl ?_
          refine Hq.ng rfl rfl rfl ?_
          refine Hq.ng rfl rfl rfl ?_
          refine Hq.ng rfl rfl rfl ?_
          refine Hq.ng rfl rfl rfl ?_
          refine Hq.ng rfl rfl rfl ?_
          refine Hq.ng rfl rfl rfl ?_
          refine Hq.ng rfl rfl rfl ?_
          refine Hq.ng rfl rfl rfl ?_
          refine Hq.ng rfl rfl rfl ?_
          refine Hq.ng rfl rfl rfl ?_
          refine Hq.ng rfl rfl rfl ?_
          refine Hq.ng rfl rfl rfl ?_
          refine Hq.ng rfl rfl rfl ?_
          refine Hq.ng rfl rfl rfl ?_
          refine Hq.ng rfl rfl rfl ?_
          refine Hq.ng rfl rfl rfl ?_
          refine Hq.ng rfl rfl rfl ?_
          refine Hq.ng rfl rfl rfl ?_
          refine Hq.ng rfl rfl rfl ?_
          refine Hq.ng rfl rfl rfl ?_
          first | (refine Hq.yv (y_pickT rfl rfl) ?_) | (refine Hq.yv (y_pickF rfl rfl) ?_) | (refine Hq.yv (y_pickb rfl rfl rfl) ?_) | (refine Hq.yv (y_pick rfl rfl rfl) ?_)
          exact Hq.mend (by repeat (first | exact trivial | refine ⟨rfl, ?_⟩))
        · intro hg11_53
          try simp only [decide_eq_true_eq, decide_eq_false_iff_not, Bool.and_eq_true, Bool.or_eq_true, Bool.and_eq_false_iff, Bool.or_eq_false_iff, Bool.not_eq_true', Bool.not_eq_false', Bool.not_eq_true, Bool.not_eq_false, Int.not_lt, Int.not_le, Decidable.not_not, ne_eq] at hg11_53
          simp only [List.take]
          refine Hq.yg rfl rfl (y_move rfl) ?_
          refine Hq.yg rfl rfl (y_nilp rfl) ?_
          first | (refine Hq.yg rfl rfl (y_field' (q := 1) (ft := 77) Try.underlying90 rfl sz77 rfl rfl) ?_) | (refine Hq.yg rfl rfl (y_fieldR (q := 1) (ft := 77) Try.underlying90 rfl sz77 rfl rfl) ?_)
          first | (refine Hq.yg rfl rfl (y_load1 ag77 rfl (Rd.pt1 pkk (by (first | exact pv_at hr | rfl)))) ?_) | (refine Hq.yg rfl rfl (y_load1 ag77 rfl (Rd.seg1 pkk (by (first | exact pv_at hr | rfl)))) ?_) | (refine Hq.yg rfl rfl (y_loadR1 ag77 rfl (by (first | exact RdS.own pkk)) (by (first | exact pv_at hr | rfl))) ?_)
          refine Hq.yg rfl rfl (y_len Try.underlying77 rfl) ?_
          refine Hq.yg rfl rfl (y_gtr rfl rfl) ?_
          refine Hq.yg rfl rfl (y_move rfl) ?_
          apply Hq.andg 17 60 77 [(0, _), (1, _), (3, _), (9, _), (10, _), (11, _), (40, _), (41, _), (42, _), (53, _)] rfl ⟨rfl, rfl, rfl, rfl, rfl, rfl, rfl, rfl, rfl, rfl, trivial⟩
          · intro hg11_60
            try simp only [decide_eq_true_eq, decide_eq_false_iff_not, Bool.and_eq_true, Bool.or_eq_true, Bool.and_eq_false_iff, Bool.or_eq_false_iff, Bool.not_eq_true', Bool.not_eq_false', Bool.not_eq_true, Bool.not_eq_false, Int.not_lt, Int.not_le, Decidable.not_not, ne_eq] at hg11_60
            simp only [List.take]
            refine Hq.yg rfl rfl (y_move rfl) ?_
            refine Hq.yg rfl rfl (y_nilp rfl) ?_
            first | (refine Hq.yg rfl rfl (y_field' (q := 1) (ft := 77) Try.underlying90 rfl sz77 rfl rfl) ?_) | (refine Hq.yg rfl rfl (y_fieldR (q := 1) (ft := 77) Try.underlying90 rfl sz77 rfl rfl) ?_)
            first | (refine Hq.yg rfl rfl (y_load1 ag77 rfl (Rd.pt1 pkk (by (first | exact pv_at hr | rfl)))) ?_) | (refine Hq.yg rfl rfl (y_load1 ag77 rfl (Rd.seg1 pkk (by (first | exact pv_at hr | rfl)))) ?_) | (refine Hq.yg rfl rfl (y_loadR1 ag77 rfl (by (first | exact RdS.own pkk)) (by (first | exact pv_at hr | rfl))) ?_)
            refine Hq.yg rfl rfl (y_move rfl) ?_
            refine Hq.yg rfl rfl (y_nilp rfl) ?_
            first | (refine Hq.yg rfl rfl (y_field' (q := 1) (ft := 77) Try.underlying90 rfl sz77 rfl rfl) ?_) | (refine Hq.yg rfl rfl (y_fieldR (q := 1) (ft := 77) Try.underlying90 rfl sz77 rfl rfl) ?_)
            first | (refine Hq.yg rfl rfl (y_load1 ag77 rfl (Rd.pt1 pkk (by (first | exact pv_at hr | rfl)))) ?_) | (refine Hq.yg rfl rfl (y_load1 ag77 rfl (Rd.seg1 pkk (by (first | exact pv_at hr | rfl)))) ?_) | (refine Hq.yg rfl rfl (y_loadR1 ag77 rfl (by (first | exact RdS.own pkk)) (by (first | exact pv_at hr | rfl))) ?_)
            refine Hq.yg rfl rfl (y_len Try.underlying77 rfl) ?_
            first | (refine Hq.yg rfl rfl (y_to (v' := .int .i64 ((r.l.length - 1 : Nat) : Int)) (y_subn rfl rfl (by simp only [InK]; omega)) (by (congr 1; omega))) ?_) | (refine Hq.yg rfl rfl (y_to (v' := .int .i64 ((r.l.length - 1 : Nat) : Int)) (y_sub rfl rfl) (by (congr 1; omega))) ?_)
            first | (refine Hq.yg rfl rfl (y_idxS Try.underlying77 sz69 rfl rfl (by first | omega | decide)) ?_) | (refine Hq.yg rfl rfl (y_idxR Try.underlying77 sz69 rfl rfl (by first | omega | decide) (by (first | exact RdS.own pkk))) ?_)
            first | (refine Hq.yg rfl rfl (y_field' (q := 1) (ft := 23) Try.underlying69 rfl sz23 rfl rfl) ?_) | (refine Hq.yg rfl rfl (y_fieldR (q := 1) (ft := 23) Try.underlying69 rfl sz23 rfl rfl) ?_)
            refine Hq.yg rfl rfl (y_loadR1 ag23 rfl (RdS.own pkk) (flat_cells Hp.encI 3 (fun _ => rfl) (g_at (show r.l.length - 1 < r.l.length by omega)) 1 _ rfl)) ?_
            first | (refine Hq.yg rfl rfl (y_field' (q := 1) (ft := 23) Try.underlying69 rfl sz23 rfl rfl) ?_) | (refine Hq.yg rfl rfl (y_fieldR (q := 1) (ft := 23) Try.underlying69 rfl sz23 rfl rfl) ?_)
            first | (refine Hq.yg rfl rfl (y_load1 ag23 rfl (Rd.pt1 pkk (by (first | exact pv_at hr | rfl)))) ?_) | (refine Hq.yg rfl rfl (y_load1 ag23 rfl (Rd.seg1 pkk (by (first | exact pv_at hr | rfl)))) ?_) | (refine Hq.yg rfl rfl (y_loadR1 ag23 rfl (by (first | exact RdS.own pkk)) (by (first | exact pv_at hr | rfl))) ?_)
            refine Hq.yg rfl rfl (y_gtr rfl rfl) ?_
            first | (refine Hq.yg rfl rfl (y_pickT rfl rfl) ?_) | (refine Hq.yg rfl rfl (y_pickF rfl rfl) ?_) | (refine Hq.yg rfl rfl (y_pickb rfl rfl rfl) ?_) | (refine Hq.yg rfl rfl (y_pick rfl rfl rfl) ?_)
            exact Hq.mend (by repeat (first | exact trivial | refine ⟨rfl, ?_⟩))
          · intro hg11_60
            try simp only [decide_eq_true_eq, decide_eq_false_iff_not, Bool.and_eq_true, Bool.or_eq_true, Bool.and_eq_false_iff, Bool.or_eq_false_iff, Bool.not_eq_true', Bool.not_eq_false', Bool.not_eq_true, Bool.not_eq_false, Int.not_lt, Int.not_le, Decidable.not_not, ne_eq] at hg11_60
            simp only [List.take]
            refine Hq.ng rfl rfl rfl ?_
            refine Hq.ng rfl rfl rfl ?_
            refine Hq.ng rfl rfl rfl ?_
            refine Hq.ng rfl rfl rfl ?_
            refine Hq.ng rfl rfl rfl ?_
            refine Hq.ng rfl rfl rfl ?_
            refine Hq.ng rfl rfl rfl ?_
            refine Hq.ng rfl rfl rfl ?_
            refine Hq.ng rfl rfl rfl ?_
            refine Hq.ng rfl rfl rfl ?_
            refine Hq.ng rfl rfl rfl ?_
            refine Hq.ng rfl rfl rfl ?_
            refine Hq.ng rfl rfl rfl ?_
            refine Hq.ng rfl rfl rfl ?_
            refine Hq.ng rfl rfl rfl ?_
            refine Hq.ng rfl rfl rfl ?_
            first | (refine Hq.yg rfl rfl (y_pickT rfl rfl) ?_) | (refine Hq.yg rfl rfl (y_pickF rfl rfl) ?_) | (refine Hq.yg rfl rfl (y_pickb rfl rfl rfl) ?_) | (refine Hq.yg rfl rfl (y_pick rfl rfl rfl) ?_)
            exact Hq.mend (by repeat (first | exact trivial | refine ⟨rfl, ?_⟩))
          simp only [List.drop]
          first | (refine Hq.yv (y_pickT rfl rfl) ?_) | (refine Hq.yv (y_pickF rfl rfl) ?_) | (refine Hq.yv (y_pickb rfl rfl rfl) ?_) | (refine Hq.yv (y_pick rfl rfl rfl) ?_)
          exact Hq.mend (by repeat (first | exact trivial | refine ⟨rfl, ?_⟩))
        simp only [List.drop]
        refine Hq.nil ?_
        refine Hd.slots [(0, _), (1, _), (3, _), (9, _), (10, _), (11, _), (40, _), (41, _), (42, _), (78, _)] ⟨rfl, rfl, rfl, rfl, rfl, rfl, rfl, rfl, rfl, rfl, trivial⟩ ?_
        refine Hd.toK hK16 ?_
        refine Hd.cond rfl (fun hc3 => ?_) (fun hc3 => ?_)
        ·
          try simp only [decide_eq_true_eq, decide_eq_false_iff_not, Bool.and_eq_true, Bool.or_eq_true, Bool.and_eq_false_iff, Bool.or_eq_false_iff, Bool.not_eq_true', Bool.not_eq_false', Bool.not_eq_true, Bool.not_eq_false, Int.not_lt, Int.not_le, Decidable.not_not, ne_eq] at hc3
          refine Hd.qIn r hjl (Ent.sep enn) ?_
          rw [set_same hr]
          have hfit : fits after (dl now after) r.q = false := by
            unfold fits
            rcases Nat.eq_zero_or_pos r.l.length with h0 | h0
            · have : r.q.af ≠ after := by
                rcases hc3 with h | h
                · exact h
                · omega
              simp [this]
            · rw [show r.q.l = r.l from rfl, last_le hsrt h0]
              rcases hc3 with h | h
              · simp [show r.q.af ≠ after from h]
              · rw [decide_eq_false (show ¬ (g r.l (r.l.length - 1)).at_ ≤ (dl now after) by omega)]; simp
          refine Hd.exit ?_
          refine Hd.thenExit ?_
          refine Hd.inBexit ?_
          refine Hd.toK hK13 ?_
          refine Hd.region ?_
          first | (refine Hd.yv (y_addn rfl rfl (by simp only [InK]; omega)) ?_) | (refine Hd.yv (y_add rfl rfl) ?_)
          refine Hd.yv (y_move rfl) ?_
          refine Hd.nil ?_
          refine Hd.slots [(0, _), (1, _), (3, _), (9, _), (40, _), (41, _), (42, _)] ⟨rfl, rfl, rfl, rfl, rfl, rfl, rfl, trivial⟩ ?_
          clear hK1 hK2 hK3 hK4 hK6 hK7 hK8 hK9 hK10 hK11 hK12 hK13 hK14 hK15 hK16
          refine Hd.thenN ?_
          have hnew : ∀ q' ∈ (cutQ id qs).take (j + 1), fits after (dl now after) q' = false := by
            intro q' h'
            rw [List.take_add_one, hq] at h'
            rcases List.mem_append.1 h' with h | h
            · exact hp0.2 q' h
            · obtain rfl : q' = r.q := by simpa using h
              exact hfit
          exact Hd.again (j + 1) (by first | omega | (simp only; omega) | (simp; omega)) (by repeat (first | exact trivial | refine ⟨rfl, ?_⟩)) (Ent.sep (.pure ⟨by omega, hnew⟩ enn))
        ·
          try simp only [decide_eq_true_eq, decide_eq_false_iff_not, Bool.and_eq_true, Bool.or_eq_true, Bool.and_eq_false_iff, Bool.or_eq_false_iff, Bool.not_eq_true', Bool.not_eq_false', Bool.not_eq_true, Bool.not_eq_false, Int.not_lt, Int.not_le, Decidable.not_not, ne_eq] at hc3
          have hfit : fits after (dl now after) r.q = true := by
            unfold fits
            rcases Nat.eq_zero_or_pos r.l.length with h0 | h0
            · have : r.l = [] := List.eq_nil_of_length_eq_zero h0
              rw [show r.q.l = r.l from rfl, this, show r.q.af = r.af from rfl, hc3.1]; simp
            · rw [show r.q.l = r.l from rfl, last_le hsrt h0, show r.q.af = r.af from rfl, hc3.1]
              have : (g r.l (r.l.length - 1)).at_ ≤ (dl now after) := by
                rcases hc3.2 with h | h
                · omega
                · exact h
              simp [this]
          have hqs := putQ_at (x := addX id now after nx) hq hfit hp0.2
          have hlen1 : (r.l ++ [addX id now after nx]).length = r.l.length + 1 := by simp
          refine Hd.skip ?_
          refine Hd.toK hK15 ?_
          refine Hd.seq (fun K17 hK17 => ?_)
          refine Hd.drawsH ([qb r, pt b9 (Hp.encI (addX id now after nx)) 69]) (fun j => !([10].contains j)) mixed ?_
          simp only [List.length, Nat.zero_add, Nat.reduceAdd]
          refine Hd.takeH 0 rfl (by kernel_rfl) (by kernel_rfl) (by kernel_rfl) (by kernel_rfl) (y_move rfl) (fun _ _ => rfl) (Ent.sep enn) ?_
          refine Hd.takeH 1 rfl (by kernel_rfl) (by kernel_rfl) (by kernel_rfl) (by kernel_rfl) (y_move rfl) (fun _ _ => rfl) (Ent.sep enn) ?_
          refine Hd.takeH 2 rfl (by kernel_rfl) (by kernel_rfl) (by kernel_rfl) (by kernel_rfl) (y_nilp rfl) (fun _ _ => rfl) (Ent.sep enn) ?_
          first | (refine Hd.takeH 3 rfl (by kernel_rfl) (by kernel_rfl) (by kernel_rfl) (by kernel_rfl) (y_field' (q := 1) (ft := 77) Try.underlying90 rfl sz77 rfl rfl) (fun _ _ => rfl) (Ent.sep enn) ?_) | (refine Hd.takeH 3 rfl (by kernel_rfl) (by kernel_rfl) (by kernel_rfl) (by kernel_rfl) (y_fieldR (q := 1) (ft := 77) Try.underlying90 rfl sz77 rfl rfl) (fun _ _ => rfl) (Ent.sep enn) ?_)
          first | (refine Hd.takeH 4 rfl (by kernel_rfl) (by kernel_rfl) (by kernel_rfl) (by kernel_rfl) (y_load1 ag77 rfl (Rd.pt1 pkk (by (first | exact pv_at hr | rfl)))) (fun _ _ => rfl) (Ent.sep enn) ?_) | (refine Hd.takeH 4 rfl (by kernel_rfl) (by kernel_rfl) (by kernel_rfl) (by kernel_rfl) (y_load1 ag77 rfl (Rd.seg1 pkk (by (first | exact pv_at hr | rfl)))) (fun _ _ => rfl) (Ent.sep enn) ?_) | (refine Hd.takeH 4 rfl (by kernel_rfl) (by kernel_rfl) (by kernel_rfl) (by kernel_rfl) (y_loadR1 ag77 rfl (by (first | exact RdS.own pkk)) (by (first | exact pv_at hr | rfl))) (fun _ _ => rfl) (Ent.sep enn) ?_)
          first | (refine Hd.takeH 5 rfl (by kernel_rfl) (by kernel_rfl) (by kernel_rfl) (by kernel_rfl) (y_loadn (us := [_, _, _]) ag69 rfl (Rd.pt pkk (by (first | exact fun j v e => by rw [Nat.zero_add]; exact e | (intro j v e; rcases j with _|_|_|_|_|_|_|_|_|_|_|_|j <;> first | exact e | exact absurd e (by simp))))) (by exact sz69)) (fun _ _ => rfl) (Ent.sep enn) ?_) | (refine Hd.takeH 5 rfl (by kernel_rfl) (by kernel_rfl) (by kernel_rfl) (by kernel_rfl) (y_loadn (us := [_, _, _]) ag69 rfl (Rd.seg pkk (by (first | exact fun j v e => by rw [Nat.zero_add]; exact e | (intro j v e; rcases j with _|_|_|_|_|_|_|_|_|_|_|_|j <;> first | exact e | exact absurd e (by simp))))) (by exact sz69)) (fun _ _ => rfl) (Ent.sep enn) ?_) | (refine Hd.takeH 5 rfl (by kernel_rfl) (by kernel_rfl) (by kernel_rfl) (by kernel_rfl) (y_loadRn ag69 rfl (by (first | exact RdS.own pkk)) (by (first | exact fun j v e => by rw [Nat.zero_add]; exact e | (intro j v e; rcases j with _|_|_|_|_|_|_|_|_|_|_|_|j <;> first | exact e | exact absurd e (by simp)))) (by exact sz69) (by simp)) (fun _ _ => rfl) (Ent.sep enn) ?_)
          refine Hd.onlyH 6 rfl (by kernel_rfl) ?_
          refine Hd.bslice (vs := [(0, _)]) rfl (by first | exact bs36_85 .. | kernel_rfl) (fun b85 => ?_)
          refine Hd.nil ?_
          refine Hd.thenN ?_
          refine Hd.heldK (J := (fun j => !([10].contains j))) (i := 6) (Ent.sep enn) ?_
          refine Hd.onlyH 7 rfl (by kernel_rfl) ?_
          refine Hd.append Try.underlying77 ty69 rfl rfl rfl pkk (by first | exact RdS.rd (Rd.pt pkk (fun j v e => by simpa using e)) rfl | (first | exact RdS.own pkk)) (by first | (simp [Value.oneCell']; done) | assumption) (by first | (simp only [maxLen]; omega) | assumption) (by omega) (fun ad86 cap86 => ?_)
          refine Hd.nil ?_
          refine Hd.thenN ?_
          refine Hd.heldK (J := (fun j => !([10].contains j))) (i := 7) (Ent.sep enn) ?_
          refine Hd.onlyH 8 rfl (by kernel_rfl) ?_
          refine Hd.yv (y_nilp rfl) ?_
          refine Hd.nil ?_
          refine Hd.thenN ?_
          refine Hd.heldK (J := (fun j => !([10].contains j))) (i := 8) (Ent.sep enn) ?_
          first | (refine Hd.takeH 9 rfl (by kernel_rfl) (by kernel_rfl) (by kernel_rfl) (by kernel_rfl) (y_field' (q := 1) (ft := 77) Try.underlying90 rfl sz77 rfl rfl) (fun _ _ => rfl) (Ent.sep enn) ?_) | (refine Hd.takeH 9 rfl (by kernel_rfl) (by kernel_rfl) (by kernel_rfl) (by kernel_rfl) (y_fieldR (q := 1) (ft := 77) Try.underlying90 rfl sz77 rfl rfl) (fun _ _ => rfl) (Ent.sep enn) ?_)
          refine Hd.onlyH 10 rfl (by kernel_rfl) ?_
          first | (refine Hd.store1 sz77 rfl rfl rfl pkk (by first | decide | (simp; done) | (simp; omega)) ?_) | (refine Hd.storeG1 sz77 rfl rfl rfl pkk (by first | decide | (simp; done) | (simp; omega)) ?_) | (refine Hd.storeO1 sz77 rfl rfl rfl pkk (by first | omega | (simp; done) | (simp; omega)) ?_)
          try simp only [List.set_cons_zero, List.set_cons_succ]
          refine Hd.nil ?_
          refine Hd.thenN ?_
          refine Hd.heldN (J := (fun j => !([10].contains j))) (i := 10) rfl ?_
          refine Hd.endH (by kernel_rfl) ?_
          refine Hd.qIn ⟨r.b, ad86, cap86, r.af, r.l ++ [addX id now after nx]⟩ hjl (Ent.sep (.eq pkk (pt_eq (by rw [hlen1])) (.eq pkk (own_eq3 hlen1.symm rfl (by rw [List.flatMap_append]; rfl)) enn))) ?_
          refine Hd.slots [(0, _), (1, _), (10, _)] ⟨rfl, rfl, rfl, trivial⟩ ?_
          refine Hd.toK hK17 ?_
          refine Hd.seq (fun K18 hK18 => ?_)
          refine Hd.exs (f := fun m : Nat => [mp c.mb .i64 c.f m]) pkk ?_
          intro m
          simp only [List.cons_append, List.nil_append]
          refine Hd.region ?_
          refine Hd.yv (y_move rfl) ?_
          refine Hd.yv (y_nilp rfl) ?_
          first | (refine Hd.yv (y_field' (q := 2) (ft := 83) Try.underlying86 rfl sz83 rfl rfl) ?_) | (refine Hd.yv (y_fieldR (q := 2) (ft := 83) Try.underlying86 rfl sz83 rfl rfl) ?_)
          first | (refine Hd.yv (y_load1 ag83 rfl (Rd.pt1 pkk (by (first | exact pv_at hr | rfl)))) ?_) | (refine Hd.yv (y_load1 ag83 rfl (Rd.seg1 pkk (by (first | exact pv_at hr | rfl)))) ?_) | (refine Hd.yv (y_loadR1 ag83 rfl (by (first | exact RdS.own pkk)) (by (first | exact pv_at hr | rfl))) ?_)
          refine Hd.yv (y_move rfl) ?_
          refine Hd.yv (y_move rfl) ?_
          refine Hd.mapUpdate mapt83 rfl rfl rfl pkk ?_
          refine Hd.nil ?_
          refine Hd.heap (CmL o qs.length (nx + 1) ⟨c.h, c.mb, c.qad, c.qcap, c.rs.set j ⟨r.b, ad86, cap86, r.af, r.l ++ [addX id now after nx]⟩, c.hs, putF c.f id j⟩ L) (Ent.sep (.pick pkk (.pick pkk (.eq pkk (own_eq3 rfl rfl (set_pv (r' := ⟨r.b, ad86, cap86, r.af, r.l ++ [addX id now after nx]⟩) hr rfl).symm) (.ex _ enn))))) ?_
          refine Hd.slots [(0, _), (10, _)] ⟨rfl, rfl, trivial⟩ ?_
          refine Hd.toK hK18 ?_
          refine Hd.seq (fun K19 hK19 => ?_)
          refine Hd.region ?_
          refine Hd.yv (y_move rfl) ?_
          refine Hd.yv (y_move rfl) ?_
          refine Hd.callE rfl fk54 (show_ct L o qs.length (nx + 1) ⟨c.h, c.mb, c.qad, c.qcap, c.rs.set j ⟨r.b, ad86, cap86, r.af, r.l ++ [addX id now after nx]⟩, c.hs, putF c.f id j⟩ j ⟨r.b, ad86, cap86, r.af, r.l ++ [addX id now after nx]⟩ (List.getElem?_set_self hjl) (by show (c.rs.set j _).length = _; rw [List.length_set]; exact hrl) hql (by show c.hs.length < _; omega)) (Ent.sep enn) ?_
          intro _
          refine Hd.nil ?_
          refine Hd.slots [] trivial ?_
          refine Hd.toK hK19 ?_
          refine Hd.seq (fun K20 hK20 => ?_)
          refine Hd.region ?_
          refine Hd.yv (y_assign rfl) ?_
          refine Hd.nil ?_
          refine Hd.slots [(8, _)] ⟨rfl, trivial⟩ ?_
          refine Hd.toK hK20 ?_
          refine Hd.ret ?_
          refine Hd.inBret ?_
          refine Hd.thenRet ?_
          refine Hd.thenRet ?_
          refine Hd.inBret ?_
          refine Hd.thenRet ?_
          clear hK1 hK2 hK3 hK4 hK6 hK7 hK8 hK9 hK10 hK11 hK12 hK13 hK14 hK15 hK16 hK17 hK18 hK19 hK20
          have hall : ∀ y ∈ r.q.l, y.at_ ≤ (addX id now after nx).at_ := fun y hy => by
            have h := hfit
            unfold fits at h
            simp only [Bool.and_eq_true, List.all_eq_true, decide_eq_true_eq] at h
            exact h.2 y hy
          have hok2 := hok.addA (x := addX id now after nx) hid rfl hno (by omega) hq hall
          have eq1 : addQ qs id now after nx = (cutQ id qs).set j ⟨r.q.af, r.q.l ++ [addX id now after nx]⟩ := by unfold addQ; rw [if_neg (by omega)]; exact hqs
          rw [show addV id = 0 by unfold addV; rw [if_neg (by omega)], eq1, show addS s id now after nx = insI (addX id now after nx) (remI id s) by unfold addS; rw [if_neg (by omega)], show addN id nx = nx + 1 by unfold addN; rw [if_neg (by omega)]]
          have hl2 : ((cutQ id qs).set j ⟨r.q.af, r.q.l ++ [addX id now after nx]⟩).length = qs.length := by rw [List.length_set, hlq]
          exact Hd.ret1 rfl () rfl (Ent.sep (.ex ⟨c.h, c.mb, c.qad, c.qcap, c.rs.set j ⟨r.b, ad86, cap86, r.af, r.l ++ [addX id now after nx]⟩, shw j (r.l ++ [addX id now after nx]) c.hs, putF c.f id j⟩ (.pure ⟨hok2, by rw [set_q, hrs]; rfl⟩ (by rw [hl2]; exact enn))))
      ·
        try simp only [decide_eq_true_eq, decide_eq_false_iff_not, Bool.and_eq_true, Bool.or_eq_true, Bool.and_eq_false_iff, Bool.or_eq_false_iff, Bool.not_eq_true', Bool.not_eq_false', Bool.not_eq_true, Bool.not_eq_false, Int.not_lt, Int.not_le, Decidable.not_not, ne_eq] at hc2
        have hj : j = qs.length := by omega
        have hnf : ∀ q' ∈ cutQ id qs, fits after (dl now after) q' = false := by have h := hp0.2; rwa [List.take_of_length_le (by omega)] at h
        have hqs := putQ_no (x := addX id now after nx) hnf
        have hfid : findI id c.hs = none := by rw [hok.hfind hH hid (hok.fno _ fun q hq y hy e => hno y (hok.sub q hq y hy) e)]; exact findI_rem s id
        have hpV : pushV c.hs (addX id now after nx) = 0 := by unfold pushV; rw [show (addX id now after nx).id = id from rfl, hfid]; rfl
        have hpS : pushS c.hs (addX id now after nx) = insI (addX id now after nx) c.hs := by unfold pushS; rw [show (addX id now after nx).id = id from rfl, hfid]; rfl
        refine Hd.exit ?_
        refine Hd.thenExit ?_
        refine Hd.thenExit ?_
        refine Hd.inBexit ?_
        refine Hd.toK hK9 ?_
        refine Hd.seq (fun K21 hK21 => ?_)
        refine Hd.drawsH ([CmH o c.h c.mb c.qad qs.length c.qcap (nx + 1), pt b9 (Hp.encI (addX id now after nx)) 69]) (fun _ => true) mixed ?_
        simp only [List.length, Nat.zero_add, Nat.reduceAdd]
        refine Hd.takeH 0 rfl (by kernel_rfl) (by kernel_rfl) (by kernel_rfl) (by kernel_rfl) (y_move rfl) (fun _ _ => rfl) (Ent.sep enn) ?_
        refine Hd.takeH 1 rfl (by kernel_rfl) (by kernel_rfl) (by kernel_rfl) (by kernel_rfl) (y_nilp rfl) (fun _ _ => rfl) (Ent.sep enn) ?_
        first | (refine Hd.takeH 2 rfl (by kernel_rfl) (by kernel_rfl) (by kernel_rfl) (by kernel_rfl) (y_field' (q := 0) (ft := 81) Try.underlying86 rfl sz81 rfl rfl) (fun _ _ => rfl) (Ent.sep enn) ?_) | (refine Hd.takeH 2 rfl (by kernel_rfl) (by kernel_rfl) (by kernel_rfl) (by kernel_rfl) (y_fieldR (q := 0) (ft := 81) Try.underlying86 rfl sz81 rfl rfl) (fun _ _ => rfl) (Ent.sep enn) ?_)
        first | (refine Hd.takeH 3 rfl (by kernel_rfl) (by kernel_rfl) (by kernel_rfl) (by kernel_rfl) (y_load1 ag81 rfl (Rd.pt1 pkk (by (first | exact pv_at hr | rfl)))) (fun _ _ => rfl) (Ent.sep enn) ?_) | (refine Hd.takeH 3 rfl (by kernel_rfl) (by kernel_rfl) (by kernel_rfl) (by kernel_rfl) (y_load1 ag81 rfl (Rd.seg1 pkk (by (first | exact pv_at hr | rfl)))) (fun _ _ => rfl) (Ent.sep enn) ?_) | (refine Hd.takeH 3 rfl (by kernel_rfl) (by kernel_rfl) (by kernel_rfl) (by kernel_rfl) (y_loadR1 ag81 rfl (by (first | exact RdS.own pkk)) (by (first | exact pv_at hr | rfl))) (fun _ _ => rfl) (Ent.sep enn) ?_)
        first | (refine Hd.takeH 4 rfl (by kernel_rfl) (by kernel_rfl) (by kernel_rfl) (by kernel_rfl) (y_loadn (us := [_, _, _]) ag69 rfl (Rd.pt pkk (by (first | exact fun j v e => by rw [Nat.zero_add]; exact e | (intro j v e; rcases j with _|_|_|_|_|_|_|_|_|_|_|_|j <;> first | exact e | exact absurd e (by simp))))) (by exact sz69)) (fun _ _ => rfl) (Ent.sep enn) ?_) | (refine Hd.takeH 4 rfl (by kernel_rfl) (by kernel_rfl) (by kernel_rfl) (by kernel_rfl) (y_loadn (us := [_, _, _]) ag69 rfl (Rd.seg pkk (by (first | exact fun j v e => by rw [Nat.zero_add]; exact e | (intro j v e; rcases j with _|_|_|_|_|_|_|_|_|_|_|_|j <;> first | exact e | exact absurd e (by simp))))) (by exact sz69)) (fun _ _ => rfl) (Ent.sep enn) ?_) | (refine Hd.takeH 4 rfl (by kernel_rfl) (by kernel_rfl) (by kernel_rfl) (by kernel_rfl) (y_loadRn ag69 rfl (by (first | exact RdS.own pkk)) (by (first | exact fun j v e => by rw [Nat.zero_add]; exact e | (intro j v e; rcases j with _|_|_|_|_|_|_|_|_|_|_|_|j <;> first | exact e | exact absurd e (by simp)))) (by exact sz69) (by simp)) (fun _ _ => rfl) (Ent.sep enn) ?_)
        refine Hd.onlyH 5 rfl (by kernel_rfl) ?_
        refine Hd.callE rfl fk55 (push_ct _ c.h c.hs (by omega) (addX id now after nx)) (Ent.sep enn) ?_
        intro _
        rw [hpV, hpS]
        refine Hd.nil ?_
        refine Hd.thenN ?_
        refine Hd.heldK (J := (fun _ => true)) (i := 5) (Ent.sep enn) ?_
        refine Hd.takeH 6 rfl (by kernel_rfl) (by kernel_rfl) (by kernel_rfl) (by kernel_rfl) (y_assign rfl) (fun _ _ => rfl) (Ent.sep enn) ?_
        refine Hd.endH (by kernel_rfl) ?_
        refine Hd.slots [(8, _)] ⟨rfl, trivial⟩ ?_
        refine Hd.toK hK21 ?_
        refine Hd.ret ?_
        clear hK1 hK2 hK3 hK4 hK6 hK7 hK8 hK9 hK10 hK11 hK12 hK21
        have hok2 := hok.addB (x := addX id now after nx) hid rfl hno (by omega)
        rw [show addV id = 0 by unfold addV; rw [if_neg (by omega)], show addQ qs id now after nx = cutQ id qs by unfold addQ; rw [if_neg (by omega)]; exact hqs, show addS s id now after nx = insI (addX id now after nx) (remI id s) by unfold addS; rw [if_neg (by omega)], show addN id nx = nx + 1 by unfold addN; rw [if_neg (by omega)]]
        exact Hd.ret1 rfl () rfl (Ent.sep (.ex { c with hs := insI (addX id now after nx) c.hs } (.pure ⟨hok2, hrs⟩ (by rw [hlq]; exact enn))))
    ·
      refine Hd.alloc zr69 (fun b9 => ?_)
      refine Hd.nil ?_
      refine Hd.thenN ?_
      refine Hd.heldK (J := (fun j => !([10].contains j))) (i := 9) (Ent.sep enn) ?_
      refine Hd.onlyH 3 rfl (by kernel_rfl) ?_
      refine Hd.callE rfl fk53 (dl_ct _ now after hn ha) (Ent.sep enn) ?_
      intro _
      refine Hd.nil ?_
      refine Hd.thenN ?_
      refine Hd.heldK (J := (fun j => !([10].contains j))) (i := 3) (Ent.sep enn) ?_
      refine Hd.takeH 8 rfl (by kernel_rfl) (by kernel_rfl) (by kernel_rfl) (by kernel_rfl) (y_build (vs := [(0, _), (1, _), (2, _)]) rfl (by first | exact bd36_29 .. | kernel_rfl)) (fun _ _ => rfl) (Ent.sep enn) ?_
      refine Hd.onlyH 10 rfl (by kernel_rfl) ?_
      refine Hd.storeA (us := Hp.encI (addX id now after nx)) sz69 rfl rfl rfl (encI_one _) pkk (by exact rfl) ?_
      refine Hd.nil ?_
      refine Hd.thenN ?_
      refine Hd.heldN (J := (fun j => !([10].contains j))) (i := 10) rfl ?_
      refine Hd.endH (by kernel_rfl) ?_
      refine Hd.slots [(0, _), (1, _), (3, _), (9, _)] ⟨rfl, rfl, rfl, rfl, trivial⟩ ?_
      refine Hd.toK hK7 ?_
      refine Hd.seq (fun K22 hK22 => ?_)
      refine Hd.region ?_
      refine Hd.yv (y_move rfl) ?_
      refine Hd.yv (y_nilp rfl) ?_
      first | (refine Hd.yv (y_field' (q := 3) (ft := 23) Try.underlying86 rfl sz23 rfl rfl) ?_) | (refine Hd.yv (y_fieldR (q := 3) (ft := 23) Try.underlying86 rfl sz23 rfl rfl) ?_)
      first | (refine Hd.yv (y_load1 ag23 rfl (Rd.pt1 pkk (by (first | exact pv_at hr | rfl)))) ?_) | (refine Hd.yv (y_load1 ag23 rfl (Rd.seg1 pkk (by (first | exact pv_at hr | rfl)))) ?_) | (refine Hd.yv (y_loadR1 ag23 rfl (by (first | exact RdS.own pkk)) (by (first | exact pv_at hr | rfl))) ?_)
      first | (refine Hd.yv (y_addn rfl rfl (by simp only [InK]; omega)) ?_) | (refine Hd.yv (y_add rfl rfl) ?_)
      refine Hd.yv (y_nilp rfl) ?_
      first | (refine Hd.yv (y_field' (q := 3) (ft := 23) Try.underlying86 rfl sz23 rfl rfl) ?_) | (refine Hd.yv (y_fieldR (q := 3) (ft := 23) Try.underlying86 rfl sz23 rfl rfl) ?_)
      first | (refine Hd.store1 sz23 rfl rfl rfl pkk (by first | decide | (simp; done) | (simp; omega)) ?_) | (refine Hd.storeG1 sz23 rfl rfl rfl pkk (by first | decide | (simp; done) | (simp; omega)) ?_) | (refine Hd.storeO1 sz23 rfl rfl rfl pkk (by first | omega | (simp; done) | (simp; omega)) ?_)
      try simp only [List.set_cons_zero, List.set_cons_succ]
      refine Hd.nil ?_
      refine Hd.slots [(0, _), (1, _), (3, _), (9, _)] ⟨rfl, rfl, rfl, rfl, trivial⟩ ?_
      refine Hd.toK hK22 ?_
      refine Hd.seq (fun K23 hK23 => ?_)
      refine Hd.seq (fun K24 hK24 => ?_)
      have hno : ∀ y ∈ remI id s, y.id ≠ (addX id now after nx).id := fun y hy => (rem_mem.1 hy).2
      refine Hd.region ?_
      refine Hd.yv (y_move rfl) ?_
      refine Hd.yv (y_nilp rfl) ?_
      first | (refine Hd.yv (y_field' (q := 1) (ft := 84) Try.underlying86 rfl sz84 rfl rfl) ?_) | (refine Hd.yv (y_fieldR (q := 1) (ft := 84) Try.underlying86 rfl sz84 rfl rfl) ?_)
      first | (refine Hd.yv (y_load1 ag84 rfl (Rd.pt1 pkk (by (first | exact pv_at hr | rfl)))) ?_) | (refine Hd.yv (y_load1 ag84 rfl (Rd.seg1 pkk (by (first | exact pv_at hr | rfl)))) ?_) | (refine Hd.yv (y_loadR1 ag84 rfl (by (first | exact RdS.own pkk)) (by (first | exact pv_at hr | rfl))) ?_)
      refine Hd.yv (y_len Try.underlying84 rfl) ?_
      refine Hd.yv (y_move rfl) ?_
      refine Hd.nil ?_
      refine Hd.slots [(0, _), (1, _), (3, _), (9, _), (40, _), (41, _), (42, _)] ⟨rfl, rfl, rfl, rfl, rfl, rfl, rfl, trivial⟩ ?_
      refine Hd.toK hK24 ?_
      refine Hd.block ?_
      refine Hd.loopK (ι := Nat) [(0, _), (1, _), (3, _), (9, _), (40, _), (41, _)] (fun j => [(42, .int .i64 (j : Int))]) (fun j => pu (j ≤ qs.length ∧ ∀ q' ∈ (cutQ id qs).take j, fits after (dl now after) q' = false) :: pt b9 (Hp.encI (addX id now after nx)) 69 :: CmH o c.h c.mb c.qad qs.length c.qcap (nx + 1) :: HpA c.h c.hs :: QP c.qad qs.length c.qcap c.rs :: MP c.mb c.f :: Qs c.rs :: L) (fun j => qs.length - j) 0 (by repeat (first | exact trivial | refine ⟨rfl, ?_⟩)) (by repeat (first | exact trivial | refine ⟨rfl, ?_⟩)) (Ent.sep (.pure ⟨Nat.zero_le _, by simp⟩ enn)) ?_
      intro j
      try dsimp only
      refine Hd.pure (fun hp0 => ?_)
      try dsimp only at hp0
      refine Hd.seq (fun K25 hK25 => ?_)
      refine Hd.region ?_
      refine Hd.yv (y_lss rfl rfl) ?_
      refine Hd.nil ?_
      refine Hd.slots [(0, _), (1, _), (3, _), (9, _), (40, _), (41, _), (42, _), (43, _)] ⟨rfl, rfl, rfl, rfl, rfl, rfl, rfl, rfl, trivial⟩ ?_
      refine Hd.toK hK25 ?_
      refine Hd.seq (fun K26 hK26 => ?_)
      refine Hd.cond rfl (fun hc2 => ?_) (fun hc2 => ?_)
      ·
        try simp only [decide_eq_true_eq, decide_eq_false_iff_not, Bool.and_eq_true, Bool.or_eq_true, Bool.and_eq_false_iff, Bool.or_eq_false_iff, Bool.not_eq_true', Bool.not_eq_false', Bool.not_eq_true, Bool.not_eq_false, Int.not_lt, Int.not_le, Decidable.not_not, ne_eq] at hc2
        have hjl : j < c.rs.length := by omega
        obtain ⟨r, hr⟩ : ∃ r, c.rs[j]? = some r := ⟨_, List.getElem?_eq_getElem hjl⟩
        have hq : (cutQ id qs)[j]? = some r.q := by rw [← hrs, List.getElem?_map, hr]; rfl
        have hmq := List.mem_of_getElem? hq
        have hrlen : r.l.length ≤ (remI id s).length := hok.q_len hmq
        have hsrt : r.l.Pairwise ltI := hok.srt r.q hmq
        refine Hd.skip ?_
        refine Hd.toK hK26 ?_
        refine Hd.seq (fun K27 hK27 => ?_)
        refine Hd.block ?_
        refine Hd.seq (fun K28 hK28 => ?_)
        refine Hd.region ?_
        refine Hd.yv (y_move rfl) ?_
        first | (refine Hd.yv (y_idxS Try.underlying84 sz88 rfl rfl (by first | omega | decide)) ?_) | (refine Hd.yv (y_idxR Try.underlying84 sz88 rfl rfl (by first | omega | decide) (by (first | exact RdS.own pkk))) ?_)
        first | (refine Hd.yv (y_load1 ag88 rfl (Rd.pt1 pkk (by (first | exact pv_at hr | rfl)))) ?_) | (refine Hd.yv (y_load1 ag88 rfl (Rd.seg1 pkk (by (first | exact pv_at hr | rfl)))) ?_) | (refine Hd.yv (y_loadR1 ag88 rfl (by (first | exact RdS.own pkk)) (by (first | exact pv_at hr | rfl))) ?_)
        refine Hd.yv (y_assign rfl) ?_
        refine Hd.yv (y_assign rfl) ?_
        refine Hd.nil ?_
        refine Hd.slots [(0, _), (1, _), (3, _), (9, _), (10, _), (11, _), (40, _), (41, _), (42, _)] ⟨rfl, rfl, rfl, rfl, rfl, rfl, rfl, rfl, rfl, trivial⟩ ?_
        refine Hd.toK hK28 ?_
        refine Hd.seq (fun K29 hK29 => ?_)
        refine Hd.seq (fun K30 hK30 => ?_)
        refine Hd.qOut pkk hr ?_
        refine Hd.quiet mixed (by kernel_rfl) ?_
        refine Hq.yv (y_move rfl) ?_
        refine Hq.yv (y_nilp rfl) ?_
        first | (refine Hq.yv (y_field' (q := 0) (ft := 23) Try.underlying90 rfl sz23 rfl rfl) ?_) | (refine Hq.yv (y_fieldR (q := 0) (ft := 23) Try.underlying90 rfl sz23 rfl rfl) ?_)
        first | (refine Hq.yv (y_load1 ag23 rfl (Rd.pt1 pkk (by (first | exact pv_at hr | rfl)))) ?_) | (refine Hq.yv (y_load1 ag23 rfl (Rd.seg1 pkk (by (first | exact pv_at hr | rfl)))) ?_) | (refine Hq.yv (y_loadR1 ag23 rfl (by (first | exact RdS.own pkk)) (by (first | exact pv_at hr | rfl))) ?_)
        refine Hq.yv (y_move rfl) ?_
        refine Hq.yv (y_neq rfl rfl) ?_
        refine Hq.yv (y_move rfl) ?_
        apply Hq.org (q := (decide (((r.l.length : Nat) : Int) > 0) && decide ((g r.l (r.l.length - 1)).at_ > (dl now after)))) 25 53 78 [(0, _), (1, _), (3, _), (9, _), (10, _), (11, _), (40, _), (41, _), (42, _)] rfl ⟨rfl, rfl, rfl, rfl, rfl, rfl, rfl, rfl, rfl, trivial⟩
        · intro hg11_53
          try simp only [decide_eq_true_eq, decide_eq_false_iff_not, Bool.and_eq_true, Bool.or_eq_true, Bool.and_eq_false_iff, Bool.or_eq_false_iff, Bool.not_eq_true', Bool.not_eq_false', Bool.not_eq_true, Bool.not_eq_false, Int.not_lt, Int.not_le, Decidable.not_not, ne_eq] at hg11_53
          simp only [List.take]
          refine Hq.ng rfl rfl rfl ?_
          refine Hq.ng rfl rfl rfl ?_
          refine Hq.ng rfl rfl rfl ?_
          refine Hq.ng rfl rfl rfl ?_
          refine Hq.ng rfl rfl rfl ?_
          refine Hq.ng rfl rfl rfl ?_
          refine Hq.ng rfl rfl rfl ?_
          refine Hq.ng rfl rfl rfl ?_
          refine Hq.ng rfl rfl rfl ?_
          refine Hq.ng rfl rfl rfl ?_
          refine Hq.ng rfl rfl rfl ?_
          refine Hq.ng rfl rfl rfl ?_
          refine Hq.ng rfl rfl rfl ?_
          refine Hq.ng rfl rfl rfl ?_
          refine Hq.ng rfl rfl rfl ?_
          refine Hq.ng rfl rfl rfl ?_
          refine Hq.ng rfl rfl rfl ?_
          refine Hq.ng rfl rfl rfl ?_
          refine Hq.ng rfl rfl rfl ?_
          refine Hq.ng rfl rfl rfl ?_
          refine Hq.ng rfl rfl rfl ?_
          refine Hq.ng rfl rfl rfl ?_
          refine Hq.ng rfl rfl rfl ?_
          refine Hq.ng rfl rfl rfl ?_
          first | (refine Hq.yv (y_pickT rfl rfl) ?_) | (refine Hq.yv (y_pickF rfl rfl) ?_) | (refine Hq.yv (y_pickb rfl rfl rfl) ?_) | (refine Hq.yv (y_pick rfl rfl rfl) ?_)
          exact Hq.mend (by repeat (first | exact trivial | refine ⟨rfl, ?_⟩))
        · intro hg11_53
          try simp only [decide_eq_true_eq, decide_eq_false_iff_not, Bool.and_eq_true, Bool.or_eq_true, Bool.and_eq_false_iff, Bool.or_eq_false_iff, Bool.not_eq_true', Bool.not_eq_false', Bool.not_eq_true, Bool.not_eq_false, Int.not_lt, Int.not_le, Decidable.not_not, ne_eq] at hg11_53
          simp only [List.take]
          refine Hq.yg rfl rfl (y_move rfl) ?_
          refine Hq.yg rfl rfl (y_nilp rfl) ?_
          first | (refine Hq.yg rfl rfl (y_field' (q := 1) (ft := 77) Try.underlying90 rfl sz77 rfl rfl) ?_) | (refine Hq.yg rfl rfl (y_fieldR (q := 1) (ft := 77) Try.underlying90 rfl sz77 rfl rfl) ?_)
          first | (refine Hq.yg rfl rfl (y_load1 ag77 rfl (Rd.pt1 pkk (by (first | exact pv_at hr | rfl)))) ?_) | (refine Hq.yg rfl rfl (y_load1 ag77 rfl (Rd.seg1 pkk (by (first | exact pv_at hr | rfl)))) ?_) | (refine Hq.yg rfl rfl (y_loadR1 ag77 rfl (by (first | exact RdS.own pkk)) (by (first | exact pv_at hr | rfl))) ?_)
          refine Hq.yg rfl rfl (y_len Try.underlying77 rfl) ?_
          refine Hq.yg rfl rfl (y_gtr rfl rfl) ?_
          refine Hq.yg rfl rfl (y_move rfl) ?_
          apply Hq.andg 17 60 77 [(0, _), (1, _), (3, _), (9, _), (10, _), (11, _), (40, _), (41, _), (42, _), (53, _)] rfl ⟨rfl, rfl, rfl, rfl, rfl, rfl, rfl, rfl, rfl, rfl, trivial⟩
          · intro hg11_60
            try simp only [decide_eq_true_eq, decide_eq_false_iff_not, Bool.and_eq_true, Bool.or_eq_true, Bool.and_eq_false_iff, Bool.or_eq_false_iff, Bool.not_eq_true', Bool.not_eq_false', Bool.not_eq_true, Bool.not_eq_false, Int.not_lt, Int.not_le, Decidable.not_not, ne_eq] at hg11_60
            simp only [List.take]
            refine Hq.yg rfl rfl (y_move rfl) ?_
            refine Hq.yg rfl rfl (y_nilp rfl) ?_
            first | (refine Hq.yg rfl rfl (y_field' (q := 1) (ft := 77) Try.underlying90 rfl sz77 rfl rfl) ?_) | (refine Hq.yg rfl rfl (y_fieldR (q := 1) (ft := 77) Try.underlying90 rfl sz77 rfl rfl) ?_)
            first | (refine Hq.yg rfl rfl (y_load1 ag77 rfl (Rd.pt1 pkk (by (first | exact pv_at hr | rfl)))) ?_) | (refine Hq.yg rfl rfl (y_load1 ag77 rfl (Rd.seg1 pkk (by (first | exact pv_at hr | rfl)))) ?_) | (refine Hq.yg rfl rfl (y_loadR1 ag77 rfl (by (first | exact RdS.own pkk)) (by (first | exact pv_at hr | rfl))) ?_)
            refine Hq.yg rfl rfl (y_move rfl) ?_
            refine Hq.yg rfl rfl (y_nilp rfl) ?_
            first | (refine Hq.yg rfl rfl (y_field' (q := 1) (ft := 77) Try.underlying90 rfl sz77 rfl rfl) ?_) | (refine Hq.yg rfl rfl (y_fieldR (q := 1) (ft := 77) Try.underlying90 rfl sz77 rfl rfl) ?_)
            first | (refine Hq.yg rfl rfl (y_load1 ag77 rfl (Rd.pt1 pkk (by (first | exact pv_at hr | rfl)))) ?_) | (refine Hq.yg rfl rfl (y_load1 ag77 rfl (Rd.seg1 pkk (by (first | exact pv_at hr | rfl)))) ?_) | (refine Hq.yg rfl rfl (y_loadR1 ag77 rfl (by (first | exact RdS.own pkk)) (by (first | exact pv_at hr | rfl))) ?_)
            refine Hq.yg rfl rfl (y_len Try.underlying77 rfl) ?_
            first | (refine Hq.yg rfl rfl (y_to (v' := .int .i64 ((r.l.length - 1 : Nat) : Int)) (y_subn rfl rfl (by simp only [InK]; omega)) (by (congr 1; omega))) ?_) | (refine Hq.yg rfl rfl (y_to (v' := .int .i64 ((r.l.length - 1 : Nat) : Int)) (y_sub rfl rfl) (by (congr 1; omega))) ?_)
            first | (refine Hq.yg rfl rfl (y_idxS Try.underlying77 sz69 rfl rfl (by first | omega | decide)) ?_) | (refine Hq.yg rfl rfl (y_idxR Try.underlying77 sz69 rfl rfl (by first | omega | decide) (by (first | exact RdS.own pkk))) ?_)
            first | (refine Hq.yg rfl rfl (y_field' (q := 1) (ft := 23) Try.underlying69 rfl sz23 rfl rfl) ?_) | (refine Hq.yg rfl rfl (y_fieldR (q := 1) (ft := 23) Try.underlying69 rfl sz23 rfl rfl) ?_)
            refine Hq.yg rfl rfl (y_loadR1 ag23 rfl (RdS.own pkk) (flat_cells Hp.encI 3 (fun _ => rfl) (g_at (show r.l.length - 1 < r.l.length by omega)) 1 _ rfl)) ?_
            first | (refine Hq.yg rfl rfl (y_field' (q := 1) (ft := 23) Try.underlying69 rfl sz23 rfl rfl) ?_) | (refine Hq.yg rfl rfl (y_fieldR (q := 1) (ft := 23) Try.underlying69 rfl sz23 rfl rfl) ?_)
            first | (refine Hq.yg rfl rfl (y_load1 ag23 rfl (Rd.pt1 pkk (by (first | exact pv_at hr | rfl)))) ?_) | (refine Hq.yg rfl rfl (y_load1 ag23 rfl (Rd.seg1 pkk (by (first | exact pv_at hr | rfl)))) ?_) | (refine Hq.yg rfl rfl (y_loadR1 ag23 rfl (by (first | exact RdS.own pkk)) (by (first | exact pv_at hr | rfl))) ?_)
            refine Hq.yg rfl rfl (y_gtr rfl rfl) ?_
            first | (refine Hq.yg rfl rfl (y_pickT rfl rfl) ?_) | (refine Hq.yg rfl rfl (y_pickF rfl rfl) ?_) | (refine Hq.yg rfl rfl (y_pickb rfl rfl rfl) ?_) | (refine Hq.yg rfl rfl (y_pick rfl rfl rfl) ?_)
            exact Hq.mend (by repeat (first | exact trivial | refine ⟨rfl, ?_⟩))
          · intro hg11_60
            try simp only [decide_eq_true_eq, decide_eq_false_iff_not, Bool.and_eq_true, Bool.or_eq_true, Bool.and_eq_false_iff, Bool.or_eq_false_iff, Bool.not_eq_true', Bool.not_eq_false', Bool.not_eq_true, Bool.not_eq_false, Int.not_lt, Int.not_le, Decidable.not_not, ne_eq] at hg11_60
            simp only [List.take]
            refine Hq.ng rfl rfl rfl ?_
            refine Hq.ng rfl rfl rfl ?_
            refine Hq.ng rfl rfl rfl ?_
            refine Hq.ng rfl rfl rfl ?_
            refine Hq.ng rfl rfl rfl ?_
            refine Hq.ng rfl rfl rfl ?_
            refine Hq.ng rfl rfl rfl ?_
            refine Hq.ng rfl rfl rfl ?_
            refine Hq.ng rfl rfl rfl ?_
            refine Hq.ng rfl rfl rfl ?_
            refine Hq.ng rfl rfl rfl ?_
            refine Hq.ng rfl rfl rfl ?_
            refine Hq.ng rfl rfl rfl ?_
            refine Hq.ng rfl rfl rfl ?_
            refine Hq.ng rfl rfl rfl ?_
            refine Hq.ng rfl rfl rfl ?_
            first | (refine Hq.yg rfl rfl (y_pickT rfl rfl) ?_) | (refine Hq.yg rfl rfl (y_pickF rfl rfl) ?_) | (refine Hq.yg rfl rfl (y_pickb rfl rfl rfl) ?_) | (refine Hq.yg rfl rfl (y_pick rfl rfl rfl) ?_)
            exact Hq.mend (by repeat (first | exact trivial | refine ⟨rfl, ?_⟩))
          simp only [List.drop]
          first | (refine Hq.yv (y_pickT rfl rfl) ?_) | (refine Hq.yv (y_pickF rfl rfl) ?_) | (refine Hq.yv (y_pickb rfl rfl rfl) ?_) | (refine Hq.yv (y_pick rfl rfl rfl) ?_)
          exact Hq.mend (by repeat (first | exact trivial | refine ⟨rfl, ?_⟩))
        simp only [List.drop]
        refine Hq.nil ?_
        refine Hd.slots [(0, _), (1, _), (3, _), (9, _), (10, _), (11, _), (40, _), (41, _), (42, _), (78, _)] ⟨rfl, rfl, rfl, rfl, rfl, rfl, rfl, rfl, rfl, rfl, trivial⟩ ?_
        refine Hd.toK hK30 ?_
        refine Hd.cond rfl (fun hc3 => ?_) (fun hc3 => ?_)
        ·
          try simp only [decide_eq_true_eq, decide_eq_false_iff_not, Bool.and_eq_true, Bool.or_eq_true, Bool.and_eq_false_iff, Bool.or_eq_false_iff, Bool.not_eq_true', Bool.not_eq_false', Bool.not_eq_true, Bool.not_eq_false, Int.not_lt, Int.not_le, Decidable.not_not, ne_eq] at hc3
          refine Hd.qIn r hjl (Ent.sep enn) ?_
          rw [set_same hr]
          have hfit : fits after (dl now after) r.q = false := by
            unfold fits
            rcases Nat.eq_zero_or_pos r.l.length with h0 | h0
            · have : r.q.af ≠ after := by
                rcases hc3 with h | h
                · exact h
                · omega
              simp [this]
            · rw [show r.q.l = r.l from rfl, last_le hsrt h0]
              rcases hc3 with h | h
              · simp [show r.q.af ≠ after from h]
              · rw [decide_eq_false (show ¬ (g r.l (r.l.length - 1)).at_ ≤ (dl now after) by omega)]; simp
          refine Hd.exit ?_
          refine Hd.thenExit ?_
          refine Hd.inBexit ?_
          refine Hd.toK hK27 ?_
          refine Hd.region ?_
          first | (refine Hd.yv (y_addn rfl rfl (by simp only [InK]; omega)) ?_) | (refine Hd.yv (y_add rfl rfl) ?_)
          refine Hd.yv (y_move rfl) ?_
          refine Hd.nil ?_
          refine Hd.slots [(0, _), (1, _), (3, _), (9, _), (40, _), (41, _), (42, _)] ⟨rfl, rfl, rfl, rfl, rfl, rfl, rfl, trivial⟩ ?_
          clear hK1 hK2 hK3 hK4 hK6 hK7 hK22 hK23 hK24 hK25 hK26 hK27 hK28 hK29 hK30
          refine Hd.thenN ?_
          have hnew : ∀ q' ∈ (cutQ id qs).take (j + 1), fits after (dl now after) q' = false := by
            intro q' h'
            rw [List.take_add_one, hq] at h'
            rcases List.mem_append.1 h' with h | h
            · exact hp0.2 q' h
            · obtain rfl : q' = r.q := by simpa using h
              exact hfit
          exact Hd.again (j + 1) (by first | omega | (simp only; omega) | (simp; omega)) (by repeat (first | exact trivial | refine ⟨rfl, ?_⟩)) (Ent.sep (.pure ⟨by omega, hnew⟩ enn))
        ·
          try simp only [decide_eq_true_eq, decide_eq_false_iff_not, Bool.and_eq_true, Bool.or_eq_true, Bool.and_eq_false_iff, Bool.or_eq_false_iff, Bool.not_eq_true', Bool.not_eq_false', Bool.not_eq_true, Bool.not_eq_false, Int.not_lt, Int.not_le, Decidable.not_not, ne_eq] at hc3
          have hfit : fits after (dl now after) r.q = true := by
            unfold fits
            rcases Nat.eq_zero_or_pos r.l.length with h0 | h0
            · have : r.l = [] := List.eq_nil_of_length_eq_zero h0
              rw [show r.q.l = r.l from rfl, this, show r.q.af = r.af from rfl, hc3.1]; simp
            · rw [show r.q.l = r.l from rfl, last_le hsrt h0, show r.q.af = r.af from rfl, hc3.1]
              have : (g r.l (r.l.length - 1)).at_ ≤ (dl now after) := by
                rcases hc3.2 with h | h
                · omega
                · exact h
              simp [this]
          have hqs := putQ_at (x := addX id now after nx) hq hfit hp0.2
          have hlen1 : (r.l ++ [addX id now after nx]).length = r.l.length + 1 := by simp
          refine Hd.skip ?_
          refine Hd.toK hK29 ?_
          refine Hd.seq (fun K31 hK31 => ?_)
          refine Hd.drawsH ([qb r, pt b9 (Hp.encI (addX id now after nx)) 69]) (fun j => !([10].contains j)) mixed ?_
          simp only [List.length, Nat.zero_add, Nat.reduceAdd]
          refine Hd.takeH 0 rfl (by kernel_rfl) (by kernel_rfl) (by kernel_rfl) (by kernel_rfl) (y_move rfl) (fun _ _ => rfl) (Ent.sep enn) ?_
          refine Hd.takeH 1 rfl (by kernel_rfl) (by kernel_rfl) (by kernel_rfl) (by kernel_rfl) (y_move rfl) (fun _ _ => rfl) (Ent.sep enn) ?_
          refine Hd.takeH 2 rfl (by kernel_rfl) (by kernel_rfl) (by kernel_rfl) (by kernel_rfl) (y_nilp rfl) (fun _ _ => rfl) (Ent.sep enn) ?_
          first | (refine Hd.takeH 3 rfl (by kernel_rfl) (by kernel_rfl) (by kernel_rfl) (by kernel_rfl) (y_field' (q := 1) (ft := 77) Try.underlying90 rfl sz77 rfl rfl) (fun _ _ => rfl) (Ent.sep enn) ?_) | (refine Hd.takeH 3 rfl (by kernel_rfl) (by kernel_rfl) (by kernel_rfl) (by kernel_rfl) (y_fieldR (q := 1) (ft := 77) Try.underlying90 rfl sz77 rfl rfl) (fun _ _ => rfl) (Ent.sep enn) ?_)
          first | (refine Hd.takeH 4 rfl (by kernel_rfl) (by kernel_rfl) (by kernel_rfl) (by kernel_rfl) (y_load1 ag77 rfl (Rd.pt1 pkk (by (first | exact pv_at hr | rfl)))) (fun _ _ => rfl) (Ent.sep enn) ?_) | (refine Hd.takeH 4 rfl (by kernel_rfl) (by kernel_rfl) (by kernel_rfl) (by kernel_rfl) (y_load1 ag77 rfl (Rd.seg1 pkk (by (first | exact pv_at hr | rfl)))) (fun _ _ => rfl) (Ent.sep enn) ?_) | (refine Hd.takeH 4 rfl (by kernel_rfl) (by kernel_rfl) (by kernel_rfl) (by kernel_rfl) (y_loadR1 ag77 rfl (by (first | exact RdS.own pkk)) (by (first | exact pv_at hr | rfl))) (fun _ _ => rfl) (Ent.sep enn) ?_)
          first | (refine Hd.takeH 5 rfl (by kernel_rfl) (by kernel_rfl) (by kernel_rfl) (by kernel_rfl) (y_loadn (us := [_, _, _]) ag69 rfl (Rd.pt pkk (by (first | exact fun j v e => by rw [Nat.zero_add]; exact e | (intro j v e; rcases j with _|_|_|_|_|_|_|_|_|_|_|_|j <;> first | exact e | exact absurd e (by simp))))) (by exact sz69)) (fun _ _ => rfl) (Ent.sep enn) ?_) | (refine Hd.takeH 5 rfl (by kernel_rfl) (by kernel_rfl) (by kernel_rfl) (by kernel_rfl) (y_loadn (us := [_, _, _]) ag69 rfl (Rd.seg pkk (by (first | exact fun j v e => by rw [Nat.zero_add]; exact e | (intro j v e; rcases j with _|_|_|_|_|_|_|_|_|_|_|_|j <;> first | exact e | exact absurd e (by simp))))) (by exact sz69)) (fun _ _ => rfl) (Ent.sep enn) ?_) | (refine Hd.takeH 5 rfl (by kernel_rfl) (by kernel_rfl) (by kernel_rfl) (by kernel_rfl) (y_loadRn ag69 rfl (by (first | exact RdS.own pkk)) (by (first | exact fun j v e => by rw [Nat.zero_add]; exact e | (intro j v e; rcases j with _|_|_|_|_|_|_|_|_|_|_|_|j <;> first | exact e | exact absurd e (by simp)))) (by exact sz69) (by simp)) (fun _ _ => rfl) (Ent.sep enn) ?_)
          refine Hd.onlyH 6 rfl (by kernel_rfl) ?_
          refine Hd.bslice (vs := [(0, _)]) rfl (by first | exact bs36_85 .. | kernel_rfl) (fun b85 => ?_)
          refine Hd.nil ?_
          refine Hd.thenN ?_
          refine Hd.heldK (J := (fun j => !([10].contains j))) (i := 6) (Ent.sep enn) ?_
          refine Hd.onlyH 7 rfl (by kernel_rfl) ?_
          refine Hd.append Try.underlying77 ty69 rfl rfl rfl pkk (by first | exact RdS.rd (Rd.pt pkk (fun j v e => by simpa using e)) rfl | (first | exact RdS.own pkk)) (by first | (simp [Value.oneCell']; done) | assumption) (by first | (simp only [maxLen]; omega) | assumption) (by omega) (fun ad86 cap86 => ?_)
          refine Hd.nil ?_
          refine Hd.thenN ?_
          refine Hd.heldK (J := (fun j => !([10].contains j))) (i := 7) (Ent.sep enn) ?_
          refine Hd.onlyH 8 rfl (by kernel_rfl) ?_
          refine Hd.yv (y_nilp rfl) ?_
          refine Hd.nil ?_
          refine Hd.thenN ?_
          refine Hd.heldK (J := (fun j => !([10].contains j))) (i := 8) (Ent.sep enn) ?_
          first | (refine Hd.takeH 9 rfl (by kernel_rfl) (by kernel_rfl) (by kernel_rfl) (by kernel_rfl) (y_field' (q := 1) (ft := 77) Try.underlying90 rfl sz77 rfl rfl) (fun _ _ => rfl) (Ent.sep enn) ?_) | (refine Hd.takeH 9 rfl (by kernel_rfl) (by kernel_rfl) (by kernel_rfl) (by kernel_rfl) (y_fieldR (q := 1) (ft := 77) Try.underlying90 rfl sz77 rfl rfl) (fun _ _ => rfl) (Ent.sep enn) ?_)
          refine Hd.onlyH 10 rfl (by kernel_rfl) ?_
          first | (refine Hd.store1 sz77 rfl rfl rfl pkk (by first | decide | (simp; done) | (simp; omega)) ?_) | (refine Hd.storeG1 sz77 rfl rfl rfl pkk (by first | decide | (simp; done) | (simp; omega)) ?_) | (refine Hd.storeO1 sz77 rfl rfl rfl pkk (by first | omega | (simp; done) | (simp; omega)) ?_)
          try simp only [List.set_cons_zero, List.set_cons_succ]
          refine Hd.nil ?_
          refine Hd.thenN ?_
          refine Hd.heldN (J := (fun j => !([10].contains j))) (i := 10) rfl ?_
          refine Hd.endH (by kernel_rfl) ?_
          refine Hd.qIn ⟨r.b, ad86, cap86, r.af, r.l ++ [addX id now after nx]⟩ hjl (Ent.sep (.eq pkk (pt_eq (by rw [hlen1])) (.eq pkk (own_eq3 hlen1.symm rfl (by rw [List.flatMap_append]; rfl)) enn))) ?_
          refine Hd.slots [(0, _), (1, _), (10, _)] ⟨rfl, rfl, rfl, trivial⟩ ?_
          refine Hd.toK hK31 ?_
          refine Hd.seq (fun K32 hK32 => ?_)
          refine Hd.exs (f := fun m : Nat => [mp c.mb .i64 c.f m]) pkk ?_
          intro m
          simp only [List.cons_append, List.nil_append]
          refine Hd.region ?_
          refine Hd.yv (y_move rfl) ?_
          refine Hd.yv (y_nilp rfl) ?_
          first | (refine Hd.yv (y_field' (q := 2) (ft := 83) Try.underlying86 rfl sz83 rfl rfl) ?_) | (refine Hd.yv (y_fieldR (q := 2) (ft := 83) Try.underlying86 rfl sz83 rfl rfl) ?_)
          first | (refine Hd.yv (y_load1 ag83 rfl (Rd.pt1 pkk (by (first | exact pv_at hr | rfl)))) ?_) | (refine Hd.yv (y_load1 ag83 rfl (Rd.seg1 pkk (by (first | exact pv_at hr | rfl)))) ?_) | (refine Hd.yv (y_loadR1 ag83 rfl (by (first | exact RdS.own pkk)) (by (first | exact pv_at hr | rfl))) ?_)
          refine Hd.yv (y_move rfl) ?_
          refine Hd.yv (y_move rfl) ?_
          refine Hd.mapUpdate mapt83 rfl rfl rfl pkk ?_
          refine Hd.nil ?_
          refine Hd.heap (CmL o qs.length (nx + 1) ⟨c.h, c.mb, c.qad, c.qcap, c.rs.set j ⟨r.b, ad86, cap86, r.af, r.l ++ [addX id now after nx]⟩, c.hs, putF c.f id j⟩ L) (Ent.sep (.pick pkk (.pick pkk (.eq pkk (own_eq3 rfl rfl (set_pv (r' := ⟨r.b, ad86, cap86, r.af, r.l ++ [addX id now after nx]⟩) hr rfl).symm) (.ex _ enn))))) ?_
          refine Hd.slots [(0, _), (10, _)] ⟨rfl, rfl, trivial⟩ ?_
          refine Hd.toK hK32 ?_
          refine Hd.seq (fun K33 hK33 => ?_)
          refine Hd.region ?_
          refine Hd.yv (y_move rfl) ?_
          refine Hd.yv (y_move rfl) ?_
          refine Hd.callE rfl fk54 (show_ct L o qs.length (nx + 1) ⟨c.h, c.mb, c.qad, c.qcap, c.rs.set j ⟨r.b, ad86, cap86, r.af, r.l ++ [addX id now after nx]⟩, c.hs, putF c.f id j⟩ j ⟨r.b, ad86, cap86, r.af, r.l ++ [addX id now after nx]⟩ (List.getElem?_set_self hjl) (by show (c.rs.set j _).length = _; rw [List.length_set]; exact hrl) hql (by show c.hs.length < _; omega)) (Ent.sep enn) ?_
          intro _
          refine Hd.nil ?_
          refine Hd.slots [] trivial ?_
          refine Hd.toK hK33 ?_
          refine Hd.seq (fun K34 hK34 => ?_)
          refine Hd.region ?_
          refine Hd.yv (y_assign rfl) ?_
          refine Hd.nil ?_
          refine Hd.slots [(8, _)] ⟨rfl, trivial⟩ ?_
          refine Hd.toK hK34 ?_
          refine Hd.ret ?_
          refine Hd.inBret ?_
          refine Hd.thenRet ?_
          refine Hd.thenRet ?_
          refine Hd.inBret ?_
          refine Hd.thenRet ?_
          clear hK1 hK2 hK3 hK4 hK6 hK7 hK22 hK23 hK24 hK25 hK26 hK27 hK28 hK29 hK30 hK31 hK32 hK33 hK34
          have hall : ∀ y ∈ r.q.l, y.at_ ≤ (addX id now after nx).at_ := fun y hy => by
            have h := hfit
            unfold fits at h
            simp only [Bool.and_eq_true, List.all_eq_true, decide_eq_true_eq] at h
            exact h.2 y hy
          have hok2 := hok.addA (x := addX id now after nx) hid rfl hno (by omega) hq hall
          have eq1 : addQ qs id now after nx = (cutQ id qs).set j ⟨r.q.af, r.q.l ++ [addX id now after nx]⟩ := by unfold addQ; rw [if_neg (by omega)]; exact hqs
          rw [show addV id = 0 by unfold addV; rw [if_neg (by omega)], eq1, show addS s id now after nx = insI (addX id now after nx) (remI id s) by unfold addS; rw [if_neg (by omega)], show addN id nx = nx + 1 by unfold addN; rw [if_neg (by omega)]]
          have hl2 : ((cutQ id qs).set j ⟨r.q.af, r.q.l ++ [addX id now after nx]⟩).length = qs.length := by rw [List.length_set, hlq]
          exact Hd.ret1 rfl () rfl (Ent.sep (.ex ⟨c.h, c.mb, c.qad, c.qcap, c.rs.set j ⟨r.b, ad86, cap86, r.af, r.l ++ [addX id now after nx]⟩, shw j (r.l ++ [addX id now after nx]) c.hs, putF c.f id j⟩ (.pure ⟨hok2, by rw [set_q, hrs]; rfl⟩ (by rw [hl2]; exact enn))))
      ·
        try simp only [decide_eq_true_eq, decide_eq_false_iff_not, Bool.and_eq_true, Bool.or_eq_true, Bool.and_eq_false_iff, Bool.or_eq_false_iff, Bool.not_eq_true', Bool.not_eq_false', Bool.not_eq_true, Bool.not_eq_false, Int.not_lt, Int.not_le, Decidable.not_not, ne_eq] at hc2
        have hj : j = qs.length := by omega
        have hnf : ∀ q' ∈ cutQ id qs, fits after (dl now after) q' = false := by have h := hp0.2; rwa [List.take_of_length_le (by omega)] at h
        have hqs := putQ_no (x := addX id now after nx) hnf
        have hfid : findI id c.hs = none := by rw [hok.hfind hH hid (hok.fno _ fun q hq y hy e => hno y (hok.sub q hq y hy) e)]; exact findI_rem s id
        have hpV : pushV c.hs (addX id now after nx) = 0 := by unfold pushV; rw [show (addX id now after nx).id = id from rfl, hfid]; rfl
        have hpS : pushS c.hs (addX id now after nx) = insI (addX id now after nx) c.hs := by unfold pushS; rw [show (addX id now after nx).id = id from rfl, hfid]; rfl
        refine Hd.exit ?_
        refine Hd.thenExit ?_
        refine Hd.thenExit ?_
        refine Hd.inBexit ?_
        refine Hd.toK hK23 ?_
        refine Hd.seq (fun K35 hK35 => ?_)
        refine Hd.drawsH ([CmH o c.h c.mb c.qad qs.length c.qcap (nx + 1), pt b9 (Hp.encI (addX id now after nx)) 69]) (fun _ => true) mixed ?_
        simp only [List.length, Nat.zero_add, Nat.reduceAdd]
        refine Hd.takeH 0 rfl (by kernel_rfl) (by kernel_rfl) (by kernel_rfl) (by kernel_rfl) (y_move rfl) (fun _ _ => rfl) (Ent.sep enn) ?_
        refine Hd.takeH 1 rfl (by kernel_rfl) (by kernel_rfl) (by kernel_rfl) (by kernel_rfl) (y_nilp rfl) (fun _ _ => rfl) (Ent.sep enn) ?_
        first | (refine Hd.takeH 2 rfl (by kernel_rfl) (by kernel_rfl) (by kernel_rfl) (by kernel_rfl) (y_field' (q := 0) (ft := 81) Try.underlying86 rfl sz81 rfl rfl) (fun _ _ => rfl) (Ent.sep enn) ?_) | (refine Hd.takeH 2 rfl (by kernel_rfl) (by kernel_rfl) (by kernel_rfl) (by kernel_rfl) (y_fieldR (q := 0) (ft := 81) Try.underlying86 rfl sz81 rfl rfl) (fun _ _ => rfl) (Ent.sep enn) ?_)
        first | (refine Hd.takeH 3 rfl (by kernel_rfl) (by kernel_rfl) (by kernel_rfl) (by kernel_rfl) (y_load1 ag81 rfl (Rd.pt1 pkk (by (first | exact pv_at hr | rfl)))) (fun _ _ => rfl) (Ent.sep enn) ?_) | (refine Hd.takeH 3 rfl (by kernel_rfl) (by kernel_rfl) (by kernel_rfl) (by kernel_rfl) (y_load1 ag81 rfl (Rd.seg1 pkk (by (first | exact pv_at hr | rfl)))) (fun _ _ => rfl) (Ent.sep enn) ?_) | (refine Hd.takeH 3 rfl (by kernel_rfl) (by kernel_rfl) (by kernel_rfl) (by kernel_rfl) (y_loadR1 ag81 rfl (by (first | exact RdS.own pkk)) (by (first | exact pv_at hr | rfl))) (fun _ _ => rfl) (Ent.sep enn) ?_)
        first | (refine Hd.takeH 4 rfl (by kernel_rfl) (by kernel_rfl) (by kernel_rfl) (by kernel_rfl) (y_loadn (us := [_, _, _]) ag69 rfl (Rd.pt pkk (by (first | exact fun j v e => by rw [Nat.zero_add]; exact e | (intro j v e; rcases j with _|_|_|_|_|_|_|_|_|_|_|_|j <;> first | exact e | exact absurd e (by simp))))) (by exact sz69)) (fun _ _ => rfl) (Ent.sep enn) ?_) | (refine Hd.takeH 4 rfl (by kernel_rfl) (by kernel_rfl) (by kernel_rfl) (by kernel_rfl) (y_loadn (us := [_, _, _]) ag69 rfl (Rd.seg pkk (by (first | exact fun j v e => by rw [Nat.zero_add]; exact e | (intro j v e; rcases j with _|_|_|_|_|_|_|_|_|_|_|_|j <;> first | exact e | exact absurd e (by simp))))) (by exact sz69)) (fun _ _ => rfl) (Ent.sep enn) ?_) | (refine Hd.takeH 4 rfl (by kernel_rfl) (by kernel_rfl) (by kernel_rfl) (by kernel_rfl) (y_loadRn ag69 rfl (by (first | exact RdS.own pkk)) (by (first | exact fun j v e => by rw [Nat.zero_add]; exact e | (intro j v e; rcases j with _|_|_|_|_|_|_|_|_|_|_|_|j <;> first | exact e | exact absurd e (by simp)))) (by exact sz69) (by simp)) (fun _ _ => rfl) (Ent.sep enn) ?_)
        refine Hd.onlyH 5 rfl (by kernel_rfl) ?_
        refine Hd.callE rfl fk55 (push_ct _ c.h c.hs (by omega) (addX id now after nx)) (Ent.sep enn) ?_
        intro _
        rw [hpV, hpS]
        refine Hd.nil ?_
        refine Hd.thenN ?_
        refine Hd.heldK (J := (fun _ => true)) (i := 5) (Ent.sep enn) ?_
        refine Hd.takeH 6 rfl (by kernel_rfl) (by kernel_rfl) (by kernel_rfl) (by kernel_rfl) (y_assign rfl) (fun _ _ => rfl) (Ent.sep enn) ?_
        refine Hd.endH (by kernel_rfl) ?_
        refine Hd.slots [(8, _)] ⟨rfl, trivial⟩ ?_
        refine Hd.toK hK35 ?_
        refine Hd.ret ?_
        clear hK1 hK2 hK3 hK4 hK6 hK7 hK22 hK23 hK24 hK25 hK26 hK35
        have hok2 := hok.addB (x := addX id now after nx) hid rfl hno (by omega)
        rw [show addV id = 0 by unfold addV; rw [if_neg (by omega)], show addQ qs id now after nx = cutQ id qs by unfold addQ; rw [if_neg (by omega)]; exact hqs, show addS s id now after nx = insI (addX id now after nx) (remI id s) by unfold addS; rw [if_neg (by omega)], show addN id nx = nx + 1 by unfold addN; rw [if_neg (by omega)]]
        exact Hd.ret1 rfl () rfl (Ent.sep (.ex { c with hs := insI (addX id now after nx) c.hs } (.pure ⟨hok2, hrs⟩ (by rw [hlq]; exact enn))))
end Cm
end Go.Proofs.Ytdjoofidicoimaa
