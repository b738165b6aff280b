/-
  Sets of deadlines: Common, Add.
-/
import Derived.Test.YtdjoofidicoimaaCo4
namespace Go.Proofs.Ytdjoofidicoimaa
set_option linter.unusedSimpArgs false
set_option linter.unusedVariables false
set_option linter.unnecessarySimpa false
open Go.RX Fx Hp
namespace Cm
set_option maxRecDepth 8000
def idxA (a : Int) : List Int → Nat → Int
  | [], _ => -1
  | b :: t, i => if b = a then (i : Int) else idxA a t (i + 1)
theorem idxA_at {a : Int} {post : List Int} : ∀ {pre : List Int} {i : Nat}, a ∉ pre → idxA a (pre ++ a :: post) i = ((i + pre.length : Nat) : Int)
  | [], i, _ => by simp [idxA]
  | b :: t, i, h => by
    have h1 : b ≠ a := fun e => h (by rw [e]; exact List.mem_cons_self)
    rw [List.cons_append]
    show (if b = a then _ else idxA a (t ++ a :: post) (i + 1)) = _
    rw [if_neg h1, idxA_at (fun q => h (List.mem_cons_of_mem _ q))]
    congr 1; simp; omega
theorem idxA_no {a : Int} : ∀ {l : List Int} {i : Nat}, a ∉ l → idxA a l i = -1
  | [], _, _ => rfl
  | b :: t, i, h => by
    have h1 : b ≠ a := fun e => h (by rw [e]; exact List.mem_cons_self)
    show (if b = a then _ else _) = _
    rw [if_neg h1, idxA_no (fun q => h (List.mem_cons_of_mem _ q))]
theorem idxA_mem {a : Int} {l : List Int} : decide (idxA a l 0 ≥ 0) = decide (a ∈ l) := by
  by_cases h : a ∈ l
  · obtain ⟨pre, post, e, hp⟩ := List.eq_append_cons_of_mem h
    rw [e, idxA_at hp]; simp
  · rw [idxA_no h]; simp [h]
abbrev afs (rs : List QR) : List Int := rs.map QR.af
set_option maxHeartbeats 2000000 in
theorem comf_ct (L : List SP) (b : Nat) (a : Int) (r : QR) : Ct Try.prog 52 #[pv r, .pointer (some ⟨b, 0, none⟩)] (qb r :: pt b [.int .u64 a] 23 :: L) (fun _ : Unit => .bool (decide (r.af = a))) (fun _ : Unit => qb r :: pt b [.int .u64 a] 23 :: L) := by
  refine Ct.of (vs := [pv r, .pointer (some ⟨b, 0, none⟩)]) Try.func52 rfl rfl [(0, pv r), (1, .pointer (some ⟨b, 0, none⟩))] (by repeat (first | exact trivial | refine ⟨rfl, ?_⟩)) ?_
  intro E
  show Hd E 10 _ _ _ _
  refine Hd.seq (fun K1 hK1 => ?_)
  refine Hd.region ?_
  refine Hd.yv (y_assign rfl) ?_
  refine Hd.nil ?_
  refine Hd.slots [(0, _), (1, _)] ⟨rfl, rfl, trivial⟩ ?_
  refine Hd.toK hK1 ?_
  refine Hd.seq (fun K2 hK2 => ?_)
  refine Hd.quiet mixed (by kernel_rfl) ?_
  refine Hq.yv (y_move rfl) ?_
  refine Hq.yv (y_nilp rfl) ?_
  first | (refine Hq.yv (y_field' (q := 0) (ft := 23) Try.underlying90 rfl sz23 rfl rfl) ?_) | (refine Hq.yv (y_fieldR (q := 0) (ft := 23) Try.underlying90 rfl sz23 rfl rfl) ?_)
  first | (refine Hq.yv (y_load1 ag23 rfl (Rd.pt1 pkk (by (first | rfl)))) ?_) | (refine Hq.yv (y_load1 ag23 rfl (Rd.seg1 pkk (by (first | rfl)))) ?_) | (refine Hq.yv (y_loadR1 ag23 rfl (by (first | exact RdS.own pkk)) (by (first | rfl))) ?_)
  first | (refine Hq.yv (y_load1 ag23 rfl (Rd.pt1 pkk (by (first | rfl)))) ?_) | (refine Hq.yv (y_load1 ag23 rfl (Rd.seg1 pkk (by (first | rfl)))) ?_) | (refine Hq.yv (y_loadR1 ag23 rfl (by (first | exact RdS.own pkk)) (by (first | rfl))) ?_)
  first | (refine Hq.yv (y_eqlT rfl rfl) ?_) | (refine Hq.yv (y_eql rfl rfl) ?_)
  refine Hq.yv (y_assign rfl) ?_
  refine Hq.nil ?_
  refine Hd.slots [(3, _)] ⟨rfl, trivial⟩ ?_
  refine Hd.toK hK2 ?_
  refine Hd.ret ?_
  clear hK1 hK2
  exact Hd.ret1 rfl () (by first | rfl | (simp only [*]; done) | (simp [*]; done)) (Ent.sep enn)
set_option maxHeartbeats 2000000 in
theorem idxq_ct (L : List SP) (qad : Option Addr) (qn qcap : Nat) (b : Nat) (a : Int) (rs : List QR) (hn : rs.length = qn) (hb : qn ≤ 32) : Ct Try.prog 65 #[.slice qad qn qcap, .func (.func 52) #[] #[.pointer (some ⟨b, 0, none⟩)]] (pt b [.int .u64 a] 23 :: QP qad qn qcap rs :: Qs rs :: L) (fun _ : Unit => .int .i64 (idxA a (afs rs) 0)) (fun _ : Unit => pt b [.int .u64 a] 23 :: QP qad qn qcap rs :: Qs rs :: L) := by
  refine Ct.of (vs := [.slice qad qn qcap, .func (.func 52) #[] #[.pointer (some ⟨b, 0, none⟩)]]) Try.func65 rfl rfl [(0, .slice qad qn qcap), (1, .func (.func 52) #[] #[.pointer (some ⟨b, 0, none⟩)])] (by repeat (first | exact trivial | refine ⟨rfl, ?_⟩)) ?_
  intro E
  show Hd E 19 _ _ _ _
  refine Hd.seq (fun K1 hK1 => ?_)
  refine Hd.region ?_
  refine Hd.yv (y_assign rfl) ?_
  refine Hd.nil ?_
  refine Hd.slots [(0, _), (1, _)] ⟨rfl, rfl, trivial⟩ ?_
  refine Hd.toK hK1 ?_
  refine Hd.seq (fun K2 hK2 => ?_)
  refine Hd.seq (fun K3 hK3 => ?_)
  refine Hd.region ?_
  refine Hd.yv (y_move rfl) ?_
  refine Hd.yv (y_len Try.underlying84 rfl) ?_
  refine Hd.yv (y_move rfl) ?_
  refine Hd.nil ?_
  refine Hd.slots [(0, _), (1, _), (7, _), (8, _)] ⟨rfl, rfl, rfl, rfl, trivial⟩ ?_
  refine Hd.toK hK3 ?_
  refine Hd.block ?_
  refine Hd.loopK (ι := Nat) [(0, _), (1, _), (7, _)] (fun i => [(8, .int .i64 (i : Int))]) (fun i => pu (i ≤ qn ∧ a ∉ afs (rs.take i)) :: pt b [.int .u64 a] 23 :: QP qad qn qcap rs :: Qs rs :: L) (fun i => qn - i) 0 (by repeat (first | exact trivial | refine ⟨rfl, ?_⟩)) (by repeat (first | exact trivial | refine ⟨rfl, ?_⟩)) (Ent.sep (.pure ⟨Nat.zero_le _, by simp⟩ enn)) ?_
  intro i
  try dsimp only
  refine Hd.pure (fun hp0 => ?_)
  try dsimp only at hp0
  refine Hd.seq (fun K4 hK4 => ?_)
  refine Hd.region ?_
  refine Hd.yv (y_lss rfl rfl) ?_
  refine Hd.nil ?_
  refine Hd.slots [(0, _), (1, _), (7, _), (8, _), (9, _)] ⟨rfl, rfl, rfl, rfl, rfl, trivial⟩ ?_
  refine Hd.toK hK4 ?_
  refine Hd.seq (fun K5 hK5 => ?_)
  refine Hd.cond rfl (fun hc0 => ?_) (fun hc0 => ?_)
  ·
    try simp only [decide_eq_true_eq, decide_eq_false_iff_not, Bool.and_eq_true, Bool.or_eq_true, Bool.and_eq_false_iff, Bool.or_eq_false_iff, Bool.not_eq_true', Bool.not_eq_false', Bool.not_eq_true, Bool.not_eq_false, Int.not_lt, Int.not_le, Decidable.not_not, ne_eq] at hc0
    obtain ⟨r, hr⟩ : ∃ r, rs[i]? = some r := ⟨_, List.getElem?_eq_getElem (by omega)⟩
    have hil : i < rs.length := by omega
    refine Hd.skip ?_
    refine Hd.toK hK5 ?_
    refine Hd.seq (fun K6 hK6 => ?_)
    refine Hd.block ?_
    refine Hd.seq (fun K7 hK7 => ?_)
    refine Hd.region ?_
    refine Hd.yv (y_move rfl) ?_
    refine Hd.yv (y_assign rfl) ?_
    refine Hd.nil ?_
    refine Hd.slots [(0, _), (1, _), (5, _), (7, _), (8, _)] ⟨rfl, rfl, rfl, rfl, rfl, trivial⟩ ?_
    refine Hd.toK hK7 ?_
    refine Hd.seq (fun K8 hK8 => ?_)
    refine Hd.region ?_
    refine Hd.yv (y_move rfl) ?_
    refine Hd.yv (y_move rfl) ?_
    refine Hd.yv (y_move rfl) ?_
    first | (refine Hd.yv (y_idxS Try.underlying84 sz88 rfl rfl (by first | omega | decide)) ?_) | (refine Hd.yv (y_idxR Try.underlying84 sz88 rfl rfl (by first | omega | decide) (by (first | exact RdS.own pkk))) ?_)
    first | (refine Hd.yv (y_load1 ag88 rfl (Rd.pt1 pkk (by (first | exact pv_at hr | rfl)))) ?_) | (refine Hd.yv (y_load1 ag88 rfl (Rd.seg1 pkk (by (first | exact pv_at hr | rfl)))) ?_) | (refine Hd.yv (y_loadR1 ag88 rfl (by (first | exact RdS.own pkk)) (by (first | exact pv_at hr | rfl))) ?_)
    refine Hd.qOut pkk hr ?_
    refine Hd.callvE (vs := [_]) (cap := [_]) rfl rfl (by kernel_rfl) (comf_ct _ b a r) (Ent.sep enn) ?_
    intro _
    refine Hd.nil ?_
    refine Hd.slots [(0, _), (1, _), (5, _), (7, _), (8, _), (16, _)] ⟨rfl, rfl, rfl, rfl, rfl, rfl, trivial⟩ ?_
    refine Hd.toK hK8 ?_
    refine Hd.cond rfl (fun hc1 => ?_) (fun hc1 => ?_)
    ·
      try simp only [decide_eq_true_eq, decide_eq_false_iff_not, Bool.and_eq_true, Bool.or_eq_true, Bool.and_eq_false_iff, Bool.or_eq_false_iff, Bool.not_eq_true', Bool.not_eq_false', Bool.not_eq_true, Bool.not_eq_false, Int.not_lt, Int.not_le, Decidable.not_not, ne_eq] at hc1
      refine Hd.seq (fun K9 hK9 => ?_)
      refine Hd.region ?_
      refine Hd.yv (y_move rfl) ?_
      refine Hd.yv (y_assign rfl) ?_
      refine Hd.nil ?_
      refine Hd.slots [(4, _)] ⟨rfl, trivial⟩ ?_
      refine Hd.toK hK9 ?_
      refine Hd.ret ?_
      refine Hd.inBret ?_
      refine Hd.thenRet ?_
      refine Hd.thenRet ?_
      refine Hd.inBret ?_
      refine Hd.thenRet ?_
      clear hK1 hK2 hK3 hK4 hK5 hK6 hK7 hK8 hK9
      have e : afs rs = afs (rs.take i) ++ a :: afs (rs.drop (i + 1)) := by
        conv => lhs; rw [take_drop_at hr]
        simp [afs, hc1]
      have hlt : (afs (rs.take i)).length = i := by simp; omega
      refine Hd.qIn r hil (Ent.sep enn) ?_
      rw [set_same hr]
      exact Hd.ret1 rfl () (by rw [e, idxA_at hp0.2, hlt, Nat.zero_add]; rfl) (Ent.sep enn)
    ·
      try simp only [decide_eq_true_eq, decide_eq_false_iff_not, Bool.and_eq_true, Bool.or_eq_true, Bool.and_eq_false_iff, Bool.or_eq_false_iff, Bool.not_eq_true', Bool.not_eq_false', Bool.not_eq_true, Bool.not_eq_false, Int.not_lt, Int.not_le, Decidable.not_not, ne_eq] at hc1
      refine Hd.skip ?_
      refine Hd.inB ?_
      refine Hd.toK hK6 ?_
      refine Hd.region ?_
      first | (refine Hd.yv (y_addn rfl rfl (by simp only [InK]; omega)) ?_) | (refine Hd.yv (y_add rfl rfl) ?_)
      refine Hd.yv (y_move rfl) ?_
      refine Hd.nil ?_
      refine Hd.qIn r hil (Ent.sep enn) ?_
      rw [set_same hr]
      refine Hd.slots [(0, _), (1, _), (7, _), (8, _)] ⟨rfl, rfl, rfl, rfl, trivial⟩ ?_
      clear hK1 hK2 hK3 hK4 hK5 hK6 hK7 hK8
      refine Hd.thenN ?_
      exact Hd.again (i + 1) (by first | omega | (simp only; omega) | (simp; omega)) (by repeat (first | exact trivial | refine ⟨rfl, ?_⟩)) (Ent.sep (.pure ⟨by omega, by rw [List.take_add_one, hr]; simp only [afs, List.map_append, List.mem_append, not_or]; exact ⟨hp0.2, by simpa using fun e => hc1 e.symm⟩⟩ enn))
  ·
    try simp only [decide_eq_true_eq, decide_eq_false_iff_not, Bool.and_eq_true, Bool.or_eq_true, Bool.and_eq_false_iff, Bool.or_eq_false_iff, Bool.not_eq_true', Bool.not_eq_false', Bool.not_eq_true, Bool.not_eq_false, Int.not_lt, Int.not_le, Decidable.not_not, ne_eq] at hc0
    have hi : i = qn := by omega
    have hno : a ∉ afs rs := by have h := hp0.2; rwa [List.take_of_length_le (by omega)] at h
    refine Hd.exit ?_
    refine Hd.thenExit ?_
    refine Hd.thenExit ?_
    refine Hd.inBexit ?_
    refine Hd.toK hK2 ?_
    refine Hd.seq (fun K10 hK10 => ?_)
    refine Hd.region ?_
    refine Hd.yv (y_assign rfl) ?_
    refine Hd.nil ?_
    refine Hd.slots [(4, _)] ⟨rfl, trivial⟩ ?_
    refine Hd.toK hK10 ?_
    refine Hd.ret ?_
    clear hK1 hK2 hK3 hK4 hK5 hK10
    exact Hd.ret1 rfl () (by rw [idxA_no hno]; rfl) (Ent.sep enn)
set_option maxHeartbeats 2000000 in
theorem has_ct (L : List SP) (qad : Option Addr) (qn qcap : Nat) (b : Nat) (a : Int) (rs : List QR) (hn : rs.length = qn) (hb : qn ≤ 32) : Ct Try.prog 51 #[.slice qad qn qcap, .func (.func 52) #[] #[.pointer (some ⟨b, 0, none⟩)]] (pt b [.int .u64 a] 23 :: QP qad qn qcap rs :: Qs rs :: L) (fun _ : Unit => .bool (decide (a ∈ afs rs))) (fun _ : Unit => pt b [.int .u64 a] 23 :: QP qad qn qcap rs :: Qs rs :: L) := by
  refine Ct.of (vs := [.slice qad qn qcap, .func (.func 52) #[] #[.pointer (some ⟨b, 0, none⟩)]]) Try.func51 rfl rfl [(0, .slice qad qn qcap), (1, .func (.func 52) #[] #[.pointer (some ⟨b, 0, none⟩)])] (by repeat (first | exact trivial | refine ⟨rfl, ?_⟩)) ?_
  intro E
  show Hd E 9 _ _ _ _
  refine Hd.seq (fun K1 hK1 => ?_)
  refine Hd.region ?_
  refine Hd.yv (y_assign rfl) ?_
  refine Hd.nil ?_
  refine Hd.slots [(0, _), (1, _)] ⟨rfl, rfl, trivial⟩ ?_
  refine Hd.toK hK1 ?_
  refine Hd.seq (fun K2 hK2 => ?_)
  refine Hd.region ?_
  refine Hd.yv (y_move rfl) ?_
  refine Hd.yv (y_move rfl) ?_
  refine Hd.callE rfl fk65 (idxq_ct L qad qn qcap b a rs hn hb) (Ent.sep enn) ?_
  intro _
  refine Hd.yv (y_geq rfl rfl) ?_
  refine Hd.yv (y_assign rfl) ?_
  refine Hd.nil ?_
  refine Hd.slots [(4, _)] ⟨rfl, trivial⟩ ?_
  refine Hd.toK hK2 ?_
  refine Hd.ret ?_
  clear hK1 hK2
  exact Hd.ret1 rfl () (by rw [← idxA_mem]; rfl) (Ent.sep enn)
/-- is a timeout one that can't be made common -/
def noMk (qs : List Q) (a : Int) : Bool := decide (a = 18446744073709551615) || decide ((32 : Int) ≤ (qs.length : Int)) || decide (a ∈ qs.map Q.af)
def mkV (qs : List Q) (a : Int) : Int := if noMk qs a then 90 else 0
def mkS (qs : List Q) (a : Int) : List Q := if noMk qs a then qs else qs ++ [⟨a, []⟩]
set_option maxHeartbeats 2000000 in
theorem common_ct (L : List SP) (o : Nat) (qs : List Q) (s : List It) (nx : Int) (a : Int) : Ct Try.prog 35 #[.pointer (some ⟨o, 0, none⟩), .int .u64 a] (CoA o qs s nx :: L) (fun _ : Unit => .int .i64 (mkV qs a)) (fun _ : Unit => CoA o (mkS qs a) s nx :: L) := by
  refine Ct.of (vs := [.pointer (some ⟨o, 0, none⟩), .int .u64 a]) Try.func35 rfl rfl [(0, .pointer (some ⟨o, 0, none⟩)), (1, .int .u64 a)] (by repeat (first | exact trivial | refine ⟨rfl, ?_⟩)) ?_
  intro E
  show Hd E 37 _ _ _ _
  refine Hd.exs .here ?_
  intro c
  simp only [List.cons_append, List.nil_append]
  refine Hd.pure (fun hq => ?_)
  obtain ⟨hok, hrs⟩ := hq
  have hql := hok.ql
  have hrl : c.rs.length = qs.length := by rw [← hrs, List.length_map]
  have haf : afs c.rs = qs.map Q.af := by rw [← hrs, List.map_map]; rfl
  refine Hd.seq (fun K1 hK1 => ?_)
  refine Hd.region ?_
  refine Hd.box rfl rfl (fun b3 => ?_)
  refine Hd.yv (y_assign rfl) ?_
  refine Hd.nil ?_
  refine Hd.slots [(0, _), (3, _)] ⟨rfl, rfl, trivial⟩ ?_
  refine Hd.toK hK1 ?_
  refine Hd.seq (fun K2 hK2 => ?_)
  refine Hd.seq (fun K3 hK3 => ?_)
  refine Hd.region ?_
  refine Hd.yv (y_move rfl) ?_
  refine Hd.callE rfl fk50 (none_ct _ o c.h c.mb c.qad qs.length c.qcap nx) (Ent.sep enn) ?_
  intro _
  refine Hd.nil ?_
  refine Hd.slots [(0, _), (3, _), (6, _)] ⟨rfl, rfl, rfl, trivial⟩ ?_
  refine Hd.toK hK3 ?_
  refine Hd.condF rfl ?_
  refine Hd.skip ?_
  refine Hd.toK hK2 ?_
  refine Hd.seq (fun K4 hK4 => ?_)
  refine Hd.seq (fun K5 hK5 => ?_)
  refine Hd.region ?_
  first | (refine Hd.yv (y_load1 ag23 rfl (Rd.pt1 pkk (by (first | rfl)))) ?_) | (refine Hd.yv (y_load1 ag23 rfl (Rd.seg1 pkk (by (first | rfl)))) ?_) | (refine Hd.yv (y_loadR1 ag23 rfl (by (first | exact RdS.own pkk)) (by (first | rfl))) ?_)
  first | (refine Hd.yv (y_eqlT rfl rfl) ?_) | (refine Hd.yv (y_eql rfl rfl) ?_)
  refine Hd.yv (y_move rfl) ?_
  apply Hd.org 7 9 16 [(0, _), (3, _)] rfl ⟨rfl, rfl, trivial⟩
  · intro hg3_9
    try simp only [decide_eq_true_eq, decide_eq_false_iff_not, Bool.and_eq_true, Bool.or_eq_true, Bool.and_eq_false_iff, Bool.or_eq_false_iff, Bool.not_eq_true', Bool.not_eq_false', Bool.not_eq_true, Bool.not_eq_false, Int.not_lt, Int.not_le, Decidable.not_not, ne_eq] at hg3_9
    simp only [List.take]
    refine Hd.ng rfl rfl rfl ?_
    refine Hd.ng rfl rfl rfl ?_
    refine Hd.ng rfl rfl rfl ?_
    refine Hd.ng rfl rfl rfl ?_
    refine Hd.ng rfl rfl rfl ?_
    refine Hd.ng rfl rfl rfl ?_
    first | (refine Hd.yv (y_pickT rfl rfl) ?_) | (refine Hd.yv (y_pickF rfl rfl) ?_) | (refine Hd.yv (y_pickb rfl rfl rfl) ?_) | (refine Hd.yv (y_pick rfl rfl rfl) ?_)
    refine Hd.nil ?_
    exact Hd.mend (by repeat (first | exact trivial | refine ⟨rfl, ?_⟩)) (Ent.sep enn)
  · intro hg3_9
    try simp only [decide_eq_true_eq, decide_eq_false_iff_not, Bool.and_eq_true, Bool.or_eq_true, Bool.and_eq_false_iff, Bool.or_eq_false_iff, Bool.not_eq_true', Bool.not_eq_false', Bool.not_eq_true, Bool.not_eq_false, Int.not_lt, Int.not_le, Decidable.not_not, ne_eq] at hg3_9
    simp only [List.take]
    refine Hd.yg rfl rfl (y_move rfl) ?_
    refine Hd.yg rfl rfl (y_nilp rfl) ?_
    first | (refine Hd.yg rfl rfl (y_field' (q := 1) (ft := 84) Try.underlying86 rfl sz84 rfl rfl) ?_) | (refine Hd.yg rfl rfl (y_fieldR (q := 1) (ft := 84) Try.underlying86 rfl sz84 rfl rfl) ?_)
    first | (refine Hd.yg rfl rfl (y_load1 ag84 rfl (Rd.pt1 pkk (by (first | rfl)))) ?_) | (refine Hd.yg rfl rfl (y_load1 ag84 rfl (Rd.seg1 pkk (by (first | rfl)))) ?_) | (refine Hd.yg rfl rfl (y_loadR1 ag84 rfl (by (first | exact RdS.own pkk)) (by (first | rfl))) ?_)
    refine Hd.yg rfl rfl (y_len Try.underlying84 rfl) ?_
    refine Hd.yg rfl rfl (y_geq rfl rfl) ?_
    first | (refine Hd.yv (y_pickT rfl rfl) ?_) | (refine Hd.yv (y_pickF rfl rfl) ?_) | (refine Hd.yv (y_pickb rfl rfl rfl) ?_) | (refine Hd.yv (y_pick rfl rfl rfl) ?_)
    refine Hd.nil ?_
    exact Hd.mend (by repeat (first | exact trivial | refine ⟨rfl, ?_⟩)) (Ent.sep enn)
  simp only [List.drop]
  refine Hd.yv (y_move rfl) ?_
  apply Hd.org 7 17 24 [(0, _), (3, _)] rfl ⟨rfl, rfl, trivial⟩
  · intro hg3_17
    try simp only [decide_eq_true_eq, decide_eq_false_iff_not, Bool.and_eq_true, Bool.or_eq_true, Bool.and_eq_false_iff, Bool.or_eq_false_iff, Bool.not_eq_true', Bool.not_eq_false', Bool.not_eq_true, Bool.not_eq_false, Int.not_lt, Int.not_le, Decidable.not_not, ne_eq] at hg3_17
    simp only [List.take]
    refine Hd.ng rfl rfl rfl ?_
    refine Hd.ng rfl rfl rfl ?_
    refine Hd.ng rfl rfl rfl ?_
    refine Hd.ng rfl rfl rfl ?_
    refine Hd.ng rfl rfl rfl ?_
    refine Hd.ng rfl rfl rfl ?_
    first | (refine Hd.yv (y_pickT rfl rfl) ?_) | (refine Hd.yv (y_pickF rfl rfl) ?_) | (refine Hd.yv (y_pickb rfl rfl rfl) ?_) | (refine Hd.yv (y_pick rfl rfl rfl) ?_)
    refine Hd.nil ?_
    exact Hd.mend (by repeat (first | exact trivial | refine ⟨rfl, ?_⟩)) (Ent.sep enn)
  · intro hg3_17
    try simp only [decide_eq_true_eq, decide_eq_false_iff_not, Bool.and_eq_true, Bool.or_eq_true, Bool.and_eq_false_iff, Bool.or_eq_false_iff, Bool.not_eq_true', Bool.not_eq_false', Bool.not_eq_true, Bool.not_eq_false, Int.not_lt, Int.not_le, Decidable.not_not, ne_eq] at hg3_17
    simp only [List.take]
    refine Hd.yg rfl rfl (y_move rfl) ?_
    refine Hd.yg rfl rfl (y_nilp rfl) ?_
    first | (refine Hd.yg rfl rfl (y_field' (q := 1) (ft := 84) Try.underlying86 rfl sz84 rfl rfl) ?_) | (refine Hd.yg rfl rfl (y_fieldR (q := 1) (ft := 84) Try.underlying86 rfl sz84 rfl rfl) ?_)
    first | (refine Hd.yg rfl rfl (y_load1 ag84 rfl (Rd.pt1 pkk (by (first | rfl)))) ?_) | (refine Hd.yg rfl rfl (y_load1 ag84 rfl (Rd.seg1 pkk (by (first | rfl)))) ?_) | (refine Hd.yg rfl rfl (y_loadR1 ag84 rfl (by (first | exact RdS.own pkk)) (by (first | rfl))) ?_)
    refine Hd.yg rfl rfl (y_mkf (fv := []) (cv := [_]) rfl rfl) ?_
    refine Hd.unguard rfl rfl ?_
    refine Hd.callE rfl fk51 (has_ct _ c.qad qs.length c.qcap b3 a c.rs hrl hql) (Ent.sep enn) ?_
    intro _
    first | (refine Hd.yv (y_pickT rfl rfl) ?_) | (refine Hd.yv (y_pickF rfl rfl) ?_) | (refine Hd.yv (y_pickb rfl rfl rfl) ?_) | (refine Hd.yv (y_pick rfl rfl rfl) ?_)
    refine Hd.nil ?_
    exact Hd.mend (by repeat (first | exact trivial | refine ⟨rfl, ?_⟩)) (Ent.sep enn)
  simp only [List.drop]
  refine Hd.nil ?_
  rw [haf]
  refine Hd.slots [(0, _), (3, _), (24, _)] ⟨rfl, rfl, rfl, trivial⟩ ?_
  refine Hd.toK hK5 ?_
  refine Hd.cond rfl (fun hc1 => ?_) (fun hc1 => ?_)
  ·
    try simp only [decide_eq_true_eq, decide_eq_false_iff_not, Bool.and_eq_true, Bool.or_eq_true, Bool.and_eq_false_iff, Bool.or_eq_false_iff, Bool.not_eq_true', Bool.not_eq_false', Bool.not_eq_true, Bool.not_eq_false, Int.not_lt, Int.not_le, Decidable.not_not, ne_eq] at hc1
    refine Hd.seq (fun K6 hK6 => ?_)
    refine Hd.region ?_
    refine Hd.yv (y_assign rfl) ?_
    refine Hd.nil ?_
    refine Hd.slots [(4, _)] ⟨rfl, trivial⟩ ?_
    refine Hd.toK hK6 ?_
    refine Hd.ret ?_
    refine Hd.thenRet ?_
    clear hK1 hK2 hK3 hK4 hK5 hK6
    have hno : noMk qs a = true := by unfold noMk; simpa [or_assoc] using hc1
    rw [show mkS qs a = qs by unfold mkS; rw [if_pos hno], show mkV qs a = 90 by unfold mkV; rw [if_pos hno]]
    exact Hd.ret1 rfl () rfl (Ent.sep (.ex c (.pure ⟨hok, hrs⟩ enn)))
  ·
    try simp only [decide_eq_true_eq, decide_eq_false_iff_not, Bool.and_eq_true, Bool.or_eq_true, Bool.and_eq_false_iff, Bool.or_eq_false_iff, Bool.not_eq_true', Bool.not_eq_false', Bool.not_eq_true, Bool.not_eq_false, Int.not_lt, Int.not_le, Decidable.not_not, ne_eq] at hc1
    have hno : noMk qs a = false := by unfold noMk; simpa [or_assoc] using hc1
    have hno2 : a ∉ qs.map Q.af ∧ qs.length < 32 := by unfold noMk at hno; simp at hno ⊢; exact ⟨hno.2, by omega⟩
    refine Hd.skip ?_
    refine Hd.toK hK4 ?_
    refine Hd.seq (fun K7 hK7 => ?_)
    refine Hd.drawsH ([CmH o c.h c.mb c.qad qs.length c.qcap nx, pt b3 [.int .u64 a] 23]) (fun j => !([12].contains j)) mixed ?_
    simp only [List.length, Nat.zero_add, Nat.reduceAdd]
    refine Hd.takeH 0 rfl (by kernel_rfl) (by kernel_rfl) (by kernel_rfl) (by kernel_rfl) (y_move rfl) (fun _ _ => rfl) (Ent.sep enn) ?_
    refine Hd.takeH 1 rfl (by kernel_rfl) (by kernel_rfl) (by kernel_rfl) (by kernel_rfl) (y_move rfl) (fun _ _ => rfl) (Ent.sep enn) ?_
    refine Hd.takeH 2 rfl (by kernel_rfl) (by kernel_rfl) (by kernel_rfl) (by kernel_rfl) (y_nilp rfl) (fun _ _ => rfl) (Ent.sep enn) ?_
    first | (refine Hd.takeH 3 rfl (by kernel_rfl) (by kernel_rfl) (by kernel_rfl) (by kernel_rfl) (y_field' (q := 1) (ft := 84) Try.underlying86 rfl sz84 rfl rfl) (fun _ _ => rfl) (Ent.sep enn) ?_) | (refine Hd.takeH 3 rfl (by kernel_rfl) (by kernel_rfl) (by kernel_rfl) (by kernel_rfl) (y_fieldR (q := 1) (ft := 84) Try.underlying86 rfl sz84 rfl rfl) (fun _ _ => rfl) (Ent.sep enn) ?_)
    first | (refine Hd.takeH 4 rfl (by kernel_rfl) (by kernel_rfl) (by kernel_rfl) (by kernel_rfl) (y_load1 ag84 rfl (Rd.pt1 pkk (by (first | rfl)))) (fun _ _ => rfl) (Ent.sep enn) ?_) | (refine Hd.takeH 4 rfl (by kernel_rfl) (by kernel_rfl) (by kernel_rfl) (by kernel_rfl) (y_load1 ag84 rfl (Rd.seg1 pkk (by (first | rfl)))) (fun _ _ => rfl) (Ent.sep enn) ?_) | (refine Hd.takeH 4 rfl (by kernel_rfl) (by kernel_rfl) (by kernel_rfl) (by kernel_rfl) (y_loadR1 ag84 rfl (by (first | exact RdS.own pkk)) (by (first | rfl))) (fun _ _ => rfl) (Ent.sep enn) ?_)
    first | (refine Hd.takeH 5 rfl (by kernel_rfl) (by kernel_rfl) (by kernel_rfl) (by kernel_rfl) (y_load1 ag23 rfl (Rd.pt1 pkk (by (first | rfl)))) (fun _ _ => rfl) (Ent.sep enn) ?_) | (refine Hd.takeH 5 rfl (by kernel_rfl) (by kernel_rfl) (by kernel_rfl) (by kernel_rfl) (y_load1 ag23 rfl (Rd.seg1 pkk (by (first | rfl)))) (fun _ _ => rfl) (Ent.sep enn) ?_) | (refine Hd.takeH 5 rfl (by kernel_rfl) (by kernel_rfl) (by kernel_rfl) (by kernel_rfl) (y_loadR1 ag23 rfl (by (first | exact RdS.own pkk)) (by (first | rfl))) (fun _ _ => rfl) (Ent.sep enn) ?_)
    refine Hd.takeH 6 rfl (by kernel_rfl) (by kernel_rfl) (by kernel_rfl) (by kernel_rfl) (y_build (vs := [(0, _)]) rfl (by first | exact bd35_31 .. | kernel_rfl)) (fun _ _ => rfl) (Ent.sep enn) ?_
    refine Hd.onlyH 7 rfl (by kernel_rfl) ?_
    refine Hd.box rfl rfl (fun b32 => ?_)
    refine Hd.nil ?_
    refine Hd.thenN ?_
    refine Hd.heldK (J := (fun j => !([12].contains j))) (i := 7) (Ent.sep enn) ?_
    refine Hd.onlyH 8 rfl (by kernel_rfl) ?_
    refine Hd.bslice (vs := [(0, _)]) rfl (by first | exact bs35_33 .. | kernel_rfl) (fun b33 => ?_)
    refine Hd.nil ?_
    refine Hd.thenN ?_
    refine Hd.heldK (J := (fun j => !([12].contains j))) (i := 8) (Ent.sep enn) ?_
    refine Hd.onlyH 9 rfl (by kernel_rfl) ?_
    refine Hd.append Try.underlying84 ty88 rfl rfl rfl pkk (by first | exact RdS.rd (Rd.pt pkk (fun j v e => by simpa using e)) rfl | (first | exact RdS.own pkk)) (by first | (simp [Value.oneCell']; done) | assumption) (by first | (simp only [maxLen]; omega) | assumption) (by omega) (fun ad34 cap34 => ?_)
    refine Hd.nil ?_
    refine Hd.thenN ?_
    refine Hd.heldK (J := (fun j => !([12].contains j))) (i := 9) (Ent.sep enn) ?_
    refine Hd.onlyH 10 rfl (by kernel_rfl) ?_
    refine Hd.yv (y_nilp rfl) ?_
    refine Hd.nil ?_
    refine Hd.thenN ?_
    refine Hd.heldK (J := (fun j => !([12].contains j))) (i := 10) (Ent.sep enn) ?_
    first | (refine Hd.takeH 11 rfl (by kernel_rfl) (by kernel_rfl) (by kernel_rfl) (by kernel_rfl) (y_field' (q := 1) (ft := 84) Try.underlying86 rfl sz84 rfl rfl) (fun _ _ => rfl) (Ent.sep enn) ?_) | (refine Hd.takeH 11 rfl (by kernel_rfl) (by kernel_rfl) (by kernel_rfl) (by kernel_rfl) (y_fieldR (q := 1) (ft := 84) Try.underlying86 rfl sz84 rfl rfl) (fun _ _ => rfl) (Ent.sep enn) ?_)
    refine Hd.onlyH 12 rfl (by kernel_rfl) ?_
    first | (refine Hd.store1 sz84 rfl rfl rfl pkk (by first | decide | (simp; done) | (simp; omega)) ?_) | (refine Hd.storeG1 sz84 rfl rfl rfl pkk (by first | decide | (simp; done) | (simp; omega)) ?_) | (refine Hd.storeO1 sz84 rfl rfl rfl pkk (by first | omega | (simp; done) | (simp; omega)) ?_)
    try simp only [List.set_cons_zero, List.set_cons_succ]
    refine Hd.nil ?_
    refine Hd.thenN ?_
    refine Hd.heldN (J := (fun j => !([12].contains j))) (i := 12) rfl ?_
    refine Hd.endH (by kernel_rfl) ?_
    refine Hd.slots [] trivial ?_
    refine Hd.toK hK7 ?_
    refine Hd.seq (fun K8 hK8 => ?_)
    refine Hd.region ?_
    refine Hd.yv (y_assign rfl) ?_
    refine Hd.nil ?_
    refine Hd.slots [(4, _)] ⟨rfl, trivial⟩ ?_
    refine Hd.toK hK8 ?_
    refine Hd.ret ?_
    clear hK1 hK2 hK3 hK4 hK5 hK7 hK8
    rw [show mkS qs a = qs ++ [⟨a, []⟩] by unfold mkS; rw [if_neg (by rw [hno]; simp)], show mkV qs a = 0 by unfold mkV; rw [if_neg (by rw [hno]; simp)]]
    have hlq : (qs ++ [(⟨a, []⟩ : Q)]).length = qs.length + 1 := by simp
    refine Hd.heap (Qs (c.rs ++ [⟨b32, none, 0, a, []⟩]) :: CmH o c.h c.mb ad34 (qs.length + 1) cap34 nx :: HpA c.h c.hs :: QP ad34 (qs.length + 1) cap34 (c.rs ++ [⟨b32, none, 0, a, []⟩]) :: MP c.mb c.f :: L) (fun k s => qs_add (Ent.sep (show Ent _ (qb ⟨b32, none, 0, a, []⟩ :: qo ⟨b32, none, 0, a, []⟩ :: Qs c.rs :: CmH o c.h c.mb ad34 (qs.length + 1) cap34 nx :: HpA c.h c.hs :: QP ad34 (qs.length + 1) cap34 (c.rs ++ [⟨b32, none, 0, a, []⟩]) :: MP c.mb c.f :: L) from .eq pkk (pt_eq (by rfl)) (.ownNil (.pick pkk (.pick pkk (.pick pkk (.eq pkk (own_eq3 rfl rfl (by rw [List.map_append]; rfl)) (.pick pkk enn))))))) k s)) ?_
    exact Hd.ret1 rfl () rfl (Ent.sep (.ex ⟨c.h, c.mb, ad34, cap34, c.rs ++ [⟨b32, none, 0, a, []⟩], c.hs, c.f⟩ (.pure ⟨hok.make hno2.1 hno2.2, by rw [List.map_append, hrs]; rfl⟩ (by rw [hlq]; exact enn))))
end Cm
end Go.Proofs.Ytdjoofidicoimaa
