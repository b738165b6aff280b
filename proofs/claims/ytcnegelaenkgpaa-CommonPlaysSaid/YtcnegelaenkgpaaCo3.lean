/-
  Sets of deadlines: how one lies in memory; none, sign, Deadline, show, place, Delete.
-/
import Derived.Test.YtcnegelaenkgpaaCo2
import Derived.Test.YtcnegelaenkgpaaRxD
namespace Go.Proofs.Ytcnegelaenkgpaa
set_option linter.unusedSimpArgs false
set_option linter.unusedVariables false
set_option linter.unnecessarySimpa false
open Go.RX Fx Hp
namespace Cm
set_option maxRecDepth 8000
/-- a queue's block, and its items' slice -/
structure QR where
  b : Nat
  ad : Option Addr
  cap : Nat
  af : Int
  l : List It
def QR.q (r : QR) : Q := ⟨r.af, r.l⟩
abbrev pv (r : QR) : Value := .pointer (some ⟨r.b, 0, none⟩)
abbrev qb (r : QR) : SP := pt r.b [.int .u64 r.af, .slice r.ad r.l.length r.cap] 92
abbrev qo (r : QR) : SP := OwI r.ad r.l.length r.cap r.l
def qB (r : QR) : SP := RX.ex fun _ : Unit => [qb r, qo r]
structure Qs (rs : List QR) (h : PH) : Prop where
  all : sep (rs.map qB) h
theorem qs_split {a b : List QR} {L : List SP} {h : PH} (s : sep (Qs (a ++ b) :: L) h) : sep (Qs a :: Qs b :: L) h := by
  obtain ⟨h1, h2, d, s1, s2, ⟨x⟩, y⟩ := s
  rw [List.map_append] at x
  obtain ⟨k1, k2, d', a', b', x1, x2⟩ := sep_append x
  exact ⟨k1, uni k2 h2, (Dis.uniL d'.sym (d.subL a').sym).sym, a'.tr s1, Sub.uni (b'.tr s1) s2, ⟨x1⟩, k2, h2, d.subL b', Sub.uniL, Sub.uniR (d.subL b'), ⟨x2⟩, y⟩
theorem qs_join {a b : List QR} {L : List SP} {h : PH} (s : sep (Qs a :: Qs b :: L) h) : sep (Qs (a ++ b) :: L) h := by
  obtain ⟨h1, h2, d, s1, s2, ⟨x⟩, k1, k2, d', a', b', ⟨x'⟩, y⟩ := s
  refine ⟨uni h1 k1, k2, Dis.uniL (d.subR b') d', Sub.uni s1 (a'.tr s2), b'.tr s2, ⟨?_⟩, y⟩
  rw [List.map_append]
  exact sep_join (d.subR a') Sub.uniL (Sub.uniR (d.subR a')) x x'
theorem qs_own {r : QR} {L : List SP} {h : PH} (s : sep (Qs [r] :: L) h) : sep (qb r :: qo r :: L) h := by
  obtain ⟨h1, h2, d, s1, s2, ⟨k1, k2, d', a', b', ⟨_, x⟩, _⟩, y⟩ := s
  obtain ⟨m1, m2, d3, a3, b3, x1, m3, m4, d4, a4, b4, x2, _⟩ := x
  refine ⟨m1, uni m3 h2, (Dis.uniL (d3.subR a4).sym (d.subL (a3.tr a')).sym).sym, a3.tr (a'.tr s1), Sub.uni (a4.tr (b3.tr (a'.tr s1))) s2, x1, m3, h2, d.subL (a4.tr (b3.tr a')), Sub.uniL, Sub.uniR (d.subL (a4.tr (b3.tr a'))), x2, y⟩
theorem own_qs {r : QR} {L : List SP} {h : PH} (s : sep (qb r :: qo r :: L) h) : sep (Qs [r] :: L) h := by
  obtain ⟨h1, h2, d, s1, s2, x, k1, k2, d', a', b', x', y⟩ := s
  refine ⟨uni h1 k1, k2, Dis.uniL (d.subR b') d', Sub.uni s1 (a'.tr s2), b'.tr s2, ⟨?_⟩, y⟩
  refine ⟨uni h1 k1, fun _ => none, fun _ => .inr rfl, Sub.rfl', (fun _ _ e => by cases e), ⟨(), ?_⟩, trivial⟩
  exact ⟨h1, k1, d.subR a', Sub.uniL, Sub.uniR (d.subR a'), x, k1, fun _ => none, fun _ => .inr rfl, Sub.rfl', (fun _ _ e => by cases e), x', trivial⟩
theorem qs_nil {L : List SP} {h : PH} (s : sep L h) : sep (Qs [] :: L) h := ⟨fun _ => none, h, fun _ => .inl rfl, (fun _ _ e => by cases e), Sub.rfl', ⟨trivial⟩, s⟩
theorem take_drop_at {rs : List QR} {j : Nat} {r : QR} (hj : rs[j]? = some r) : rs = rs.take j ++ ([r] ++ rs.drop (j + 1)) := by
  obtain ⟨h, e⟩ := List.getElem?_eq_some_iff.1 hj
  rw [← e]
  show rs = rs.take j ++ rs[j] :: rs.drop (j + 1)
  rw [← List.drop_eq_getElem_cons h, List.take_append_drop]
theorem qs_out {rs : List QR} {j : Nat} {r : QR} {L : List SP} {h : PH} (hj : rs[j]? = some r) (s : sep (Qs rs :: L) h) : sep (qb r :: qo r :: Qs (rs.take j) :: Qs (rs.drop (j + 1)) :: L) h := by
  rw [take_drop_at hj] at s
  obtain ⟨h1, h2, d, s1, s2, x, k1, k2, d', a', b', x', y⟩ := qs_own (qs_split (Pick.sep (.there .here) (qs_split s)))
  exact ⟨h1, h2, d, s1, s2, x, k1, k2, d', a', b', x', Pick.sep (.there .here) y⟩
theorem qs_in {rs : List QR} {j : Nat} {r' : QR} {L : List SP} {h : PH} (hj : j < rs.length) (s : sep (qb r' :: qo r' :: Qs (rs.take j) :: Qs (rs.drop (j + 1)) :: L) h) : sep (Qs (rs.set j r') :: L) h := by
  have e : rs.set j r' = rs.take j ++ ([r'] ++ rs.drop (j + 1)) := by
    rw [List.set_eq_take_append_cons_drop, if_pos hj]; rfl
  rw [e]
  refine qs_join (Pick.sep (.there .here) (qs_join (own_qs ?_)))
  obtain ⟨h1, h2, d, s1, s2, x, k1, k2, d', a', b', x', y⟩ := s
  exact ⟨h1, h2, d, s1, s2, x, k1, k2, d', a', b', x', Pick.sep (.there .here) y⟩
theorem qs_add {rs : List QR} {r : QR} {L : List SP} {h : PH} (s : sep (qb r :: qo r :: Qs rs :: L) h) : sep (Qs (rs ++ [r]) :: L) h := qs_join (Pick.sep (.there .here) (own_qs s))
theorem set_same {rs : List QR} {j : Nat} {r : QR} (hj : rs[j]? = some r) : rs.set j r = rs := by
  obtain ⟨h, e⟩ := List.getElem?_eq_some_iff.1 hj
  rw [← e]; exact List.set_getElem_self h
theorem set_q {rs : List QR} {j : Nat} {r : QR} : (rs.set j r).map QR.q = (rs.map QR.q).set j r.q := by rw [List.map_set]
theorem set_pv {rs : List QR} {j : Nat} {r r' : QR} (hj : rs[j]? = some r) (hb : r'.b = r.b) : (rs.set j r').map pv = rs.map pv := by
  rw [List.map_set, show pv r' = pv r by simp only [pv]; rw [hb]]
  obtain ⟨h, e⟩ := List.getElem?_eq_some_iff.1 hj
  rw [← e]
  apply List.ext_getElem?
  intro i
  by_cases e : j = i
  · subst e; rw [List.getElem?_set_self (by simpa using h), List.getElem?_map, List.getElem?_eq_getElem h]; rfl
  · rw [List.getElem?_set_ne e]
theorem pv_at {rs : List QR} {j : Nat} {r : QR} (hj : rs[j]? = some r) : (rs.map pv)[j * 1]? = some (pv r) := by rw [Nat.mul_one, List.getElem?_map, hj]; rfl
theorem pv_one {rs : List QR} : ∀ u ∈ rs.map pv, u.oneCell' = true := by simp [Value.oneCell']
structure CI where
  h : Nat
  mb : Nat
  qad : Option Addr
  qcap : Nat
  rs : List QR
  hs : List It
  f : MF
abbrev CmH (o h mb : Nat) (qad : Option Addr) (qn qcap : Nat) (nx : Int) : SP := pt o [.pointer (some ⟨h, 0, none⟩), .slice qad qn qcap, .map (some mb), .int .u64 nx] 88
abbrev QP (qad : Option Addr) (qn qcap : Nat) (rs : List QR) : SP := own 90 1 qad qn qcap (rs.map pv)
abbrev CmL (o qn : Nat) (nx : Int) (c : CI) (L : List SP) : List SP := CmH o c.h c.mb c.qad qn c.qcap nx :: HpA c.h c.hs :: QP c.qad qn c.qcap c.rs :: MP c.mb c.f :: Qs c.rs :: L
/-- a set of these queues and items, the next number nx, in block o -/
def CoA (o : Nat) (qs : List Q) (s : List It) (nx : Int) : SP := RX.ex fun c : CI => pu (Ok qs s nx c.hs c.f ∧ c.rs.map QR.q = qs) :: CmL o qs.length nx c []
section
variable {E : World} {n : Nat} {ds : List Deferred} {st : List (Nat × Value)} {L L' : List SP} {K : Act → World → Prop}
theorem Hd.qOut {rs : List QR} {j : Nat} {r : QR} (p : Pick L (Qs rs) L') (hj : rs[j]? = some r) (h : Hd E n ds st (qb r :: qo r :: Qs (rs.take j) :: Qs (rs.drop (j + 1)) :: L') K) : Hd E n ds st L K := Hd.heap _ (fun _ s => qs_out hj (p.sep s)) h
theorem Hd.qIn {rs : List QR} {j : Nat} (r' : QR) (hj : j < rs.length) (e : ∀ k, sep L k → sep (qb r' :: qo r' :: Qs (rs.take j) :: Qs (rs.drop (j + 1)) :: L') k) (h : Hd E n ds st (Qs (rs.set j r') :: L') K) : Hd E n ds st L K := Hd.heap _ (fun k s => qs_in hj (e k s)) h
end
set_option maxHeartbeats 2000000 in
theorem none_ct (L : List SP) (o h mb : Nat) (qad : Option Addr) (qn qcap : Nat) (nx : Int) : Ct Try.prog 66 #[.pointer (some ⟨o, 0, none⟩)] (CmH o h mb qad qn qcap nx :: L) (fun _ : Unit => .bool false) (fun _ : Unit => CmH o h mb qad qn qcap nx :: L) := by
  refine Ct.of (vs := [.pointer (some ⟨o, 0, none⟩)]) Try.func66 rfl rfl [(0, .pointer (some ⟨o, 0, none⟩))] (by repeat (first | exact trivial | refine ⟨rfl, ?_⟩)) ?_
  intro E
  show Hd E 12 _ _ _ _
  refine Hd.seq (fun K1 hK1 => ?_)
  refine Hd.region ?_
  refine Hd.yv (y_assign rfl) ?_
  refine Hd.nil ?_
  refine Hd.slots [(0, _)] ⟨rfl, trivial⟩ ?_
  refine Hd.toK hK1 ?_
  refine Hd.seq (fun K2 hK2 => ?_)
  refine Hd.region ?_
  refine Hd.yv (y_move rfl) ?_
  first | (refine Hd.yv (y_eql_pointer Try.underlying59 rfl rfl) ?_) | (refine Hd.yv (y_eql_one Try.underlying59 sz88 rfl rfl rfl) ?_)
  refine Hd.yv (y_move rfl) ?_
  refine Hd.yg rfl rfl (y_move rfl) ?_
  refine Hd.yg rfl rfl (y_nilp rfl) ?_
  first | (refine Hd.yg rfl rfl (y_field' (q := 0) (ft := 24) Try.underlying88 rfl sz24 rfl rfl) ?_) | (refine Hd.yg rfl rfl (y_fieldR (q := 0) (ft := 24) Try.underlying88 rfl sz24 rfl rfl) ?_)
  first | (refine Hd.yg rfl rfl (y_load1 ag24 rfl (Rd.pt1 pkk (by (first | rfl)))) ?_) | (refine Hd.yg rfl rfl (y_load1 ag24 rfl (Rd.seg1 pkk (by (first | rfl)))) ?_) | (refine Hd.yg rfl rfl (y_loadR1 ag24 rfl (by (first | exact RdS.own pkk)) (by (first | rfl))) ?_)
  first | (refine Hd.yg rfl rfl (y_eql_pointer Try.underlying24 rfl rfl) ?_) | (refine Hd.yg rfl rfl (y_eql_one Try.underlying24 sz56 rfl rfl rfl) ?_)
  first | (refine Hd.yv (y_pickT rfl rfl) ?_) | (refine Hd.yv (y_pickF rfl rfl) ?_) | (refine Hd.yv (y_pickb rfl rfl rfl) ?_) | (refine Hd.yv (y_pick rfl rfl rfl) ?_)
  refine Hd.yv (y_assign rfl) ?_
  refine Hd.nil ?_
  refine Hd.slots [(2, _)] ⟨rfl, trivial⟩ ?_
  refine Hd.toK hK2 ?_
  refine Hd.ret ?_
  clear hK1 hK2
  exact Hd.ret1 rfl () (by first | rfl | (simp only [*]; done) | (simp [*]; done)) (Ent.sep enn)
set_option maxHeartbeats 2000000 in
theorem none_nil (L : List SP) : Ct Try.prog 66 #[.pointer none] (L) (fun _ : Unit => .bool true) (fun _ : Unit => L) := by
  refine Ct.of (vs := [.pointer none]) Try.func66 rfl rfl [(0, .pointer none)] (by repeat (first | exact trivial | refine ⟨rfl, ?_⟩)) ?_
  intro E
  show Hd E 12 _ _ _ _
  refine Hd.seq (fun K1 hK1 => ?_)
  refine Hd.region ?_
  refine Hd.yv (y_assign rfl) ?_
  refine Hd.nil ?_
  refine Hd.slots [(0, _)] ⟨rfl, trivial⟩ ?_
  refine Hd.toK hK1 ?_
  refine Hd.seq (fun K2 hK2 => ?_)
  refine Hd.region ?_
  refine Hd.yv (y_move rfl) ?_
  first | (refine Hd.yv (y_eql_pointer Try.underlying59 rfl rfl) ?_) | (refine Hd.yv (y_eql_one Try.underlying59 sz88 rfl rfl rfl) ?_)
  refine Hd.yv (y_move rfl) ?_
  refine Hd.ng rfl rfl rfl ?_
  refine Hd.ng rfl rfl rfl ?_
  refine Hd.ng rfl rfl rfl ?_
  refine Hd.ng rfl rfl rfl ?_
  refine Hd.ng rfl rfl rfl ?_
  first | (refine Hd.yv (y_pickT rfl rfl) ?_) | (refine Hd.yv (y_pickF rfl rfl) ?_) | (refine Hd.yv (y_pickb rfl rfl rfl) ?_) | (refine Hd.yv (y_pick rfl rfl rfl) ?_)
  refine Hd.yv (y_assign rfl) ?_
  refine Hd.nil ?_
  refine Hd.slots [(2, _)] ⟨rfl, trivial⟩ ?_
  refine Hd.toK hK2 ?_
  refine Hd.ret ?_
  clear hK1 hK2
  exact Hd.ret1 rfl () (by first | rfl | (simp only [*]; done) | (simp [*]; done)) (Ent.sep enn)
set_option maxHeartbeats 2000000 in
theorem sign_ct (L : List SP) (q : Int) (h1 : -1000000 ≤ q) (h2 : q ≤ 1000000) : Ct Try.prog 74 #[.int .i64 q] (L) (fun _ : Unit => .int .i64 (-1 - q)) (fun _ : Unit => L) := by
  refine Ct.of (vs := [.int .i64 q]) Try.func74 rfl rfl [(0, .int .i64 q)] (by repeat (first | exact trivial | refine ⟨rfl, ?_⟩)) ?_
  intro E
  show Hd E 5 _ _ _ _
  refine Hd.seq (fun K1 hK1 => ?_)
  refine Hd.region ?_
  refine Hd.yv (y_assign rfl) ?_
  refine Hd.nil ?_
  refine Hd.slots [(0, _)] ⟨rfl, trivial⟩ ?_
  refine Hd.toK hK1 ?_
  refine Hd.seq (fun K2 hK2 => ?_)
  refine Hd.region ?_
  refine Hd.yv (y_move rfl) ?_
  first | (refine Hd.yv (y_subn rfl rfl (by simp only [InK]; omega)) ?_) | (refine Hd.yv (y_sub rfl rfl) ?_)
  refine Hd.yv (y_assign rfl) ?_
  refine Hd.nil ?_
  refine Hd.slots [(2, _)] ⟨rfl, trivial⟩ ?_
  refine Hd.toK hK2 ?_
  refine Hd.ret ?_
  clear hK1 hK2
  exact Hd.ret1 rfl () (by first | rfl | (simp only [*]; done) | (simp [*]; done)) (Ent.sep enn)
def dl (now after : Int) : Int := if 18446744073709551615 - now < after then 18446744073709551615 else now + after
set_option maxHeartbeats 2000000 in
theorem dl_ct (L : List SP) (now after : Int) (hn : InK .u64 now) (ha : InK .u64 after) : Ct Try.prog 69 #[.int .u64 now, .int .u64 after] (L) (fun _ : Unit => .int .u64 (dl now after)) (fun _ : Unit => L) := by
  refine Ct.of (vs := [.int .u64 now, .int .u64 after]) Try.func69 rfl rfl [(0, .int .u64 now), (1, .int .u64 after)] (by repeat (first | exact trivial | refine ⟨rfl, ?_⟩)) ?_
  intro E
  show Hd E 12 _ _ _ _
  simp only [InK] at hn ha
  refine Hd.seq (fun K1 hK1 => ?_)
  refine Hd.region ?_
  refine Hd.yv (y_assign rfl) ?_
  refine Hd.nil ?_
  refine Hd.slots [(0, _), (1, _)] ⟨rfl, rfl, trivial⟩ ?_
  refine Hd.toK hK1 ?_
  refine Hd.seq (fun K2 hK2 => ?_)
  refine Hd.seq (fun K3 hK3 => ?_)
  refine Hd.region ?_
  refine Hd.yv (y_move rfl) ?_
  refine Hd.yv (y_move rfl) ?_
  first | (refine Hd.yv (y_subn rfl rfl (by simp only [InK]; omega)) ?_) | (refine Hd.yv (y_sub rfl rfl) ?_)
  refine Hd.yv (y_gtr rfl rfl) ?_
  refine Hd.nil ?_
  refine Hd.slots [(0, _), (1, _), (8, _)] ⟨rfl, rfl, rfl, trivial⟩ ?_
  refine Hd.toK hK3 ?_
  refine Hd.cond rfl (fun hc0 => ?_) (fun hc0 => ?_)
  ·
    try simp only [decide_eq_true_eq, decide_eq_false_iff_not, Bool.and_eq_true, Bool.or_eq_true, Bool.and_eq_false_iff, Bool.or_eq_false_iff, Bool.not_eq_true', Bool.not_eq_false', Bool.not_eq_true, Bool.not_eq_false, Int.not_lt, Int.not_le, Decidable.not_not, ne_eq] at hc0
    refine Hd.seq (fun K4 hK4 => ?_)
    refine Hd.region ?_
    refine Hd.yv (y_assign rfl) ?_
    refine Hd.nil ?_
    refine Hd.slots [(4, _)] ⟨rfl, trivial⟩ ?_
    refine Hd.toK hK4 ?_
    refine Hd.ret ?_
    refine Hd.thenRet ?_
    clear hK1 hK2 hK3 hK4
    exact Hd.ret1 rfl () (by unfold dl; rw [if_pos (by omega)]; rfl) (Ent.sep enn)
  ·
    try simp only [decide_eq_true_eq, decide_eq_false_iff_not, Bool.and_eq_true, Bool.or_eq_true, Bool.and_eq_false_iff, Bool.or_eq_false_iff, Bool.not_eq_true', Bool.not_eq_false', Bool.not_eq_true, Bool.not_eq_false, Int.not_lt, Int.not_le, Decidable.not_not, ne_eq] at hc0
    refine Hd.skip ?_
    refine Hd.toK hK2 ?_
    refine Hd.seq (fun K5 hK5 => ?_)
    refine Hd.region ?_
    refine Hd.yv (y_move rfl) ?_
    refine Hd.yv (y_move rfl) ?_
    first | (refine Hd.yv (y_addn rfl rfl (by simp only [InK]; omega)) ?_) | (refine Hd.yv (y_add rfl rfl) ?_)
    refine Hd.yv (y_assign rfl) ?_
    refine Hd.nil ?_
    refine Hd.slots [(4, _)] ⟨rfl, trivial⟩ ?_
    refine Hd.toK hK5 ?_
    refine Hd.ret ?_
    clear hK1 hK2 hK3 hK5
    exact Hd.ret1 rfl () (by unfold dl; rw [if_neg (by omega)]; rfl) (Ent.sep enn)
set_option maxHeartbeats 2000000 in
theorem show_ct (L : List SP) (o qn : Nat) (nx : Int) (c : CI) (j : Nat) (r : QR) (hj : c.rs[j]? = some r) (hn : c.rs.length = qn) (hq : qn ≤ 32) (hl : c.hs.length < 1000000) : Ct Try.prog 70 #[.pointer (some ⟨o, 0, none⟩), .int .i64 (j : Int)] (CmL o qn nx c L) (fun _ : Unit => .tuple #[]) (fun _ : Unit => CmL o qn nx { c with hs := shw j r.l c.hs } L) := by
  refine Ct.of (vs := [.pointer (some ⟨o, 0, none⟩), .int .i64 (j : Int)]) Try.func70 rfl rfl [(0, .pointer (some ⟨o, 0, none⟩)), (1, .int .i64 (j : Int))] (by repeat (first | exact trivial | refine ⟨rfl, ?_⟩)) ?_
  intro E
  show Hd E 41 _ _ _ _
  have hjn : j < c.rs.length := (List.getElem?_eq_some_iff.1 hj).1
  refine Hd.seq (fun K1 hK1 => ?_)
  refine Hd.drawsH ([CmH o c.h c.mb c.qad qn c.qcap nx]) (fun _ => true) mixed ?_
  simp only [List.length, Nat.zero_add, Nat.reduceAdd]
  refine Hd.takeH 0 rfl (by kernel_rfl) (by kernel_rfl) (by kernel_rfl) (by kernel_rfl) (y_move rfl) (fun _ _ => rfl) (Ent.sep enn) ?_
  refine Hd.takeH 1 rfl (by kernel_rfl) (by kernel_rfl) (by kernel_rfl) (by kernel_rfl) (y_nilp rfl) (fun _ _ => rfl) (Ent.sep enn) ?_
  first | (refine Hd.takeH 2 rfl (by kernel_rfl) (by kernel_rfl) (by kernel_rfl) (by kernel_rfl) (y_field' (q := 0) (ft := 24) Try.underlying88 rfl sz24 rfl rfl) (fun _ _ => rfl) (Ent.sep enn) ?_) | (refine Hd.takeH 2 rfl (by kernel_rfl) (by kernel_rfl) (by kernel_rfl) (by kernel_rfl) (y_fieldR (q := 0) (ft := 24) Try.underlying88 rfl sz24 rfl rfl) (fun _ _ => rfl) (Ent.sep enn) ?_)
  first | (refine Hd.takeH 3 rfl (by kernel_rfl) (by kernel_rfl) (by kernel_rfl) (by kernel_rfl) (y_load1 ag24 rfl (Rd.pt1 pkk (by (first | exact pv_at hj | (rw [hrl]; rfl) | rfl)))) (fun _ _ => rfl) (Ent.sep enn) ?_) | (refine Hd.takeH 3 rfl (by kernel_rfl) (by kernel_rfl) (by kernel_rfl) (by kernel_rfl) (y_load1 ag24 rfl (Rd.seg1 pkk (by (first | exact pv_at hj | (rw [hrl]; rfl) | rfl)))) (fun _ _ => rfl) (Ent.sep enn) ?_) | (refine Hd.takeH 3 rfl (by kernel_rfl) (by kernel_rfl) (by kernel_rfl) (by kernel_rfl) (y_loadR1 ag24 rfl (by (first | exact RdS.own pkk)) (by (first | exact pv_at hj | (rw [hrl]; rfl) | rfl))) (fun _ _ => rfl) (Ent.sep enn) ?_)
  refine Hd.takeH 4 rfl (by kernel_rfl) (by kernel_rfl) (by kernel_rfl) (by kernel_rfl) (y_move rfl) (fun _ _ => rfl) (Ent.sep enn) ?_
  refine Hd.onlyH 5 rfl (by kernel_rfl) ?_
  refine Hd.callE rfl fk74 (sign_ct _ j (by omega) (by omega)) (Ent.sep enn) ?_
  intro _
  refine Hd.nil ?_
  refine Hd.thenN ?_
  refine Hd.heldK (J := (fun _ => true)) (i := 5) (Ent.sep enn) ?_
  refine Hd.onlyH 6 rfl (by kernel_rfl) ?_
  refine Hd.callE rfl fk23 (take_ct _ c.h c.hs (-1 - (j : Int))) (Ent.sep enn) ?_
  intro _
  refine Hd.nil ?_
  refine Hd.thenN ?_
  refine Hd.heldK (J := (fun _ => true)) (i := 6) (Ent.sep enn) ?_
  refine Hd.endH (by kernel_rfl) ?_
  refine Hd.slots [(0, _), (1, _)] ⟨rfl, rfl, trivial⟩ ?_
  refine Hd.toK hK1 ?_
  refine Hd.seq (fun K2 hK2 => ?_)
  refine Hd.qOut pkk hj ?_
  refine Hd.region ?_
  refine Hd.yv (y_move rfl) ?_
  refine Hd.yv (y_nilp rfl) ?_
  first | (refine Hd.yv (y_field' (q := 1) (ft := 86) Try.underlying88 rfl sz86 rfl rfl) ?_) | (refine Hd.yv (y_fieldR (q := 1) (ft := 86) Try.underlying88 rfl sz86 rfl rfl) ?_)
  first | (refine Hd.yv (y_load1 ag86 rfl (Rd.pt1 pkk (by (first | exact pv_at hj | (rw [hrl]; rfl) | rfl)))) ?_) | (refine Hd.yv (y_load1 ag86 rfl (Rd.seg1 pkk (by (first | exact pv_at hj | (rw [hrl]; rfl) | rfl)))) ?_) | (refine Hd.yv (y_loadR1 ag86 rfl (by (first | exact RdS.own pkk)) (by (first | exact pv_at hj | (rw [hrl]; rfl) | rfl))) ?_)
  refine Hd.yv (y_move rfl) ?_
  first | (refine Hd.yv (y_idxS Try.underlying86 sz90 rfl rfl (by first | omega | decide)) ?_) | (refine Hd.yv (y_idxR Try.underlying86 sz90 rfl rfl (by first | omega | decide) (by (first | exact RdS.own pkk))) ?_)
  first | (refine Hd.yv (y_load1 ag90 rfl (Rd.pt1 pkk (by (first | exact pv_at hj | (rw [hrl]; rfl) | rfl)))) ?_) | (refine Hd.yv (y_load1 ag90 rfl (Rd.seg1 pkk (by (first | exact pv_at hj | (rw [hrl]; rfl) | rfl)))) ?_) | (refine Hd.yv (y_loadR1 ag90 rfl (by (first | exact RdS.own pkk)) (by (first | exact pv_at hj | (rw [hrl]; rfl) | rfl))) ?_)
  refine Hd.yv (y_nilp rfl) ?_
  first | (refine Hd.yv (y_field' (q := 1) (ft := 22) Try.underlying92 rfl sz22 rfl rfl) ?_) | (refine Hd.yv (y_fieldR (q := 1) (ft := 22) Try.underlying92 rfl sz22 rfl rfl) ?_)
  first | (refine Hd.yv (y_load1 ag22 rfl (Rd.pt1 pkk (by (first | exact pv_at hj | (rw [hrl]; rfl) | rfl)))) ?_) | (refine Hd.yv (y_load1 ag22 rfl (Rd.seg1 pkk (by (first | exact pv_at hj | (rw [hrl]; rfl) | rfl)))) ?_) | (refine Hd.yv (y_loadR1 ag22 rfl (by (first | exact RdS.own pkk)) (by (first | exact pv_at hj | (rw [hrl]; rfl) | rfl))) ?_)
  refine Hd.yv (y_assign rfl) ?_
  refine Hd.nil ?_
  refine Hd.slots [(0, _), (1, _), (4, _)] ⟨rfl, rfl, rfl, trivial⟩ ?_
  refine Hd.toK hK2 ?_
  refine Hd.seq (fun K3 hK3 => ?_)
  refine Hd.region ?_
  refine Hd.yv (y_move rfl) ?_
  refine Hd.yv (y_len Try.underlying22 rfl) ?_
  refine Hd.yv (y_gtr rfl rfl) ?_
  refine Hd.nil ?_
  refine Hd.slots [(0, _), (1, _), (4, _), (24, _)] ⟨rfl, rfl, rfl, rfl, trivial⟩ ?_
  refine Hd.toK hK3 ?_
  refine Hd.cond rfl (fun hc0 => ?_) (fun hc0 => ?_)
  ·
    try simp only [decide_eq_true_eq, decide_eq_false_iff_not, Bool.and_eq_true, Bool.or_eq_true, Bool.and_eq_false_iff, Bool.or_eq_false_iff, Bool.not_eq_true', Bool.not_eq_false', Bool.not_eq_true, Bool.not_eq_false, Int.not_lt, Int.not_le, Decidable.not_not, ne_eq] at hc0
    obtain ⟨x, l', hrl⟩ : ∃ x l', r.l = x :: l' := by
      cases h : r.l with
      | nil => rw [h] at hc0; simp at hc0
      | cons x l' => exact ⟨x, l', rfl⟩
    refine Hd.drawsH ([CmH o c.h c.mb c.qad qn c.qcap nx, qo r]) (fun _ => true) mixed ?_
    simp only [List.length, Nat.zero_add, Nat.reduceAdd]
    refine Hd.takeH 0 rfl (by kernel_rfl) (by kernel_rfl) (by kernel_rfl) (by kernel_rfl) (y_move rfl) (fun _ _ => rfl) (Ent.sep enn) ?_
    refine Hd.takeH 1 rfl (by kernel_rfl) (by kernel_rfl) (by kernel_rfl) (by kernel_rfl) (y_nilp rfl) (fun _ _ => rfl) (Ent.sep enn) ?_
    first | (refine Hd.takeH 2 rfl (by kernel_rfl) (by kernel_rfl) (by kernel_rfl) (by kernel_rfl) (y_field' (q := 0) (ft := 24) Try.underlying88 rfl sz24 rfl rfl) (fun _ _ => rfl) (Ent.sep enn) ?_) | (refine Hd.takeH 2 rfl (by kernel_rfl) (by kernel_rfl) (by kernel_rfl) (by kernel_rfl) (y_fieldR (q := 0) (ft := 24) Try.underlying88 rfl sz24 rfl rfl) (fun _ _ => rfl) (Ent.sep enn) ?_)
    first | (refine Hd.takeH 3 rfl (by kernel_rfl) (by kernel_rfl) (by kernel_rfl) (by kernel_rfl) (y_load1 ag24 rfl (Rd.pt1 pkk (by (first | exact pv_at hj | (rw [hrl]; rfl) | rfl)))) (fun _ _ => rfl) (Ent.sep enn) ?_) | (refine Hd.takeH 3 rfl (by kernel_rfl) (by kernel_rfl) (by kernel_rfl) (by kernel_rfl) (y_load1 ag24 rfl (Rd.seg1 pkk (by (first | exact pv_at hj | (rw [hrl]; rfl) | rfl)))) (fun _ _ => rfl) (Ent.sep enn) ?_) | (refine Hd.takeH 3 rfl (by kernel_rfl) (by kernel_rfl) (by kernel_rfl) (by kernel_rfl) (y_loadR1 ag24 rfl (by (first | exact RdS.own pkk)) (by (first | exact pv_at hj | (rw [hrl]; rfl) | rfl))) (fun _ _ => rfl) (Ent.sep enn) ?_)
    refine Hd.takeH 4 rfl (by kernel_rfl) (by kernel_rfl) (by kernel_rfl) (by kernel_rfl) (y_move rfl) (fun _ _ => rfl) (Ent.sep enn) ?_
    refine Hd.takeH 6 rfl (by kernel_rfl) (by kernel_rfl) (by kernel_rfl) (by kernel_rfl) (y_move rfl) (fun _ _ => rfl) (Ent.sep enn) ?_
    first | (refine Hd.takeH 7 rfl (by kernel_rfl) (by kernel_rfl) (by kernel_rfl) (by kernel_rfl) (y_idxS Try.underlying22 sz31 rfl rfl (by first | exact (show (0 : Nat) < _ by omega) | omega | decide)) (fun _ _ => rfl) (Ent.sep enn) ?_) | (refine Hd.takeH 7 rfl (by kernel_rfl) (by kernel_rfl) (by kernel_rfl) (by kernel_rfl) (y_idxR Try.underlying22 sz31 rfl rfl (by first | exact (show (0 : Nat) < _ by omega) | omega | decide) (by (first | exact RdS.own pkk))) (fun _ _ => rfl) (Ent.sep enn) ?_)
    first | (refine Hd.takeH 8 rfl (by kernel_rfl) (by kernel_rfl) (by kernel_rfl) (by kernel_rfl) (y_field' (q := 1) (ft := 29) Try.underlying31 rfl sz29 rfl rfl) (fun _ _ => rfl) (Ent.sep enn) ?_) | (refine Hd.takeH 8 rfl (by kernel_rfl) (by kernel_rfl) (by kernel_rfl) (by kernel_rfl) (y_fieldR (q := 1) (ft := 29) Try.underlying31 rfl sz29 rfl rfl) (fun _ _ => rfl) (Ent.sep enn) ?_)
    first | (refine Hd.takeH 9 rfl (by kernel_rfl) (by kernel_rfl) (by kernel_rfl) (by kernel_rfl) (y_load1 ag29 rfl (Rd.pt1 pkk (by (first | exact pv_at hj | (rw [hrl]; rfl) | rfl)))) (fun _ _ => rfl) (Ent.sep enn) ?_) | (refine Hd.takeH 9 rfl (by kernel_rfl) (by kernel_rfl) (by kernel_rfl) (by kernel_rfl) (y_load1 ag29 rfl (Rd.seg1 pkk (by (first | exact pv_at hj | (rw [hrl]; rfl) | rfl)))) (fun _ _ => rfl) (Ent.sep enn) ?_) | (refine Hd.takeH 9 rfl (by kernel_rfl) (by kernel_rfl) (by kernel_rfl) (by kernel_rfl) (y_loadR1 ag29 rfl (by (first | exact RdS.own pkk)) (by (first | exact pv_at hj | (rw [hrl]; rfl) | rfl))) (fun _ _ => rfl) (Ent.sep enn) ?_)
    refine Hd.takeH 10 rfl (by kernel_rfl) (by kernel_rfl) (by kernel_rfl) (by kernel_rfl) (y_move rfl) (fun _ _ => rfl) (Ent.sep enn) ?_
    first | (refine Hd.takeH 11 rfl (by kernel_rfl) (by kernel_rfl) (by kernel_rfl) (by kernel_rfl) (y_idxS Try.underlying22 sz31 rfl rfl (by first | exact (show (0 : Nat) < _ by omega) | omega | decide)) (fun _ _ => rfl) (Ent.sep enn) ?_) | (refine Hd.takeH 11 rfl (by kernel_rfl) (by kernel_rfl) (by kernel_rfl) (by kernel_rfl) (y_idxR Try.underlying22 sz31 rfl rfl (by first | exact (show (0 : Nat) < _ by omega) | omega | decide) (by (first | exact RdS.own pkk))) (fun _ _ => rfl) (Ent.sep enn) ?_)
    first | (refine Hd.takeH 12 rfl (by kernel_rfl) (by kernel_rfl) (by kernel_rfl) (by kernel_rfl) (y_field' (q := 2) (ft := 29) Try.underlying31 rfl sz29 rfl rfl) (fun _ _ => rfl) (Ent.sep enn) ?_) | (refine Hd.takeH 12 rfl (by kernel_rfl) (by kernel_rfl) (by kernel_rfl) (by kernel_rfl) (y_fieldR (q := 2) (ft := 29) Try.underlying31 rfl sz29 rfl rfl) (fun _ _ => rfl) (Ent.sep enn) ?_)
    first | (refine Hd.takeH 13 rfl (by kernel_rfl) (by kernel_rfl) (by kernel_rfl) (by kernel_rfl) (y_load1 ag29 rfl (Rd.pt1 pkk (by (first | exact pv_at hj | (rw [hrl]; rfl) | rfl)))) (fun _ _ => rfl) (Ent.sep enn) ?_) | (refine Hd.takeH 13 rfl (by kernel_rfl) (by kernel_rfl) (by kernel_rfl) (by kernel_rfl) (y_load1 ag29 rfl (Rd.seg1 pkk (by (first | exact pv_at hj | (rw [hrl]; rfl) | rfl)))) (fun _ _ => rfl) (Ent.sep enn) ?_) | (refine Hd.takeH 13 rfl (by kernel_rfl) (by kernel_rfl) (by kernel_rfl) (by kernel_rfl) (y_loadR1 ag29 rfl (by (first | exact RdS.own pkk)) (by (first | exact pv_at hj | (rw [hrl]; rfl) | rfl))) (fun _ _ => rfl) (Ent.sep enn) ?_)
    refine Hd.onlyH 5 rfl (by kernel_rfl) ?_
    refine Hd.callE rfl fk74 (sign_ct _ j (by omega) (by omega)) (Ent.sep enn) ?_
    intro _
    refine Hd.nil ?_
    refine Hd.thenN ?_
    refine Hd.heldK (J := (fun _ => true)) (i := 5) (Ent.sep enn) ?_
    refine Hd.takeH 14 rfl (by kernel_rfl) (by kernel_rfl) (by kernel_rfl) (by kernel_rfl) (y_build (vs := [(0, _), (1, _), (2, _)]) rfl (by first | exact bd70_39 .. | kernel_rfl)) (fun _ _ => rfl) (Ent.sep enn) ?_
    refine Hd.onlyH 15 rfl (by kernel_rfl) ?_
    refine Hd.callE rfl fk18 (push_ct _ c.h (remI (-1 - (j : Int)) c.hs) (Nat.lt_of_le_of_lt (List.length_filter_le _ _) hl) (sgn j x)) (Ent.sep enn) ?_
    intro _
    refine Hd.nil ?_
    refine Hd.thenN ?_
    refine Hd.heldK (J := (fun _ => true)) (i := 15) (Ent.sep enn) ?_
    refine Hd.endH (by kernel_rfl) ?_
    have e : shw j r.l c.hs = pushS (remI (-1 - (j : Int)) c.hs) (sgn j x) := by rw [hrl]; rfl
    rw [← e]
    refine Hd.qIn r hjn (Ent.sep enn) ?_
    rw [set_same hj]
    refine Hd.slots [] trivial ?_
    clear hK1 hK2 hK3
    exact Hd.end0 rfl () rfl (Ent.sep enn)
  ·
    try simp only [decide_eq_true_eq, decide_eq_false_iff_not, Bool.and_eq_true, Bool.or_eq_true, Bool.and_eq_false_iff, Bool.or_eq_false_iff, Bool.not_eq_true', Bool.not_eq_false', Bool.not_eq_true, Bool.not_eq_false, Int.not_lt, Int.not_le, Decidable.not_not, ne_eq] at hc0
    have hrl : r.l = [] := List.eq_nil_of_length_eq_zero (by omega)
    have e : shw j r.l c.hs = remI (-1 - (j : Int)) c.hs := by rw [hrl]; rfl
    rw [← e]
    refine Hd.qIn r hjn (Ent.sep enn) ?_
    rw [set_same hj]
    refine Hd.skip ?_
    clear hK1 hK2 hK3
    exact Hd.end0 rfl () rfl (Ent.sep enn)
end Cm
end Go.Proofs.Ytcnegelaenkgpaa
