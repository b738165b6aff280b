/-
  What chains of bytes stand on: rows of bytes; slices' Clone, Grow, Concat and Chunk.
-/
import Derived.Test.YtgifpkpkkgkfeaaFx
namespace Go.Proofs.Ytgifpkpkkgkfeaa
set_option linter.unusedSimpArgs false
set_option linter.unusedVariables false
set_option linter.unnecessarySimpa false
open Go.RX Fx
namespace Bc
/-- a slice of bytes, and its bytes -/
structure Row where
  ad : Option Addr
  cap : Nat
  l : List UInt8
abbrev bsl (l : List UInt8) : List Value := l.map B
abbrev hdr (r : Row) : Value := .slice r.ad r.l.length r.cap
def flat (rs : List Row) : List UInt8 := rs.flatMap (·.l)
abbrev ow (r : Row) : SP := own 5 1 r.ad r.l.length r.cap (bsl r.l)
structure rows (rs : List Row) (h : PH) : Prop where
  all : sep (rs.map ow) h
theorem rows_split {a b : List Row} {L : List SP} {h : PH} (s : sep (rows (a ++ b) :: L) h) : sep (rows a :: rows b :: L) h := by
  obtain ⟨h1, h2, d, s1, s2, ⟨x⟩, y⟩ := s
  rw [List.map_append] at x
  obtain ⟨k1, k2, d', a', b', x1, x2⟩ := sep_append x
  exact ⟨k1, uni k2 h2, (Dis.uniL d'.sym (d.subL a').sym).sym, a'.tr s1, Sub.uni (b'.tr s1) s2, ⟨x1⟩, k2, h2, d.subL b', Sub.uniL, Sub.uniR (d.subL b'), ⟨x2⟩, y⟩
theorem rows_join {a b : List Row} {L : List SP} {h : PH} (s : sep (rows a :: rows b :: L) h) : sep (rows (a ++ b) :: L) h := by
  obtain ⟨h1, h2, d, s1, s2, ⟨x⟩, k1, k2, d', a', b', ⟨x'⟩, y⟩ := s
  refine ⟨uni h1 k1, k2, Dis.uniL (d.subR b') d', Sub.uni s1 (a'.tr s2), b'.tr s2, ⟨?_⟩, y⟩
  rw [List.map_append]
  exact sep_join (d.subR a') Sub.uniL (Sub.uniR (d.subR a')) x x'
theorem rows_own {r : Row} {L : List SP} {h : PH} (s : sep (rows [r] :: L) h) : sep (ow r :: L) h := by
  obtain ⟨h1, h2, d, s1, s2, ⟨k1, k2, d', a', b', x, _⟩, y⟩ := s
  exact ⟨k1, h2, d.subL a', a'.tr s1, s2, x, y⟩
theorem own_rows {r : Row} {L : List SP} {h : PH} (s : sep (ow r :: L) h) : sep (rows [r] :: L) h := by
  obtain ⟨h1, h2, d, s1, s2, x, y⟩ := s
  exact ⟨h1, h2, d, s1, s2, ⟨h1, fun _ => none, fun _ => .inr rfl, Sub.rfl', (fun _ _ e => by cases e), x, trivial⟩, y⟩
theorem rows_nil {L : List SP} {h : PH} (s : sep L h) : sep (rows [] :: L) h := ⟨fun _ => none, h, fun _ => .inl rfl, (fun _ _ e => by cases e), Sub.rfl', ⟨trivial⟩, s⟩
theorem pick_mem {rs : List Row} {r : Row} (hr : r ∈ rs) : ∃ L', Pick (rs.map ow) (ow r) L' := by
  induction rs with
  | nil => cases hr
  | cons a rs ih =>
    rcases List.mem_cons.1 hr with rfl | h
    · exact ⟨_, .here⟩
    · obtain ⟨L', p⟩ := ih h; exact ⟨_, .there p⟩
theorem rows_rd {L L' : List SP} {rs : List Row} (p : Pick L (rows rs) L') {r : Row} (hr : r ∈ rs) : RdS L 1 r.ad r.l.length (bsl r.l) := fun k s => by
  obtain ⟨h1, s1, ⟨x⟩⟩ := sep.one p s
  obtain ⟨L2, p2⟩ := pick_mem hr
  obtain ⟨hl, hv⟩ := RdS.own p2 h1 x
  refine ⟨hl, ?_⟩
  rcases hv with h | ⟨b, o, had, hc⟩
  · exact .inl h
  · exact .inr ⟨b, o, had, fun j v e => by obtain ⟨fr, hh⟩ := hc j v e; exact ⟨fr, s1 _ _ hh⟩⟩
theorem flat_take_succ {rs : List Row} {i : Nat} (h : i < rs.length) : flat (rs.take (i + 1)) = flat (rs.take i) ++ rs[i].l := by
  unfold flat
  rw [List.take_add_one, List.getElem?_eq_getElem h]
  simp only [List.flatMap_append, Option.toList_some, List.flatMap_cons, List.flatMap_nil, List.append_nil]
theorem flat_take_le {rs : List Row} (i : Nat) : (flat (rs.take i)).length ≤ (flat rs).length := by
  have : flat rs = flat (rs.take i) ++ flat (rs.drop i) := by unfold flat; rw [← List.flatMap_append, List.take_append_drop]
  rw [this, List.length_append]; omega
theorem flat_all {rs : List Row} {i : Nat} (h : rs.length ≤ i) : flat (rs.take i) = flat rs := by rw [List.take_of_length_le h]
theorem hdr_at {rs : List Row} {i : Nat} (h : i < rs.length) : (rs.map hdr)[i * 1]? = some (hdr rs[i]) := by simp [h]
theorem hdr_one {rs : List Row} : ∀ u ∈ rs.map hdr, u.oneCell' = true := by simp [Value.oneCell']

set_option maxHeartbeats 2000000 in
theorem clone_ct (L : List SP) (ad : Option Addr) (m cap : Nat) (l : List UInt8) (hR : RdS L 1 ad m (bsl l)) (hb : m ≤ 70368744177664) : Ct Try.prog 55 #[.slice ad m cap] (L) (fun i : Option Addr × Nat => .slice i.1 m i.2) (fun i : Option Addr × Nat => own 5 1 i.1 m i.2 (bsl l) :: L) := by
  refine Ct.of (vs := [.slice ad m cap]) Try.func55 rfl rfl [(0, .slice ad m cap)] (by repeat (first | exact trivial | refine ⟨rfl, ?_⟩)) ?_
  intro E
  show Hd E 8 _ _ _ _
  refine Hd.rdsF hR (fun hlen hnil => ?_)
  refine Hd.seq (fun K1 hK1 => ?_)
  refine Hd.region ?_
  refine Hd.yv (y_assign rfl) ?_
  refine Hd.nil ?_
  refine Hd.slots [(0, _)] ⟨rfl, trivial⟩ ?_
  refine Hd.toK hK1 ?_
  refine Hd.seq (fun K2 hK2 => ?_)
  refine Hd.seq (fun K3 hK3 => ?_)
  refine Hd.region ?_
  refine Hd.yv (y_move rfl) ?_
  refine Hd.yv (y_eql_slice Try.underlying22 rfl rfl) ?_
  refine Hd.nil ?_
  refine Hd.slots [(0, _), (4, _)] ⟨rfl, rfl, trivial⟩ ?_
  refine Hd.toK hK3 ?_
  refine Hd.cond rfl (fun hc0 => ?_) (fun hc0 => ?_)
  ·
    try simp only [decide_eq_true_eq, decide_eq_false_iff_not, Bool.and_eq_true, Bool.or_eq_true, Bool.and_eq_false_iff, Bool.or_eq_false_iff, Bool.not_eq_true', Bool.not_eq_false', Bool.not_eq_true, Bool.not_eq_false, Int.not_lt, Int.not_le, Decidable.not_not, ne_eq] at hc0
    have hnone : ad = none := by simpa using hc0
    obtain rfl := hnil hnone
    obtain rfl : l = [] := List.eq_nil_of_length_eq_zero (by simpa using hlen)
    refine Hd.seq (fun K4 hK4 => ?_)
    refine Hd.region ?_
    refine Hd.yv (y_assign rfl) ?_
    refine Hd.nil ?_
    refine Hd.slots [(2, _)] ⟨rfl, trivial⟩ ?_
    refine Hd.toK hK4 ?_
    refine Hd.ret ?_
    refine Hd.thenRet ?_
    clear hK1 hK2 hK3 hK4
    exact Hd.ret1 rfl (none, 0) rfl (Ent.sep enn)
  ·
    try simp only [decide_eq_true_eq, decide_eq_false_iff_not, Bool.and_eq_true, Bool.or_eq_true, Bool.and_eq_false_iff, Bool.or_eq_false_iff, Bool.not_eq_true', Bool.not_eq_false', Bool.not_eq_true, Bool.not_eq_false, Int.not_lt, Int.not_le, Decidable.not_not, ne_eq] at hc0
    refine Hd.skip ?_
    refine Hd.toK hK2 ?_
    refine Hd.seq (fun K5 hK5 => ?_)
    refine Hd.region ?_
    refine Hd.bslice (vs := []) rfl (by first | exact bs55_5 .. | kernel_rfl) (fun b5 => ?_)
    refine Hd.ownNil 5 1 (some ⟨b5, 0, none⟩) ?_
    refine Hd.yv (y_move rfl) ?_
    refine Hd.append Try.underlying22 ty5 rfl rfl rfl pkk (by first | exact RdS.rd (Rd.pt pkk (fun j v e => by simpa using e)) rfl | (first | exact RdS.own pkk | exact RdS.mono hR (Ent.sep enn))) (by first | (simp [Value.oneCell']; done) | assumption) (by first | (simp only [maxLen]; omega) | assumption) (by omega) (fun ad7 cap7 => ?_)
    refine Hd.yv (y_assign rfl) ?_
    refine Hd.nil ?_
    refine Hd.slots [(2, _)] ⟨rfl, trivial⟩ ?_
    refine Hd.toK hK5 ?_
    refine Hd.ret ?_
    clear hK1 hK2 hK3 hK5
    exact Hd.ret1 rfl (ad7, cap7) (by simp only [Nat.zero_add]; rfl) (Ent.sep (.eq pkk (own_eq (by simp) (by simp)) enn))
set_option maxHeartbeats 2000000 in
theorem clone2_ct (L : List SP) (ad : Option Addr) (m cap : Nat) (us : List Value) (h1 : ∀ u ∈ us, u.oneCell' = true) (hR : RdS L 1 ad m us) (hb : m ≤ 1099511627776) : Ct Try.prog 60 #[.slice ad m cap] (L) (fun i : Option Addr × Nat => .slice i.1 m i.2) (fun i : Option Addr × Nat => own 22 1 i.1 m i.2 us :: L) := by
  refine Ct.of (vs := [.slice ad m cap]) Try.func60 rfl rfl [(0, .slice ad m cap)] (by repeat (first | exact trivial | refine ⟨rfl, ?_⟩)) ?_
  intro E
  show Hd E 8 _ _ _ _
  refine Hd.rdsF hR (fun hlen hnil => ?_)
  refine Hd.seq (fun K1 hK1 => ?_)
  refine Hd.region ?_
  refine Hd.yv (y_assign rfl) ?_
  refine Hd.nil ?_
  refine Hd.slots [(0, _)] ⟨rfl, trivial⟩ ?_
  refine Hd.toK hK1 ?_
  refine Hd.seq (fun K2 hK2 => ?_)
  refine Hd.seq (fun K3 hK3 => ?_)
  refine Hd.region ?_
  refine Hd.yv (y_move rfl) ?_
  refine Hd.yv (y_eql_slice Try.underlying25 rfl rfl) ?_
  refine Hd.nil ?_
  refine Hd.slots [(0, _), (4, _)] ⟨rfl, rfl, trivial⟩ ?_
  refine Hd.toK hK3 ?_
  refine Hd.cond rfl (fun hc0 => ?_) (fun hc0 => ?_)
  ·
    try simp only [decide_eq_true_eq, decide_eq_false_iff_not, Bool.and_eq_true, Bool.or_eq_true, Bool.and_eq_false_iff, Bool.or_eq_false_iff, Bool.not_eq_true', Bool.not_eq_false', Bool.not_eq_true, Bool.not_eq_false, Int.not_lt, Int.not_le, Decidable.not_not, ne_eq] at hc0
    have hnone : ad = none := by simpa using hc0
    obtain rfl := hnil hnone
    obtain rfl : us = [] := List.eq_nil_of_length_eq_zero (by simpa using hlen)
    refine Hd.seq (fun K4 hK4 => ?_)
    refine Hd.region ?_
    refine Hd.yv (y_assign rfl) ?_
    refine Hd.nil ?_
    refine Hd.slots [(2, _)] ⟨rfl, trivial⟩ ?_
    refine Hd.toK hK4 ?_
    refine Hd.ret ?_
    refine Hd.thenRet ?_
    clear hK1 hK2 hK3 hK4
    exact Hd.ret1 rfl (none, 0) rfl (Ent.sep enn)
  ·
    try simp only [decide_eq_true_eq, decide_eq_false_iff_not, Bool.and_eq_true, Bool.or_eq_true, Bool.and_eq_false_iff, Bool.or_eq_false_iff, Bool.not_eq_true', Bool.not_eq_false', Bool.not_eq_true, Bool.not_eq_false, Int.not_lt, Int.not_le, Decidable.not_not, ne_eq] at hc0
    refine Hd.skip ?_
    refine Hd.toK hK2 ?_
    refine Hd.seq (fun K5 hK5 => ?_)
    refine Hd.region ?_
    refine Hd.bslice (vs := []) rfl (by first | exact bs60_5 .. | kernel_rfl) (fun b5 => ?_)
    refine Hd.ownNil 22 1 (some ⟨b5, 0, none⟩) ?_
    refine Hd.yv (y_move rfl) ?_
    refine Hd.append Try.underlying25 ty22 rfl rfl rfl pkk (by first | exact RdS.rd (Rd.pt pkk (fun j v e => by simpa using e)) rfl | (first | exact RdS.own pkk | exact RdS.mono hR (Ent.sep enn))) (by first | (simp [Value.oneCell']; done) | assumption) (by first | (simp only [maxLen]; omega) | assumption) (by omega) (fun ad7 cap7 => ?_)
    refine Hd.yv (y_assign rfl) ?_
    refine Hd.nil ?_
    refine Hd.slots [(2, _)] ⟨rfl, trivial⟩ ?_
    refine Hd.toK hK5 ?_
    refine Hd.ret ?_
    clear hK1 hK2 hK3 hK5
    exact Hd.ret1 rfl (ad7, cap7) (by simp only [Nat.zero_add]; rfl) (Ent.sep (.eq pkk (own_eq (by simp) (by simp)) enn))
set_option maxHeartbeats 2000000 in
theorem grow_ct (L : List SP) (j : Nat) (hj : j ≤ 70368744177664) : Ct Try.prog 76 #[.slice none 0 0, .int .i64 (j : Int)] (L) (fun i : Option Addr × Nat => .slice i.1 0 i.2) (fun i : Option Addr × Nat => own 5 1 i.1 0 i.2 [] :: L) := by
  refine Ct.of (vs := [.slice none 0 0, .int .i64 (j : Int)]) Try.func76 rfl rfl [(0, .slice none 0 0), (1, .int .i64 (j : Int))] (by repeat (first | exact trivial | refine ⟨rfl, ?_⟩)) ?_
  intro E
  show Hd E 27 _ _ _ _
  refine Hd.seq (fun K1 hK1 => ?_)
  refine Hd.region ?_
  refine Hd.yv (y_assign rfl) ?_
  refine Hd.nil ?_
  refine Hd.slots [(0, _), (1, _)] ⟨rfl, rfl, trivial⟩ ?_
  refine Hd.toK hK1 ?_
  refine Hd.seq (fun K2 hK2 => ?_)
  refine Hd.seq (fun K3 hK3 => ?_)
  refine Hd.region ?_
  refine Hd.yv (y_move rfl) ?_
  refine Hd.yv (y_lss rfl rfl) ?_
  rw [decide_eq_false (show ¬((j : Int) < 0) by omega)]
  refine Hd.nil ?_
  refine Hd.slots [(0, _), (1, _), (6, _)] ⟨rfl, rfl, rfl, trivial⟩ ?_
  refine Hd.toK hK3 ?_
  refine Hd.condF rfl ?_
  refine Hd.skip ?_
  refine Hd.toK hK2 ?_
  refine Hd.seq (fun K4 hK4 => ?_)
  refine Hd.seq (fun K5 hK5 => ?_)
  refine Hd.region ?_
  refine Hd.yv (y_move rfl) ?_
  refine Hd.yv (y_move rfl) ?_
  refine Hd.yv (y_cap Try.underlying22 rfl) ?_
  refine Hd.yv (y_move rfl) ?_
  refine Hd.yv (y_len Try.underlying22 rfl) ?_
  first | (refine Hd.yv (y_subn rfl rfl (by simp only [InK]; omega)) ?_) | (refine Hd.yv (y_sub rfl rfl) ?_)
  first | (refine Hd.yv (y_subn rfl rfl (by simp only [InK]; omega)) ?_) | (refine Hd.yv (y_sub rfl rfl) ?_)
  refine Hd.yv (y_assign rfl) ?_
  refine Hd.nil ?_
  refine Hd.slots [(0, _), (1, _)] ⟨rfl, rfl, trivial⟩ ?_
  refine Hd.toK hK5 ?_
  refine Hd.seq (fun K6 hK6 => ?_)
  refine Hd.region ?_
  refine Hd.yv (y_move rfl) ?_
  refine Hd.yv (y_gtr rfl rfl) ?_
  refine Hd.nil ?_
  refine Hd.slots [(0, _), (1, _), (16, _)] ⟨rfl, rfl, rfl, trivial⟩ ?_
  refine Hd.toK hK6 ?_
  refine Hd.cond rfl (fun hc1 => ?_) (fun hc1 => ?_)
  ·
    try simp only [decide_eq_true_eq, decide_eq_false_iff_not, Bool.and_eq_true, Bool.or_eq_true, Bool.and_eq_false_iff, Bool.or_eq_false_iff, Bool.not_eq_true', Bool.not_eq_false', Bool.not_eq_true, Bool.not_eq_false, Int.not_lt, Int.not_le, Decidable.not_not, ne_eq] at hc1
    refine Hd.ownNil 5 1 none ?_
    refine Hd.region ?_
    refine Hd.yv (y_move rfl) ?_
    refine Hd.yv (y_move rfl) ?_
    refine Hd.yv (y_cap Try.underlying22 rfl) ?_
    first | (refine Hd.yv (y_slo_xoxN Try.underlying22 sz5 rfl rfl (by first | omega | (simp; done) | decide)) ?_) | (refine Hd.yv (y_slo_xox Try.underlying22 sz5 rfl rfl (by first | omega | (simp; done) | decide) (by first | omega | (simp; done) | decide)) ?_)
    refine Hd.yv (y_move rfl) ?_
    refine Hd.name (b := (j : Int)) 21 rfl (by omega) ?_
    refine Hd.appendZ Try.underlying22 Try.underlying3 ty5 zr5 rfl rfl rfl pkk (by omega) (by omega) (by simp only [maxLen]; omega) (by omega) (fun ad22 cap22 => ?_)
    refine Hd.yv (y_move rfl) ?_
    refine Hd.yv (y_len Try.underlying22 rfl) ?_
    first | (refine Hd.yv (y_slo_xoxN Try.underlying22 sz5 rfl rfl (by first | omega | (simp; done) | decide)) ?_) | (refine Hd.yv (y_slo_xox Try.underlying22 sz5 rfl rfl (by first | omega | (simp; done) | decide) (by first | omega | (simp; done) | decide)) ?_)
    refine Hd.yv (y_assign rfl) ?_
    refine Hd.nil ?_
    refine Hd.slots [(0, _)] ⟨rfl, trivial⟩ ?_
    refine Hd.toK hK4 ?_
    refine Hd.seq (fun K7 hK7 => ?_)
    refine Hd.region ?_
    refine Hd.yv (y_move rfl) ?_
    refine Hd.yv (y_assign rfl) ?_
    refine Hd.nil ?_
    refine Hd.slots [(4, _)] ⟨rfl, trivial⟩ ?_
    refine Hd.toK hK7 ?_
    refine Hd.ret ?_
    clear hK1 hK2 hK3 hK4 hK5 hK6 hK7
    exact Hd.ret1 rfl (ad22, cap22) rfl (fun k s => sep_head (Ent.sep (.pick pkk enn) k s) fun k' x => own_take (us1 := []) (us2 := List.replicate j (.int .u8 0)) (Nat.zero_le _) rfl (by simpa using x))
  ·
    try simp only [decide_eq_true_eq, decide_eq_false_iff_not, Bool.and_eq_true, Bool.or_eq_true, Bool.and_eq_false_iff, Bool.or_eq_false_iff, Bool.not_eq_true', Bool.not_eq_false', Bool.not_eq_true, Bool.not_eq_false, Int.not_lt, Int.not_le, Decidable.not_not, ne_eq] at hc1
    refine Hd.skip ?_
    refine Hd.toK hK4 ?_
    refine Hd.seq (fun K8 hK8 => ?_)
    refine Hd.region ?_
    refine Hd.yv (y_move rfl) ?_
    refine Hd.yv (y_assign rfl) ?_
    refine Hd.nil ?_
    refine Hd.slots [(4, _)] ⟨rfl, trivial⟩ ?_
    refine Hd.toK hK8 ?_
    refine Hd.ret ?_
    clear hK1 hK2 hK3 hK4 hK5 hK6 hK8
    exact Hd.ret1 rfl (none, 0) rfl (Ent.sep (.ownNil enn))
set_option maxHeartbeats 2000000 in
theorem concat_ct (L : List SP) (ad : Option Addr) (cap : Nat) (rs : List Row) (hR : RdS L 1 ad rs.length (rs.map hdr)) (hrd : ∀ r ∈ rs, RdS L 1 r.ad r.l.length (bsl r.l)) (hm : rs.length ≤ 1099511627776) (hb : (flat rs).length ≤ 70368744177664) : Ct Try.prog 56 #[.slice ad rs.length cap] (L) (fun i : Option Addr × Nat => .slice i.1 (flat rs).length i.2) (fun i : Option Addr × Nat => own 5 1 i.1 (flat rs).length i.2 (bsl (flat rs)) :: L) := by
  refine Ct.of (vs := [.slice ad rs.length cap]) Try.func56 rfl rfl [(0, .slice ad rs.length cap)] (by repeat (first | exact trivial | refine ⟨rfl, ?_⟩)) ?_
  intro E
  show Hd E 36 _ _ _ _
  refine Hd.seq (fun K1 hK1 => ?_)
  refine Hd.region ?_
  refine Hd.yv (y_assign rfl) ?_
  refine Hd.nil ?_
  refine Hd.slots [(0, _)] ⟨rfl, trivial⟩ ?_
  refine Hd.toK hK1 ?_
  refine Hd.seq (fun K2 hK2 => ?_)
  refine Hd.region ?_
  refine Hd.yv (y_assign rfl) ?_
  refine Hd.nil ?_
  refine Hd.slots [(0, _), (3, _)] ⟨rfl, rfl, trivial⟩ ?_
  refine Hd.toK hK2 ?_
  refine Hd.seq (fun K3 hK3 => ?_)
  refine Hd.seq (fun K4 hK4 => ?_)
  refine Hd.region ?_
  refine Hd.yv (y_move rfl) ?_
  refine Hd.yv (y_len Try.underlying25 rfl) ?_
  refine Hd.yv (y_move rfl) ?_
  refine Hd.nil ?_
  refine Hd.slots [(0, _), (3, _), (9, _), (10, _), (11, _)] ⟨rfl, rfl, rfl, rfl, rfl, trivial⟩ ?_
  refine Hd.toK hK4 ?_
  refine Hd.block ?_
  refine Hd.loopK (ι := Nat) [(0, _), (9, _), (10, _)] (fun i => [(3, .int .i64 ((flat (rs.take i)).length : Int)), (11, .int .i64 (i : Int))]) (fun i => pu (i ≤ rs.length) :: L) (fun i => rs.length - i) 0 (by repeat (first | exact trivial | refine ⟨rfl, ?_⟩)) (by repeat (first | exact trivial | refine ⟨rfl, ?_⟩)) (Ent.sep (.pure (by first | omega | (simp; done) | (simp; omega) | exact ⟨by simp, by simp⟩) enn)) ?_
  intro i
  try dsimp only
  refine Hd.pure (fun hp0 => ?_)
  try dsimp only at hp0
  refine Hd.seq (fun K5 hK5 => ?_)
  refine Hd.region ?_
  refine Hd.yv (y_lss rfl rfl) ?_
  refine Hd.nil ?_
  refine Hd.slots [(0, _), (3, _), (9, _), (10, _), (11, _), (12, _)] ⟨rfl, rfl, rfl, rfl, rfl, rfl, trivial⟩ ?_
  refine Hd.toK hK5 ?_
  refine Hd.seq (fun K6 hK6 => ?_)
  refine Hd.cond rfl (fun hc0 => ?_) (fun hc0 => ?_)
  ·
    try simp only [decide_eq_true_eq, decide_eq_false_iff_not, Bool.and_eq_true, Bool.or_eq_true, Bool.and_eq_false_iff, Bool.or_eq_false_iff, Bool.not_eq_true', Bool.not_eq_false', Bool.not_eq_true, Bool.not_eq_false, Int.not_lt, Int.not_le, Decidable.not_not, ne_eq] at hc0
    have hi' : i < rs.length := by omega
    have e1 := flat_take_succ hi'
    have e2 := flat_take_le (rs := rs) (i + 1)
    rw [e1, List.length_append] at e2
    refine Hd.skip ?_
    refine Hd.toK hK6 ?_
    refine Hd.seq (fun K7 hK7 => ?_)
    refine Hd.block ?_
    refine Hd.seq (fun K8 hK8 => ?_)
    refine Hd.region ?_
    first | (refine Hd.yv (y_idxS Try.underlying25 sz22 rfl rfl (by first | omega | decide)) ?_) | (refine Hd.yv (y_idxR Try.underlying25 sz22 rfl rfl (by first | omega | decide) (by (first | exact RdS.own pkk | exact RdS.mono hR (Ent.sep enn) | exact RdS.mono (hrd _ (List.getElem_mem hi')) (Ent.sep enn)))) ?_)
    first | (refine Hd.yv (y_load1 ag22 rfl (Rd.pt1 pkk (by (first | exact hdr_at hi' | rfl)))) ?_) | (refine Hd.yv (y_load1 ag22 rfl (Rd.seg1 pkk (by (first | exact hdr_at hi' | rfl)))) ?_) | (refine Hd.yv (y_loadR1 ag22 rfl (by (first | exact RdS.own pkk | exact RdS.mono hR (Ent.sep enn) | exact RdS.mono (hrd _ (List.getElem_mem hi')) (Ent.sep enn))) (by (first | exact hdr_at hi' | rfl))) ?_)
    refine Hd.yv (y_assign rfl) ?_
    refine Hd.nil ?_
    refine Hd.slots [(0, _), (3, _), (5, _), (9, _), (10, _), (11, _)] ⟨rfl, rfl, rfl, rfl, rfl, rfl, trivial⟩ ?_
    refine Hd.toK hK8 ?_
    refine Hd.seq (fun K9 hK9 => ?_)
    refine Hd.region ?_
    refine Hd.yv (y_move rfl) ?_
    refine Hd.yv (y_move rfl) ?_
    refine Hd.yv (y_len Try.underlying22 rfl) ?_
    refine Hd.yv (y_addn rfl rfl (by simp only [InK]; omega)) ?_
    refine Hd.yv (y_assign rfl) ?_
    refine Hd.nil ?_
    refine Hd.slots [(0, _), (3, _), (9, _), (10, _), (11, _)] ⟨rfl, rfl, rfl, rfl, rfl, trivial⟩ ?_
    refine Hd.toK hK9 ?_
    refine Hd.seq (fun K10 hK10 => ?_)
    refine Hd.region ?_
    refine Hd.yv (y_move rfl) ?_
    refine Hd.yv (y_lss rfl rfl) ?_
    rw [decide_eq_false (show ¬(((flat (rs.take i)).length : Int) + (rs[i].l.length : Int) < 0) by omega)]
    refine Hd.nil ?_
    refine Hd.slots [(0, _), (3, _), (9, _), (10, _), (11, _), (20, _)] ⟨rfl, rfl, rfl, rfl, rfl, rfl, trivial⟩ ?_
    refine Hd.toK hK10 ?_
    refine Hd.condF rfl ?_
    refine Hd.skip ?_
    refine Hd.inB ?_
    refine Hd.toK hK7 ?_
    refine Hd.region ?_
    first | (refine Hd.yv (y_addn rfl rfl (by simp only [InK]; omega)) ?_) | (refine Hd.yv (y_add rfl rfl) ?_)
    refine Hd.yv (y_move rfl) ?_
    refine Hd.nil ?_
    refine Hd.slots [(0, _), (3, _), (9, _), (10, _), (11, _)] ⟨rfl, rfl, rfl, rfl, rfl, trivial⟩ ?_
    clear hK1 hK2 hK3 hK4 hK5 hK6 hK7 hK8 hK9 hK10
    refine Hd.thenN ?_
    exact Hd.again (i + 1) (by first | omega | (simp only; omega) | (simp; omega)) (by repeat (first | exact trivial | refine ⟨rfl, ?_⟩ | refine ⟨by (simp only [look, e1, List.length_append]; try rfl), ?_⟩)) (Ent.sep (.pure (by first | omega | (simp; done) | (simp; omega) | (dsimp only; omega)) enn))
  ·
    try simp only [decide_eq_true_eq, decide_eq_false_iff_not, Bool.and_eq_true, Bool.or_eq_true, Bool.and_eq_false_iff, Bool.or_eq_false_iff, Bool.not_eq_true', Bool.not_eq_false', Bool.not_eq_true, Bool.not_eq_false, Int.not_lt, Int.not_le, Decidable.not_not, ne_eq] at hc0
    obtain rfl : i = rs.length := by omega
    rw [flat_all (Nat.le_refl _)]
    refine Hd.exit ?_
    refine Hd.thenExit ?_
    refine Hd.thenExit ?_
    refine Hd.inBexit ?_
    refine Hd.toK hK3 ?_
    refine Hd.seq (fun K11 hK11 => ?_)
    refine Hd.region ?_
    refine Hd.yv (y_move rfl) ?_
    refine Hd.callE rfl fk76 (grow_ct _ _ hb) (Ent.sep enn) ?_
    rintro ⟨ad2, cap2⟩
    refine Hd.yv (y_assign rfl) ?_
    refine Hd.nil ?_
    refine Hd.slots [(0, _), (6, _)] ⟨rfl, rfl, trivial⟩ ?_
    refine Hd.toK hK11 ?_
    refine Hd.seq (fun K12 hK12 => ?_)
    refine Hd.seq (fun K13 hK13 => ?_)
    refine Hd.region ?_
    refine Hd.yv (y_move rfl) ?_
    refine Hd.yv (y_len Try.underlying25 rfl) ?_
    refine Hd.yv (y_move rfl) ?_
    refine Hd.nil ?_
    refine Hd.slots [(6, _), (25, _), (26, _), (27, _)] ⟨rfl, rfl, rfl, rfl, trivial⟩ ?_
    refine Hd.toK hK13 ?_
    refine Hd.block ?_
    refine Hd.loopK (ι := Nat × Option Addr × Nat) [(25, _), (26, _)] (fun q_ => [(6, .slice q_.2.1 (flat (rs.take q_.1)).length q_.2.2), (27, .int .i64 (q_.1 : Int))]) (fun q_ => pu (q_.1 ≤ rs.length) :: own 5 1 q_.2.1 (flat (rs.take q_.1)).length q_.2.2 (bsl (flat (rs.take q_.1))) :: L) (fun q_ => rs.length - q_.1) (0, ad2, cap2) (by repeat (first | exact trivial | refine ⟨rfl, ?_⟩)) (by repeat (first | exact trivial | refine ⟨rfl, ?_⟩)) (Ent.sep (.pure (by first | omega | (simp; done) | (simp; omega) | exact ⟨by simp, by simp⟩) enn)) ?_
    rintro ⟨i, ad3, cap3⟩
    try dsimp only
    refine Hd.pure (fun hp1 => ?_)
    try dsimp only at hp1
    refine Hd.seq (fun K14 hK14 => ?_)
    refine Hd.region ?_
    refine Hd.yv (y_lss rfl rfl) ?_
    refine Hd.nil ?_
    refine Hd.slots [(6, _), (25, _), (26, _), (27, _), (28, _)] ⟨rfl, rfl, rfl, rfl, rfl, trivial⟩ ?_
    refine Hd.toK hK14 ?_
    refine Hd.seq (fun K15 hK15 => ?_)
    refine Hd.cond rfl (fun hc2 => ?_) (fun hc2 => ?_)
    ·
      try simp only [decide_eq_true_eq, decide_eq_false_iff_not, Bool.and_eq_true, Bool.or_eq_true, Bool.and_eq_false_iff, Bool.or_eq_false_iff, Bool.not_eq_true', Bool.not_eq_false', Bool.not_eq_true, Bool.not_eq_false, Int.not_lt, Int.not_le, Decidable.not_not, ne_eq] at hc2
      have hi' : i < rs.length := by omega
      have e1 := flat_take_succ hi'
      have e2 := flat_take_le (rs := rs) (i + 1)
      rw [e1, List.length_append] at e2
      refine Hd.skip ?_
      refine Hd.toK hK15 ?_
      refine Hd.seq (fun K16 hK16 => ?_)
      refine Hd.block ?_
      refine Hd.seq (fun K17 hK17 => ?_)
      refine Hd.region ?_
      first | (refine Hd.yv (y_idxS Try.underlying25 sz22 rfl rfl (by first | omega | decide)) ?_) | (refine Hd.yv (y_idxR Try.underlying25 sz22 rfl rfl (by first | omega | decide) (by (first | exact RdS.own pkk | exact RdS.mono hR (Ent.sep enn) | exact RdS.mono (hrd _ (List.getElem_mem hi')) (Ent.sep enn)))) ?_)
      first | (refine Hd.yv (y_load1 ag22 rfl (Rd.pt1 pkk (by (first | exact hdr_at hi' | rfl)))) ?_) | (refine Hd.yv (y_load1 ag22 rfl (Rd.seg1 pkk (by (first | exact hdr_at hi' | rfl)))) ?_) | (refine Hd.yv (y_loadR1 ag22 rfl (by (first | exact RdS.own pkk | exact RdS.mono hR (Ent.sep enn) | exact RdS.mono (hrd _ (List.getElem_mem hi')) (Ent.sep enn))) (by (first | exact hdr_at hi' | rfl))) ?_)
      refine Hd.yv (y_assign rfl) ?_
      refine Hd.nil ?_
      refine Hd.slots [(6, _), (8, _), (25, _), (26, _), (27, _)] ⟨rfl, rfl, rfl, rfl, rfl, trivial⟩ ?_
      refine Hd.toK hK17 ?_
      refine Hd.region ?_
      refine Hd.yv (y_move rfl) ?_
      refine Hd.yv (y_move rfl) ?_
      refine Hd.append Try.underlying22 ty5 rfl rfl rfl pkk (by first | exact RdS.rd (Rd.pt pkk (fun j v e => by simpa using e)) rfl | (first | exact RdS.own pkk | exact RdS.mono hR (Ent.sep enn) | exact RdS.mono (hrd _ (List.getElem_mem hi')) (Ent.sep enn))) (by first | (simp [Value.oneCell']; done) | assumption) (by first | (simp only [maxLen]; omega) | assumption) (by omega) (fun ad33 cap33 => ?_)
      refine Hd.yv (y_assign rfl) ?_
      refine Hd.nil ?_
      refine Hd.slots [(6, _), (25, _), (26, _), (27, _)] ⟨rfl, rfl, rfl, rfl, trivial⟩ ?_
      refine Hd.inB ?_
      refine Hd.toK hK16 ?_
      refine Hd.region ?_
      first | (refine Hd.yv (y_addn rfl rfl (by simp only [InK]; omega)) ?_) | (refine Hd.yv (y_add rfl rfl) ?_)
      refine Hd.yv (y_move rfl) ?_
      refine Hd.nil ?_
      refine Hd.slots [(6, _), (25, _), (26, _), (27, _)] ⟨rfl, rfl, rfl, rfl, trivial⟩ ?_
      clear hK1 hK2 hK3 hK4 hK5 hK6 hK11 hK12 hK13 hK14 hK15 hK16 hK17
      refine Hd.thenN ?_
      exact Hd.again (i + 1, ad33, cap33) (by first | omega | (simp only; omega) | (simp; omega)) (by repeat (first | exact trivial | refine ⟨rfl, ?_⟩ | refine ⟨by (simp only [look, e1, List.length_append]; try rfl), ?_⟩)) (Ent.sep (.pure (by first | omega | (simp; done) | (simp; omega) | (dsimp only; omega)) (.eq pkk (own_eq (by rw [e1, List.length_append]) (by rw [e1]; simp)) enn)))
    ·
      try simp only [decide_eq_true_eq, decide_eq_false_iff_not, Bool.and_eq_true, Bool.or_eq_true, Bool.and_eq_false_iff, Bool.or_eq_false_iff, Bool.not_eq_true', Bool.not_eq_false', Bool.not_eq_true, Bool.not_eq_false, Int.not_lt, Int.not_le, Decidable.not_not, ne_eq] at hc2
      refine Hd.exit ?_
      refine Hd.thenExit ?_
      refine Hd.thenExit ?_
      refine Hd.inBexit ?_
      refine Hd.toK hK12 ?_
      refine Hd.seq (fun K18 hK18 => ?_)
      refine Hd.region ?_
      refine Hd.yv (y_move rfl) ?_
      refine Hd.yv (y_assign rfl) ?_
      refine Hd.nil ?_
      refine Hd.slots [(2, _)] ⟨rfl, trivial⟩ ?_
      refine Hd.toK hK18 ?_
      refine Hd.ret ?_
      clear hK1 hK2 hK3 hK4 hK5 hK6 hK11 hK12 hK13 hK14 hK15 hK18
      obtain rfl : i = rs.length := by omega
      rw [flat_all (Nat.le_refl _)]
      exact Hd.ret1 rfl (ad3, cap3) rfl (Ent.sep enn)
end Bc
end Go.Proofs.Ytgifpkpkkgkfeaa
