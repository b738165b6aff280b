/-
  Chains: cut, Take, Drain. Chains: Take, Drain, Chunks. Chains: Copy, Find, Line. Chains: Find, Line. Chains: Pull, Move. Buffered events: chains in plain words; how one lies in memory; flag, some, may, New. Buffered events: set, New, Lens, Deadline, Read, Write, Timeouts. Buffered events: Lens, Deadline, Read, Write, Timeouts.
-/
import Derived.Test.YtmpemhbfgbochaaDoorZLimitBoundsE
namespace Go.Proofs.YtmpemhbfgbochaaDoor
set_option linter.unusedSimpArgs false
set_option linter.unusedVariables false
set_option linter.unnecessarySimpa false
open Go.RX Fx
namespace Bc
section
variable {E : World} {n : Nat} {ds : List Deferred} {st : List (Nat × Value)} {L L' L2 : List SP} {K : Act → World → Prop}
theorem Hd.rowsCap {rs : List Row} (p : Pick L (rows rs) L') (h : (∀ r ∈ rs, r.l.length ≤ r.cap) → Hd E n ds st L K) : Hd E n ds st L K := fun a w f s => by
  refine h (fun r hr => ?_) a w f s
  obtain ⟨h1, s1, ⟨x⟩⟩ := sep.one p s.2.2.2
  obtain ⟨L3, p3⟩ := pick_mem hr
  obtain ⟨h2, s2, x2⟩ := sep.one p3 x
  exact (own_le x2).1
theorem cutRow_sep {outs rest : List Row} {r0 : Row} {j : Nat} (hj : j ≤ r0.l.length) (p1 : Pick L (rows outs) L') (p2 : Pick L' (rows (r0 :: rest)) L2) (k : PH) (s : sep L k) :
    sep (rows (outs ++ [⟨r0.ad, j, r0.l.take j⟩]) :: rows (⟨cutA r0.ad 1 j r0.cap, r0.cap - j, r0.l.drop j⟩ :: rest) :: L2) k := by
  have s1 : sep (rows outs :: rows (r0 :: rest) :: L2) k := Ent.imp' .here (fun _ x => x) (fun k s => p2.sep s) (p1.sep s)
  have s2 : sep (rows outs :: rows [⟨r0.ad, j, r0.l.take j⟩] :: rows (⟨cutA r0.ad 1 j r0.cap, r0.cap - j, r0.l.drop j⟩ :: rest) :: L2) k := by
    refine Ent.imp' .here (fun _ x => x) (fun k s => ?_) s1
    have s3 := rows_own ((fun s => rows_split (a := [r0]) (b := rest) s) s) |> fun x => x
    have s4 : sep (own 5 1 r0.ad r0.l.length r0.cap (bsl (r0.l.take j) ++ bsl (r0.l.drop j)) :: rows rest :: L2) k := by
      rw [← List.map_append, List.take_append_drop]; exact s3
    have s5 := own_split (l := j) hj (by simp [hj]) s4
    have e1 : own 5 1 r0.ad j j (bsl (r0.l.take j)) = ow ⟨r0.ad, j, r0.l.take j⟩ := by simp [ow, Nat.min_eq_left hj]
    have e2 : own 5 1 (cutA r0.ad 1 j r0.cap) (r0.l.length - j) (r0.cap - j) (bsl (r0.l.drop j)) = ow ⟨cutA r0.ad 1 j r0.cap, r0.cap - j, r0.l.drop j⟩ := by simp [ow]
    rw [e1, e2] at s5
    refine Ent.imp' .here (fun _ x => x) (fun k s => ?_) (own_rows s5)
    exact rows_join (a := [⟨cutA r0.ad 1 j r0.cap, r0.cap - j, r0.l.drop j⟩]) (own_rows s)
  exact rows_join s2
theorem ownDropP {e sz m cap : Nat} {ad : Option Addr} {us : List Value} (p : Pick L (own e sz ad m cap us) L') (l : Nat) (us1 us2 : List Value) (hl : l ≤ m) (hu : us = us1 ++ us2) (h1 : us1.length = l * sz) (k : PH) (s : sep L k) :
    sep (own e sz (cutA ad sz l cap) (m - l) (cap - l) us2 :: L') k := by subst hu; exact own_drop hl h1 (p.sep s)
theorem rows_tail {r0 : Row} {rest : List Row} {k : PH} (h : rows (r0 :: rest) k) : rows rest k := by
  obtain ⟨⟨h1, h2, d, a, b, x, y⟩⟩ := h
  exact ⟨y.up b⟩
end
theorem joinNil {L : List SP} {k : PH} (s : sep L k) : sep (rows [] :: L) k := rows_nil s
theorem hdr_first {rs rs0 : List Row} {r0 : Row} (h : rs = r0 :: rs0) : (rs.map hdr)[0 * 1]? = some (hdr r0) := by subst h; rfl
abbrev OwH (ad : Option Addr) (cap : Nat) (rs : List Row) : SP := own 35 1 ad rs.length cap (rs.map hdr)
def CutI (n : Int) (rs outs rest : List Row) (nn : Int) : Prop := flat outs ++ flat rest = flat rs ∧ Full outs ∧ Full rest ∧ (flat outs).length + nn.toNat = n.toNat ∧ (flat rs).length ≤ 1048576 ∧ rs.length ≤ 1048576 ∧ outs.length + rest.length ≤ rs.length + 1 ∧ (0 < nn → outs.length + rest.length ≤ rs.length)
set_option maxHeartbeats 2000000 in
theorem cut_ct (L : List SP) (b o : Nat) (rs : List Row) (hg : Good rs) (n : Int) (hn : n ≤ 9223372036854775807) : Ct Tryd.prog 65 #[.pointer (some ⟨b, o, none⟩), .int .i64 n] (Ch b o rs :: L) (fun q_ : List Row × List Row × Option Addr × Nat => .slice q_.2.2.1 q_.1.length q_.2.2.2) (fun q_ : List Row × List Row × Option Addr × Nat => pu (flat q_.1 = (flat rs).take n.toNat ∧ flat q_.2.1 = (flat rs).drop n.toNat ∧ Full q_.1 ∧ Full q_.2.1) :: OwH q_.2.2.1 q_.2.2.2 q_.1 :: rows q_.1 :: Ch b o q_.2.1 :: L) := by
  refine Ct.of (vs := [.pointer (some ⟨b, o, none⟩), .int .i64 n]) Tryd.func65 rfl rfl [(0, .pointer (some ⟨b, o, none⟩)), (1, .int .i64 n)] (by repeat (first | exact trivial | refine ⟨rfl, ?_⟩)) ?_
  intro E
  show Hd E 75 _ _ _ _
  obtain ⟨hfull, hlen⟩ := hg
  have hrl := full_len hfull
  refine Hd.exs pkk ?_
  rintro ⟨ha, hcp⟩
  simp only [List.cons_append, List.nil_append]
  refine Hd.seq (fun K1 hK1 => ?_)
  refine Hd.region ?_
  refine Hd.yv (y_assign rfl) ?_
  refine Hd.nil ?_
  refine Hd.slots [(0, _), (1, _)] ⟨rfl, rfl, trivial⟩ ?_
  refine Hd.toK hK1 ?_
  refine Hd.seq (fun K2 hK2 => ?_)
  refine Hd.region ?_
  refine Hd.yv (y_assign rfl) ?_
  refine Hd.nil ?_
  refine Hd.slots [(0, _), (1, _), (5, _)] ⟨rfl, rfl, rfl, trivial⟩ ?_
  refine Hd.toK hK2 ?_
  refine Hd.seq (fun K3 hK3 => ?_)
  refine Hd.block ?_
  refine Hd.loopK (ι := List Row × List Row × Option Addr × Nat × Option Addr × Nat × Int) [(0, _)] (fun q_ => [(1, .int .i64 q_.2.2.2.2.2.2), (5, .slice q_.2.2.1 q_.1.length q_.2.2.2.1)]) (fun q_ => pu (CutI n rs q_.1 q_.2.1 q_.2.2.2.2.2.2) :: seg b o [.slice q_.2.2.2.2.1 q_.2.1.length q_.2.2.2.2.2.1, .int .i64 ((flat q_.2.1).length : Int)] :: OwH q_.2.2.2.2.1 q_.2.2.2.2.2.1 q_.2.1 :: rows q_.2.1 :: OwH q_.2.2.1 q_.2.2.2.1 q_.1 :: rows q_.1 :: L) (fun q_ => q_.2.2.2.2.2.2.toNat) ([], rs, none, 0, ha, hcp, n) (by repeat (first | exact trivial | refine ⟨rfl, ?_⟩)) (by repeat (first | exact trivial | refine ⟨rfl, ?_⟩)) (fun k s => Ent.sep (.pure ⟨rfl, fun r hr => by simp at hr, hfull, by simp [flat], hlen, by omega, by simp, by simp⟩ (.pick pkk (.pick pkk (.pick pkk (.ownNil (.pick pkk enn)))))) k (joinNil s)) ?_
  rintro ⟨outs, rest, adO, capO, adH, capH, nn⟩
  try dsimp only
  refine Hd.pure (fun hp0 => ?_)
  try dsimp only at hp0
  obtain ⟨hI1, hI2, hI3, hI4, hI5, hI6, hI7, hI8⟩ := hp0
  refine Hd.seq (fun K4 hK4 => ?_)
  refine Hd.seq (fun K5 hK5 => ?_)
  refine Hd.region ?_
  refine Hd.yv (y_move rfl) ?_
  refine Hd.yv (y_gtr rfl rfl) ?_
  refine Hd.yv (y_move rfl) ?_
  apply Hd.andg 7 10 17 [(0, _), (1, _), (5, _)] rfl ⟨rfl, rfl, rfl, trivial⟩
  · intro hg2_10
    try simp only [decide_eq_true_eq, decide_eq_false_iff_not, Bool.and_eq_true, Bool.or_eq_true, Bool.and_eq_false_iff, Bool.or_eq_false_iff, Bool.not_eq_true', Bool.not_eq_false', Bool.not_eq_true, Bool.not_eq_false, Int.not_lt, Int.not_le, Decidable.not_not, ne_eq] at hg2_10
    simp only [List.take]
    refine Hd.yg rfl rfl (y_move rfl) ?_
    refine Hd.yg rfl rfl (y_nilp rfl) ?_
    first | (refine Hd.yg rfl rfl (y_field' (q := 0) (ft := 97) Tryd.underlying99 rfl sz97 rfl rfl) ?_) | (refine Hd.yg rfl rfl (y_fieldR (q := 0) (ft := 97) Tryd.underlying99 rfl sz97 rfl rfl) ?_)
    first | (refine Hd.yg rfl rfl (y_load1 ag97 rfl (Rd.pt1 pkk (by (first | exact hdr_first hrest | rfl)))) ?_) | (refine Hd.yg rfl rfl (y_load1 ag97 rfl (Rd.seg1 pkk (by (first | exact hdr_first hrest | rfl)))) ?_) | (refine Hd.yg rfl rfl (y_loadR1 ag97 rfl (by (first | exact RdS.own pkk)) (by (first | exact hdr_first hrest | rfl))) ?_)
    refine Hd.yg rfl rfl (y_len Tryd.underlying97 rfl) ?_
    refine Hd.yg rfl rfl (y_gtr rfl rfl) ?_
    first | (refine Hd.yv (y_pickT rfl rfl) ?_) | (refine Hd.yv (y_pickF rfl rfl) ?_) | (refine Hd.yv (y_pickb rfl rfl rfl) ?_) | (refine Hd.yv (y_pick rfl rfl rfl) ?_)
    refine Hd.nil ?_
    exact Hd.mend (by repeat (first | exact trivial | refine ⟨rfl, ?_⟩)) (Ent.sep enn)
  · intro hg2_10
    try simp only [decide_eq_true_eq, decide_eq_false_iff_not, Bool.and_eq_true, Bool.or_eq_true, Bool.and_eq_false_iff, Bool.or_eq_false_iff, Bool.not_eq_true', Bool.not_eq_false', Bool.not_eq_true, Bool.not_eq_false, Int.not_lt, Int.not_le, Decidable.not_not, ne_eq] at hg2_10
    simp only [List.take]
    refine Hd.ng rfl rfl rfl ?_
    refine Hd.ng rfl rfl rfl ?_
    refine Hd.ng rfl rfl rfl ?_
    refine Hd.ng rfl rfl rfl ?_
    refine Hd.ng rfl rfl rfl ?_
    refine Hd.ng rfl rfl rfl ?_
    first | (refine Hd.yv (y_pickT rfl rfl) ?_) | (refine Hd.yv (y_pickF rfl rfl) ?_) | (refine Hd.yv (y_pickb rfl rfl rfl) ?_) | (refine Hd.yv (y_pick rfl rfl rfl) ?_)
    refine Hd.nil ?_
    exact Hd.mend (by repeat (first | exact trivial | refine ⟨rfl, ?_⟩)) (Ent.sep enn)
  simp only [List.drop]
  refine Hd.nil ?_
  refine Hd.slots [(0, _), (1, _), (5, _), (17, _)] ⟨rfl, rfl, rfl, rfl, trivial⟩ ?_
  refine Hd.toK hK5 ?_
  refine Hd.cond rfl (fun hc0 => ?_) (fun hc0 => ?_)
  ·
    try simp only [decide_eq_true_eq, decide_eq_false_iff_not, Bool.and_eq_true, Bool.or_eq_true, Bool.and_eq_false_iff, Bool.or_eq_false_iff, Bool.not_eq_true', Bool.not_eq_false', Bool.not_eq_true, Bool.not_eq_false, Int.not_lt, Int.not_le, Decidable.not_not, ne_eq] at hc0
    obtain ⟨hn0, hr0⟩ := hc0
    obtain ⟨r0, rest', hrest⟩ := List.exists_cons_of_ne_nil (show rest ≠ [] by intro e; subst e; simp at hr0)
    have hrl2 : rest.length = rest'.length + 1 := by rw [hrest]; rfl
    have hr0p : 0 < r0.l.length := hI3 r0 (by rw [hrest]; simp)
    have hfr : (flat rest).length = r0.l.length + (flat rest').length := by rw [hrest]; simp [flat]
    have hfa : (flat outs).length + (flat rest).length = (flat rs).length := by rw [← hI1, List.length_append]
    have hI8' := hI8 hn0
    refine Hd.rowsCap (rs := rest) pkk (fun hcaps => ?_)
    have hcap0 : r0.l.length ≤ r0.cap := hcaps r0 (by rw [hrest]; simp)
    refine Hd.skip ?_
    refine Hd.toK hK4 ?_
    refine Hd.block ?_
    refine Hd.seq (fun K6 hK6 => ?_)
    refine Hd.region ?_
    refine Hd.yv (y_move rfl) ?_
    refine Hd.yv (y_nilp rfl) ?_
    first | (refine Hd.yv (y_field' (q := 0) (ft := 97) Tryd.underlying99 rfl sz97 rfl rfl) ?_) | (refine Hd.yv (y_fieldR (q := 0) (ft := 97) Tryd.underlying99 rfl sz97 rfl rfl) ?_)
    first | (refine Hd.yv (y_load1 ag97 rfl (Rd.pt1 pkk (by (first | exact hdr_first hrest | rfl)))) ?_) | (refine Hd.yv (y_load1 ag97 rfl (Rd.seg1 pkk (by (first | exact hdr_first hrest | rfl)))) ?_) | (refine Hd.yv (y_loadR1 ag97 rfl (by (first | exact RdS.own pkk)) (by (first | exact hdr_first hrest | rfl))) ?_)
    first | (refine Hd.yv (y_idxS Tryd.underlying97 sz35 rfl rfl (by first | exact (show (0 : Nat) < _ by omega) | omega | decide)) ?_) | (refine Hd.yv (y_idxR Tryd.underlying97 sz35 rfl rfl (by first | exact (show (0 : Nat) < _ by omega) | omega | decide) (by (first | exact RdS.own pkk))) ?_)
    first | (refine Hd.yv (y_load1 ag35 rfl (Rd.pt1 pkk (by (first | exact hdr_first hrest | rfl)))) ?_) | (refine Hd.yv (y_load1 ag35 rfl (Rd.seg1 pkk (by (first | exact hdr_first hrest | rfl)))) ?_) | (refine Hd.yv (y_loadR1 ag35 rfl (by (first | exact RdS.own pkk)) (by (first | exact hdr_first hrest | rfl))) ?_)
    refine Hd.yv (y_assign rfl) ?_
    refine Hd.nil ?_
    refine Hd.slots [(0, _), (1, _), (5, _), (6, _)] ⟨rfl, rfl, rfl, rfl, trivial⟩ ?_
    refine Hd.toK hK6 ?_
    refine Hd.seq (fun K7 hK7 => ?_)
    refine Hd.region ?_
    refine Hd.yv (y_move rfl) ?_
    refine Hd.yv (y_move rfl) ?_
    refine Hd.yv (y_len Tryd.underlying35 rfl) ?_
    refine Hd.yv (y_min rfl rfl) ?_
    refine Hd.yv (y_assign rfl) ?_
    refine Hd.nil ?_
    refine Hd.name (b := ((min nn.toNat r0.l.length : Nat) : Int)) 7 rfl (by omega) ?_
    refine Hd.slots [(0, _), (1, _), (5, _), (6, _), (7, _)] ⟨rfl, rfl, rfl, rfl, rfl, trivial⟩ ?_
    refine Hd.toK hK7 ?_
    refine Hd.seq (fun K8 hK8 => ?_)
    refine Hd.region ?_
    refine Hd.yv (y_move rfl) ?_
    refine Hd.yv (y_move rfl) ?_
    refine Hd.yv (y_move rfl) ?_
    refine Hd.yv (y_move rfl) ?_
    first | (refine Hd.yv (y_slo_xooN Tryd.underlying35 sz5 rfl rfl rfl (by first | omega | (simp; done) | decide) (by first | omega | (simp; done) | decide)) ?_) | (refine Hd.yv (y_slo_xoo Tryd.underlying35 sz5 rfl rfl rfl (by first | omega | (simp; done) | decide) (by first | omega | (simp; done) | decide) (by first | omega | (simp; done) | decide)) ?_)
    refine Hd.bslice (vs := [(0, _)]) rfl (by first | exact bs65_33 .. | kernel_rfl) (fun b33 => ?_)
    refine Hd.append Tryd.underlying97 ty35 rfl rfl rfl pkk (by first | exact RdS.rd (Rd.pt pkk (fun j v e => by simpa using e)) rfl | (first | exact RdS.own pkk)) (by first | (simp [Value.oneCell']; done) | assumption) (by first | (simp only [maxLen]; omega) | assumption) (by omega) (fun ad34 cap34 => ?_)
    refine Hd.yv (y_assign rfl) ?_
    refine Hd.nil ?_
    refine Hd.slots [(0, _), (1, _), (5, _), (6, _), (7, _)] ⟨rfl, rfl, rfl, rfl, rfl, trivial⟩ ?_
    refine Hd.toK hK8 ?_
    refine Hd.seq (fun K9 hK9 => ?_)
    refine Hd.seq (fun K10 hK10 => ?_)
    refine Hd.region ?_
    refine Hd.yv (y_move rfl) ?_
    refine Hd.yv (y_move rfl) ?_
    refine Hd.yv (y_len Tryd.underlying35 rfl) ?_
    first | (refine Hd.yv (y_eqlT rfl rfl) ?_) | (refine Hd.yv (y_eql rfl rfl) ?_)
    refine Hd.nil ?_
    refine Hd.slots [(0, _), (1, _), (5, _), (6, _), (7, _), (38, _)] ⟨rfl, rfl, rfl, rfl, rfl, rfl, trivial⟩ ?_
    refine Hd.toK hK10 ?_
    refine Hd.cond rfl (fun hc1 => ?_) (fun hc1 => ?_)
    ·
      try simp only [decide_eq_true_eq, decide_eq_false_iff_not, Bool.and_eq_true, Bool.or_eq_true, Bool.and_eq_false_iff, Bool.or_eq_false_iff, Bool.not_eq_true', Bool.not_eq_false', Bool.not_eq_true, Bool.not_eq_false, Int.not_lt, Int.not_le, Decidable.not_not, ne_eq] at hc1
      refine Hd.region ?_
      refine Hd.yv (y_move rfl) ?_
      refine Hd.yv (y_move rfl) ?_
      refine Hd.yv (y_nilp rfl) ?_
      first | (refine Hd.yv (y_field' (q := 0) (ft := 97) Tryd.underlying99 rfl sz97 rfl rfl) ?_) | (refine Hd.yv (y_fieldR (q := 0) (ft := 97) Tryd.underlying99 rfl sz97 rfl rfl) ?_)
      first | (refine Hd.yv (y_load1 ag97 rfl (Rd.pt1 pkk (by (first | exact hdr_first hrest | rfl)))) ?_) | (refine Hd.yv (y_load1 ag97 rfl (Rd.seg1 pkk (by (first | exact hdr_first hrest | rfl)))) ?_) | (refine Hd.yv (y_loadR1 ag97 rfl (by (first | exact RdS.own pkk)) (by (first | exact hdr_first hrest | rfl))) ?_)
      first | (refine Hd.yv (y_slo_oxxN Tryd.underlying97 sz35 rfl rfl (by first | omega | (simp; done) | decide)) ?_) | (refine Hd.yv (y_slo_oxx Tryd.underlying97 sz35 rfl rfl (by first | omega | (simp; done) | decide) (by first | omega | (simp; done) | decide)) ?_)
      refine Hd.yv (y_nilp rfl) ?_
      first | (refine Hd.yv (y_field' (q := 0) (ft := 97) Tryd.underlying99 rfl sz97 rfl rfl) ?_) | (refine Hd.yv (y_fieldR (q := 0) (ft := 97) Tryd.underlying99 rfl sz97 rfl rfl) ?_)
      first | (refine Hd.store1 sz97 rfl rfl rfl pkk (by first | decide | (simp; done) | (simp; omega)) ?_) | (refine Hd.storeG1 sz97 rfl rfl rfl pkk (by first | decide | (simp; done) | (simp; omega)) ?_) | (refine Hd.storeO1 sz97 rfl rfl rfl pkk (by first | omega | (simp; done) | (simp; omega)) ?_)
      try simp only [List.set_cons_zero, List.set_cons_succ]
      refine Hd.nil ?_
      refine Hd.slots [(0, _), (1, _), (5, _), (7, _)] ⟨rfl, rfl, rfl, rfl, trivial⟩ ?_
      refine Hd.toK hK9 ?_
      refine Hd.seq (fun K11 hK11 => ?_)
      refine Hd.region ?_
      refine Hd.yv (y_move rfl) ?_
      refine Hd.yv (y_move rfl) ?_
      first | (refine Hd.yv (y_subn rfl rfl (by simp only [InK]; omega)) ?_) | (refine Hd.yv (y_sub rfl rfl) ?_)
      refine Hd.yv (y_assign rfl) ?_
      refine Hd.nil ?_
      refine Hd.slots [(0, _), (1, _), (5, _), (7, _)] ⟨rfl, rfl, rfl, rfl, trivial⟩ ?_
      refine Hd.toK hK11 ?_
      refine Hd.region ?_
      refine Hd.yv (y_move rfl) ?_
      refine Hd.yv (y_nilp rfl) ?_
      first | (refine Hd.yv (y_field' (q := 1) (ft := 3) Tryd.underlying99 rfl sz3 rfl rfl) ?_) | (refine Hd.yv (y_fieldR (q := 1) (ft := 3) Tryd.underlying99 rfl sz3 rfl rfl) ?_)
      first | (refine Hd.yv (y_load1 ag3 rfl (Rd.pt1 pkk (by (first | exact hdr_first hrest | rfl)))) ?_) | (refine Hd.yv (y_load1 ag3 rfl (Rd.seg1 pkk (by (first | exact hdr_first hrest | rfl)))) ?_) | (refine Hd.yv (y_loadR1 ag3 rfl (by (first | exact RdS.own pkk)) (by (first | exact hdr_first hrest | rfl))) ?_)
      refine Hd.yv (y_move rfl) ?_
      first | (refine Hd.yv (y_subn rfl rfl (by simp only [InK]; omega)) ?_) | (refine Hd.yv (y_sub rfl rfl) ?_)
      refine Hd.yv (y_nilp rfl) ?_
      first | (refine Hd.yv (y_field' (q := 1) (ft := 3) Tryd.underlying99 rfl sz3 rfl rfl) ?_) | (refine Hd.yv (y_fieldR (q := 1) (ft := 3) Tryd.underlying99 rfl sz3 rfl rfl) ?_)
      first | (refine Hd.store1 sz3 rfl rfl rfl pkk (by first | decide | (simp; done) | (simp; omega)) ?_) | (refine Hd.storeG1 sz3 rfl rfl rfl pkk (by first | decide | (simp; done) | (simp; omega)) ?_) | (refine Hd.storeO1 sz3 rfl rfl rfl pkk (by first | omega | (simp; done) | (simp; omega)) ?_)
      try simp only [List.set_cons_zero, List.set_cons_succ]
      refine Hd.nil ?_
      refine Hd.slots [(0, _), (1, _), (5, _)] ⟨rfl, rfl, rfl, trivial⟩ ?_
      refine Hd.inB ?_
      clear hK1 hK2 hK3 hK4 hK5 hK6 hK7 hK8 hK9 hK10 hK11
      refine Hd.thenN ?_
      have hk : min nn.toNat r0.l.length = r0.l.length := by omega
      refine Hd.name (b := nn - (r0.l.length : Int)) 1 rfl (by omega) ?_
      refine Hd.again (outs ++ [⟨r0.ad, r0.l.length, r0.l⟩], rest', ad34, cap34, cutA adH 1 1 capH, capH - 1, nn - (r0.l.length : Int)) (by simp only; omega) (by repeat (first | exact trivial | refine ⟨rfl, ?_⟩ | refine ⟨by show some _ = some _; simp, ?_⟩)) ?_
      intro k s
      subst hrest
      have s2 := cutRow_sep (outs := outs) (rest := rest') (r0 := r0) (j := r0.l.length) (Nat.le_refl _) pkk pkk k s
      have s3 := ownDropP (ad := adH) pkk 1 [hdr r0] (rest'.map hdr) (by simp) (by rfl) rfl k s2
      dsimp only
      refine Ent.sep (.pure ⟨?_, ?_, ?_, ?_, hI5, hI6, ?_, ?_⟩ (.eq pkk (seg_eq ?_) (.eq pkk (own_eq ?_ ?_) (.imp (A := rows (_ :: rest')) pkk (fun _ h => rows_tail h) (.eq pkk (own_eq ?_ ?_) (.eq pkk ?_ enn)))))) k s3
      · rw [hk, hfr]; simp; omega
      · simp
      · simp
      · simp
      · rw [hk]; simp
      · rw [List.take_of_length_le (Nat.le_refl _)]
      · rw [flat_app, flat_one, ← hI1]; simp [flat]
      · exact full_app hI2 (full_one hr0p)
      · exact fun r hr => hI3 r (List.mem_cons_of_mem _ hr)
      · rw [flat_app, flat_one, List.length_append]; dsimp only; omega
      · simp at *; omega
      · intro h; simp at *; omega
    ·
      try simp only [decide_eq_true_eq, decide_eq_false_iff_not, Bool.and_eq_true, Bool.or_eq_true, Bool.and_eq_false_iff, Bool.or_eq_false_iff, Bool.not_eq_true', Bool.not_eq_false', Bool.not_eq_true, Bool.not_eq_false, Int.not_lt, Int.not_le, Decidable.not_not, ne_eq] at hc1
      refine Hd.seq (fun K12 hK12 => ?_)
      refine Hd.region ?_
      refine Hd.yv (y_move rfl) ?_
      refine Hd.yv (y_move rfl) ?_
      refine Hd.yv (y_nilp rfl) ?_
      first | (refine Hd.yv (y_field' (q := 0) (ft := 97) Tryd.underlying99 rfl sz97 rfl rfl) ?_) | (refine Hd.yv (y_fieldR (q := 0) (ft := 97) Tryd.underlying99 rfl sz97 rfl rfl) ?_)
      first | (refine Hd.yv (y_load1 ag97 rfl (Rd.pt1 pkk (by (first | exact hdr_first hrest | rfl)))) ?_) | (refine Hd.yv (y_load1 ag97 rfl (Rd.seg1 pkk (by (first | exact hdr_first hrest | rfl)))) ?_) | (refine Hd.yv (y_loadR1 ag97 rfl (by (first | exact RdS.own pkk)) (by (first | exact hdr_first hrest | rfl))) ?_)
      refine Hd.call rfl fk87 (clone2_ct _ _ _ _ _ hdr_one (RdS.own pkk) (by omega)) ?_
      rintro ⟨ad52, cap52⟩
      dsimp only
      refine Hd.yv (y_nilp rfl) ?_
      first | (refine Hd.yv (y_field' (q := 0) (ft := 97) Tryd.underlying99 rfl sz97 rfl rfl) ?_) | (refine Hd.yv (y_fieldR (q := 0) (ft := 97) Tryd.underlying99 rfl sz97 rfl rfl) ?_)
      first | (refine Hd.store1 sz97 rfl rfl rfl pkk (by first | decide | (simp; done) | (simp; omega)) ?_) | (refine Hd.storeG1 sz97 rfl rfl rfl pkk (by first | decide | (simp; done) | (simp; omega)) ?_) | (refine Hd.storeO1 sz97 rfl rfl rfl pkk (by first | omega | (simp; done) | (simp; omega)) ?_)
      try simp only [List.set_cons_zero, List.set_cons_succ]
      refine Hd.nil ?_
      refine Hd.slots [(0, _), (1, _), (5, _), (6, _), (7, _)] ⟨rfl, rfl, rfl, rfl, rfl, trivial⟩ ?_
      refine Hd.toK hK12 ?_
      refine Hd.drawsH ([seg b o [.slice ad52 rest.length cap52, .int .i64 ((flat rest).length : Int)], own 35 1 ad52 rest.length cap52 (rest.map hdr)]) (fun j => !([8].contains j)) mixed ?_
      simp only [List.length, Nat.zero_add, Nat.reduceAdd]
      refine Hd.takeH 0 rfl (by kernel_rfl) (by kernel_rfl) (by kernel_rfl) (by kernel_rfl) (y_move rfl) (fun _ _ => rfl) (Ent.sep enn) ?_
      refine Hd.takeH 1 rfl (by kernel_rfl) (by kernel_rfl) (by kernel_rfl) (by kernel_rfl) (y_nilp rfl) (fun _ _ => rfl) (Ent.sep enn) ?_
      first | (refine Hd.takeH 2 rfl (by kernel_rfl) (by kernel_rfl) (by kernel_rfl) (by kernel_rfl) (y_field' (q := 0) (ft := 97) Tryd.underlying99 rfl sz97 rfl rfl) (fun _ _ => rfl) (Ent.sep enn) ?_) | (refine Hd.takeH 2 rfl (by kernel_rfl) (by kernel_rfl) (by kernel_rfl) (by kernel_rfl) (y_fieldR (q := 0) (ft := 97) Tryd.underlying99 rfl sz97 rfl rfl) (fun _ _ => rfl) (Ent.sep enn) ?_)
      first | (refine Hd.takeH 3 rfl (by kernel_rfl) (by kernel_rfl) (by kernel_rfl) (by kernel_rfl) (y_load1 ag97 rfl (Rd.pt1 pkk (by (first | exact hdr_first hrest | rfl)))) (fun _ _ => rfl) (Ent.sep enn) ?_) | (refine Hd.takeH 3 rfl (by kernel_rfl) (by kernel_rfl) (by kernel_rfl) (by kernel_rfl) (y_load1 ag97 rfl (Rd.seg1 pkk (by (first | exact hdr_first hrest | rfl)))) (fun _ _ => rfl) (Ent.sep enn) ?_) | (refine Hd.takeH 3 rfl (by kernel_rfl) (by kernel_rfl) (by kernel_rfl) (by kernel_rfl) (y_loadR1 ag97 rfl (by (first | exact RdS.own pkk)) (by (first | exact hdr_first hrest | rfl))) (fun _ _ => rfl) (Ent.sep enn) ?_)
      refine Hd.takeH 4 rfl (by kernel_rfl) (by kernel_rfl) (by kernel_rfl) (by kernel_rfl) (y_move rfl) (fun _ _ => rfl) (Ent.sep enn) ?_
      refine Hd.takeH 5 rfl (by kernel_rfl) (by kernel_rfl) (by kernel_rfl) (by kernel_rfl) (y_move rfl) (fun _ _ => rfl) (Ent.sep enn) ?_
      first | (refine Hd.takeH 6 rfl (by kernel_rfl) (by kernel_rfl) (by kernel_rfl) (by kernel_rfl) (y_slo_oxxN Tryd.underlying35 sz5 rfl rfl (by first | omega | (simp; done) | decide)) (fun _ _ => rfl) (Ent.sep enn) ?_) | (refine Hd.takeH 6 rfl (by kernel_rfl) (by kernel_rfl) (by kernel_rfl) (by kernel_rfl) (y_slo_oxx Tryd.underlying35 sz5 rfl rfl (by first | omega | (simp; done) | decide) (by first | omega | (simp; done) | decide)) (fun _ _ => rfl) (Ent.sep enn) ?_)
      first | (refine Hd.takeH 7 rfl (by kernel_rfl) (by kernel_rfl) (by kernel_rfl) (by kernel_rfl) (y_idxS Tryd.underlying97 sz35 rfl rfl (by first | exact (show (0 : Nat) < _ by omega) | omega | decide)) (fun _ _ => rfl) (Ent.sep enn) ?_) | (refine Hd.takeH 7 rfl (by kernel_rfl) (by kernel_rfl) (by kernel_rfl) (by kernel_rfl) (y_idxR Tryd.underlying97 sz35 rfl rfl (by first | exact (show (0 : Nat) < _ by omega) | omega | decide) (by (first | exact RdS.own pkk))) (fun _ _ => rfl) (Ent.sep enn) ?_)
      refine Hd.onlyH 8 rfl (by kernel_rfl) ?_
      first | (refine Hd.store1 sz35 rfl rfl rfl pkk (by first | decide | (simp; done) | (simp; omega)) ?_) | (refine Hd.storeG1 sz35 rfl rfl rfl pkk (by first | decide | (simp; done) | (simp; omega)) ?_) | (refine Hd.storeO1 sz35 rfl rfl rfl pkk (by first | omega | (simp; done) | (simp; omega)) ?_)
      try simp only [List.set_cons_zero, List.set_cons_succ]
      refine Hd.nil ?_
      refine Hd.thenN ?_
      refine Hd.heldN (J := (fun j => !([8].contains j))) (i := 8) rfl ?_
      refine Hd.endH (by kernel_rfl) ?_
      refine Hd.slots [(0, _), (1, _), (5, _), (7, _)] ⟨rfl, rfl, rfl, rfl, trivial⟩ ?_
      refine Hd.toK hK9 ?_
      refine Hd.seq (fun K13 hK13 => ?_)
      refine Hd.region ?_
      refine Hd.yv (y_move rfl) ?_
      refine Hd.yv (y_move rfl) ?_
      first | (refine Hd.yv (y_subn rfl rfl (by simp only [InK]; omega)) ?_) | (refine Hd.yv (y_sub rfl rfl) ?_)
      refine Hd.yv (y_assign rfl) ?_
      refine Hd.nil ?_
      refine Hd.slots [(0, _), (1, _), (5, _), (7, _)] ⟨rfl, rfl, rfl, rfl, trivial⟩ ?_
      refine Hd.toK hK13 ?_
      refine Hd.region ?_
      refine Hd.yv (y_move rfl) ?_
      refine Hd.yv (y_nilp rfl) ?_
      first | (refine Hd.yv (y_field' (q := 1) (ft := 3) Tryd.underlying99 rfl sz3 rfl rfl) ?_) | (refine Hd.yv (y_fieldR (q := 1) (ft := 3) Tryd.underlying99 rfl sz3 rfl rfl) ?_)
      first | (refine Hd.yv (y_load1 ag3 rfl (Rd.pt1 pkk (by (first | exact hdr_first hrest | rfl)))) ?_) | (refine Hd.yv (y_load1 ag3 rfl (Rd.seg1 pkk (by (first | exact hdr_first hrest | rfl)))) ?_) | (refine Hd.yv (y_loadR1 ag3 rfl (by (first | exact RdS.own pkk)) (by (first | exact hdr_first hrest | rfl))) ?_)
      refine Hd.yv (y_move rfl) ?_
      first | (refine Hd.yv (y_subn rfl rfl (by simp only [InK]; omega)) ?_) | (refine Hd.yv (y_sub rfl rfl) ?_)
      refine Hd.yv (y_nilp rfl) ?_
      first | (refine Hd.yv (y_field' (q := 1) (ft := 3) Tryd.underlying99 rfl sz3 rfl rfl) ?_) | (refine Hd.yv (y_fieldR (q := 1) (ft := 3) Tryd.underlying99 rfl sz3 rfl rfl) ?_)
      first | (refine Hd.store1 sz3 rfl rfl rfl pkk (by first | decide | (simp; done) | (simp; omega)) ?_) | (refine Hd.storeG1 sz3 rfl rfl rfl pkk (by first | decide | (simp; done) | (simp; omega)) ?_) | (refine Hd.storeO1 sz3 rfl rfl rfl pkk (by first | omega | (simp; done) | (simp; omega)) ?_)
      try simp only [List.set_cons_zero, List.set_cons_succ]
      refine Hd.nil ?_
      refine Hd.slots [(0, _), (1, _), (5, _)] ⟨rfl, rfl, rfl, trivial⟩ ?_
      refine Hd.inB ?_
      clear hK1 hK2 hK3 hK4 hK5 hK6 hK7 hK8 hK9 hK10 hK12 hK13
      refine Hd.thenN ?_
      have hk : min nn.toNat r0.l.length = nn.toNat := by omega
      refine Hd.name (b := 0) 1 rfl (by omega) ?_
      refine Hd.again (outs ++ [⟨r0.ad, nn.toNat, r0.l.take nn.toNat⟩], ⟨cutA r0.ad 1 nn.toNat r0.cap, r0.cap - nn.toNat, r0.l.drop nn.toNat⟩ :: rest', ad34, cap34, ad52, cap52, 0) (by simp only; omega) (by repeat (first | exact trivial | refine ⟨rfl, ?_⟩ | refine ⟨by show some _ = some _; simp, ?_⟩)) ?_
      intro k s
      subst hrest
      have s2 := cutRow_sep (outs := outs) (rest := rest') (r0 := r0) (j := nn.toNat) (by omega) pkk pkk k s
      dsimp only
      refine Ent.sep (.pure ⟨?_, ?_, ?_, ?_, hI5, hI6, ?_, ?_⟩ (.eq pkk (seg_eq ?_) (.eq pkk (own_eq (us := List.set _ _ _) ?_ ?_) (.pick pkk (.eq pkk (own_eq ?_ ?_) (.pick pkk enn)))))) k s2
      · rw [hk, hfr]; simp [flat]; omega
      · simp
      · rw [hk]; simp
      · simp
      · rw [hk]; simp; omega
      · rw [flat_app, flat_one, ← hI1]; simp [flat]; rw [← List.append_assoc, List.take_append_drop]
      · exact full_app hI2 (full_one (by simp; omega))
      · intro r hr
        rcases List.mem_cons.1 hr with rfl | hr
        · simp; omega
        · exact hI3 r (List.mem_cons_of_mem _ hr)
      · rw [flat_app, flat_one, List.length_append]; simp; omega
      · simp at *; omega
      · intro h; omega
  ·
    try simp only [decide_eq_true_eq, decide_eq_false_iff_not, Bool.and_eq_true, Bool.or_eq_true, Bool.and_eq_false_iff, Bool.or_eq_false_iff, Bool.not_eq_true', Bool.not_eq_false', Bool.not_eq_true, Bool.not_eq_false, Int.not_lt, Int.not_le, Decidable.not_not, ne_eq] at hc0
    have hout : flat outs = (flat rs).take n.toNat ∧ flat rest = (flat rs).drop n.toNat := by
      have hlo : (flat outs).length ≤ n.toNat := by omega
      have hor : (flat outs).length = n.toNat ∨ flat rest = [] := by
        by_cases h : nn.toNat = 0
        · left; omega
        · right
          have : rest = [] := by
            refine List.eq_nil_of_length_eq_zero ?_
            rcases Classical.em (rest.length = 0) with h0 | h0
            · exact h0
            · exact absurd hc0 (by simp; omega)
          rw [this]; rfl
      rw [← hI1]
      rcases hor with h | h
      · rw [← h]; simp
      · rw [h, List.append_nil, List.take_of_length_le hlo, List.drop_of_length_le hlo]; simp
    refine Hd.exit ?_
    refine Hd.thenExit ?_
    refine Hd.thenExit ?_
    refine Hd.inBexit ?_
    refine Hd.toK hK3 ?_
    refine Hd.seq (fun K14 hK14 => ?_)
    refine Hd.region ?_
    refine Hd.yv (y_move rfl) ?_
    refine Hd.yv (y_assign rfl) ?_
    refine Hd.nil ?_
    refine Hd.slots [(4, _)] ⟨rfl, trivial⟩ ?_
    refine Hd.toK hK14 ?_
    refine Hd.ret ?_
    clear hK1 hK2 hK3 hK4 hK5 hK14
    exact Hd.ret1 rfl (outs, rest, adO, capO) rfl (Ent.sep (.pure ⟨hout.1, hout.2, hI2, hI3⟩ (.pick pkk (.pick pkk (.ex (adH, capH) (.pick pkk (.pick pkk (.pick pkk enn))))))))
end Bc
end Go.Proofs.YtmpemhbfgbochaaDoor
namespace Go.Proofs.YtmpemhbfgbochaaDoor
set_option linter.unusedSimpArgs false
set_option linter.unusedVariables false
set_option linter.unnecessarySimpa false
open Go.RX Fx
namespace Bc
set_option maxHeartbeats 2000000 in
theorem take_ct (L : List SP) (b o : Nat) (rs : List Row) (hg : Good rs) (n : Int) (hn : n ≤ 9223372036854775807) : Ct Tryd.prog 38 #[.pointer (some ⟨b, o, none⟩), .int .i64 n] (Ch b o rs :: L) (fun q_ : List Row × Option Addr × Nat => .slice q_.2.1 ((flat rs).take n.toNat).length q_.2.2) (fun q_ : List Row × Option Addr × Nat => pu (flat q_.1 = (flat rs).drop n.toNat ∧ Full q_.1) :: own 5 1 q_.2.1 ((flat rs).take n.toNat).length q_.2.2 (bsl ((flat rs).take n.toNat)) :: Ch b o q_.1 :: L) := by
  refine Ct.of (vs := [.pointer (some ⟨b, o, none⟩), .int .i64 n]) Tryd.func38 rfl rfl [(0, .pointer (some ⟨b, o, none⟩)), (1, .int .i64 n)] (by repeat (first | exact trivial | refine ⟨rfl, ?_⟩)) ?_
  intro E
  show Hd E 11 _ _ _ _
  refine Hd.seq (fun K1 hK1 => ?_)
  refine Hd.region ?_
  refine Hd.yv (y_assign rfl) ?_
  refine Hd.nil ?_
  refine Hd.slots [(0, _), (1, _)] ⟨rfl, rfl, trivial⟩ ?_
  refine Hd.toK hK1 ?_
  refine Hd.seq (fun K2 hK2 => ?_)
  refine Hd.seq (fun K3 hK3 => ?_)
  refine Hd.region ?_
  refine Hd.yv (y_move rfl) ?_
  first | (refine Hd.yv (y_eql_pointer Tryd.underlying143 rfl rfl) ?_) | (refine Hd.yv (y_eql_one Tryd.underlying143 sz99 rfl rfl rfl) ?_)
  refine Hd.nil ?_
  refine Hd.slots [(0, _), (1, _), (6, _)] ⟨rfl, rfl, rfl, trivial⟩ ?_
  refine Hd.toK hK3 ?_
  refine Hd.condF rfl ?_
  refine Hd.skip ?_
  refine Hd.toK hK2 ?_
  refine Hd.seq (fun K4 hK4 => ?_)
  refine Hd.region ?_
  refine Hd.yv (y_move rfl) ?_
  refine Hd.yv (y_move rfl) ?_
  refine Hd.callE rfl fk65 (cut_ct _ b o rs hg n hn) (Ent.sep enn) ?_
  rintro ⟨outs, rest, ad, cap⟩
  dsimp only
  refine Hd.pure (fun hcut => ?_)
  obtain ⟨ho, hr, hfo, hfr⟩ := hcut
  have hol := full_len hfo
  have htl : (flat outs).length ≤ 1048576 := by rw [ho, List.length_take]; have := hg.2; omega
  refine Hd.call rfl fk64 (concat_ct _ ad cap outs (RdS.own pkk) (fun r hr => rows_rd pkk hr) (by omega) (by omega)) ?_
  rintro ⟨a2, c2⟩
  dsimp only
  rw [ho]
  refine Hd.yv (y_assign rfl) ?_
  refine Hd.nil ?_
  refine Hd.slots [(4, _)] ⟨rfl, trivial⟩ ?_
  refine Hd.toK hK4 ?_
  refine Hd.ret ?_
  clear hK1 hK2 hK3 hK4
  exact Hd.ret1 rfl (rest, a2, c2) rfl (Ent.sep (.pure ⟨hr, hfr⟩ enn))
set_option maxHeartbeats 2000000 in
theorem lenC_ct (L : List SP) (b o : Nat) (rs : List Row) : Ct Tryd.prog 53 #[.pointer (some ⟨b, o, none⟩)] (Ch b o rs :: L) (fun _ : Unit => .int .i64 ((flat rs).length : Int)) (fun _ : Unit => Ch b o rs :: L) := by
  refine Ct.of (vs := [.pointer (some ⟨b, o, none⟩)]) Tryd.func53 rfl rfl [(0, .pointer (some ⟨b, o, none⟩))] (by repeat (first | exact trivial | refine ⟨rfl, ?_⟩)) ?_
  intro E
  show Hd E 9 _ _ _ _
  refine Hd.exs pkk ?_
  rintro ⟨ha, hcp⟩
  simp only [List.cons_append, List.nil_append]
  refine Hd.seq (fun K1 hK1 => ?_)
  refine Hd.region ?_
  refine Hd.yv (y_assign rfl) ?_
  refine Hd.nil ?_
  refine Hd.slots [(0, _)] ⟨rfl, trivial⟩ ?_
  refine Hd.toK hK1 ?_
  refine Hd.seq (fun K2 hK2 => ?_)
  refine Hd.seq (fun K3 hK3 => ?_)
  refine Hd.region ?_
  refine Hd.yv (y_move rfl) ?_
  first | (refine Hd.yv (y_eql_pointer Tryd.underlying143 rfl rfl) ?_) | (refine Hd.yv (y_eql_one Tryd.underlying143 sz99 rfl rfl rfl) ?_)
  refine Hd.nil ?_
  refine Hd.slots [(0, _), (4, _)] ⟨rfl, rfl, trivial⟩ ?_
  refine Hd.toK hK3 ?_
  refine Hd.condF rfl ?_
  refine Hd.skip ?_
  refine Hd.toK hK2 ?_
  refine Hd.seq (fun K4 hK4 => ?_)
  refine Hd.region ?_
  refine Hd.yv (y_move rfl) ?_
  refine Hd.yv (y_nilp rfl) ?_
  first | (refine Hd.yv (y_field' (q := 1) (ft := 3) Tryd.underlying99 rfl sz3 rfl rfl) ?_) | (refine Hd.yv (y_fieldR (q := 1) (ft := 3) Tryd.underlying99 rfl sz3 rfl rfl) ?_)
  first | (refine Hd.yv (y_load1 ag3 rfl (Rd.pt1 pkk (by (first | rfl)))) ?_) | (refine Hd.yv (y_load1 ag3 rfl (Rd.seg1 pkk (by (first | rfl)))) ?_) | (refine Hd.yv (y_loadR1 ag3 rfl (by (first | exact RdS.own pkk)) (by (first | rfl))) ?_)
  refine Hd.yv (y_assign rfl) ?_
  refine Hd.nil ?_
  refine Hd.slots [(2, _)] ⟨rfl, trivial⟩ ?_
  refine Hd.toK hK4 ?_
  refine Hd.ret ?_
  clear hK1 hK2 hK3 hK4
  exact Hd.ret1 rfl () rfl (Ent.sep (.ex (ha, hcp) enn))
set_option maxHeartbeats 2000000 in
theorem drain_ct (L : List SP) (b o : Nat) (rs : List Row) (hg : Good rs) (n : Int) (hn : n ≤ 9223372036854775807) : Ct Tryd.prog 84 #[.pointer (some ⟨b, o, none⟩), .int .i64 n] (Ch b o rs :: L) (fun rest : List Row => .int .i64 (((flat rs).take n.toNat).length : Int)) (fun rest : List Row => pu (flat rest = (flat rs).drop n.toNat ∧ Full rest) :: Ch b o rest :: L) := by
  refine Ct.of (vs := [.pointer (some ⟨b, o, none⟩), .int .i64 n]) Tryd.func84 rfl rfl [(0, .pointer (some ⟨b, o, none⟩)), (1, .int .i64 n)] (by repeat (first | exact trivial | refine ⟨rfl, ?_⟩)) ?_
  intro E
  show Hd E 17 _ _ _ _
  refine Hd.seq (fun K1 hK1 => ?_)
  refine Hd.region ?_
  refine Hd.yv (y_assign rfl) ?_
  refine Hd.nil ?_
  refine Hd.slots [(0, _), (1, _)] ⟨rfl, rfl, trivial⟩ ?_
  refine Hd.toK hK1 ?_
  refine Hd.seq (fun K2 hK2 => ?_)
  refine Hd.region ?_
  refine Hd.yv (y_move rfl) ?_
  refine Hd.callE rfl fk53 (lenC_ct _ b o rs) (Ent.sep enn) ?_
  intro _
  refine Hd.yv (y_assign rfl) ?_
  refine Hd.nil ?_
  refine Hd.slots [(0, _), (1, _), (5, _)] ⟨rfl, rfl, rfl, trivial⟩ ?_
  refine Hd.toK hK2 ?_
  refine Hd.seq (fun K3 hK3 => ?_)
  refine Hd.seq (fun K4 hK4 => ?_)
  refine Hd.region ?_
  refine Hd.yv (y_move rfl) ?_
  refine Hd.yv (y_neq_pointer Tryd.underlying143 rfl rfl) ?_
  refine Hd.nil ?_
  refine Hd.slots [(0, _), (1, _), (5, _), (9, _)] ⟨rfl, rfl, rfl, rfl, trivial⟩ ?_
  refine Hd.toK hK4 ?_
  refine Hd.condT rfl ?_
  refine Hd.region ?_
  refine Hd.yv (y_move rfl) ?_
  refine Hd.yv (y_move rfl) ?_
  refine Hd.callE rfl fk65 (cut_ct _ b o rs hg n hn) (Ent.sep enn) ?_
  rintro ⟨outs, rest, ad, cap⟩
  dsimp only
  refine Hd.pure (fun hcut => ?_)
  obtain ⟨ho, hr, hfo, hfr⟩ := hcut
  have hl2 := hg.2
  have hl3 : (flat rest).length = (flat rs).length - n.toNat := by rw [hr, List.length_drop]
  refine Hd.nil ?_
  refine Hd.slots [(0, _), (5, _)] ⟨rfl, rfl, trivial⟩ ?_
  refine Hd.toK hK3 ?_
  refine Hd.seq (fun K5 hK5 => ?_)
  refine Hd.region ?_
  refine Hd.yv (y_move rfl) ?_
  refine Hd.yv (y_move rfl) ?_
  refine Hd.callE rfl fk53 (lenC_ct _ b o rest) (Ent.sep enn) ?_
  intro _
  first | (refine Hd.yv (y_subn rfl rfl (by simp only [InK]; omega)) ?_) | (refine Hd.yv (y_sub rfl rfl) ?_)
  refine Hd.yv (y_assign rfl) ?_
  refine Hd.nil ?_
  refine Hd.slots [(4, _)] ⟨rfl, trivial⟩ ?_
  refine Hd.toK hK5 ?_
  refine Hd.ret ?_
  clear hK1 hK2 hK3 hK4 hK5
  refine Hd.name (b := (((flat rs).take n.toNat).length : Int)) 4 rfl (by rw [List.length_take]; omega) ?_
  exact Hd.ret1 rfl rest rfl (Ent.sep (.pure ⟨hr, hfr⟩ enn))
set_option maxHeartbeats 2000000 in
theorem chunks_ct (L : List SP) (p : Option Addr) : Ct Tryd.prog 92 #[.pointer p] (L) (fun b : Nat => .func (.func 96) #[] #[.pointer (some ⟨b, 0, none⟩)]) (fun b : Nat => pt b [.pointer p] 143 :: L) := by
  refine Ct.of (vs := [.pointer p]) Tryd.func92 rfl rfl [(0, .pointer p)] (by repeat (first | exact trivial | refine ⟨rfl, ?_⟩)) ?_
  intro E
  show Hd E 4 _ _ _ _
  refine Hd.seq (fun K1 hK1 => ?_)
  refine Hd.region ?_
  refine Hd.box rfl rfl (fun b1 => ?_)
  refine Hd.yv (y_assign rfl) ?_
  refine Hd.nil ?_
  refine Hd.slots [(1, _)] ⟨rfl, trivial⟩ ?_
  refine Hd.toK hK1 ?_
  refine Hd.seq (fun K2 hK2 => ?_)
  refine Hd.region ?_
  refine Hd.yv (y_mkf (fv := []) (cv := [_]) rfl rfl) ?_
  refine Hd.yv (y_assign rfl) ?_
  refine Hd.nil ?_
  refine Hd.slots [(2, _)] ⟨rfl, trivial⟩ ?_
  refine Hd.toK hK2 ?_
  refine Hd.ret ?_
  clear hK1 hK2
  exact Hd.ret1 rfl b1 rfl (Ent.sep enn)
def ats : List Row → Nat → List (Nat × Row)
  | [], _ => []
  | r :: rs, a => (a, r) :: ats rs (a + r.l.length)
theorem ats_len : ∀ (rs : List Row) (a : Nat), (ats rs a).length = rs.length
  | [], _ => rfl
  | r :: rs, a => by simp [ats, ats_len rs]
theorem ats_get : ∀ (rs : List Row) (a i : Nat) (h : i < rs.length), (ats rs a)[i]? = some (a + (flat (rs.take i)).length, rs[i])
  | r :: rs, a, 0, _ => by simp [ats, flat]
  | r :: rs, a, i + 1, h => by
    have := ats_get rs (a + r.l.length) i (by simpa using h)
    simp only [ats, List.getElem?_cons_succ, this, List.take_succ_cons, List.getElem_cons_succ]
    simp [flat, Nat.add_assoc]
theorem ats_take {rs : List Row} {i : Nat} (h : i < rs.length) : (ats rs 0).take (i + 1) = (ats rs 0).take i ++ [((flat (rs.take i)).length, rs[i])] := by
  rw [List.take_add_one, ats_get rs 0 i h]; simp
abbrev encA (c : Nat × Row) : List Value := [.int .i64 (c.1 : Int), hdr c.2]
def SpA (rs : List Row) (xs : List (Nat × Row)) : Prop := ∃ i, i < rs.length ∧ xs = (ats rs 0).take (i + 1)
theorem spA_last {rs : List Row} {pre : List (Nat × Row)} {c : Nat × Row} (h : SpA rs (pre ++ [c])) : ∃ (i : Nat) (hi : i < rs.length), pre = (ats rs 0).take i ∧ c = ((flat (rs.take i)).length, rs[i]) ∧ pre.length = i := by
  obtain ⟨i, hi, e⟩ := h
  rw [ats_take hi] at e
  have := List.append_inj' e rfl
  refine ⟨i, hi, this.1, by simpa using this.2, ?_⟩
  rw [this.1, List.length_take, ats_len]; omega
theorem chunks_it (bc b o : Nat) (rs : List Row) (ha : Option Addr) (hcp : Nat) (len : Int) (hm : (flat rs).length ≤ 1048576) (hr : rs.length ≤ 1048576) : It Tryd.prog 96 [.pointer (some ⟨bc, 0, none⟩)] encA
    (fun xs => xs = ats rs 0) (SpA rs)
    (pt bc [.pointer (some ⟨b, o, none⟩)] 143 :: seg b o [.slice ha rs.length hcp, .int .i64 len] :: OwH ha hcp rs :: []) (pt bc [.pointer (some ⟨b, o, none⟩)] 143 :: seg b o [.slice ha rs.length hcp, .int .i64 len] :: OwH ha hcp rs :: []) := by
  intro l J X hy
  refine Ct.of (vs := [.func (.yield l) #[] #[], .pointer (some ⟨bc, 0, none⟩)]) Tryd.func96 rfl rfl [(0, .func (.yield l) #[] #[]), (1, .pointer (some ⟨bc, 0, none⟩))] ⟨rfl, rfl, trivial⟩ ?_
  intro E
  show Hd E 27 _ _ _ _
  refine Hd.heap (pt bc [.pointer (some ⟨b, o, none⟩)] 143 :: seg b o [.slice ha rs.length hcp, .int .i64 len] :: OwH ha hcp rs :: J []) (fun k h => sep_app h) ?_
  refine Hd.seq (fun K1 hK1 => ?_)
  refine Hd.seq (fun K2 hK2 => ?_)
  refine Hd.region ?_
  first | (refine Hd.yv (y_load1 ag143 rfl (Rd.pt1 pkk (by (first | exact hdr_at hi' | rfl)))) ?_) | (refine Hd.yv (y_load1 ag143 rfl (Rd.seg1 pkk (by (first | exact hdr_at hi' | rfl)))) ?_) | (refine Hd.yv (y_loadR1 ag143 rfl (by (first | exact RdS.own pkk)) (by (first | exact hdr_at hi' | rfl))) ?_)
  first | (refine Hd.yv (y_eql_pointer Tryd.underlying143 rfl rfl) ?_) | (refine Hd.yv (y_eql_one Tryd.underlying143 sz99 rfl rfl rfl) ?_)
  refine Hd.nil ?_
  refine Hd.slots [(0, _), (1, _), (7, _)] ⟨rfl, rfl, rfl, trivial⟩ ?_
  refine Hd.toK hK2 ?_
  refine Hd.condF rfl ?_
  refine Hd.skip ?_
  refine Hd.toK hK1 ?_
  refine Hd.seq (fun K3 hK3 => ?_)
  refine Hd.region ?_
  refine Hd.yv (y_assign rfl) ?_
  refine Hd.nil ?_
  refine Hd.slots [(0, _), (1, _), (3, _)] ⟨rfl, rfl, rfl, trivial⟩ ?_
  refine Hd.toK hK3 ?_
  refine Hd.seq (fun K4 hK4 => ?_)
  refine Hd.region ?_
  first | (refine Hd.yv (y_load1 ag143 rfl (Rd.pt1 pkk (by (first | exact hdr_at hi' | rfl)))) ?_) | (refine Hd.yv (y_load1 ag143 rfl (Rd.seg1 pkk (by (first | exact hdr_at hi' | rfl)))) ?_) | (refine Hd.yv (y_loadR1 ag143 rfl (by (first | exact RdS.own pkk)) (by (first | exact hdr_at hi' | rfl))) ?_)
  refine Hd.yv (y_nilp rfl) ?_
  first | (refine Hd.yv (y_field' (q := 0) (ft := 97) Tryd.underlying99 rfl sz97 rfl rfl) ?_) | (refine Hd.yv (y_fieldR (q := 0) (ft := 97) Tryd.underlying99 rfl sz97 rfl rfl) ?_)
  first | (refine Hd.yv (y_load1 ag97 rfl (Rd.pt1 pkk (by (first | exact hdr_at hi' | rfl)))) ?_) | (refine Hd.yv (y_load1 ag97 rfl (Rd.seg1 pkk (by (first | exact hdr_at hi' | rfl)))) ?_) | (refine Hd.yv (y_loadR1 ag97 rfl (by (first | exact RdS.own pkk)) (by (first | exact hdr_at hi' | rfl))) ?_)
  refine Hd.yv (y_len Tryd.underlying97 rfl) ?_
  refine Hd.yv (y_move rfl) ?_
  refine Hd.nil ?_
  refine Hd.slots [(0, _), (3, _), (11, _), (12, _), (13, _)] ⟨rfl, rfl, rfl, rfl, rfl, trivial⟩ ?_
  refine Hd.toK hK4 ?_
  refine Hd.block ?_
  refine Hd.loopK (ι := Nat) [(0, _), (11, _), (12, _)] (fun i => [(3, .int .i64 ((flat (rs.take i)).length : Int)), (13, .int .i64 (i : Int))]) (fun i => pu (i ≤ rs.length) :: pt bc [.pointer (some ⟨b, o, none⟩)] 143 :: seg b o [.slice ha rs.length hcp, .int .i64 len] :: OwH ha hcp rs :: J ((ats rs 0).take i)) (fun i => rs.length - i) 0 (by repeat (first | exact trivial | refine ⟨rfl, ?_⟩)) (by repeat (first | exact trivial | refine ⟨rfl, ?_⟩)) (Ent.sep (.pure (by first | omega | (simp; done) | (simp; omega) | exact ⟨by simp, by simp⟩) enn)) ?_
  intro i
  try dsimp only
  refine Hd.pure (fun hp0 => ?_)
  try dsimp only at hp0
  refine Hd.seq (fun K5 hK5 => ?_)
  refine Hd.region ?_
  refine Hd.yv (y_lss rfl rfl) ?_
  refine Hd.nil ?_
  refine Hd.slots [(0, _), (3, _), (11, _), (12, _), (13, _), (14, _)] ⟨rfl, rfl, rfl, rfl, rfl, rfl, trivial⟩ ?_
  refine Hd.toK hK5 ?_
  refine Hd.seq (fun K6 hK6 => ?_)
  refine Hd.cond rfl (fun hc1 => ?_) (fun hc1 => ?_)
  ·
    try simp only [decide_eq_true_eq, decide_eq_false_iff_not, Bool.and_eq_true, Bool.or_eq_true, Bool.and_eq_false_iff, Bool.or_eq_false_iff, Bool.not_eq_true', Bool.not_eq_false', Bool.not_eq_true, Bool.not_eq_false, Int.not_lt, Int.not_le, Decidable.not_not, ne_eq] at hc1
    have hi' : i < rs.length := by omega
    have e1 := flat_take_succ hi'
    have e2 := flat_take_le (rs := rs) (i + 1)
    rw [e1, List.length_append] at e2
    refine Hd.skip ?_
    refine Hd.toK hK6 ?_
    refine Hd.seq (fun K7 hK7 => ?_)
    refine Hd.block ?_
    refine Hd.seq (fun K8 hK8 => ?_)
    refine Hd.region ?_
    first | (refine Hd.yv (y_idxS Tryd.underlying97 sz35 rfl rfl (by first | omega | decide)) ?_) | (refine Hd.yv (y_idxR Tryd.underlying97 sz35 rfl rfl (by first | omega | decide) (by (first | exact RdS.own pkk))) ?_)
    first | (refine Hd.yv (y_load1 ag35 rfl (Rd.pt1 pkk (by (first | exact hdr_at hi' | rfl)))) ?_) | (refine Hd.yv (y_load1 ag35 rfl (Rd.seg1 pkk (by (first | exact hdr_at hi' | rfl)))) ?_) | (refine Hd.yv (y_loadR1 ag35 rfl (by (first | exact RdS.own pkk)) (by (first | exact hdr_at hi' | rfl))) ?_)
    refine Hd.yv (y_assign rfl) ?_
    refine Hd.nil ?_
    refine Hd.slots [(0, _), (3, _), (5, _), (11, _), (12, _), (13, _)] ⟨rfl, rfl, rfl, rfl, rfl, rfl, trivial⟩ ?_
    refine Hd.toK hK8 ?_
    refine Hd.seq (fun K9 hK9 => ?_)
    refine Hd.seq (fun K10 hK10 => ?_)
    refine Hd.region ?_
    refine Hd.yv (y_move rfl) ?_
    refine Hd.yv (y_move rfl) ?_
    refine Hd.yv (y_move rfl) ?_
    refine Hd.yield (pre := (ats rs 0).take i) (c := ((flat (rs.take i)).length, rs[i])) (M := pt bc [.pointer (some ⟨b, o, none⟩)] 143 :: seg b o [.slice ha rs.length hcp, .int .i64 len] :: OwH ha hcp rs :: []) hy rfl rfl ⟨i, hi', (ats_take hi').symm⟩ (fun k h => sep_app (M := [_, _, _]) h) ?_
    intro yb
    rw [← ats_take hi']
    refine Hd.yv (y_not rfl) ?_
    refine Hd.nil ?_
    refine Hd.slots [(0, _), (3, _), (5, _), (11, _), (12, _), (13, _), (21, _)] ⟨rfl, rfl, rfl, rfl, rfl, rfl, rfl, trivial⟩ ?_
    refine Hd.toK hK10 ?_
    refine Hd.cond rfl (fun hc2 => ?_) (fun hc2 => ?_)
    ·
      try simp only [decide_eq_true_eq, decide_eq_false_iff_not, Bool.and_eq_true, Bool.or_eq_true, Bool.and_eq_false_iff, Bool.or_eq_false_iff, Bool.not_eq_true', Bool.not_eq_false', Bool.not_eq_true, Bool.not_eq_false, Int.not_lt, Int.not_le, Decidable.not_not, ne_eq] at hc2
      subst hc2
      simp only [cond_false]
      refine Hd.ret ?_
      refine Hd.thenRet ?_
      refine Hd.inBret ?_
      refine Hd.thenRet ?_
      refine Hd.thenRet ?_
      refine Hd.inBret ?_
      clear hK1 hK2 hK3 hK4 hK5 hK6 hK7 hK8 hK9 hK10
      exact Hd.ret0 rfl ((ats rs 0).take (i + 1), false) rfl (fun k' h => Ent.sep (.pure ⟨i, hi', rfl⟩ .same) k' h)
    ·
      try simp only [decide_eq_true_eq, decide_eq_false_iff_not, Bool.and_eq_true, Bool.or_eq_true, Bool.and_eq_false_iff, Bool.or_eq_false_iff, Bool.not_eq_true', Bool.not_eq_false', Bool.not_eq_true, Bool.not_eq_false, Int.not_lt, Int.not_le, Decidable.not_not, ne_eq] at hc2
      subst hc2
      simp only [cond_true]
      refine Hd.heap (pt bc [.pointer (some ⟨b, o, none⟩)] 143 :: seg b o [.slice ha rs.length hcp, .int .i64 len] :: OwH ha hcp rs :: J ((ats rs 0).take (i + 1))) (fun k h => sep_app (N := [_, _, _]) h) ?_
      refine Hd.skip ?_
      refine Hd.toK hK9 ?_
      refine Hd.region ?_
      refine Hd.yv (y_move rfl) ?_
      refine Hd.yv (y_move rfl) ?_
      refine Hd.yv (y_len Tryd.underlying35 rfl) ?_
      first | (refine Hd.yv (y_addn rfl rfl (by simp only [InK]; omega)) ?_) | (refine Hd.yv (y_add rfl rfl) ?_)
      refine Hd.yv (y_assign rfl) ?_
      refine Hd.nil ?_
      refine Hd.slots [(0, _), (3, _), (11, _), (12, _), (13, _)] ⟨rfl, rfl, rfl, rfl, rfl, trivial⟩ ?_
      refine Hd.inB ?_
      refine Hd.toK hK7 ?_
      refine Hd.region ?_
      first | (refine Hd.yv (y_addn rfl rfl (by simp only [InK]; omega)) ?_) | (refine Hd.yv (y_add rfl rfl) ?_)
      refine Hd.yv (y_move rfl) ?_
      refine Hd.nil ?_
      refine Hd.slots [(0, _), (3, _), (11, _), (12, _), (13, _)] ⟨rfl, rfl, rfl, rfl, rfl, trivial⟩ ?_
      clear hK1 hK2 hK3 hK4 hK5 hK6 hK7 hK8 hK9 hK10
      refine Hd.thenN ?_
      exact Hd.again (i + 1) (by first | omega | (simp only; omega) | (simp; omega)) (by repeat (first | exact trivial | refine ⟨rfl, ?_⟩ | refine ⟨by (show some _ = some _; rw [e1, List.length_append]; rfl), ?_⟩)) (Ent.sep (.pure (by first | omega | (simp; done) | (simp; omega) | (dsimp only; omega)) enn))
  ·
    try simp only [decide_eq_true_eq, decide_eq_false_iff_not, Bool.and_eq_true, Bool.or_eq_true, Bool.and_eq_false_iff, Bool.or_eq_false_iff, Bool.not_eq_true', Bool.not_eq_false', Bool.not_eq_true, Bool.not_eq_false, Int.not_lt, Int.not_le, Decidable.not_not, ne_eq] at hc1
    refine Hd.exit ?_
    refine Hd.thenExit ?_
    refine Hd.thenExit ?_
    refine Hd.inBexit ?_
    clear hK1 hK2 hK3 hK4 hK5 hK6
    have hi : i = rs.length := by omega
    subst hi
    have e0 : (ats rs 0).take rs.length = ats rs 0 := List.take_of_length_le (by rw [ats_len]; exact Nat.le_refl _)
    rw [e0]
    exact Hd.end0 rfl (ats rs 0, true) rfl (fun k' h => Ent.sep (.pure rfl .same) k' (sep_app (M := [_, _, _]) h))
theorem ent3 {L : List SP} {A B C : SP} : Ent (A :: B :: C :: L) (L ++ [A, B, C]) := Ent.swap (L := [A, B, C])
abbrev V (a : Int) : Value := .int .i64 a
end Bc
end Go.Proofs.YtmpemhbfgbochaaDoor
namespace Go.Proofs.YtmpemhbfgbochaaDoor
set_option linter.unusedSimpArgs false
set_option linter.unusedVariables false
set_option linter.unnecessarySimpa false
open Go.RX Fx
namespace Bc
theorem own0 {L M : List SP} {e sz m : Nat} {ad : Option Addr} {us : List Value} (h1 : m = 0) (h2 : us = []) (q : Ent L M) : Ent L (own e sz ad m 0 us :: M) := by subst h1; subst h2; exact .ownNil q
def cpy (all : List UInt8) (f n : Int) : List UInt8 := if f < 0 ∨ n < 0 then [] else (all.drop f.toNat).take n.toNat
theorem take_drop_app (A R : List UInt8) (f n : Nat) (h : ((A.drop f).take n).length ≠ n) : ((A ++ R).drop f).take n = (A.drop f).take n ++ (R.drop (f - A.length)).take (n - ((A.drop f).take n).length) := by
  have hl : (A.drop f).length < n := by
    rw [List.length_take] at h
    rcases Nat.lt_or_ge (A.drop f).length n with h1 | h1
    · exact h1
    · exact absurd (Nat.min_eq_left h1) h
  rw [List.drop_append, List.take_append, List.take_of_length_le (Nat.le_of_lt hl)]
theorem take_full (A R : List UInt8) (f n : Nat) (h : ((A.drop f).take n).length = n) : ((A ++ R).drop f).take n = (A.drop f).take n := by
  have hl : n ≤ (A.drop f).length := by rw [List.length_take] at h; omega
  rw [List.drop_append, List.take_append_of_le_length hl]
theorem flat_pre {rs : List Row} (i : Nat) : flat rs = flat (rs.take i) ++ flat (rs.drop i) := by unfold flat; rw [← List.flatMap_append, List.take_append_drop]
set_option maxHeartbeats 2000000 in
theorem copy_ct (L : List SP) (b o : Nat) (rs : List Row) (hg : Good rs) (f n : Int) (hf : InK .i64 f) (hn : InK .i64 n) : Ct Tryd.prog 83 #[.pointer (some ⟨b, o, none⟩), .int .i64 f, .int .i64 n] (Ch b o rs :: L) (fun q_ : Option Addr × Nat => .slice q_.1 (cpy (flat rs) f n).length q_.2) (fun q_ : Option Addr × Nat => own 5 1 q_.1 (cpy (flat rs) f n).length q_.2 (bsl (cpy (flat rs) f n)) :: Ch b o rs :: L) := by
  refine Ct.ofM (vs := [.pointer (some ⟨b, o, none⟩), .int .i64 f, .int .i64 n]) Tryd.func83 rfl rfl [(0, .pointer (some ⟨b, o, none⟩)), (1, .int .i64 f), (2, .int .i64 n)] (by repeat (first | exact trivial | refine ⟨rfl, ?_⟩)) ?_
  intro E
  show Hd E 48 _ _ _ _
  obtain ⟨hfull, hlen⟩ := hg
  have hrl := full_len hfull
  simp only [InK] at hf hn
  refine Hd.seq (fun K1 hK1 => ?_)
  refine Hd.region ?_
  refine Hd.box rfl rfl (fun b4 => ?_)
  refine Hd.box rfl rfl (fun b5 => ?_)
  refine Hd.yv (y_assign rfl) ?_
  refine Hd.nil ?_
  refine Hd.slots [(0, _), (4, _), (5, _)] ⟨rfl, rfl, rfl, trivial⟩ ?_
  refine Hd.toK hK1 ?_
  refine Hd.scope ?_
  refine Hd.seq (fun K2 hK2 => ?_)
  refine Hd.seq (fun K3 hK3 => ?_)
  refine Hd.region ?_
  first | (refine Hd.yv (y_load1 ag3 rfl (Rd.pt1 pkk (by (first | rfl)))) ?_) | (refine Hd.yv (y_load1 ag3 rfl (Rd.seg1 pkk (by (first | rfl)))) ?_) | (refine Hd.yv (y_loadR1 ag3 rfl (by (first | exact RdS.own pkk | exact RdS.head (RdS.tail (rows_rd pkk (List.getElem_mem hi)) (by omega) (by omega)) (by omega))) (by (first | rfl))) ?_)
  refine Hd.yv (y_lss rfl rfl) ?_
  refine Hd.yv (y_move rfl) ?_
  apply Hd.org 3 12 15 [(0, _), (4, _), (5, _)] rfl ⟨rfl, rfl, rfl, trivial⟩
  · intro hg1_12
    try simp only [decide_eq_true_eq, decide_eq_false_iff_not, Bool.and_eq_true, Bool.or_eq_true, Bool.and_eq_false_iff, Bool.or_eq_false_iff, Bool.not_eq_true', Bool.not_eq_false', Bool.not_eq_true, Bool.not_eq_false, Int.not_lt, Int.not_le, Decidable.not_not, ne_eq] at hg1_12
    simp only [List.take]
    refine Hd.ng rfl rfl rfl ?_
    refine Hd.ng rfl rfl rfl ?_
    first | (refine Hd.yv (y_pickT rfl rfl) ?_) | (refine Hd.yv (y_pickF rfl rfl) ?_) | (refine Hd.yv (y_pickb rfl rfl rfl) ?_) | (refine Hd.yv (y_pick rfl rfl rfl) ?_)
    refine Hd.nil ?_
    exact Hd.mend (by repeat (first | exact trivial | refine ⟨rfl, ?_⟩)) (Ent.sep enn)
  · intro hg1_12
    try simp only [decide_eq_true_eq, decide_eq_false_iff_not, Bool.and_eq_true, Bool.or_eq_true, Bool.and_eq_false_iff, Bool.or_eq_false_iff, Bool.not_eq_true', Bool.not_eq_false', Bool.not_eq_true, Bool.not_eq_false, Int.not_lt, Int.not_le, Decidable.not_not, ne_eq] at hg1_12
    simp only [List.take]
    first | (refine Hd.yg rfl rfl (y_load1 ag3 rfl (Rd.pt1 pkk (by (first | rfl)))) ?_) | (refine Hd.yg rfl rfl (y_load1 ag3 rfl (Rd.seg1 pkk (by (first | rfl)))) ?_) | (refine Hd.yg rfl rfl (y_loadR1 ag3 rfl (by (first | exact RdS.own pkk | exact RdS.head (RdS.tail (rows_rd pkk (List.getElem_mem hi)) (by omega) (by omega)) (by omega))) (by (first | rfl))) ?_)
    refine Hd.yg rfl rfl (y_lss rfl rfl) ?_
    first | (refine Hd.yv (y_pickT rfl rfl) ?_) | (refine Hd.yv (y_pickF rfl rfl) ?_) | (refine Hd.yv (y_pickb rfl rfl rfl) ?_) | (refine Hd.yv (y_pick rfl rfl rfl) ?_)
    refine Hd.nil ?_
    exact Hd.mend (by repeat (first | exact trivial | refine ⟨rfl, ?_⟩)) (Ent.sep enn)
  simp only [List.drop]
  refine Hd.nil ?_
  refine Hd.slots [(0, _), (4, _), (5, _), (15, _)] ⟨rfl, rfl, rfl, rfl, trivial⟩ ?_
  refine Hd.toK hK3 ?_
  refine Hd.cond rfl (fun hc0 => ?_) (fun hc0 => ?_)
  ·
    try simp only [decide_eq_true_eq, decide_eq_false_iff_not, Bool.and_eq_true, Bool.or_eq_true, Bool.and_eq_false_iff, Bool.or_eq_false_iff, Bool.not_eq_true', Bool.not_eq_false', Bool.not_eq_true, Bool.not_eq_false, Int.not_lt, Int.not_le, Decidable.not_not, ne_eq] at hc0
    refine Hd.seq (fun K4 hK4 => ?_)
    refine Hd.region ?_
    refine Hd.yv (y_assign rfl) ?_
    refine Hd.nil ?_
    refine Hd.slots [(6, _)] ⟨rfl, trivial⟩ ?_
    refine Hd.toK hK4 ?_
    refine Hd.ret ?_
    refine Hd.thenRet ?_
    refine Hd.scRet ?_
    clear hK1 hK2 hK3 hK4
    have e : cpy (flat rs) f n = [] := by unfold cpy; rw [if_pos hc0]
    exact Hd.retM (fun a fr => Lv.end1 fr rfl (none, 0) (by rw [e]; rfl) (by rw [e]; exact Ent.sep (.ownNil enn)))
  ·
    try simp only [decide_eq_true_eq, decide_eq_false_iff_not, Bool.and_eq_true, Bool.or_eq_true, Bool.and_eq_false_iff, Bool.or_eq_false_iff, Bool.not_eq_true', Bool.not_eq_false', Bool.not_eq_true, Bool.not_eq_false, Int.not_lt, Int.not_le, Decidable.not_not, ne_eq] at hc0
    obtain ⟨hf0, hn0⟩ : 0 ≤ f ∧ 0 ≤ n := by omega
    have e : cpy (flat rs) f n = ((flat rs).drop f.toNat).take n.toNat := by unfold cpy; rw [if_neg (by omega)]
    refine Hd.exs pkk ?_
    rintro ⟨ha, hcp⟩
    simp only [List.cons_append, List.nil_append]
    refine Hd.skip ?_
    refine Hd.toK hK2 ?_
    refine Hd.seq (fun K5 hK5 => ?_)
    refine Hd.region ?_
    refine Hd.alloc zr35 (fun b7 => ?_)
    refine Hd.nil ?_
    refine Hd.slots [(0, _), (4, _), (5, _), (7, _)] ⟨rfl, rfl, rfl, rfl, trivial⟩ ?_
    refine Hd.toK hK5 ?_
    refine Hd.seq (fun K6 hK6 => ?_)
    refine Hd.label ?_
    refine Hd.toK hK6 ?_
    refine Hd.seq (fun K7 hK7 => ?_)
    refine Hd.seq (fun K8 hK8 => ?_)
    refine Hd.region ?_
    refine Hd.yv (y_move rfl) ?_
    refine Hd.callE rfl fk92 (chunks_ct _ _) (Ent.sep enn) ?_
    intro bc
    refine Hd.nil ?_
    refine Hd.slots [(4, _), (5, _), (7, _), (17, _)] ⟨rfl, rfl, rfl, rfl, trivial⟩ ?_
    refine Hd.toK hK8 ?_
    refine Hd.block ?_
    refine Hd.rangeF (enc := encA) (S := fun xs => xs = ats rs 0) (Sp := SpA rs)
      (fun pre => (RX.ex fun i : Option Addr × Nat => [pt b7 [.slice i.1 (((flat (rs.take pre.length)).drop f.toNat).take n.toNat).length i.2] 35, own 5 1 i.1 (((flat (rs.take pre.length)).drop f.toNat).take n.toNat).length i.2 (bsl (((flat (rs.take pre.length)).drop f.toNat).take n.toNat))]) :: pt b4 [.int .i64 f] 3 :: pt b5 [.int .i64 n] 3 :: rows rs :: L)
      (fun j pre => [pu (j = some 0), RX.ex fun i : Option Addr × Nat => [pt b7 [.slice i.1 (cpy (flat rs) f n).length i.2] 35, own 5 1 i.1 (cpy (flat rs) f n).length i.2 (bsl (cpy (flat rs) f n))]] ++ (rows rs :: L))
      rfl (by kernel_rfl) (fun _ => rfl) rfl (chunks_it bc b o rs ha hcp _ hlen (by omega)) (Ent.sep (.ex (none, 0) (.eq pkk (pt_eq (by simp [flat])) (own0 (by simp [flat]) (by simp [flat]) (.pick pkk (.pick pkk (.pick pkk ent3))))))) ?_ ?_ ?_
    ·
      intro E l' R pre c N hR hG
      obtain ⟨i, hi, hpre, rfl, hpl⟩ := spA_last hG
      unfold Rnd
      simp only [List.cons_append, List.nil_append, pz, encA]
      refine Hd.seq (fun K9 hK9 => ?_)
      refine Hd.region ?_
      refine Hd.yv (y_assign rfl) ?_
      refine Hd.nil ?_
      refine Hd.slots [(4, _), (5, _), (7, _), (8, _), (19, _)] ⟨rfl, rfl, rfl, rfl, rfl, trivial⟩ ?_
      refine Hd.toK hK9 ?_
      refine Hd.region ?_
      refine Hd.yv (y_assign rfl) ?_
      refine Hd.nil ?_
      refine Hd.slots [(4, _), (5, _), (7, _), (8, _), (9, _)] ⟨rfl, rfl, rfl, rfl, rfl, trivial⟩ ?_
      refine Hd.thenN ?_
      refine Hd.begin hR pkk ?_
      refine Hd.block ?_
      refine Hd.seq (fun K10 hK10 => ?_)
      refine Hd.seq (fun K11 hK11 => ?_)
      rw [hpl]
      have e1 := flat_take_succ hi
      have e2 := flat_take_le (rs := rs) (i + 1)
      rw [e1, List.length_append] at e2
      have hout : (((flat (rs.take i)).drop f.toNat).take n.toNat).length ≤ n.toNat := by rw [List.length_take]; omega
      have hout2 : (((flat (rs.take i)).drop f.toNat).take n.toNat).length ≤ 1048576 := by rw [List.length_take, List.length_drop]; omega
      refine Hd.exs pkk ?_
      rintro ⟨a4, c4⟩
      simp only [List.cons_append, List.nil_append]
      refine Hd.rowsCap (rs := rs) pkk (fun hcaps => ?_)
      have hcap0 := hcaps _ (List.getElem_mem hi)
      refine Hd.region ?_
      first | (refine Hd.yv (y_load1 ag35 rfl (Rd.pt1 pkk (by (first | rfl)))) ?_) | (refine Hd.yv (y_load1 ag35 rfl (Rd.seg1 pkk (by (first | rfl)))) ?_) | (refine Hd.yv (y_loadR1 ag35 rfl (by (first | exact RdS.own pkk | exact RdS.head (RdS.tail (rows_rd pkk (List.getElem_mem hi)) (by omega) (by omega)) (by omega))) (by (first | rfl))) ?_)
      refine Hd.yv (y_len Tryd.underlying35 rfl) ?_
      first | (refine Hd.yv (y_load1 ag3 rfl (Rd.pt1 pkk (by (first | rfl)))) ?_) | (refine Hd.yv (y_load1 ag3 rfl (Rd.seg1 pkk (by (first | rfl)))) ?_) | (refine Hd.yv (y_loadR1 ag3 rfl (by (first | exact RdS.own pkk | exact RdS.head (RdS.tail (rows_rd pkk (List.getElem_mem hi)) (by omega) (by omega)) (by omega))) (by (first | rfl))) ?_)
      first | (refine Hd.yv (y_eqlT rfl rfl) ?_) | (refine Hd.yv (y_eql rfl rfl) ?_)
      refine Hd.nil ?_
      refine Hd.slots [(4, _), (5, _), (7, _), (8, _), (9, _), (23, _)] ⟨rfl, rfl, rfl, rfl, rfl, rfl, trivial⟩ ?_
      refine Hd.toK hK11 ?_
      refine Hd.cond rfl (fun hc1 => ?_) (fun hc1 => ?_)
      ·
        try simp only [decide_eq_true_eq, decide_eq_false_iff_not, Bool.and_eq_true, Bool.or_eq_true, Bool.and_eq_false_iff, Bool.or_eq_false_iff, Bool.not_eq_true', Bool.not_eq_false', Bool.not_eq_true, Bool.not_eq_false, Int.not_lt, Int.not_le, Decidable.not_not, ne_eq] at hc1
        refine Hd.exit ?_
        refine Hd.thenExit ?_
        refine Hd.inBexit' rfl ?_
        clear hK1 hK2 hK3 hK5 hK6 hK7 hK8 hK9 hK10 hK11
        refine Hd.reX ?_
        simp only [List.cons_append, List.nil_append]
        have hc1' : (((flat (rs.take i)).drop f.toNat).take n.toNat).length = n.toNat := by omega
        have e3 : cpy (flat rs) f n = ((flat (rs.take i)).drop f.toNat).take n.toNat := by rw [e, flat_pre i, take_full _ _ _ _ hc1']
        exact Ent.sep (.pick pkk (.pure (by first | trivial | rfl) (.ex (a4, c4) (.eq pkk (pt_eq (by rw [e3])) (.eq pkk (own_eq (by rw [e3]) (by rw [e3])) enn)))))
      ·
        try simp only [decide_eq_true_eq, decide_eq_false_iff_not, Bool.and_eq_true, Bool.or_eq_true, Bool.and_eq_false_iff, Bool.or_eq_false_iff, Bool.not_eq_true', Bool.not_eq_false', Bool.not_eq_true, Bool.not_eq_false, Int.not_lt, Int.not_le, Decidable.not_not, ne_eq] at hc1
        have hc1' : (((flat (rs.take i)).drop f.toNat).take n.toNat).length ≠ n.toNat := by omega
        refine Hd.skip ?_
        refine Hd.toK hK10 ?_
        refine Hd.seq (fun K12 hK12 => ?_)
        refine Hd.region ?_
        refine Hd.yv (y_move rfl) ?_
        refine Hd.yv (y_move rfl) ?_
        refine Hd.yv (y_len Tryd.underlying35 rfl) ?_
        first | (refine Hd.yv (y_addn rfl rfl (by simp only [InK]; omega)) ?_) | (refine Hd.yv (y_add rfl rfl) ?_)
        first | (refine Hd.yv (y_load1 ag3 rfl (Rd.pt1 pkk (by (first | rfl)))) ?_) | (refine Hd.yv (y_load1 ag3 rfl (Rd.seg1 pkk (by (first | rfl)))) ?_) | (refine Hd.yv (y_loadR1 ag3 rfl (by (first | exact RdS.own pkk | exact RdS.head (RdS.tail (rows_rd pkk (List.getElem_mem hi)) (by omega) (by omega)) (by omega))) (by (first | rfl))) ?_)
        refine Hd.yv (y_gtr rfl rfl) ?_
        refine Hd.nil ?_
        refine Hd.slots [(4, _), (5, _), (7, _), (8, _), (9, _), (29, _)] ⟨rfl, rfl, rfl, rfl, rfl, rfl, trivial⟩ ?_
        refine Hd.toK hK12 ?_
        refine Hd.cond rfl (fun hc2 => ?_) (fun hc2 => ?_)
        ·
          try simp only [decide_eq_true_eq, decide_eq_false_iff_not, Bool.and_eq_true, Bool.or_eq_true, Bool.and_eq_false_iff, Bool.or_eq_false_iff, Bool.not_eq_true', Bool.not_eq_false', Bool.not_eq_true, Bool.not_eq_false, Int.not_lt, Int.not_le, Decidable.not_not, ne_eq] at hc2
          refine Hd.seq (fun K13 hK13 => ?_)
          refine Hd.region ?_
          refine Hd.yv (y_move rfl) ?_
          first | (refine Hd.yv (y_load1 ag3 rfl (Rd.pt1 pkk (by (first | rfl)))) ?_) | (refine Hd.yv (y_load1 ag3 rfl (Rd.seg1 pkk (by (first | rfl)))) ?_) | (refine Hd.yv (y_loadR1 ag3 rfl (by (first | exact RdS.own pkk | exact RdS.head (RdS.tail (rows_rd pkk (List.getElem_mem hi)) (by omega) (by omega)) (by omega))) (by (first | rfl))) ?_)
          refine Hd.yv (y_move rfl) ?_
          first | (refine Hd.yv (y_subn rfl rfl (by simp only [InK]; omega)) ?_) | (refine Hd.yv (y_sub rfl rfl) ?_)
          refine Hd.yv (y_max rfl rfl) ?_
          refine Hd.name (b := ((f.toNat - (flat (rs.take i)).length : Nat) : Int)) 34 rfl (by omega) ?_
          first | (refine Hd.yv (y_slo_oxxN Tryd.underlying35 sz5 rfl rfl (by first | omega | (simp; done) | decide)) ?_) | (refine Hd.yv (y_slo_oxx Tryd.underlying35 sz5 rfl rfl (by first | omega | (simp; done) | decide) (by first | omega | (simp; done) | decide)) ?_)
          refine Hd.yv (y_assign rfl) ?_
          refine Hd.nil ?_
          refine Hd.slots [(5, _), (7, _), (9, _)] ⟨rfl, rfl, rfl, trivial⟩ ?_
          refine Hd.toK hK13 ?_
          refine Hd.drawsH ([pt b7 [.slice a4 (((flat (rs.take i)).drop f.toNat).take n.toNat).length c4] 35, pt b5 [.int .i64 n] 3]) (fun j => !([11].contains j)) mixed ?_
          simp only [List.length, Nat.zero_add, Nat.reduceAdd]
          first | (refine Hd.takeH 0 rfl (by kernel_rfl) (by kernel_rfl) (by kernel_rfl) (by kernel_rfl) (y_load1 ag35 rfl (Rd.pt1 pkk (by (first | rfl)))) (fun _ _ => rfl) (Ent.sep enn) ?_) | (refine Hd.takeH 0 rfl (by kernel_rfl) (by kernel_rfl) (by kernel_rfl) (by kernel_rfl) (y_load1 ag35 rfl (Rd.seg1 pkk (by (first | rfl)))) (fun _ _ => rfl) (Ent.sep enn) ?_) | (refine Hd.takeH 0 rfl (by kernel_rfl) (by kernel_rfl) (by kernel_rfl) (by kernel_rfl) (y_loadR1 ag35 rfl (by (first | exact RdS.own pkk | exact RdS.head (RdS.tail (rows_rd pkk (List.getElem_mem hi)) (by omega) (by omega)) (by omega))) (by (first | rfl))) (fun _ _ => rfl) (Ent.sep enn) ?_)
          refine Hd.takeH 1 rfl (by kernel_rfl) (by kernel_rfl) (by kernel_rfl) (by kernel_rfl) (y_move rfl) (fun _ _ => rfl) (Ent.sep enn) ?_
          refine Hd.takeH 2 rfl (by kernel_rfl) (by kernel_rfl) (by kernel_rfl) (by kernel_rfl) (y_move rfl) (fun _ _ => rfl) (Ent.sep enn) ?_
          refine Hd.takeH 3 rfl (by kernel_rfl) (by kernel_rfl) (by kernel_rfl) (by kernel_rfl) (y_len Tryd.underlying35 rfl) (fun _ _ => rfl) (Ent.sep enn) ?_
          first | (refine Hd.takeH 4 rfl (by kernel_rfl) (by kernel_rfl) (by kernel_rfl) (by kernel_rfl) (y_load1 ag3 rfl (Rd.pt1 pkk (by (first | rfl)))) (fun _ _ => rfl) (Ent.sep enn) ?_) | (refine Hd.takeH 4 rfl (by kernel_rfl) (by kernel_rfl) (by kernel_rfl) (by kernel_rfl) (y_load1 ag3 rfl (Rd.seg1 pkk (by (first | rfl)))) (fun _ _ => rfl) (Ent.sep enn) ?_) | (refine Hd.takeH 4 rfl (by kernel_rfl) (by kernel_rfl) (by kernel_rfl) (by kernel_rfl) (y_loadR1 ag3 rfl (by (first | exact RdS.own pkk | exact RdS.head (RdS.tail (rows_rd pkk (List.getElem_mem hi)) (by omega) (by omega)) (by omega))) (by (first | rfl))) (fun _ _ => rfl) (Ent.sep enn) ?_)
          first | (refine Hd.takeH 5 rfl (by kernel_rfl) (by kernel_rfl) (by kernel_rfl) (by kernel_rfl) (y_load1 ag35 rfl (Rd.pt1 pkk (by (first | rfl)))) (fun _ _ => rfl) (Ent.sep enn) ?_) | (refine Hd.takeH 5 rfl (by kernel_rfl) (by kernel_rfl) (by kernel_rfl) (by kernel_rfl) (y_load1 ag35 rfl (Rd.seg1 pkk (by (first | rfl)))) (fun _ _ => rfl) (Ent.sep enn) ?_) | (refine Hd.takeH 5 rfl (by kernel_rfl) (by kernel_rfl) (by kernel_rfl) (by kernel_rfl) (y_loadR1 ag35 rfl (by (first | exact RdS.own pkk | exact RdS.head (RdS.tail (rows_rd pkk (List.getElem_mem hi)) (by omega) (by omega)) (by omega))) (by (first | rfl))) (fun _ _ => rfl) (Ent.sep enn) ?_)
          refine Hd.takeH 6 rfl (by kernel_rfl) (by kernel_rfl) (by kernel_rfl) (by kernel_rfl) (y_len Tryd.underlying35 rfl) (fun _ _ => rfl) (Ent.sep enn) ?_
          first | (refine Hd.takeH 7 rfl (by kernel_rfl) (by kernel_rfl) (by kernel_rfl) (by kernel_rfl) (y_subn rfl rfl (by simp only [InK]; omega)) (fun _ _ => rfl) (Ent.sep enn) ?_) | (refine Hd.takeH 7 rfl (by kernel_rfl) (by kernel_rfl) (by kernel_rfl) (by kernel_rfl) (y_sub rfl rfl) (fun _ _ => rfl) (Ent.sep enn) ?_)
          refine Hd.takeH 8 rfl (by kernel_rfl) (by kernel_rfl) (by kernel_rfl) (by kernel_rfl) (y_min rfl rfl) (fun _ _ => rfl) (Ent.sep enn) ?_
          refine Hd.name (b := ((min (rs[i].l.length - (f.toNat - (flat (rs.take i)).length)) (n.toNat - (((flat (rs.take i)).drop f.toNat).take n.toNat).length) : Nat) : Int)) 44 rfl (by omega) ?_
          first | (refine Hd.takeH 9 rfl (by kernel_rfl) (by kernel_rfl) (by kernel_rfl) (by kernel_rfl) (y_slo_xoxN Tryd.underlying35 sz5 rfl rfl (by first | omega | (simp; done) | decide)) (fun _ _ => rfl) (Ent.sep enn) ?_) | (refine Hd.takeH 9 rfl (by kernel_rfl) (by kernel_rfl) (by kernel_rfl) (by kernel_rfl) (y_slo_xox Tryd.underlying35 sz5 rfl rfl (by first | omega | (simp; done) | decide) (by first | omega | (simp; done) | decide)) (fun _ _ => rfl) (Ent.sep enn) ?_)
          refine Hd.onlyH 10 rfl (by kernel_rfl) ?_
          refine Hd.append Tryd.underlying35 ty5 rfl rfl rfl pkk (by first | exact RdS.rd (Rd.pt pkk (fun j v e => by simpa using e)) rfl | (first | exact RdS.own pkk | exact RdS.head (RdS.tail (rows_rd pkk (List.getElem_mem hi)) (by omega) (by omega)) (by omega))) (by first | (simp [Value.oneCell']; done) | assumption | exact fun u hu => B_one (l := rs[i].l) u (List.mem_of_mem_drop (List.mem_of_mem_take hu))) (by first | (simp only [maxLen]; omega) | assumption) (by omega) (fun ad46 cap46 => ?_)
          refine Hd.nil ?_
          refine Hd.thenN ?_
          refine Hd.heldK (J := (fun j => !([11].contains j))) (i := 10) (Ent.sep enn) ?_
          refine Hd.onlyH 11 rfl (by kernel_rfl) ?_
          first | (refine Hd.store1 sz35 rfl rfl rfl pkk (by first | decide | (simp; done) | (simp; omega)) ?_) | (refine Hd.storeG1 sz35 rfl rfl rfl pkk (by first | decide | (simp; done) | (simp; omega)) ?_) | (refine Hd.storeO1 sz35 rfl rfl rfl pkk (by first | omega | (simp; done) | (simp; omega)) ?_)
          try simp only [List.set_cons_zero, List.set_cons_succ]
          refine Hd.nil ?_
          refine Hd.thenN ?_
          refine Hd.heldN (J := (fun j => !([11].contains j))) (i := 11) rfl ?_
          refine Hd.endH (by kernel_rfl) ?_
          refine Hd.slots [(7, _)] ⟨rfl, trivial⟩ ?_
          refine Hd.inB ?_
          clear hK1 hK2 hK3 hK5 hK6 hK7 hK8 hK9 hK10 hK11 hK12 hK13
          refine Hd.reN ?_
          simp only [List.cons_append, List.nil_append]
          have e4 := take_drop_app (flat (rs.take i)) rs[i].l f.toNat n.toNat hc1'
          rw [← e1] at e4
          refine Ent.sep (.pick pkk (.ex (ad46, cap46) (.eq pkk (pt_eq ?_) (.eq pkk (own_eq ?_ ?_) enn))))
          · simp only [List.length_append, List.length_cons, List.length_nil, hpl, Nat.zero_add]
            rw [e4, List.length_append]
            simp only [List.length_take, List.length_drop]
            congr 2; omega
          · simp only [List.length_append, List.length_cons, List.length_nil, hpl, Nat.zero_add]
            rw [e4, List.length_append]
            simp only [List.length_take, List.length_drop]
            omega
          · simp only [List.length_append, List.length_cons, List.length_nil, hpl, Nat.zero_add]
            rw [e4]
            simp [List.map_take, List.map_drop]
            omega
        ·
          try simp only [decide_eq_true_eq, decide_eq_false_iff_not, Bool.and_eq_true, Bool.or_eq_true, Bool.and_eq_false_iff, Bool.or_eq_false_iff, Bool.not_eq_true', Bool.not_eq_false', Bool.not_eq_true, Bool.not_eq_false, Int.not_lt, Int.not_le, Decidable.not_not, ne_eq] at hc2
          refine Hd.skip ?_
          refine Hd.inB ?_
          clear hK1 hK2 hK3 hK5 hK6 hK7 hK8 hK9 hK10 hK11 hK12
          refine Hd.reN ?_
          simp only [List.cons_append, List.nil_append]
          have e4 : ((flat (rs.take (i + 1))).drop f.toNat).take n.toNat = ((flat (rs.take i)).drop f.toNat).take n.toNat := by
            rw [e1, List.drop_append, List.drop_of_length_le (show rs[i].l.length ≤ f.toNat - (flat (rs.take i)).length by omega), List.append_nil]
          refine Ent.sep (.pick pkk (.ex (a4, c4) (.eq pkk (pt_eq ?_) (.eq pkk (own_eq ?_ ?_) enn))))
          all_goals simp only [List.length_append, List.length_cons, List.length_nil, hpl, Nat.zero_add, e4]
    ·
      intro r0 xs hxs
      have hxs' : xs = ats rs 0 := hxs
      subst hxs'
      rw [ats_len, List.take_length, ← e]
      try simp only [List.cons_append, List.nil_append]
      refine Hd.inB ?_
      refine Hd.toK hK7 ?_
      refine Hd.seq (fun K14 hK14 => ?_)
      refine Hd.exs pkk ?_
      rintro ⟨a4, c4⟩
      simp only [List.cons_append, List.nil_append]
      refine Hd.region ?_
      first | (refine Hd.yv (y_load1 ag35 rfl (Rd.pt1 pkk (by (first | rfl)))) ?_) | (refine Hd.yv (y_load1 ag35 rfl (Rd.seg1 pkk (by (first | rfl)))) ?_) | (refine Hd.yv (y_loadR1 ag35 rfl (by (first | exact RdS.own pkk | exact RdS.head (RdS.tail (rows_rd pkk (List.getElem_mem hi)) (by omega) (by omega)) (by omega))) (by (first | rfl))) ?_)
      refine Hd.yv (y_assign rfl) ?_
      refine Hd.nil ?_
      refine Hd.slots [(6, _)] ⟨rfl, trivial⟩ ?_
      refine Hd.toK hK14 ?_
      refine Hd.ret ?_
      refine Hd.scRet ?_
      clear hK1 hK2 hK3 hK5 hK6 hK7 hK8 hK14
      exact Hd.retM (fun a fr => Lv.mark pkk (Lv.end1 fr rfl (a4, c4) rfl (Ent.sep (.pick pkk (.ex (ha, hcp) enn)))))
    ·
      rintro r0_0 (_ | id0) pre0 hG0
      ·
        exact Hd.absurd (by first | exact id | simp)
      ·
        by_cases hid0 : id0 = 0
        · subst hid0
          simp only [List.cons_append, List.nil_append]
          refine Hd.pure (fun _ => ?_)
          try simp only [List.cons_append, List.nil_append]
          refine Hd.exit ?_
          refine Hd.inBexit ?_
          refine Hd.toK hK7 ?_
          refine Hd.seq (fun K15 hK15 => ?_)
          refine Hd.exs pkk ?_
          rintro ⟨a4, c4⟩
          simp only [List.cons_append, List.nil_append]
          refine Hd.region ?_
          first | (refine Hd.yv (y_load1 ag35 rfl (Rd.pt1 pkk (by (first | rfl)))) ?_) | (refine Hd.yv (y_load1 ag35 rfl (Rd.seg1 pkk (by (first | rfl)))) ?_) | (refine Hd.yv (y_loadR1 ag35 rfl (by (first | exact RdS.own pkk | exact RdS.head (RdS.tail (rows_rd pkk (List.getElem_mem hi)) (by omega) (by omega)) (by omega))) (by (first | rfl))) ?_)
          refine Hd.yv (y_assign rfl) ?_
          refine Hd.nil ?_
          refine Hd.slots [(6, _)] ⟨rfl, trivial⟩ ?_
          refine Hd.toK hK15 ?_
          refine Hd.ret ?_
          refine Hd.scRet ?_
          clear hK1 hK2 hK3 hK5 hK6 hK7 hK8 hK15
          exact Hd.retM (fun a fr => Lv.mark pkk (Lv.end1 fr rfl (a4, c4) rfl (Ent.sep (.pick pkk (.ex (ha, hcp) enn)))))
        · exact Hd.absurd (by first | exact hid0 | (simpa using hid0))
end Bc
end Go.Proofs.YtmpemhbfgbochaaDoor
namespace Go.Proofs.YtmpemhbfgbochaaDoor
set_option linter.unusedSimpArgs false
set_option linter.unusedVariables false
set_option linter.unnecessarySimpa false
open Go.RX Fx
namespace Bc
def Mt (all w : List UInt8) (a : Nat) : Prop := (all.drop a).take w.length = w
instance (all w : List UInt8) (a : Nat) : Decidable (Mt all w a) := by unfold Mt; infer_instance
end Bc
end Go.Proofs.YtmpemhbfgbochaaDoor
namespace Go.Proofs.YtmpemhbfgbochaaDoor
set_option linter.unusedSimpArgs false
set_option linter.unusedVariables false
set_option linter.unnecessarySimpa false
open Go.RX Fx
namespace Bc
section
variable {E : World} {n : Nat} {ds : List Deferred} {st : List (Nat × Value)} {L L' L2 : List SP} {K : Act → World → Prop}
theorem Hd.ptOwn {b : Nat} {cs : List Value} {e : TypeId} (m' sz' : Nat) (p : Pick L (pt b cs e) L') (hl : cs.length = m' * sz') (hm : m' ≤ maxLen) (h : Hd E n ds st (own e sz' (some ⟨b, 0, none⟩) m' m' cs :: L') K) : Hd E n ds st L K :=
  Hd.heap _ (fun k s => sep_head (p.sep s) fun k x => own_pt (sp := []) hl (Nat.le_refl _) hm (by simp) (by simpa using x)) h
theorem NeP.mono {P : Program} {M : List SP} {a1 a2 : Addr} (h : NeP P L a1 a2) (hm : ∀ k, sep M k → sep L k) : NeP P M a1 a2 := fun E w s => h E w (s.mp hm)
end
end Bc
end Go.Proofs.YtmpemhbfgbochaaDoor
namespace Go.Proofs.YtmpemhbfgbochaaDoor
set_option linter.unusedSimpArgs false
set_option linter.unusedVariables false
set_option linter.unnecessarySimpa false
open Go.RX Fx
namespace Bu
open Wo
set_option maxRecDepth 8000
theorem sep_pure {p : Prop} {L : List SP} {k : PH} (h : sep (pu p :: L) k) : p ∧ sep L k := by
  obtain ⟨h1, h2, _, _, b, x, y⟩ := h
  exact ⟨x, y.up b⟩
theorem Ct.exs {P : Program} {f : FuncId} {vs : Array Value} {L : List SP} {ι κ : Type} {val : ι → Value} {post : ι → List SP} {X : κ → List SP} (h : ∀ i, Ct P f vs (X i ++ L) val post) : Ct P f vs (RX.ex X :: L) val post := fun E w s => by
  obtain ⟨h1, h2, h3, h4⟩ := s
  obtain ⟨k1, k2, d, s1, s2, ⟨i, x⟩, y⟩ := h4
  exact h i E w ⟨h1, h2, h3, sep_join d s1 s2 x y⟩
theorem Ct.pure {P : Program} {f : FuncId} {vs : Array Value} {L : List SP} {ι : Type} {val : ι → Value} {post : ι → List SP} {p : Prop} (h : p → Ct P f vs L val post) : Ct P f vs (pu p :: L) val post := fun E w s => by
  have := sep_pure s.2.2.2
  exact h this.1 E w ⟨s.1, s.2.1, s.2.2.1, this.2⟩
theorem Ct.imp {P : Program} {f : FuncId} {vs : Array Value} {L L' : List SP} {ι ι' : Type} {val : ι → Value} {val' : ι' → Value} {post : ι → List SP} {post' : ι' → List SP} (h : Ct P f vs L val post) (hL : ∀ k, sep L' k → sep L k)
    (hp : ∀ i, ∃ j, val i = val' j ∧ ∀ k, sep (post i) k → sep (post' j) k) : Ct P f vs L' val' post' := fun E w s =>
  Calls.mono (h E w (s.mp hL)) (fun e w' ⟨i, he, hs⟩ => by obtain ⟨j, hv, hj⟩ := hp i; exact ⟨j, by rw [he, hv], hs.mp hj⟩)
def ChB (b o : Nat) (l : List UInt8) : SP := RX.ex fun rs : List Bc.Row => [pu (Bc.Good rs ∧ Bc.flat rs = l), Bc.Ch b o rs]
theorem Hd.chB {E : World} {n : Nat} {ds : List Deferred} {st : List (Nat × Value)} {L L' : List SP} {K : Act → World → Prop} {b o : Nat} {l : List UInt8} (p : Pick L (ChB b o l) L') (h : l.length ≤ 1048576 → Hd E n ds st L K) : Hd E n ds st L K := fun a w f s => by
  refine h ?_ a w f s
  obtain ⟨h1, s1, rs, x⟩ := sep.one p s.2.2.2
  have x2 := (sep_pure (p := Bc.Good rs ∧ Bc.flat rs = l) x).1
  rw [← x2.2]; exact x2.1.2
theorem chLen (L : List SP) (b o : Nat) (l : List UInt8) : Ct Tryd.prog 53 #[.pointer (some ⟨b, o, none⟩)] (ChB b o l :: L) (fun _ : Unit => .int .i64 (l.length : Int)) (fun _ => ChB b o l :: L) :=
  Ct.exs fun rs => Ct.pure fun h => by
    obtain ⟨hg, rfl⟩ := h
    exact Ct.imp (Bc.lenC_ct L b o rs) (fun k s => s) fun i => ⟨(), rfl, fun k s => Ent.sep (.ex rs (.pure ⟨hg, rfl⟩ enn)) k s⟩
def addA (l bs : List UInt8) : List UInt8 := if bs.length ≤ 1048576 - l.length then l ++ bs else l
def addE (l bs : List UInt8) : Int := if bs.length ≤ 1048576 - l.length then 0 else 70
theorem chAdd (L : List SP) (b o : Nat) (l : List UInt8) (ad : Option Addr) (m cap : Nat) (bs : List UInt8) (hl : bs.length = m) (hD : RdS L 1 ad m (bsl bs)) (hmc : m ≤ cap) (hm : m ≤ 70368744177664) : Ct Tryd.prog 51 #[.pointer (some ⟨b, o, none⟩), .slice ad m cap] (ChB b o l :: L) (fun _ : Unit => .int .i64 (addE l bs)) (fun _ => ChB b o (addA l bs) :: L) :=
  Ct.exs fun rs => Ct.pure fun h => by
    obtain ⟨hg, rfl⟩ := h
    subst hl
    exact Ct.imp (Bc.add_ct L b o rs hg ad bs.length cap bs hD hmc hm) (fun k s => s) fun rs' => ⟨(), rfl, fun k s => by
      obtain ⟨⟨h1, h2⟩, s⟩ := sep_pure s
      exact Ent.sep (.ex rs' (.pure ⟨h1, h2⟩ enn)) k s⟩
theorem chTake (L : List SP) (b o : Nat) (l : List UInt8) (n : Int) (hn : n ≤ 9223372036854775807) : Ct Tryd.prog 38 #[.pointer (some ⟨b, o, none⟩), .int .i64 n] (ChB b o l :: L) (fun i : Option Addr × Nat => .slice i.1 (l.take n.toNat).length i.2) (fun i => own 5 1 i.1 (l.take n.toNat).length i.2 (bsl (l.take n.toNat)) :: ChB b o (l.drop n.toNat) :: L) :=
  Ct.exs fun rs => Ct.pure fun h => by
    obtain ⟨hg, rfl⟩ := h
    exact Ct.imp (Bc.take_ct L b o rs hg n hn) (fun k s => s) fun i => ⟨(i.2.1, i.2.2), rfl, fun k s => by
      obtain ⟨⟨h1, h2⟩, s⟩ := sep_pure s
      have hg2 : Bc.Good i.1 := ⟨h2, by rw [h1, List.length_drop]; have := hg.2; omega⟩
      exact Ent.sep (.pick pkk (.ex i.1 (.pure ⟨hg2, h1⟩ enn))) k s⟩
theorem chDrain (L : List SP) (b o : Nat) (l : List UInt8) (n : Int) (hn : n ≤ 9223372036854775807) : Ct Tryd.prog 84 #[.pointer (some ⟨b, o, none⟩), .int .i64 n] (ChB b o l :: L) (fun _ : Unit => .int .i64 ((l.take n.toNat).length : Int)) (fun _ => ChB b o (l.drop n.toNat) :: L) :=
  Ct.exs fun rs => Ct.pure fun h => by
    obtain ⟨hg, rfl⟩ := h
    exact Ct.imp (Bc.drain_ct L b o rs hg n hn) (fun k s => s) fun r => ⟨(), rfl, fun k s => by
      obtain ⟨⟨h1, h2⟩, s⟩ := sep_pure s
      have hg2 : Bc.Good r := ⟨h2, by rw [h1, List.length_drop]; have := hg.2; omega⟩
      exact Ent.sep (.ex r (.pure ⟨hg2, h1⟩ enn)) k s⟩
theorem chCopy (L : List SP) (b o : Nat) (l : List UInt8) (f n : Int) (hf : InK .i64 f) (hn : InK .i64 n) : Ct Tryd.prog 83 #[.pointer (some ⟨b, o, none⟩), .int .i64 f, .int .i64 n] (ChB b o l :: L) (fun i : Option Addr × Nat => .slice i.1 (Bc.cpy l f n).length i.2) (fun i => own 5 1 i.1 (Bc.cpy l f n).length i.2 (bsl (Bc.cpy l f n)) :: ChB b o l :: L) :=
  Ct.exs fun rs => Ct.pure fun h => by
    obtain ⟨hg, rfl⟩ := h
    exact Ct.imp (Bc.copy_ct L b o rs hg f n hf hn) (fun k s => s) fun i => ⟨i, rfl, fun k s => Ent.sep (.pick pkk (.ex rs (.pure ⟨hg, rfl⟩ enn))) k s⟩
structure SdA where
  c : List UInt8
  on : Bool
  ended : Bool
  low : Int
  high : Int
  after : Int
  at_ : Int
structure BfA where
  s : Nat → SdA
  fd : Int
abbrev encS (s : SdA) : List Value := [.bool s.on, .bool s.ended, .int .i64 s.low, .int .i64 s.high, .int .u64 s.after, .int .u64 s.at_]
abbrev SdL (b k : Nat) (s : SdA) (L : List SP) : List SP := ChB b (2 + k * 8 + 0) s.c :: segK b (2 + k * 8) 2 (encS s) :: L
abbrev BfH (b wb : Nat) (fd : Int) : SP := seg b 0 [.pointer (some ⟨wb, 0, none⟩), .int .i64 fd]
abbrev BfK (b : Nat) : SP := kd b 18 104
abbrev BfL (b wb : Nat) (x : BfA) (k : Nat) (L : List SP) : List SP := BfK b :: BfH b wb x.fd :: SdL b k (x.s k) (SdL b (1 - k) (x.s (1 - k)) L)
def BufP (b wb : Nat) (x : BfA) : SP := RX.ex fun _ : Unit => BfL b wb x 0 []
theorem Hd.buf {E : World} {n : Nat} {ds : List Deferred} {st : List (Nat × Value)} {L L' : List SP} {K : Act → World → Prop} {b wb : Nat} {x : BfA} (p : Pick L (BufP b wb x) L') (h : Hd E n ds st (BfL b wb x 0 L') K) : Hd E n ds st L K :=
  Hd.exs (f := fun _ : Unit => BfL b wb x 0 []) p fun _ => h
def flagA (k : Nat) : Int := if k = 0 then 2 else 4
def hasA (mask : Int) (k : Nat) : Bool := decide (bits .and .i64 mask (flagA k) ≠ 0)
def sidesA (mask : Int) : List Nat := [0, 1].filter (hasA mask)
set_option maxHeartbeats 2000000 in
theorem flag_ct (L : List SP) (k : Nat) : Ct Tryd.prog 54 #[.int .i64 (k : Int)] (L) (fun _ : Unit => .int .i64 (flagA k)) (fun _ : Unit => L) := by
  refine Ct.of (vs := [.int .i64 (k : Int)]) Tryd.func54 rfl rfl [(0, .int .i64 (k : Int))] (by repeat (first | exact trivial | refine ⟨rfl, ?_⟩)) ?_
  intro E
  show Hd E 5 _ _ _ _
  refine Hd.seq (fun K1 hK1 => ?_)
  refine Hd.region ?_
  refine Hd.yv (y_assign rfl) ?_
  refine Hd.nil ?_
  refine Hd.slots [(0, _)] ⟨rfl, trivial⟩ ?_
  refine Hd.toK hK1 ?_
  refine Hd.seq (fun K2 hK2 => ?_)
  refine Hd.seq (fun K3 hK3 => ?_)
  refine Hd.region ?_
  refine Hd.yv (y_move rfl) ?_
  first | (refine Hd.yv (y_eqlT rfl rfl) ?_) | (refine Hd.yv (y_eql rfl rfl) ?_)
  refine Hd.nil ?_
  refine Hd.slots [(4, _)] ⟨rfl, trivial⟩ ?_
  refine Hd.toK hK3 ?_
  refine Hd.cond rfl (fun hc0 => ?_) (fun hc0 => ?_)
  ·
    try simp only [decide_eq_true_eq, decide_eq_false_iff_not, Bool.and_eq_true, Bool.or_eq_true, Bool.and_eq_false_iff, Bool.or_eq_false_iff, Bool.not_eq_true', Bool.not_eq_false', Bool.not_eq_true, Bool.not_eq_false, Int.not_lt, Int.not_le, Decidable.not_not, ne_eq] at hc0
    refine Hd.seq (fun K4 hK4 => ?_)
    refine Hd.region ?_
    refine Hd.yv (y_assign rfl) ?_
    refine Hd.nil ?_
    refine Hd.slots [(2, _)] ⟨rfl, trivial⟩ ?_
    refine Hd.toK hK4 ?_
    refine Hd.ret ?_
    refine Hd.thenRet ?_
    clear hK1 hK2 hK3 hK4
    obtain rfl : k = 0 := by omega
    exact Hd.ret1 rfl () rfl (Ent.sep enn)
  ·
    try simp only [decide_eq_true_eq, decide_eq_false_iff_not, Bool.and_eq_true, Bool.or_eq_true, Bool.and_eq_false_iff, Bool.or_eq_false_iff, Bool.not_eq_true', Bool.not_eq_false', Bool.not_eq_true, Bool.not_eq_false, Int.not_lt, Int.not_le, Decidable.not_not, ne_eq] at hc0
    refine Hd.skip ?_
    refine Hd.toK hK2 ?_
    refine Hd.seq (fun K5 hK5 => ?_)
    refine Hd.region ?_
    refine Hd.yv (y_assign rfl) ?_
    refine Hd.nil ?_
    refine Hd.slots [(2, _)] ⟨rfl, trivial⟩ ?_
    refine Hd.toK hK5 ?_
    refine Hd.ret ?_
    clear hK1 hK2 hK3 hK5
    have : k ≠ 0 := by omega
    exact Hd.ret1 rfl () (by unfold flagA; rw [if_neg this]; rfl) (Ent.sep enn)
set_option maxHeartbeats 2000000 in
theorem bnone_ct (L : List SP) (b wb : Nat) (fd : Int) : Ct Tryd.prog 37 #[.pointer (some ⟨b, 0, none⟩)] (BfH b wb fd :: L) (fun _ : Unit => .bool false) (fun _ : Unit => BfH b wb fd :: L) := by
  refine Ct.of (vs := [.pointer (some ⟨b, 0, none⟩)]) Tryd.func37 rfl rfl [(0, .pointer (some ⟨b, 0, none⟩))] (by repeat (first | exact trivial | refine ⟨rfl, ?_⟩)) ?_
  intro E
  show Hd E 12 _ _ _ _
  refine Hd.seq (fun K1 hK1 => ?_)
  refine Hd.region ?_
  refine Hd.yv (y_assign rfl) ?_
  refine Hd.nil ?_
  refine Hd.slots [(0, _)] ⟨rfl, trivial⟩ ?_
  refine Hd.toK hK1 ?_
  refine Hd.seq (fun K2 hK2 => ?_)
  refine Hd.region ?_
  refine Hd.yv (y_move rfl) ?_
  first | (refine Hd.yv (y_eql_pointer Tryd.underlying39 rfl rfl) ?_) | (refine Hd.yv (y_eql_one Tryd.underlying39 sz104 rfl rfl rfl) ?_)
  refine Hd.yv (y_move rfl) ?_
  refine Hd.yg rfl rfl (y_move rfl) ?_
  refine Hd.yg rfl rfl (y_nilp rfl) ?_
  first | (refine Hd.yg rfl rfl (y_field' (q := 0) (ft := 27) Tryd.underlying104 rfl sz27 rfl rfl) ?_) | (refine Hd.yg rfl rfl (y_fieldR (q := 0) (ft := 27) Tryd.underlying104 rfl sz27 rfl rfl) ?_)
  first | (refine Hd.yg rfl rfl (y_load1 ag27 rfl (Rd.pt1 pkk (by (first | rfl)))) ?_) | (refine Hd.yg rfl rfl (y_load1 ag27 rfl (Rd.seg1 pkk (by (first | rfl)))) ?_) | (refine Hd.yg rfl rfl (y_loadR1 ag27 rfl (by (first | exact RdS.own pkk)) (by (first | rfl))) ?_)
  first | (refine Hd.yg rfl rfl (y_eql_pointer Tryd.underlying27 rfl rfl) ?_) | (refine Hd.yg rfl rfl (y_eql_one Tryd.underlying27 sz117 rfl rfl rfl) ?_)
  first | (refine Hd.yv (y_pickT rfl rfl) ?_) | (refine Hd.yv (y_pickF rfl rfl) ?_) | (refine Hd.yv (y_pickb rfl rfl rfl) ?_) | (refine Hd.yv (y_pick rfl rfl rfl) ?_)
  refine Hd.yv (y_assign rfl) ?_
  refine Hd.nil ?_
  refine Hd.slots [(2, _)] ⟨rfl, trivial⟩ ?_
  refine Hd.toK hK2 ?_
  refine Hd.ret ?_
  clear hK1 hK2
  exact Hd.ret1 rfl () (by first | rfl | (simp only [*]; done) | (simp [*]; done)) (Ent.sep enn)
set_option maxHeartbeats 2000000 in
theorem may_ct (L : List SP) (b wb : Nat) (fd : Int) (s : Int) : Ct Tryd.prog 48 #[.pointer (some ⟨b, 0, none⟩), .int .i64 s] (BfH b wb fd :: L) (fun _ : Unit => .int .i64 (if bits .andNot .i64 s 6 = 0 then 0 else 2)) (fun _ : Unit => BfH b wb fd :: L) := by
  refine Ct.of (vs := [.pointer (some ⟨b, 0, none⟩), .int .i64 s]) Tryd.func48 rfl rfl [(0, .pointer (some ⟨b, 0, none⟩)), (1, .int .i64 s)] (by repeat (first | exact trivial | refine ⟨rfl, ?_⟩)) ?_
  intro E
  show Hd E 12 _ _ _ _
  refine Hd.seq (fun K1 hK1 => ?_)
  refine Hd.region ?_
  refine Hd.yv (y_assign rfl) ?_
  refine Hd.nil ?_
  refine Hd.slots [(0, _), (1, _)] ⟨rfl, rfl, trivial⟩ ?_
  refine Hd.toK hK1 ?_
  refine Hd.seq (fun K2 hK2 => ?_)
  refine Hd.block ?_
  refine Hd.seq (fun K3 hK3 => ?_)
  refine Hd.region ?_
  refine Hd.yv (y_move rfl) ?_
  refine Hd.callE rfl fk37 (bnone_ct _ b wb fd) (Ent.sep enn) ?_
  intro _
  refine Hd.yv (y_assign rfl) ?_
  refine Hd.nil ?_
  refine Hd.slots [(1, _), (5, _)] ⟨rfl, rfl, trivial⟩ ?_
  refine Hd.toK hK3 ?_
  refine Hd.condF rfl ?_
  refine Hd.seq (fun K4 hK4 => ?_)
  refine Hd.region ?_
  refine Hd.yv (y_move rfl) ?_
  refine Hd.yv (y_andNot rfl rfl) ?_
  refine Hd.yv (y_neq rfl rfl) ?_
  refine Hd.yv (y_assign rfl) ?_
  refine Hd.nil ?_
  refine Hd.slots [(8, _)] ⟨rfl, trivial⟩ ?_
  refine Hd.toK hK4 ?_
  refine Hd.cond rfl (fun hc1 => ?_) (fun hc1 => ?_)
  ·
    try simp only [decide_eq_true_eq, decide_eq_false_iff_not, Bool.and_eq_true, Bool.or_eq_true, Bool.and_eq_false_iff, Bool.or_eq_false_iff, Bool.not_eq_true', Bool.not_eq_false', Bool.not_eq_true, Bool.not_eq_false, Int.not_lt, Int.not_le, Decidable.not_not, ne_eq] at hc1
    refine Hd.seq (fun K5 hK5 => ?_)
    refine Hd.region ?_
    refine Hd.yv (y_assign rfl) ?_
    refine Hd.nil ?_
    refine Hd.slots [(4, _)] ⟨rfl, trivial⟩ ?_
    refine Hd.toK hK5 ?_
    refine Hd.ret ?_
    refine Hd.inBret ?_
    refine Hd.thenRet ?_
    clear hK1 hK2 hK3 hK4 hK5
    exact Hd.ret1 rfl () (by rw [if_neg hc1]; rfl) (Ent.sep enn)
  ·
    try simp only [decide_eq_true_eq, decide_eq_false_iff_not, Bool.and_eq_true, Bool.or_eq_true, Bool.and_eq_false_iff, Bool.or_eq_false_iff, Bool.not_eq_true', Bool.not_eq_false', Bool.not_eq_true, Bool.not_eq_false, Int.not_lt, Int.not_le, Decidable.not_not, ne_eq] at hc1
    refine Hd.skip ?_
    refine Hd.inB ?_
    refine Hd.toK hK2 ?_
    refine Hd.seq (fun K6 hK6 => ?_)
    refine Hd.region ?_
    refine Hd.yv (y_assign rfl) ?_
    refine Hd.nil ?_
    refine Hd.slots [(4, _)] ⟨rfl, trivial⟩ ?_
    refine Hd.toK hK6 ?_
    refine Hd.ret ?_
    clear hK1 hK2 hK3 hK4 hK6
    exact Hd.ret1 rfl () (by rw [if_pos hc1]; rfl) (Ent.sep enn)
set_option maxHeartbeats 2000000 in
theorem some_ct (L : List SP) (p : Option Addr) (mask : Int) : Ct Tryd.prog 49 #[.pointer p, .int .i64 mask] (L) (fun q_ : Nat × Nat => .func (.func 77) #[] #[.pointer (some ⟨q_.2, 0, none⟩), .pointer (some ⟨q_.1, 0, none⟩)]) (fun q_ : Nat × Nat => pt q_.1 [.pointer p] 39 :: pt q_.2 [.int .i64 mask] 3 :: L) := by
  refine Ct.of (vs := [.pointer p, .int .i64 mask]) Tryd.func49 rfl rfl [(0, .pointer p), (1, .int .i64 mask)] (by repeat (first | exact trivial | refine ⟨rfl, ?_⟩)) ?_
  intro E
  show Hd E 6 _ _ _ _
  refine Hd.seq (fun K1 hK1 => ?_)
  refine Hd.region ?_
  refine Hd.box rfl rfl (fun b2 => ?_)
  refine Hd.box rfl rfl (fun b3 => ?_)
  refine Hd.yv (y_assign rfl) ?_
  refine Hd.nil ?_
  refine Hd.slots [(2, _), (3, _)] ⟨rfl, rfl, trivial⟩ ?_
  refine Hd.toK hK1 ?_
  refine Hd.seq (fun K2 hK2 => ?_)
  refine Hd.region ?_
  refine Hd.yv (y_mkf (fv := []) (cv := [_, _]) rfl rfl) ?_
  refine Hd.yv (y_assign rfl) ?_
  refine Hd.nil ?_
  refine Hd.slots [(4, _)] ⟨rfl, trivial⟩ ?_
  refine Hd.toK hK2 ?_
  refine Hd.ret ?_
  clear hK1 hK2
  exact Hd.ret1 rfl (b2, b3) rfl (Ent.sep enn)
abbrev encK (b : Nat) (k : Nat) : List Value := [.int .i64 (k : Int), .pointer (some ⟨b, 2 + k * 8, none⟩)]
theorem range_pre (f : Nat → Bool) {i : Nat} (h : i ≤ 2) : (List.range i).filter f <+: [0, 1].filter f := by
  have := range_prefix f (m := 2) h
  exact this
theorem some_it (b bb bm : Nat) (mask : Int) : RX.It Tryd.prog 77 [.pointer (some ⟨bm, 0, none⟩), .pointer (some ⟨bb, 0, none⟩)] (encK b) (fun ys => ys = sidesA mask) (fun ys => ys <+: sidesA mask)
    [pt bb [.pointer (some ⟨b, 0, none⟩)] 39, pt bm [.int .i64 mask] 3] [] := by
  intro l J X hy
  refine Ct.of (vs := [.func (.yield l) #[] #[], .pointer (some ⟨bm, 0, none⟩), .pointer (some ⟨bb, 0, none⟩)]) Tryd.func77 rfl rfl [(0, .func (.yield l) #[] #[]), (1, .pointer (some ⟨bm, 0, none⟩)), (2, .pointer (some ⟨bb, 0, none⟩))] ⟨rfl, rfl, rfl, trivial⟩ ?_
  intro E
  show Hd E 23 _ _ _ _
  refine Hd.heap (pt bb [.pointer (some ⟨b, 0, none⟩)] 39 :: pt bm [.int .i64 mask] 3 :: J []) (fun k h => by have := sep_app h; exact this) ?_
  refine Hd.scope ?_
  refine Hd.seq (fun K1 hK1 => ?_)
  refine Hd.label ?_
  refine Hd.toK hK1 ?_
  refine Hd.seq (fun K2 hK2 => ?_)
  refine Hd.region ?_
  refine Hd.yv (y_move rfl) ?_
  refine Hd.nil ?_
  refine Hd.slots [(0, _), (1, _), (2, _), (5, _)] ⟨rfl, rfl, rfl, rfl, trivial⟩ ?_
  refine Hd.toK hK2 ?_
  refine Hd.block ?_
  refine Hd.loopK (ι := Nat) [(0, _), (1, _), (2, _)] (fun i => [(5, .int .i64 (i : Int))]) (fun i => pu (i ≤ 2) :: pt bb [.pointer (some ⟨b, 0, none⟩)] 39 :: pt bm [.int .i64 mask] 3 :: J ((List.range i).filter (hasA mask))) (fun i => 2 - i) 0 (by repeat (first | exact trivial | refine ⟨rfl, ?_⟩)) (by repeat (first | exact trivial | refine ⟨rfl, ?_⟩)) (Ent.sep (.pure (by first | omega | (simp; done) | (simp; omega) | exact ⟨by simp, by simp⟩) enn)) ?_
  intro i
  try dsimp only
  refine Hd.pure (fun hp0 => ?_)
  try dsimp only at hp0
  refine Hd.seq (fun K3 hK3 => ?_)
  refine Hd.region ?_
  refine Hd.yv (y_lss rfl rfl) ?_
  refine Hd.nil ?_
  refine Hd.slots [(0, _), (1, _), (2, _), (5, _), (6, _)] ⟨rfl, rfl, rfl, rfl, rfl, trivial⟩ ?_
  refine Hd.toK hK3 ?_
  refine Hd.seq (fun K4 hK4 => ?_)
  refine Hd.cond rfl (fun hc0 => ?_) (fun hc0 => ?_)
  ·
    try simp only [decide_eq_true_eq, decide_eq_false_iff_not, Bool.and_eq_true, Bool.or_eq_true, Bool.and_eq_false_iff, Bool.or_eq_false_iff, Bool.not_eq_true', Bool.not_eq_false', Bool.not_eq_true, Bool.not_eq_false, Int.not_lt, Int.not_le, Decidable.not_not, ne_eq] at hc0
    have hi : i < 2 := by omega
    have hsf := range_succ_filter (hasA mask) i
    refine Hd.skip ?_
    refine Hd.toK hK4 ?_
    refine Hd.seq (fun K5 hK5 => ?_)
    refine Hd.block ?_
    refine Hd.seq (fun K6 hK6 => ?_)
    refine Hd.region ?_
    refine Hd.yv (y_move rfl) ?_
    refine Hd.yv (y_assign rfl) ?_
    refine Hd.nil ?_
    refine Hd.slots [(0, _), (1, _), (2, _), (4, _), (5, _)] ⟨rfl, rfl, rfl, rfl, rfl, trivial⟩ ?_
    refine Hd.toK hK6 ?_
    refine Hd.seq (fun K7 hK7 => ?_)
    refine Hd.seq (fun K8 hK8 => ?_)
    refine Hd.drawsH ([pt bm [.int .i64 mask] 3]) (fun _ => true) mixed ?_
    simp only [List.length, Nat.zero_add, Nat.reduceAdd]
    first | (refine Hd.takeH 0 rfl (by kernel_rfl) (by kernel_rfl) (by kernel_rfl) (by kernel_rfl) (y_load1 ag3 rfl (Rd.pt1 pkk (by (first | rfl)))) (fun _ _ => rfl) (Ent.sep enn) ?_) | (refine Hd.takeH 0 rfl (by kernel_rfl) (by kernel_rfl) (by kernel_rfl) (by kernel_rfl) (y_load1 ag3 rfl (Rd.seg1 pkk (by (first | rfl)))) (fun _ _ => rfl) (Ent.sep enn) ?_) | (refine Hd.takeH 0 rfl (by kernel_rfl) (by kernel_rfl) (by kernel_rfl) (by kernel_rfl) (y_loadR1 ag3 rfl (by (first | exact RdS.own pkk)) (by (first | rfl))) (fun _ _ => rfl) (Ent.sep enn) ?_)
    refine Hd.takeH 1 rfl (by kernel_rfl) (by kernel_rfl) (by kernel_rfl) (by kernel_rfl) (y_move rfl) (fun _ _ => rfl) (Ent.sep enn) ?_
    refine Hd.onlyH 2 rfl (by kernel_rfl) ?_
    refine Hd.callE rfl fk54 (flag_ct _ i) (Ent.sep enn) ?_
    intro _
    refine Hd.nil ?_
    refine Hd.thenN ?_
    refine Hd.heldK (J := (fun _ => true)) (i := 2) (Ent.sep enn) ?_
    refine Hd.takeH 3 rfl (by kernel_rfl) (by kernel_rfl) (by kernel_rfl) (by kernel_rfl) (y_and rfl rfl) (fun _ _ => rfl) (Ent.sep enn) ?_
    first | (refine Hd.takeH 4 rfl (by kernel_rfl) (by kernel_rfl) (by kernel_rfl) (by kernel_rfl) (y_eqlT rfl rfl) (fun _ _ => rfl) (Ent.sep enn) ?_) | (refine Hd.takeH 4 rfl (by kernel_rfl) (by kernel_rfl) (by kernel_rfl) (by kernel_rfl) (y_eql rfl rfl) (fun _ _ => rfl) (Ent.sep enn) ?_)
    refine Hd.endH (by kernel_rfl) ?_
    refine Hd.slots [(0, _), (1, _), (2, _), (4, _), (5, _), (12, _)] ⟨rfl, rfl, rfl, rfl, rfl, rfl, trivial⟩ ?_
    refine Hd.toK hK8 ?_
    refine Hd.cond rfl (fun hc1 => ?_) (fun hc1 => ?_)
    ·
      try simp only [decide_eq_true_eq, decide_eq_false_iff_not, Bool.and_eq_true, Bool.or_eq_true, Bool.and_eq_false_iff, Bool.or_eq_false_iff, Bool.not_eq_true', Bool.not_eq_false', Bool.not_eq_true, Bool.not_eq_false, Int.not_lt, Int.not_le, Decidable.not_not, ne_eq] at hc1
      rw [if_neg (by unfold hasA; rw [hc1]; simp)] at hsf
      refine Hd.exit ?_
      refine Hd.thenExit ?_
      refine Hd.inBexit ?_
      refine Hd.toK hK5 ?_
      refine Hd.region ?_
      first | (refine Hd.yv (y_addn rfl rfl (by simp only [InK]; omega)) ?_) | (refine Hd.yv (y_add rfl rfl) ?_)
      refine Hd.yv (y_move rfl) ?_
      refine Hd.nil ?_
      refine Hd.slots [(0, _), (1, _), (2, _), (5, _)] ⟨rfl, rfl, rfl, rfl, trivial⟩ ?_
      clear hK1 hK2 hK3 hK4 hK5 hK6 hK7 hK8
      refine Hd.thenN ?_
      rw [← hsf]
      exact Hd.again (i + 1) (by first | omega | (simp only; omega) | (simp; omega)) (by repeat (first | exact trivial | refine ⟨rfl, ?_⟩)) (Ent.sep (.pure (by first | omega | (simp; done) | (simp; omega) | (dsimp only; omega)) enn))
    ·
      try simp only [decide_eq_true_eq, decide_eq_false_iff_not, Bool.and_eq_true, Bool.or_eq_true, Bool.and_eq_false_iff, Bool.or_eq_false_iff, Bool.not_eq_true', Bool.not_eq_false', Bool.not_eq_true, Bool.not_eq_false, Int.not_lt, Int.not_le, Decidable.not_not, ne_eq] at hc1
      rw [if_pos (by unfold hasA; simpa using hc1)] at hsf
      have hpr : (List.range i).filter (hasA mask) ++ [i] <+: sidesA mask := by rw [← hsf]; exact range_pre _ (by omega)
      refine Hd.skip ?_
      refine Hd.toK hK7 ?_
      refine Hd.seq (fun K9 hK9 => ?_)
      refine Hd.region ?_
      refine Hd.yv (y_move rfl) ?_
      refine Hd.yv (y_move rfl) ?_
      first | (refine Hd.yv (y_load1 ag39 rfl (Rd.pt1 pkk (by (first | rfl)))) ?_) | (refine Hd.yv (y_load1 ag39 rfl (Rd.seg1 pkk (by (first | rfl)))) ?_) | (refine Hd.yv (y_loadR1 ag39 rfl (by (first | exact RdS.own pkk)) (by (first | rfl))) ?_)
      refine Hd.yv (y_move rfl) ?_
      refine Hd.yv (y_nilp rfl) ?_
      first | (refine Hd.yv (y_field' (q := 2) (ft := 102) Tryd.underlying104 rfl sz102 rfl rfl) ?_) | (refine Hd.yv (y_fieldR (q := 2) (ft := 102) Tryd.underlying104 rfl sz102 rfl rfl) ?_)
      refine Hd.yv (y_idxA Tryd.underlying102 sz101 rfl rfl (by first | omega | decide)) ?_
      refine Hd.yield (pre := (List.range i).filter (hasA mask)) (c := i) (M := [pt bb [.pointer (some ⟨b, 0, none⟩)] 39, pt bm [.int .i64 mask] 3]) hy rfl rfl hpr (fun k' h => sep_app (show sep ([pt bb [.pointer (some ⟨b, 0, none⟩)] 39, pt bm [.int .i64 mask] 3] ++ J ((List.range i).filter (hasA mask))) k' from h)) ?_
      intro yb
      refine Hd.yv (y_not rfl) ?_
      refine Hd.nil ?_
      refine Hd.slots [(0, _), (1, _), (2, _), (5, _), (21, _)] ⟨rfl, rfl, rfl, rfl, rfl, trivial⟩ ?_
      refine Hd.toK hK9 ?_
      refine Hd.cond rfl (fun hc2 => ?_) (fun hc2 => ?_)
      ·
        try simp only [decide_eq_true_eq, decide_eq_false_iff_not, Bool.and_eq_true, Bool.or_eq_true, Bool.and_eq_false_iff, Bool.or_eq_false_iff, Bool.not_eq_true', Bool.not_eq_false', Bool.not_eq_true, Bool.not_eq_false, Int.not_lt, Int.not_le, Decidable.not_not, ne_eq] at hc2
        subst hc2
        simp only [cond_false]
        refine Hd.ret ?_
        refine Hd.inBret ?_
        refine Hd.thenRet ?_
        refine Hd.thenRet ?_
        refine Hd.inBret ?_
        refine Hd.scRet ?_
        clear hK1 hK2 hK3 hK4 hK5 hK6 hK7 hK8 hK9
        exact Hd.ret0 rfl ((List.range i).filter (hasA mask) ++ [i], false) rfl (fun k' h => Ent.sep (.pure hpr .same) k' (sep_right (fun k s => Ent.sep Ent.nil k s) h))
      ·
        try simp only [decide_eq_true_eq, decide_eq_false_iff_not, Bool.and_eq_true, Bool.or_eq_true, Bool.and_eq_false_iff, Bool.or_eq_false_iff, Bool.not_eq_true', Bool.not_eq_false', Bool.not_eq_true, Bool.not_eq_false, Int.not_lt, Int.not_le, Decidable.not_not, ne_eq] at hc2
        subst hc2
        simp only [cond_true]
        refine Hd.heap (pt bb [.pointer (some ⟨b, 0, none⟩)] 39 :: pt bm [.int .i64 mask] 3 :: J ((List.range i).filter (hasA mask) ++ [i])) (fun k' h => sep_app h) ?_
        rw [← hsf]
        refine Hd.skip ?_
        refine Hd.inB ?_
        refine Hd.toK hK5 ?_
        refine Hd.region ?_
        first | (refine Hd.yv (y_addn rfl rfl (by simp only [InK]; omega)) ?_) | (refine Hd.yv (y_add rfl rfl) ?_)
        refine Hd.yv (y_move rfl) ?_
        refine Hd.nil ?_
        refine Hd.slots [(0, _), (1, _), (2, _), (5, _)] ⟨rfl, rfl, rfl, rfl, trivial⟩ ?_
        clear hK1 hK2 hK3 hK4 hK5 hK6 hK7 hK8 hK9
        refine Hd.thenN ?_
        exact Hd.again (i + 1) (by first | omega | (simp only; omega) | (simp; omega)) (by repeat (first | exact trivial | refine ⟨rfl, ?_⟩)) (Ent.sep (.pure (by first | omega | (simp; done) | (simp; omega) | (dsimp only; omega)) enn))
  ·
    try simp only [decide_eq_true_eq, decide_eq_false_iff_not, Bool.and_eq_true, Bool.or_eq_true, Bool.and_eq_false_iff, Bool.or_eq_false_iff, Bool.not_eq_true', Bool.not_eq_false', Bool.not_eq_true, Bool.not_eq_false, Int.not_lt, Int.not_le, Decidable.not_not, ne_eq] at hc0
    refine Hd.exit ?_
    refine Hd.thenExit ?_
    refine Hd.thenExit ?_
    refine Hd.inBexit ?_
    refine Hd.scNorm ?_
    clear hK1 hK2 hK3 hK4
    obtain rfl : i = 2 := by omega
    exact Hd.end0 rfl (sidesA mask, true) rfl (fun k' h => Ent.sep (.pure rfl .same) k' (sep_app (M := []) (N := J (sidesA mask)) (Ent.sep enn k' h)))
end Bu
end Go.Proofs.YtmpemhbfgbochaaDoor
namespace Go.Proofs.YtmpemhbfgbochaaDoor
set_option linter.unusedSimpArgs false
set_option linter.unusedVariables false
set_option linter.unnecessarySimpa false
open Go.RX Fx
namespace Bu
open Wo
set_option maxRecDepth 8000
abbrev NV : Int := 18446744073709551615
def dl (now after : Int) : Int := if 18446744073709551615 - now < after then 18446744073709551615 else now + after
set_option maxHeartbeats 2000000 in
theorem dl_ct (L : List SP) (now after : Int) (hn : InK .u64 now) (ha : InK .u64 after) : Ct Tryd.prog 69 #[.int .u64 now, .int .u64 after] (L) (fun _ : Unit => .int .u64 (dl now after)) (fun _ : Unit => L) := by
  refine Ct.of (vs := [.int .u64 now, .int .u64 after]) Tryd.func69 rfl rfl [(0, .int .u64 now), (1, .int .u64 after)] (by repeat (first | exact trivial | refine ⟨rfl, ?_⟩)) ?_
  intro E
  show Hd E 12 _ _ _ _
  simp only [InK] at hn ha
  refine Hd.seq (fun K1 hK1 => ?_)
  refine Hd.region ?_
  refine Hd.yv (y_assign rfl) ?_
  refine Hd.nil ?_
  refine Hd.slots [(0, _), (1, _)] ⟨rfl, rfl, trivial⟩ ?_
  refine Hd.toK hK1 ?_
  refine Hd.seq (fun K2 hK2 => ?_)
  refine Hd.seq (fun K3 hK3 => ?_)
  refine Hd.region ?_
  refine Hd.yv (y_move rfl) ?_
  refine Hd.yv (y_move rfl) ?_
  first | (refine Hd.yv (y_subn rfl rfl (by simp only [InK]; omega)) ?_) | (refine Hd.yv (y_sub rfl rfl) ?_)
  refine Hd.yv (y_gtr rfl rfl) ?_
  refine Hd.nil ?_
  refine Hd.slots [(0, _), (1, _), (8, _)] ⟨rfl, rfl, rfl, trivial⟩ ?_
  refine Hd.toK hK3 ?_
  refine Hd.cond rfl (fun hc0 => ?_) (fun hc0 => ?_)
  ·
    try simp only [decide_eq_true_eq, decide_eq_false_iff_not, Bool.and_eq_true, Bool.or_eq_true, Bool.and_eq_false_iff, Bool.or_eq_false_iff, Bool.not_eq_true', Bool.not_eq_false', Bool.not_eq_true, Bool.not_eq_false, Int.not_lt, Int.not_le, Decidable.not_not, ne_eq] at hc0
    refine Hd.seq (fun K4 hK4 => ?_)
    refine Hd.region ?_
    refine Hd.yv (y_assign rfl) ?_
    refine Hd.nil ?_
    refine Hd.slots [(4, _)] ⟨rfl, trivial⟩ ?_
    refine Hd.toK hK4 ?_
    refine Hd.ret ?_
    refine Hd.thenRet ?_
    clear hK1 hK2 hK3 hK4
    exact Hd.ret1 rfl () (by unfold dl; rw [if_pos (by omega)]; rfl) (Ent.sep enn)
  ·
    try simp only [decide_eq_true_eq, decide_eq_false_iff_not, Bool.and_eq_true, Bool.or_eq_true, Bool.and_eq_false_iff, Bool.or_eq_false_iff, Bool.not_eq_true', Bool.not_eq_false', Bool.not_eq_true, Bool.not_eq_false, Int.not_lt, Int.not_le, Decidable.not_not, ne_eq] at hc0
    refine Hd.skip ?_
    refine Hd.toK hK2 ?_
    refine Hd.seq (fun K5 hK5 => ?_)
    refine Hd.region ?_
    refine Hd.yv (y_move rfl) ?_
    refine Hd.yv (y_move rfl) ?_
    first | (refine Hd.yv (y_addn rfl rfl (by simp only [InK]; omega)) ?_) | (refine Hd.yv (y_add rfl rfl) ?_)
    refine Hd.yv (y_assign rfl) ?_
    refine Hd.nil ?_
    refine Hd.slots [(4, _)] ⟨rfl, trivial⟩ ?_
    refine Hd.toK hK5 ?_
    refine Hd.ret ?_
    clear hK1 hK2 hK3 hK5
    exact Hd.ret1 rfl () (by unfold dl; rw [if_neg (by omega)]; rfl) (Ent.sep enn)
def BfA.up (x : BfA) (k : Nat) (f : SdA → SdA) : BfA := { x with s := fun j => if j = k then f (x.s j) else x.s j }
theorem bup_at (x : BfA) (k : Nat) (f : SdA → SdA) : (x.up k f).s k = f (x.s k) := if_pos rfl
theorem bup_ne (x : BfA) {k j : Nat} (f : SdA → SdA) (h : j ≠ k) : (x.up k f).s j = x.s j := if_neg h
def atV (s : SdA) (k : Nat) (now : Int) : Int := if ((s.on && decide (s.after ≠ 0)) && (decide ((k : Int) = 0) || decide ((s.c.length : Int) > 0))) = true then dl now s.after else NV
abbrev setA (k : Nat) (now : Int) (s : SdA) : SdA := { s with at_ := atV s k now }
set_option maxHeartbeats 2000000 in
theorem set_ct (L : List SP) (b k : Nat) (hk : k < 2) (s : SdA) (now : Int) (hn : InK .u64 now) (ha : InK .u64 s.after) : Ct Tryd.prog 50 #[.pointer (some ⟨b, 0, none⟩), .int .i64 (k : Int), .int .u64 now] (SdL b k s L) (fun _ : Unit => .tuple #[]) (fun _ : Unit => SdL b k (setA k now s) L) := by
  refine Ct.of (vs := [.pointer (some ⟨b, 0, none⟩), .int .i64 (k : Int), .int .u64 now]) Tryd.func50 rfl rfl [(0, .pointer (some ⟨b, 0, none⟩)), (1, .int .i64 (k : Int)), (2, .int .u64 now)] (by repeat (first | exact trivial | refine ⟨rfl, ?_⟩)) ?_
  intro E
  show Hd E 46 _ _ _ _
  refine Hd.seq (fun K1 hK1 => ?_)
  refine Hd.region ?_
  refine Hd.yv (y_move rfl) ?_
  refine Hd.yv (y_move rfl) ?_
  refine Hd.yv (y_nilp rfl) ?_
  first | (refine Hd.yv (y_field' (q := 2) (ft := 102) Tryd.underlying104 rfl sz102 rfl rfl) ?_) | (refine Hd.yv (y_fieldR (q := 2) (ft := 102) Tryd.underlying104 rfl sz102 rfl rfl) ?_)
  refine Hd.yv (y_idxA Tryd.underlying102 sz101 rfl rfl (by first | omega | decide)) ?_
  refine Hd.yv (y_assign rfl) ?_
  refine Hd.nil ?_
  refine Hd.slots [(1, _), (2, _), (6, _)] ⟨rfl, rfl, rfl, trivial⟩ ?_
  refine Hd.toK hK1 ?_
  refine Hd.seq (fun K2 hK2 => ?_)
  refine Hd.region ?_
  refine Hd.yv (y_move rfl) ?_
  refine Hd.yv (y_nilp rfl) ?_
  first | (refine Hd.yv (y_field' (q := 7) (ft := 22) Tryd.underlying101 rfl sz22 rfl rfl) ?_) | (refine Hd.yv (y_fieldR (q := 7) (ft := 22) Tryd.underlying101 rfl sz22 rfl rfl) ?_)
  first | (refine Hd.store1 sz22 rfl rfl rfl pkk (by first | decide | (simp; done) | (simp; omega)) ?_) | (refine Hd.storeG1 sz22 rfl rfl rfl pkk (by first | decide | (simp; done) | (simp; omega)) ?_) | (refine Hd.storeO1 sz22 rfl rfl rfl pkk (by first | omega | (simp; done) | (simp; omega)) ?_) | (refine Hd.storeK1 sz22 rfl rfl rfl pkk (by decide) (by first | decide | (simp; done) | (simp; omega)) ?_)
  try simp only [List.set_cons_zero, List.set_cons_succ]
  refine Hd.nil ?_
  refine Hd.slots [(1, _), (2, _), (6, _)] ⟨rfl, rfl, rfl, trivial⟩ ?_
  refine Hd.toK hK2 ?_
  refine Hd.seq (fun K3 hK3 => ?_)
  refine Hd.region ?_
  refine Hd.yv (y_move rfl) ?_
  refine Hd.yv (y_nilp rfl) ?_
  first | (refine Hd.yv (y_field' (q := 2) (ft := 4) Tryd.underlying101 rfl sz4 rfl rfl) ?_) | (refine Hd.yv (y_fieldR (q := 2) (ft := 4) Tryd.underlying101 rfl sz4 rfl rfl) ?_)
  first | (refine Hd.yv (y_load1 ag4 rfl (Rd.pt1 pkk (by (first | rfl)))) ?_) | (refine Hd.yv (y_load1 ag4 rfl (Rd.seg1 pkk (by (first | rfl)))) ?_) | (refine Hd.yv (y_load1 ag4 rfl (Rd.segK1 pkk (by decide) (by (first | rfl)))) ?_) | (refine Hd.yv (y_loadR1 ag4 rfl (by (first | exact RdS.own pkk)) (by (first | rfl))) ?_)
  refine Hd.yv (y_move rfl) ?_
  apply Hd.andg 6 19 25 [(1, _), (2, _), (6, _)] rfl ⟨rfl, rfl, rfl, trivial⟩
  · intro hg2_19
    try simp only [decide_eq_true_eq, decide_eq_false_iff_not, Bool.and_eq_true, Bool.or_eq_true, Bool.and_eq_false_iff, Bool.or_eq_false_iff, Bool.not_eq_true', Bool.not_eq_false', Bool.not_eq_true, Bool.not_eq_false, Int.not_lt, Int.not_le, Decidable.not_not, ne_eq] at hg2_19
    simp only [List.take]
    refine Hd.yg rfl rfl (y_move rfl) ?_
    refine Hd.yg rfl rfl (y_nilp rfl) ?_
    first | (refine Hd.yg rfl rfl (y_field' (q := 6) (ft := 22) Tryd.underlying101 rfl sz22 rfl rfl) ?_) | (refine Hd.yg rfl rfl (y_fieldR (q := 6) (ft := 22) Tryd.underlying101 rfl sz22 rfl rfl) ?_)
    first | (refine Hd.yg rfl rfl (y_load1 ag22 rfl (Rd.pt1 pkk (by (first | rfl)))) ?_) | (refine Hd.yg rfl rfl (y_load1 ag22 rfl (Rd.seg1 pkk (by (first | rfl)))) ?_) | (refine Hd.yg rfl rfl (y_load1 ag22 rfl (Rd.segK1 pkk (by decide) (by (first | rfl)))) ?_) | (refine Hd.yg rfl rfl (y_loadR1 ag22 rfl (by (first | exact RdS.own pkk)) (by (first | rfl))) ?_)
    refine Hd.yg rfl rfl (y_neq rfl rfl) ?_
    first | (refine Hd.yv (y_pickT rfl rfl) ?_) | (refine Hd.yv (y_pickF rfl rfl) ?_) | (refine Hd.yv (y_pickb rfl rfl rfl) ?_) | (refine Hd.yv (y_pick rfl rfl rfl) ?_)
    refine Hd.nil ?_
    exact Hd.mend (by repeat (first | exact trivial | refine ⟨rfl, ?_⟩)) (Ent.sep enn)
  · intro hg2_19
    try simp only [decide_eq_true_eq, decide_eq_false_iff_not, Bool.and_eq_true, Bool.or_eq_true, Bool.and_eq_false_iff, Bool.or_eq_false_iff, Bool.not_eq_true', Bool.not_eq_false', Bool.not_eq_true, Bool.not_eq_false, Int.not_lt, Int.not_le, Decidable.not_not, ne_eq] at hg2_19
    simp only [List.take]
    refine Hd.ng rfl rfl rfl ?_
    refine Hd.ng rfl rfl rfl ?_
    refine Hd.ng rfl rfl rfl ?_
    refine Hd.ng rfl rfl rfl ?_
    refine Hd.ng rfl rfl rfl ?_
    first | (refine Hd.yv (y_pickT rfl rfl) ?_) | (refine Hd.yv (y_pickF rfl rfl) ?_) | (refine Hd.yv (y_pickb rfl rfl rfl) ?_) | (refine Hd.yv (y_pick rfl rfl rfl) ?_)
    refine Hd.nil ?_
    exact Hd.mend (by repeat (first | exact trivial | refine ⟨rfl, ?_⟩)) (Ent.sep enn)
  simp only [List.drop]
  refine Hd.yv (y_move rfl) ?_
  apply Hd.andg (q := (decide ((k : Int) = 0) || decide ((s.c.length : Int) > 0))) 10 26 36 [(2, _), (6, _)] rfl ⟨rfl, rfl, trivial⟩
  · intro hg2_26
    try simp only [decide_eq_true_eq, decide_eq_false_iff_not, Bool.and_eq_true, Bool.or_eq_true, Bool.and_eq_false_iff, Bool.or_eq_false_iff, Bool.not_eq_true', Bool.not_eq_false', Bool.not_eq_true, Bool.not_eq_false, Int.not_lt, Int.not_le, Decidable.not_not, ne_eq] at hg2_26
    simp only [List.take]
    refine Hd.yg rfl rfl (y_move rfl) ?_
    first | (refine Hd.yg rfl rfl (y_eqlT rfl rfl) ?_) | (refine Hd.yg rfl rfl (y_eql rfl rfl) ?_)
    refine Hd.yg rfl rfl (y_move rfl) ?_
    apply Hd.org 6 29 35 [(2, _), (6, _), (26, _)] rfl ⟨rfl, rfl, rfl, trivial⟩
    · intro hg2_29
      try simp only [decide_eq_true_eq, decide_eq_false_iff_not, Bool.and_eq_true, Bool.or_eq_true, Bool.and_eq_false_iff, Bool.or_eq_false_iff, Bool.not_eq_true', Bool.not_eq_false', Bool.not_eq_true, Bool.not_eq_false, Int.not_lt, Int.not_le, Decidable.not_not, ne_eq] at hg2_29
      simp only [List.take]
      refine Hd.ng rfl rfl rfl ?_
      refine Hd.ng rfl rfl rfl ?_
      refine Hd.ng rfl rfl rfl ?_
      refine Hd.ng rfl rfl rfl ?_
      refine Hd.ng rfl rfl rfl ?_
      first | (refine Hd.yg rfl rfl (y_pickT rfl rfl) ?_) | (refine Hd.yg rfl rfl (y_pickF rfl rfl) ?_) | (refine Hd.yg rfl rfl (y_pickb rfl rfl rfl) ?_) | (refine Hd.yg rfl rfl (y_pick rfl rfl rfl) ?_)
      refine Hd.nil ?_
      exact Hd.mend (by repeat (first | exact trivial | refine ⟨rfl, ?_⟩)) (Ent.sep enn)
    · intro hg2_29
      try simp only [decide_eq_true_eq, decide_eq_false_iff_not, Bool.and_eq_true, Bool.or_eq_true, Bool.and_eq_false_iff, Bool.or_eq_false_iff, Bool.not_eq_true', Bool.not_eq_false', Bool.not_eq_true, Bool.not_eq_false, Int.not_lt, Int.not_le, Decidable.not_not, ne_eq] at hg2_29
      simp only [List.take]
      refine Hd.yg rfl rfl (y_move rfl) ?_
      refine Hd.yg rfl rfl (y_nilp rfl) ?_
      first | (refine Hd.yg rfl rfl (y_field' (q := 0) (ft := 99) Tryd.underlying101 rfl sz99 rfl rfl) ?_) | (refine Hd.yg rfl rfl (y_fieldR (q := 0) (ft := 99) Tryd.underlying101 rfl sz99 rfl rfl) ?_)
      refine Hd.unguard rfl rfl ?_
      refine Hd.callE rfl fk53 (chLen _ b (2 + k * 8 + 0) s.c) (Ent.sep enn) ?_
      intro _
      refine Hd.yg rfl rfl (y_gtr rfl rfl) ?_
      first | (refine Hd.yg rfl rfl (y_pickT rfl rfl) ?_) | (refine Hd.yg rfl rfl (y_pickF rfl rfl) ?_) | (refine Hd.yg rfl rfl (y_pickb rfl rfl rfl) ?_) | (refine Hd.yg rfl rfl (y_pick rfl rfl rfl) ?_)
      refine Hd.nil ?_
      exact Hd.mend (by repeat (first | exact trivial | refine ⟨rfl, ?_⟩)) (Ent.sep enn)
    simp only [List.drop]
    first | (refine Hd.yv (y_pickT rfl rfl) ?_) | (refine Hd.yv (y_pickF rfl rfl) ?_) | (refine Hd.yv (y_pickb rfl rfl rfl) ?_) | (refine Hd.yv (y_pick rfl rfl rfl) ?_)
    refine Hd.nil ?_
    exact Hd.mend (by repeat (first | exact trivial | refine ⟨rfl, ?_⟩)) (Ent.sep enn)
  · intro hg2_26
    try simp only [decide_eq_true_eq, decide_eq_false_iff_not, Bool.and_eq_true, Bool.or_eq_true, Bool.and_eq_false_iff, Bool.or_eq_false_iff, Bool.not_eq_true', Bool.not_eq_false', Bool.not_eq_true, Bool.not_eq_false, Int.not_lt, Int.not_le, Decidable.not_not, ne_eq] at hg2_26
    simp only [List.take]
    refine Hd.ng rfl rfl rfl ?_
    refine Hd.ng rfl rfl rfl ?_
    refine Hd.ng rfl rfl rfl ?_
    refine Hd.ng rfl rfl rfl ?_
    refine Hd.ng rfl rfl rfl ?_
    refine Hd.ng rfl rfl rfl ?_
    refine Hd.ng rfl rfl rfl ?_
    refine Hd.ng rfl rfl rfl ?_
    refine Hd.ng rfl rfl rfl ?_
    first | (refine Hd.yv (y_pickT rfl rfl) ?_) | (refine Hd.yv (y_pickF rfl rfl) ?_) | (refine Hd.yv (y_pickb rfl rfl rfl) ?_) | (refine Hd.yv (y_pick rfl rfl rfl) ?_)
    refine Hd.nil ?_
    exact Hd.mend (by repeat (first | exact trivial | refine ⟨rfl, ?_⟩)) (Ent.sep enn)
  simp only [List.drop]
  refine Hd.nil ?_
  refine Hd.slots [(2, _), (6, _), (36, _)] ⟨rfl, rfl, rfl, trivial⟩ ?_
  refine Hd.toK hK3 ?_
  refine Hd.cond rfl (fun hc0 => ?_) (fun hc0 => ?_)
  ·
    try simp only [decide_eq_true_eq, decide_eq_false_iff_not, Bool.and_eq_true, Bool.or_eq_true, Bool.and_eq_false_iff, Bool.or_eq_false_iff, Bool.not_eq_true', Bool.not_eq_false', Bool.not_eq_true, Bool.not_eq_false, Int.not_lt, Int.not_le, Decidable.not_not, ne_eq] at hc0
    refine Hd.region ?_
    refine Hd.yv (y_move rfl) ?_
    refine Hd.yv (y_move rfl) ?_
    refine Hd.yv (y_move rfl) ?_
    refine Hd.yv (y_nilp rfl) ?_
    first | (refine Hd.yv (y_field' (q := 6) (ft := 22) Tryd.underlying101 rfl sz22 rfl rfl) ?_) | (refine Hd.yv (y_fieldR (q := 6) (ft := 22) Tryd.underlying101 rfl sz22 rfl rfl) ?_)
    first | (refine Hd.yv (y_load1 ag22 rfl (Rd.pt1 pkk (by (first | rfl)))) ?_) | (refine Hd.yv (y_load1 ag22 rfl (Rd.seg1 pkk (by (first | rfl)))) ?_) | (refine Hd.yv (y_load1 ag22 rfl (Rd.segK1 pkk (by decide) (by (first | rfl)))) ?_) | (refine Hd.yv (y_loadR1 ag22 rfl (by (first | exact RdS.own pkk)) (by (first | rfl))) ?_)
    refine Hd.callE rfl fk69 (dl_ct _ now s.after hn ha) (Ent.sep enn) ?_
    intro _
    refine Hd.yv (y_nilp rfl) ?_
    first | (refine Hd.yv (y_field' (q := 7) (ft := 22) Tryd.underlying101 rfl sz22 rfl rfl) ?_) | (refine Hd.yv (y_fieldR (q := 7) (ft := 22) Tryd.underlying101 rfl sz22 rfl rfl) ?_)
    first | (refine Hd.store1 sz22 rfl rfl rfl pkk (by first | decide | (simp; done) | (simp; omega)) ?_) | (refine Hd.storeG1 sz22 rfl rfl rfl pkk (by first | decide | (simp; done) | (simp; omega)) ?_) | (refine Hd.storeO1 sz22 rfl rfl rfl pkk (by first | omega | (simp; done) | (simp; omega)) ?_) | (refine Hd.storeK1 sz22 rfl rfl rfl pkk (by decide) (by first | decide | (simp; done) | (simp; omega)) ?_)
    try simp only [List.set_cons_zero, List.set_cons_succ]
    refine Hd.nil ?_
    refine Hd.slots [] trivial ?_
    clear hK1 hK2 hK3
    have hv : atV s k now = dl now s.after := by unfold atV; rw [if_pos (by simpa [Bool.and_eq_true, Bool.or_eq_true] using hc0)]
    exact Hd.end0 rfl () rfl (Ent.sep (.pick pkk (.eq pkk (segK_eq (show [Value.bool s.on, .bool s.ended, .int .i64 s.low, .int .i64 s.high, .int .u64 s.after, .int .u64 (dl now s.after)] = encS (setA k now s) by rw [← hv])) enn)))
  ·
    try simp only [decide_eq_true_eq, decide_eq_false_iff_not, Bool.and_eq_true, Bool.or_eq_true, Bool.and_eq_false_iff, Bool.or_eq_false_iff, Bool.not_eq_true', Bool.not_eq_false', Bool.not_eq_true, Bool.not_eq_false, Int.not_lt, Int.not_le, Decidable.not_not, ne_eq] at hc0
    refine Hd.skip ?_
    clear hK1 hK2 hK3
    have hv : atV s k now = NV := by
      unfold atV; rw [if_neg]
      intro h
      simp only [Bool.and_eq_true, Bool.or_eq_true, decide_eq_true_eq] at h
      obtain ⟨⟨h1, h2⟩, h3⟩ := h
      rcases hc0 with (h | h) | h
      · rw [h1] at h; cases h
      · exact h2 h
      · omega
    exact Hd.end0 rfl () rfl (Ent.sep (.pick pkk (.eq pkk (segK_eq (show [Value.bool s.on, .bool s.ended, .int .i64 s.low, .int .i64 s.high, .int .u64 s.after, .int .u64 18446744073709551615] = encS (setA k now s) by show _ = [Value.bool s.on, .bool s.ended, .int .i64 s.low, .int .i64 s.high, .int .u64 s.after, Value.int .u64 (atV s k now)]; rw [hv])) enn)))
def s0 (on : Bool) : SdA := ⟨[], on, false, 0, 0, 0, NV⟩
def newB (fd : Int) : BfA := ⟨fun k => s0 (decide (k = 1)), fd⟩
theorem mkSd_sep {b o : Nat} {on : Bool} {vs : List Value} {L : List SP} {k : PH} (s : sep (seg b o ([.slice none 0 0, .int .i64 0] ++ (encS (s0 on) ++ vs)) :: L) k) :
    sep (ChB b (o + 0) [] :: segK b o 2 (encS (s0 on)) :: seg b (o + 8) vs :: L) k := by
  have s2 : sep (seg b o [.slice none 0 0, .int .i64 0] :: seg b (o + 2) (encS (s0 on) ++ vs) :: L) k := seg_split s
  have s3 : sep (seg b o [.slice none 0 0, .int .i64 0] :: seg b (o + 2) (encS (s0 on)) :: seg b (o + 8) vs :: L) k := Ent.imp' .here (fun _ x => x) (fun _ s => seg_split (us := encS (s0 on)) s) s2
  have s5 := Bc.rows_nil s3
  exact Ent.sep (.ex [] (.pure ⟨⟨fun r h => (by cases h), by decide⟩, rfl⟩ (.ex (none, 0) (.pick (.there .here) (.ownNil (.pick .here (.eq .here rfl .same))))))) k s5
theorem Hd.mkBuf {E : World} {n : Nat} {ds : List Deferred} {st : List (Nat × Value)} {L L' : List SP} {K : Act → World → Prop} {b wb : Nat} {fd : Int}
    (p : Pick L (pt b ([.pointer (some ⟨wb, 0, none⟩), .int .i64 fd] ++ ([.slice none 0 0, .int .i64 0] ++ (encS (s0 false) ++ ([.slice none 0 0, .int .i64 0] ++ (encS (s0 true) ++ []))))) 104) L') (h : Hd E n ds st (BufP b wb (newB fd) :: L') K) : Hd E n ds st L K := by
  refine Hd.heap _ (fun k s => ?_) h
  have s1 : sep (seg b 0 [.pointer (some ⟨wb, 0, none⟩), .int .i64 fd] :: seg b 2 ([.slice none 0 0, .int .i64 0] ++ (encS (s0 false) ++ ([.slice none 0 0, .int .i64 0] ++ (encS (s0 true) ++ [])))) :: kd b 18 104 :: L') k := seg_split (pt_open (p.sep s))
  have s2 : sep (seg b 0 [.pointer (some ⟨wb, 0, none⟩), .int .i64 fd] :: ChB b (2 + 0) [] :: segK b 2 2 (encS (s0 false)) :: seg b (2 + 8) ([.slice none 0 0, .int .i64 0] ++ (encS (s0 true) ++ [])) :: kd b 18 104 :: L') k := Ent.imp' .here (fun _ x => x) (fun _ s => mkSd_sep s) s1
  have s3 : sep (seg b 0 [.pointer (some ⟨wb, 0, none⟩), .int .i64 fd] :: ChB b (2 + 0) [] :: segK b 2 2 (encS (s0 false)) :: ChB b (10 + 0) [] :: segK b 10 2 (encS (s0 true)) :: seg b (10 + 8) [] :: kd b 18 104 :: L') k :=
    Ent.imp' .here (fun _ x => x) (fun _ s => Ent.imp' .here (fun _ x => x) (fun _ s => Ent.imp' .here (fun _ x => x) (fun _ s => mkSd_sep s) s) s) s2
  exact Ent.sep (.ex () (.pick (.there (.there (.there (.there (.there (.there .here)))))) (.pick .here (.eq .here rfl (.eq .here rfl (.eq .here rfl (.eq .here rfl (.skip .same)))))))) k s3
set_option maxHeartbeats 2000000 in
theorem bnew_ct (L : List SP) (wb : Nat) (w : WA) (fd : Int) (h : (readyR w fd).op = true) : Ct Tryd.prog 25 #[.pointer (some ⟨wb, 0, none⟩), .int .i64 fd] (WorldP wb w :: L) (fun b : Nat => .tuple #[.pointer (some ⟨b, 0, none⟩), .int .i64 0]) (fun b : Nat => BufP b wb (newB fd) :: WorldP wb w :: L) := by
  refine Ct.of (vs := [.pointer (some ⟨wb, 0, none⟩), .int .i64 fd]) Tryd.func25 rfl rfl [(0, .pointer (some ⟨wb, 0, none⟩)), (1, .int .i64 fd)] (by repeat (first | exact trivial | refine ⟨rfl, ?_⟩)) ?_
  intro E
  show Hd E 36 _ _ _ _
  refine Hd.seq (fun K1 hK1 => ?_)
  refine Hd.region ?_
  refine Hd.yv (y_assign rfl) ?_
  refine Hd.yv (y_assign rfl) ?_
  refine Hd.nil ?_
  refine Hd.slots [(0, _), (1, _)] ⟨rfl, rfl, trivial⟩ ?_
  refine Hd.toK hK1 ?_
  refine Hd.seq (fun K2 hK2 => ?_)
  refine Hd.block ?_
  refine Hd.seq (fun K3 hK3 => ?_)
  refine Hd.region ?_
  refine Hd.yv (y_move rfl) ?_
  first | (refine Hd.yv (y_eql_pointer Tryd.underlying27 rfl rfl) ?_) | (refine Hd.yv (y_eql_one Tryd.underlying27 sz117 rfl rfl rfl) ?_)
  refine Hd.yv (y_assign rfl) ?_
  refine Hd.nil ?_
  refine Hd.slots [(0, _), (1, _), (7, _)] ⟨rfl, rfl, rfl, trivial⟩ ?_
  refine Hd.toK hK3 ?_
  refine Hd.condF rfl ?_
  refine Hd.seq (fun K4 hK4 => ?_)
  refine Hd.region ?_
  refine Hd.yv (y_move rfl) ?_
  refine Hd.yv (y_move rfl) ?_
  refine Hd.callE rfl fk47 (wready_ct _ wb w fd) (Ent.sep enn) ?_
  intro _
  refine Hd.yv (y_to (v' := .bool true) (y_fieldv1 (q := 0) (ft := 4) (cs := encR (readyR w fd)) Tryd.underlying122 rfl ag4 rfl rfl) (by rw [h])) ?_
  refine Hd.yv (y_not rfl) ?_
  refine Hd.yv (y_assign rfl) ?_
  refine Hd.nil ?_
  refine Hd.slots [(0, _), (1, _), (10, _)] ⟨rfl, rfl, rfl, trivial⟩ ?_
  refine Hd.toK hK4 ?_
  refine Hd.condF rfl ?_
  refine Hd.skip ?_
  refine Hd.inB ?_
  refine Hd.toK hK2 ?_
  refine Hd.seq (fun K5 hK5 => ?_)
  refine Hd.region ?_
  refine Hd.yv (y_move rfl) ?_
  refine Hd.yv (y_move rfl) ?_
  refine Hd.yv (y_build (vs := [(0, _), (1, _)]) rfl (by first | exact bd25_18 .. | kernel_rfl)) ?_
  refine Hd.box rfl rfl (fun b19 => ?_)
  refine Hd.yv (y_assign rfl) ?_
  refine Hd.nil ?_
  refine Hd.slots [(6, _)] ⟨rfl, trivial⟩ ?_
  refine Hd.toK hK5 ?_
  refine Hd.seq (fun K6 hK6 => ?_)
  refine Hd.drawsH ([]) (fun j => !(([1000] : List Nat).contains j)) mixed ?_
  simp only [List.length, Nat.zero_add, Nat.reduceAdd]
  refine Hd.takeH 0 rfl (by kernel_rfl) (by kernel_rfl) (by kernel_rfl) (by kernel_rfl) (y_move rfl) (fun _ _ => rfl) (Ent.sep enn) ?_
  refine Hd.takeH 1 rfl (by kernel_rfl) (by kernel_rfl) (by kernel_rfl) (by kernel_rfl) (y_move rfl) (fun _ _ => rfl) (Ent.sep enn) ?_
  refine Hd.takeH 2 rfl (by kernel_rfl) (by kernel_rfl) (by kernel_rfl) (by kernel_rfl) (y_nilp rfl) (fun _ _ => rfl) (Ent.sep enn) ?_
  first | (refine Hd.takeH 3 rfl (by kernel_rfl) (by kernel_rfl) (by kernel_rfl) (by kernel_rfl) (y_field' (q := 2) (ft := 102) Tryd.underlying104 rfl sz102 rfl rfl) (fun _ _ => rfl) (Ent.sep enn) ?_) | (refine Hd.takeH 3 rfl (by kernel_rfl) (by kernel_rfl) (by kernel_rfl) (by kernel_rfl) (y_fieldR (q := 2) (ft := 102) Tryd.underlying104 rfl sz102 rfl rfl) (fun _ _ => rfl) (Ent.sep enn) ?_)
  refine Hd.takeH 4 rfl (by kernel_rfl) (by kernel_rfl) (by kernel_rfl) (by kernel_rfl) (y_idxA Tryd.underlying102 sz101 rfl rfl (by first | omega | decide)) (fun _ _ => rfl) (Ent.sep enn) ?_
  first | (refine Hd.takeH 5 rfl (by kernel_rfl) (by kernel_rfl) (by kernel_rfl) (by kernel_rfl) (y_field' (q := 7) (ft := 22) Tryd.underlying101 rfl sz22 rfl rfl) (fun _ _ => rfl) (Ent.sep enn) ?_) | (refine Hd.takeH 5 rfl (by kernel_rfl) (by kernel_rfl) (by kernel_rfl) (by kernel_rfl) (y_fieldR (q := 7) (ft := 22) Tryd.underlying101 rfl sz22 rfl rfl) (fun _ _ => rfl) (Ent.sep enn) ?_)
  refine Hd.takeH 7 rfl (by kernel_rfl) (by kernel_rfl) (by kernel_rfl) (by kernel_rfl) (y_nilp rfl) (fun _ _ => rfl) (Ent.sep enn) ?_
  first | (refine Hd.takeH 8 rfl (by kernel_rfl) (by kernel_rfl) (by kernel_rfl) (by kernel_rfl) (y_field' (q := 2) (ft := 102) Tryd.underlying104 rfl sz102 rfl rfl) (fun _ _ => rfl) (Ent.sep enn) ?_) | (refine Hd.takeH 8 rfl (by kernel_rfl) (by kernel_rfl) (by kernel_rfl) (by kernel_rfl) (y_fieldR (q := 2) (ft := 102) Tryd.underlying104 rfl sz102 rfl rfl) (fun _ _ => rfl) (Ent.sep enn) ?_)
  refine Hd.onlyH 6 rfl (by kernel_rfl) ?_
  first | (refine Hd.store1 sz22 rfl rfl rfl pkk (by first | decide | (simp; done) | (simp; omega)) ?_) | (refine Hd.storeG1 sz22 rfl rfl rfl pkk (by first | decide | (simp; done) | (simp; omega)) ?_) | (refine Hd.storeO1 sz22 rfl rfl rfl pkk (by first | omega | (simp; done) | (simp; omega)) ?_)
  try simp only [List.set_cons_zero, List.set_cons_succ]
  refine Hd.nil ?_
  refine Hd.thenN ?_
  refine Hd.heldK (J := (fun j => !(([1000] : List Nat).contains j))) (i := 6) (Ent.sep enn) ?_
  refine Hd.takeH 9 rfl (by kernel_rfl) (by kernel_rfl) (by kernel_rfl) (by kernel_rfl) (y_idxA Tryd.underlying102 sz101 rfl rfl (by first | omega | decide)) (fun _ _ => rfl) (Ent.sep enn) ?_
  first | (refine Hd.takeH 10 rfl (by kernel_rfl) (by kernel_rfl) (by kernel_rfl) (by kernel_rfl) (y_field' (q := 7) (ft := 22) Tryd.underlying101 rfl sz22 rfl rfl) (fun _ _ => rfl) (Ent.sep enn) ?_) | (refine Hd.takeH 10 rfl (by kernel_rfl) (by kernel_rfl) (by kernel_rfl) (by kernel_rfl) (y_fieldR (q := 7) (ft := 22) Tryd.underlying101 rfl sz22 rfl rfl) (fun _ _ => rfl) (Ent.sep enn) ?_)
  refine Hd.onlyH 11 rfl (by kernel_rfl) ?_
  first | (refine Hd.store1 sz22 rfl rfl rfl pkk (by first | decide | (simp; done) | (simp; omega)) ?_) | (refine Hd.storeG1 sz22 rfl rfl rfl pkk (by first | decide | (simp; done) | (simp; omega)) ?_) | (refine Hd.storeO1 sz22 rfl rfl rfl pkk (by first | omega | (simp; done) | (simp; omega)) ?_)
  try simp only [List.set_cons_zero, List.set_cons_succ]
  refine Hd.nil ?_
  refine Hd.thenN ?_
  refine Hd.heldK (J := (fun j => !(([1000] : List Nat).contains j))) (i := 11) (Ent.sep enn) ?_
  refine Hd.endH (by kernel_rfl) ?_
  refine Hd.slots [(6, _)] ⟨rfl, trivial⟩ ?_
  refine Hd.toK hK6 ?_
  refine Hd.seq (fun K7 hK7 => ?_)
  refine Hd.region ?_
  refine Hd.yv (y_move rfl) ?_
  refine Hd.yv (y_nilp rfl) ?_
  first | (refine Hd.yv (y_field' (q := 2) (ft := 102) Tryd.underlying104 rfl sz102 rfl rfl) ?_) | (refine Hd.yv (y_fieldR (q := 2) (ft := 102) Tryd.underlying104 rfl sz102 rfl rfl) ?_)
  refine Hd.yv (y_idxA Tryd.underlying102 sz101 rfl rfl (by first | omega | decide)) ?_
  first | (refine Hd.yv (y_field' (q := 2) (ft := 4) Tryd.underlying101 rfl sz4 rfl rfl) ?_) | (refine Hd.yv (y_fieldR (q := 2) (ft := 4) Tryd.underlying101 rfl sz4 rfl rfl) ?_)
  first | (refine Hd.store1 sz4 rfl rfl rfl pkk (by first | decide | (simp; done) | (simp; omega)) ?_) | (refine Hd.storeG1 sz4 rfl rfl rfl pkk (by first | decide | (simp; done) | (simp; omega)) ?_) | (refine Hd.storeO1 sz4 rfl rfl rfl pkk (by first | omega | (simp; done) | (simp; omega)) ?_)
  try simp only [List.set_cons_zero, List.set_cons_succ]
  refine Hd.nil ?_
  refine Hd.slots [(6, _)] ⟨rfl, trivial⟩ ?_
  refine Hd.toK hK7 ?_
  refine Hd.seq (fun K8 hK8 => ?_)
  refine Hd.region ?_
  refine Hd.yv (y_move rfl) ?_
  refine Hd.yv (y_assign rfl) ?_
  refine Hd.yv (y_assign rfl) ?_
  refine Hd.nil ?_
  refine Hd.slots [(4, _), (5, _)] ⟨rfl, rfl, trivial⟩ ?_
  refine Hd.toK hK8 ?_
  refine Hd.ret ?_
  clear hK1 hK2 hK3 hK4 hK5 hK6 hK7 hK8
  refine Hd.mkBuf (b := b19) (wb := wb) (fd := fd) (by exact Pick.here) ?_
  exact Hd.ret2 rfl b19 rfl rfl rfl (Ent.sep enn)
end Bu
end Go.Proofs.YtmpemhbfgbochaaDoor
namespace Go.Proofs.YtmpemhbfgbochaaDoor
set_option linter.unusedSimpArgs false
set_option linter.unusedVariables false
set_option linter.unnecessarySimpa false
open Go.RX Fx
namespace Bu
open Wo
set_option maxRecDepth 8000
def TmOk (x : BfA) : Prop := ∀ k, k < 2 → InK .u64 (x.s k).after ∧ InK .u64 (x.s k).at_
theorem dl_in {now a : Int} (hn : InK .u64 now) (ha : InK .u64 a) : InK .u64 (dl now a) := by
  simp only [InK] at *; unfold dl; split <;> omega
theorem atV_in {s : SdA} {k : Nat} {now : Int} (hn : InK .u64 now) (ha : InK .u64 s.after) : InK .u64 (atV s k now) := by
  unfold atV; split
  · exact dl_in hn ha
  · simp [InK]
theorem TmOk.up {x : BfA} (h : TmOk x) {k : Nat} {f : SdA → SdA} (hf : ∀ s, InK .u64 s.after → InK .u64 s.at_ → InK .u64 (f s).after ∧ InK .u64 (f s).at_) : TmOk (x.up k f) := fun j hj => by
  by_cases e : j = k
  · subst e; rw [bup_at]; exact hf _ (h j hj).1 (h j hj).2
  · rw [bup_ne _ _ e]; exact h j hj
theorem tm_new (fd : Int) : TmOk (newB fd) := fun k _ => ⟨by show InK .u64 0; simp [InK], by show InK .u64 18446744073709551615; simp [InK]⟩
theorem buf_close {b wb : Nat} {x x' : BfA} {L : List SP} (h0 : x'.s 0 = x.s 0) (h1 : x'.s 1 = x.s 1) (hf : x'.fd = x.fd) : ∀ h, sep (BfL b wb x 0 L) h → sep (BufP b wb x' :: L) h := fun h s => by
  have s' : sep (BfK b :: BfH b wb x.fd :: SdL b 0 (x.s 0) (SdL b 1 (x.s 1) L)) h := s
  rw [← h0, ← h1, ← hf] at s'
  exact Ent.sep (.ex () (show Ent _ ([BfK b, BfH b wb x'.fd, ChB b (2 + 0 * 8 + 0) (x'.s 0).c, segK b (2 + 0 * 8) 2 (encS (x'.s 0)), ChB b (2 + 1 * 8 + 0) (x'.s 1).c, segK b (2 + 1 * 8) 2 (encS (x'.s 1))] ++ L) from enn)) h s'
theorem buf_put {b wb : Nat} {fd : Int} {s0 s1 : SdA} {x' : BfA} {L : List SP} (h0 : x'.s 0 = s0) (h1 : x'.s 1 = s1) (hf : x'.fd = fd) : ∀ h, sep (BfK b :: BfH b wb fd :: SdL b 0 s0 (SdL b 1 s1 L)) h → sep (BufP b wb x' :: L) h := by
  subst h0; subst h1; subst hf
  exact buf_close rfl rfl rfl
def readA (x : BfA) (n : Int) : List UInt8 := if n < 1 then [] else (x.s 0).c.take n.toNat
def readB (x : BfA) (n : Int) : BfA := if n < 1 then x else x.up 0 fun s => { s with c := s.c.drop n.toNat }
set_option maxHeartbeats 2000000 in
theorem bread_ct (L : List SP) (b wb : Nat) (x : BfA) (n : Int) (hn : n ≤ 9223372036854775807) : Ct Tryd.prog 13 #[.pointer (some ⟨b, 0, none⟩), .int .i64 n] (BufP b wb x :: L) (fun q_ : Option Addr × Nat => .slice q_.1 (readA x n).length q_.2) (fun q_ : Option Addr × Nat => own 5 1 q_.1 (readA x n).length q_.2 (bsl (readA x n)) :: BufP b wb (readB x n) :: L) := by
  refine Ct.of (vs := [.pointer (some ⟨b, 0, none⟩), .int .i64 n]) Tryd.func13 rfl rfl [(0, .pointer (some ⟨b, 0, none⟩)), (1, .int .i64 n)] (by repeat (first | exact trivial | refine ⟨rfl, ?_⟩)) ?_
  intro E
  show Hd E 18 _ _ _ _
  refine Hd.buf .here ?_
  refine Hd.seq (fun K1 hK1 => ?_)
  refine Hd.region ?_
  refine Hd.yv (y_assign rfl) ?_
  refine Hd.nil ?_
  refine Hd.slots [(0, _), (1, _)] ⟨rfl, rfl, trivial⟩ ?_
  refine Hd.toK hK1 ?_
  refine Hd.seq (fun K2 hK2 => ?_)
  refine Hd.seq (fun K3 hK3 => ?_)
  refine Hd.region ?_
  refine Hd.yv (y_move rfl) ?_
  refine Hd.callE rfl fk37 (bnone_ct _ b wb x.fd) (Ent.sep enn) ?_
  intro _
  refine Hd.yv (y_move rfl) ?_
  refine Hd.yg rfl rfl (y_move rfl) ?_
  refine Hd.yg rfl rfl (y_lss rfl rfl) ?_
  first | (refine Hd.yv (y_pickT rfl rfl) ?_) | (refine Hd.yv (y_pickF rfl rfl) ?_) | (refine Hd.yv (y_pickb rfl rfl rfl) ?_) | (refine Hd.yv (y_pick rfl rfl rfl) ?_)
  refine Hd.nil ?_
  refine Hd.slots [(0, _), (1, _), (10, _)] ⟨rfl, rfl, rfl, trivial⟩ ?_
  refine Hd.toK hK3 ?_
  refine Hd.cond rfl (fun hc0 => ?_) (fun hc0 => ?_)
  ·
    try simp only [decide_eq_true_eq, decide_eq_false_iff_not, Bool.and_eq_true, Bool.or_eq_true, Bool.and_eq_false_iff, Bool.or_eq_false_iff, Bool.not_eq_true', Bool.not_eq_false', Bool.not_eq_true, Bool.not_eq_false, Int.not_lt, Int.not_le, Decidable.not_not, ne_eq] at hc0
    refine Hd.seq (fun K4 hK4 => ?_)
    refine Hd.region ?_
    refine Hd.yv (y_assign rfl) ?_
    refine Hd.nil ?_
    refine Hd.slots [(4, _)] ⟨rfl, trivial⟩ ?_
    refine Hd.toK hK4 ?_
    refine Hd.ret ?_
    refine Hd.thenRet ?_
    clear hK1 hK2 hK3 hK4
    rw [show readA x n = [] by unfold readA; rw [if_pos hc0], show readB x n = x by unfold readB; rw [if_pos hc0]]
    exact Hd.ret1 rfl (none, 0) rfl (Ent.sep (.ownNil .same) |> fun h q s => h q (buf_close rfl rfl rfl q (Ent.sep enn q s)))
  ·
    try simp only [decide_eq_true_eq, decide_eq_false_iff_not, Bool.and_eq_true, Bool.or_eq_true, Bool.and_eq_false_iff, Bool.or_eq_false_iff, Bool.not_eq_true', Bool.not_eq_false', Bool.not_eq_true, Bool.not_eq_false, Int.not_lt, Int.not_le, Decidable.not_not, ne_eq] at hc0
    refine Hd.skip ?_
    refine Hd.toK hK2 ?_
    refine Hd.seq (fun K5 hK5 => ?_)
    refine Hd.region ?_
    refine Hd.yv (y_move rfl) ?_
    refine Hd.yv (y_nilp rfl) ?_
    first | (refine Hd.yv (y_field' (q := 2) (ft := 102) Tryd.underlying104 rfl sz102 rfl rfl) ?_) | (refine Hd.yv (y_fieldR (q := 2) (ft := 102) Tryd.underlying104 rfl sz102 rfl rfl) ?_)
    refine Hd.yv (y_idxA Tryd.underlying102 sz101 rfl rfl (by first | omega | decide)) ?_
    first | (refine Hd.yv (y_field' (q := 0) (ft := 99) Tryd.underlying101 rfl sz99 rfl rfl) ?_) | (refine Hd.yv (y_fieldR (q := 0) (ft := 99) Tryd.underlying101 rfl sz99 rfl rfl) ?_)
    refine Hd.yv (y_move rfl) ?_
    refine Hd.callE rfl fk38 (chTake _ b (2 + 0 * 8 + 0) (x.s 0).c n hn) (Ent.sep enn) ?_
    rintro ⟨ad, c⟩
    dsimp only
    refine Hd.yv (y_assign rfl) ?_
    refine Hd.nil ?_
    refine Hd.slots [(4, _)] ⟨rfl, trivial⟩ ?_
    refine Hd.toK hK5 ?_
    refine Hd.ret ?_
    clear hK1 hK2 hK3 hK5
    rw [show readA x n = (x.s 0).c.take n.toNat by unfold readA; rw [if_neg (by omega)], show readB x n = x.up 0 fun s => { s with c := s.c.drop n.toNat } by unfold readB; rw [if_neg (by omega)]]
    exact Hd.ret1 rfl (ad, c) rfl (fun q s => Ent.sep (show Ent (BufP b wb (x.up 0 fun s => { s with c := s.c.drop n.toNat }) :: own 5 1 ad ((x.s 0).c.take n.toNat).length c (bsl ((x.s 0).c.take n.toNat)) :: L) _ from enn) q (buf_put (fd := x.fd) (x' := x.up 0 fun s => { s with c := s.c.drop n.toNat }) (s0 := { x.s 0 with c := (x.s 0).c.drop n.toNat }) (s1 := x.s 1) rfl rfl rfl q (Ent.sep enn q s)))
end Bu
end Go.Proofs.YtmpemhbfgbochaaDoor
