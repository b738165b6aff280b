/-
  Chains: cut, Take, Drain.
-/
import Derived.Test.YtmpemhbfgbochaaBc4
namespace Go.Proofs.Ytmpemhbfgbochaa
set_option linter.unusedSimpArgs false
set_option linter.unusedVariables false
set_option linter.unnecessarySimpa false
open Go.RX Fx
namespace Bc
section
variable {E : World} {n : Nat} {ds : List Deferred} {st : List (Nat × Value)} {L L' L2 : List SP} {K : Act → World → Prop}
theorem Hd.rowsCap {rs : List Row} (p : Pick L (rows rs) L') (h : (∀ r ∈ rs, r.l.length ≤ r.cap) → Hd E n ds st L K) : Hd E n ds st L K := fun a w f s => by
  refine h (fun r hr => ?_) a w f s
  obtain ⟨h1, s1, ⟨x⟩⟩ := sep.one p s.2.2.2
  obtain ⟨L3, p3⟩ := pick_mem hr
  obtain ⟨h2, s2, x2⟩ := sep.one p3 x
  exact (own_le x2).1
/-- the first row's first bytes become a row of their own -/
theorem cutRow_sep {outs rest : List Row} {r0 : Row} {j : Nat} (hj : j ≤ r0.l.length) (p1 : Pick L (rows outs) L') (p2 : Pick L' (rows (r0 :: rest)) L2) (k : PH) (s : sep L k) :
    sep (rows (outs ++ [⟨r0.ad, j, r0.l.take j⟩]) :: rows (⟨cutA r0.ad 1 j r0.cap, r0.cap - j, r0.l.drop j⟩ :: rest) :: L2) k := by
  have s1 : sep (rows outs :: rows (r0 :: rest) :: L2) k := Ent.imp' .here (fun _ x => x) (fun k s => p2.sep s) (p1.sep s)
  have s2 : sep (rows outs :: rows [⟨r0.ad, j, r0.l.take j⟩] :: rows (⟨cutA r0.ad 1 j r0.cap, r0.cap - j, r0.l.drop j⟩ :: rest) :: L2) k := by
    refine Ent.imp' .here (fun _ x => x) (fun k s => ?_) s1
    have s3 := rows_own ((fun s => rows_split (a := [r0]) (b := rest) s) s) |> fun x => x
    have s4 : sep (own 5 1 r0.ad r0.l.length r0.cap (bsl (r0.l.take j) ++ bsl (r0.l.drop j)) :: rows rest :: L2) k := by
      rw [← List.map_append, List.take_append_drop]; exact s3
    have s5 := own_split (l := j) hj (by simp [hj]) s4
    have e1 : own 5 1 r0.ad j j (bsl (r0.l.take j)) = ow ⟨r0.ad, j, r0.l.take j⟩ := by simp [ow, Nat.min_eq_left hj]
    have e2 : own 5 1 (cutA r0.ad 1 j r0.cap) (r0.l.length - j) (r0.cap - j) (bsl (r0.l.drop j)) = ow ⟨cutA r0.ad 1 j r0.cap, r0.cap - j, r0.l.drop j⟩ := by simp [ow]
    rw [e1, e2] at s5
    refine Ent.imp' .here (fun _ x => x) (fun k s => ?_) (own_rows s5)
    exact rows_join (a := [⟨cutA r0.ad 1 j r0.cap, r0.cap - j, r0.l.drop j⟩]) (own_rows s)
  exact rows_join s2
theorem ownDropP {e sz m cap : Nat} {ad : Option Addr} {us : List Value} (p : Pick L (own e sz ad m cap us) L') (l : Nat) (us1 us2 : List Value) (hl : l ≤ m) (hu : us = us1 ++ us2) (h1 : us1.length = l * sz) (k : PH) (s : sep L k) :
    sep (own e sz (cutA ad sz l cap) (m - l) (cap - l) us2 :: L') k := by subst hu; exact own_drop hl h1 (p.sep s)
theorem rows_tail {r0 : Row} {rest : List Row} {k : PH} (h : rows (r0 :: rest) k) : rows rest k := by
  obtain ⟨⟨h1, h2, d, a, b, x, y⟩⟩ := h
  exact ⟨y.up b⟩
end
theorem joinNil {L : List SP} {k : PH} (s : sep L k) : sep (rows [] :: L) k := rows_nil s
theorem hdr_first {rs rs0 : List Row} {r0 : Row} (h : rs = r0 :: rs0) : (rs.map hdr)[0 * 1]? = some (hdr r0) := by subst h; rfl
abbrev OwH (ad : Option Addr) (cap : Nat) (rs : List Row) : SP := own 39 1 ad rs.length cap (rs.map hdr)
def CutI (n : Int) (rs outs rest : List Row) (nn : Int) : Prop := flat outs ++ flat rest = flat rs ∧ Full outs ∧ Full rest ∧ (flat outs).length + nn.toNat = n.toNat ∧ (flat rs).length ≤ 1048576 ∧ rs.length ≤ 1048576 ∧ outs.length + rest.length ≤ rs.length + 1 ∧ (0 < nn → outs.length + rest.length ≤ rs.length)
set_option maxHeartbeats 2000000 in
theorem cut_ct (L : List SP) (b o : Nat) (rs : List Row) (hg : Good rs) (n : Int) (hn : n ≤ 9223372036854775807) : Ct Try.prog 61 #[.pointer (some ⟨b, o, none⟩), .int .i64 n] (Ch b o rs :: L) (fun q_ : List Row × List Row × Option Addr × Nat => .slice q_.2.2.1 q_.1.length q_.2.2.2) (fun q_ : List Row × List Row × Option Addr × Nat => pu (flat q_.1 = (flat rs).take n.toNat ∧ flat q_.2.1 = (flat rs).drop n.toNat ∧ Full q_.1 ∧ Full q_.2.1) :: OwH q_.2.2.1 q_.2.2.2 q_.1 :: rows q_.1 :: Ch b o q_.2.1 :: L) := by
  refine Ct.of (vs := [.pointer (some ⟨b, o, none⟩), .int .i64 n]) Try.func61 rfl rfl [(0, .pointer (some ⟨b, o, none⟩)), (1, .int .i64 n)] (by repeat (first | exact trivial | refine ⟨rfl, ?_⟩)) ?_
  intro E
  show Hd E 75 _ _ _ _
  obtain ⟨hfull, hlen⟩ := hg
  have hrl := full_len hfull
  refine Hd.exs pkk ?_
  rintro ⟨ha, hcp⟩
  simp only [List.cons_append, List.nil_append]
  refine Hd.seq (fun K1 hK1 => ?_)
  refine Hd.region ?_
  refine Hd.yv (y_assign rfl) ?_
  refine Hd.nil ?_
  refine Hd.slots [(0, _), (1, _)] ⟨rfl, rfl, trivial⟩ ?_
  refine Hd.toK hK1 ?_
  refine Hd.seq (fun K2 hK2 => ?_)
  refine Hd.region ?_
  refine Hd.yv (y_assign rfl) ?_
  refine Hd.nil ?_
  refine Hd.slots [(0, _), (1, _), (5, _)] ⟨rfl, rfl, rfl, trivial⟩ ?_
  refine Hd.toK hK2 ?_
  refine Hd.seq (fun K3 hK3 => ?_)
  refine Hd.block ?_
  refine Hd.loopK (ι := List Row × List Row × Option Addr × Nat × Option Addr × Nat × Int) [(0, _)] (fun q_ => [(1, .int .i64 q_.2.2.2.2.2.2), (5, .slice q_.2.2.1 q_.1.length q_.2.2.2.1)]) (fun q_ => pu (CutI n rs q_.1 q_.2.1 q_.2.2.2.2.2.2) :: seg b o [.slice q_.2.2.2.2.1 q_.2.1.length q_.2.2.2.2.2.1, .int .i64 ((flat q_.2.1).length : Int)] :: OwH q_.2.2.2.2.1 q_.2.2.2.2.2.1 q_.2.1 :: rows q_.2.1 :: OwH q_.2.2.1 q_.2.2.2.1 q_.1 :: rows q_.1 :: L) (fun q_ => q_.2.2.2.2.2.2.toNat) ([], rs, none, 0, ha, hcp, n) (by repeat (first | exact trivial | refine ⟨rfl, ?_⟩)) (by repeat (first | exact trivial | refine ⟨rfl, ?_⟩)) (fun k s => Ent.sep (.pure ⟨rfl, fun r hr => by simp at hr, hfull, by simp [flat], hlen, by omega, by simp, by simp⟩ (.pick pkk (.pick pkk (.pick pkk (.ownNil (.pick pkk enn)))))) k (joinNil s)) ?_
  rintro ⟨outs, rest, adO, capO, adH, capH, nn⟩
  try dsimp only
  refine Hd.pure (fun hp0 => ?_)
  try dsimp only at hp0
  obtain ⟨hI1, hI2, hI3, hI4, hI5, hI6, hI7, hI8⟩ := hp0
  refine Hd.seq (fun K4 hK4 => ?_)
  refine Hd.seq (fun K5 hK5 => ?_)
  refine Hd.region ?_
  refine Hd.yv (y_move rfl) ?_
  refine Hd.yv (y_gtr rfl rfl) ?_
  refine Hd.yv (y_move rfl) ?_
  apply Hd.andg 7 10 17 [(0, _), (1, _), (5, _)] rfl ⟨rfl, rfl, rfl, trivial⟩
  · intro hg2_10
    try simp only [decide_eq_true_eq, decide_eq_false_iff_not, Bool.and_eq_true, Bool.or_eq_true, Bool.and_eq_false_iff, Bool.or_eq_false_iff, Bool.not_eq_true', Bool.not_eq_false', Bool.not_eq_true, Bool.not_eq_false, Int.not_lt, Int.not_le, Decidable.not_not, ne_eq] at hg2_10
    simp only [List.take]
    refine Hd.yg rfl rfl (y_move rfl) ?_
    refine Hd.yg rfl rfl (y_nilp rfl) ?_
    first | (refine Hd.yg rfl rfl (y_field' (q := 0) (ft := 87) Try.underlying89 rfl sz87 rfl rfl) ?_) | (refine Hd.yg rfl rfl (y_fieldR (q := 0) (ft := 87) Try.underlying89 rfl sz87 rfl rfl) ?_)
    first | (refine Hd.yg rfl rfl (y_load1 ag87 rfl (Rd.pt1 pkk (by (first | exact hdr_first hrest | rfl)))) ?_) | (refine Hd.yg rfl rfl (y_load1 ag87 rfl (Rd.seg1 pkk (by (first | exact hdr_first hrest | rfl)))) ?_) | (refine Hd.yg rfl rfl (y_loadR1 ag87 rfl (by (first | exact RdS.own pkk)) (by (first | exact hdr_first hrest | rfl))) ?_)
    refine Hd.yg rfl rfl (y_len Try.underlying87 rfl) ?_
    refine Hd.yg rfl rfl (y_gtr rfl rfl) ?_
    first | (refine Hd.yv (y_pickT rfl rfl) ?_) | (refine Hd.yv (y_pickF rfl rfl) ?_) | (refine Hd.yv (y_pickb rfl rfl rfl) ?_) | (refine Hd.yv (y_pick rfl rfl rfl) ?_)
    refine Hd.nil ?_
    exact Hd.mend (by repeat (first | exact trivial | refine ⟨rfl, ?_⟩)) (Ent.sep enn)
  · intro hg2_10
    try simp only [decide_eq_true_eq, decide_eq_false_iff_not, Bool.and_eq_true, Bool.or_eq_true, Bool.and_eq_false_iff, Bool.or_eq_false_iff, Bool.not_eq_true', Bool.not_eq_false', Bool.not_eq_true, Bool.not_eq_false, Int.not_lt, Int.not_le, Decidable.not_not, ne_eq] at hg2_10
    simp only [List.take]
    refine Hd.ng rfl rfl rfl ?_
    refine Hd.ng rfl rfl rfl ?_
    refine Hd.ng rfl rfl rfl ?_
    refine Hd.ng rfl rfl rfl ?_
    refine Hd.ng rfl rfl rfl ?_
    refine Hd.ng rfl rfl rfl ?_
    first | (refine Hd.yv (y_pickT rfl rfl) ?_) | (refine Hd.yv (y_pickF rfl rfl) ?_) | (refine Hd.yv (y_pickb rfl rfl rfl) ?_) | (refine Hd.yv (y_pick rfl rfl rfl) ?_)
    refine Hd.nil ?_
    exact Hd.mend (by repeat (first | exact trivial | refine ⟨rfl, ?_⟩)) (Ent.sep enn)
  simp only [List.drop]
  refine Hd.nil ?_
  refine Hd.slots [(0, _), (1, _), (5, _), (17, _)] ⟨rfl, rfl, rfl, rfl, trivial⟩ ?_
  refine Hd.toK hK5 ?_
  refine Hd.cond rfl (fun hc0 => ?_) (fun hc0 => ?_)
  ·
    try simp only [decide_eq_true_eq, decide_eq_false_iff_not, Bool.and_eq_true, Bool.or_eq_true, Bool.and_eq_false_iff, Bool.or_eq_false_iff, Bool.not_eq_true', Bool.not_eq_false', Bool.not_eq_true, Bool.not_eq_false, Int.not_lt, Int.not_le, Decidable.not_not, ne_eq] at hc0
    obtain ⟨hn0, hr0⟩ := hc0
    obtain ⟨r0, rest', hrest⟩ := List.exists_cons_of_ne_nil (show rest ≠ [] by intro e; subst e; simp at hr0)
    have hrl2 : rest.length = rest'.length + 1 := by rw [hrest]; rfl
    have hr0p : 0 < r0.l.length := hI3 r0 (by rw [hrest]; simp)
    have hfr : (flat rest).length = r0.l.length + (flat rest').length := by rw [hrest]; simp [flat]
    have hfa : (flat outs).length + (flat rest).length = (flat rs).length := by rw [← hI1, List.length_append]
    have hI8' := hI8 hn0
    refine Hd.rowsCap (rs := rest) pkk (fun hcaps => ?_)
    have hcap0 : r0.l.length ≤ r0.cap := hcaps r0 (by rw [hrest]; simp)
    refine Hd.skip ?_
    refine Hd.toK hK4 ?_
    refine Hd.block ?_
    refine Hd.seq (fun K6 hK6 => ?_)
    refine Hd.region ?_
    refine Hd.yv (y_move rfl) ?_
    refine Hd.yv (y_nilp rfl) ?_
    first | (refine Hd.yv (y_field' (q := 0) (ft := 87) Try.underlying89 rfl sz87 rfl rfl) ?_) | (refine Hd.yv (y_fieldR (q := 0) (ft := 87) Try.underlying89 rfl sz87 rfl rfl) ?_)
    first | (refine Hd.yv (y_load1 ag87 rfl (Rd.pt1 pkk (by (first | exact hdr_first hrest | rfl)))) ?_) | (refine Hd.yv (y_load1 ag87 rfl (Rd.seg1 pkk (by (first | exact hdr_first hrest | rfl)))) ?_) | (refine Hd.yv (y_loadR1 ag87 rfl (by (first | exact RdS.own pkk)) (by (first | exact hdr_first hrest | rfl))) ?_)
    first | (refine Hd.yv (y_idxS Try.underlying87 sz39 rfl rfl (by first | exact (show (0 : Nat) < _ by omega) | omega | decide)) ?_) | (refine Hd.yv (y_idxR Try.underlying87 sz39 rfl rfl (by first | exact (show (0 : Nat) < _ by omega) | omega | decide) (by (first | exact RdS.own pkk))) ?_)
    first | (refine Hd.yv (y_load1 ag39 rfl (Rd.pt1 pkk (by (first | exact hdr_first hrest | rfl)))) ?_) | (refine Hd.yv (y_load1 ag39 rfl (Rd.seg1 pkk (by (first | exact hdr_first hrest | rfl)))) ?_) | (refine Hd.yv (y_loadR1 ag39 rfl (by (first | exact RdS.own pkk)) (by (first | exact hdr_first hrest | rfl))) ?_)
    refine Hd.yv (y_assign rfl) ?_
    refine Hd.nil ?_
    refine Hd.slots [(0, _), (1, _), (5, _), (6, _)] ⟨rfl, rfl, rfl, rfl, trivial⟩ ?_
    refine Hd.toK hK6 ?_
    refine Hd.seq (fun K7 hK7 => ?_)
    refine Hd.region ?_
    refine Hd.yv (y_move rfl) ?_
    refine Hd.yv (y_move rfl) ?_
    refine Hd.yv (y_len Try.underlying39 rfl) ?_
    refine Hd.yv (y_min rfl rfl) ?_
    refine Hd.yv (y_assign rfl) ?_
    refine Hd.nil ?_
    refine Hd.name (b := ((min nn.toNat r0.l.length : Nat) : Int)) 7 rfl (by omega) ?_
    refine Hd.slots [(0, _), (1, _), (5, _), (6, _), (7, _)] ⟨rfl, rfl, rfl, rfl, rfl, trivial⟩ ?_
    refine Hd.toK hK7 ?_
    refine Hd.seq (fun K8 hK8 => ?_)
    refine Hd.region ?_
    refine Hd.yv (y_move rfl) ?_
    refine Hd.yv (y_move rfl) ?_
    refine Hd.yv (y_move rfl) ?_
    refine Hd.yv (y_move rfl) ?_
    first | (refine Hd.yv (y_slo_xooN Try.underlying39 sz5 rfl rfl rfl (by first | omega | (simp; done) | decide) (by first | omega | (simp; done) | decide)) ?_) | (refine Hd.yv (y_slo_xoo Try.underlying39 sz5 rfl rfl rfl (by first | omega | (simp; done) | decide) (by first | omega | (simp; done) | decide) (by first | omega | (simp; done) | decide)) ?_)
    refine Hd.bslice (vs := [(0, _)]) rfl (by first | exact bs61_33 .. | kernel_rfl) (fun b33 => ?_)
    refine Hd.append Try.underlying87 ty39 rfl rfl rfl pkk (by first | exact RdS.rd (Rd.pt pkk (fun j v e => by simpa using e)) rfl | (first | exact RdS.own pkk)) (by first | (simp [Value.oneCell']; done) | assumption) (by first | (simp only [maxLen]; omega) | assumption) (by omega) (fun ad34 cap34 => ?_)
    refine Hd.yv (y_assign rfl) ?_
    refine Hd.nil ?_
    refine Hd.slots [(0, _), (1, _), (5, _), (6, _), (7, _)] ⟨rfl, rfl, rfl, rfl, rfl, trivial⟩ ?_
    refine Hd.toK hK8 ?_
    refine Hd.seq (fun K9 hK9 => ?_)
    refine Hd.seq (fun K10 hK10 => ?_)
    refine Hd.region ?_
    refine Hd.yv (y_move rfl) ?_
    refine Hd.yv (y_move rfl) ?_
    refine Hd.yv (y_len Try.underlying39 rfl) ?_
    first | (refine Hd.yv (y_eqlT rfl rfl) ?_) | (refine Hd.yv (y_eql rfl rfl) ?_)
    refine Hd.nil ?_
    refine Hd.slots [(0, _), (1, _), (5, _), (6, _), (7, _), (38, _)] ⟨rfl, rfl, rfl, rfl, rfl, rfl, trivial⟩ ?_
    refine Hd.toK hK10 ?_
    refine Hd.cond rfl (fun hc1 => ?_) (fun hc1 => ?_)
    ·
      try simp only [decide_eq_true_eq, decide_eq_false_iff_not, Bool.and_eq_true, Bool.or_eq_true, Bool.and_eq_false_iff, Bool.or_eq_false_iff, Bool.not_eq_true', Bool.not_eq_false', Bool.not_eq_true, Bool.not_eq_false, Int.not_lt, Int.not_le, Decidable.not_not, ne_eq] at hc1
      refine Hd.region ?_
      refine Hd.yv (y_move rfl) ?_
      refine Hd.yv (y_move rfl) ?_
      refine Hd.yv (y_nilp rfl) ?_
      first | (refine Hd.yv (y_field' (q := 0) (ft := 87) Try.underlying89 rfl sz87 rfl rfl) ?_) | (refine Hd.yv (y_fieldR (q := 0) (ft := 87) Try.underlying89 rfl sz87 rfl rfl) ?_)
      first | (refine Hd.yv (y_load1 ag87 rfl (Rd.pt1 pkk (by (first | exact hdr_first hrest | rfl)))) ?_) | (refine Hd.yv (y_load1 ag87 rfl (Rd.seg1 pkk (by (first | exact hdr_first hrest | rfl)))) ?_) | (refine Hd.yv (y_loadR1 ag87 rfl (by (first | exact RdS.own pkk)) (by (first | exact hdr_first hrest | rfl))) ?_)
      first | (refine Hd.yv (y_slo_oxxN Try.underlying87 sz39 rfl rfl (by first | omega | (simp; done) | decide)) ?_) | (refine Hd.yv (y_slo_oxx Try.underlying87 sz39 rfl rfl (by first | omega | (simp; done) | decide) (by first | omega | (simp; done) | decide)) ?_)
      refine Hd.yv (y_nilp rfl) ?_
      first | (refine Hd.yv (y_field' (q := 0) (ft := 87) Try.underlying89 rfl sz87 rfl rfl) ?_) | (refine Hd.yv (y_fieldR (q := 0) (ft := 87) Try.underlying89 rfl sz87 rfl rfl) ?_)
      first | (refine Hd.store1 sz87 rfl rfl rfl pkk (by first | decide | (simp; done) | (simp; omega)) ?_) | (refine Hd.storeG1 sz87 rfl rfl rfl pkk (by first | decide | (simp; done) | (simp; omega)) ?_) | (refine Hd.storeO1 sz87 rfl rfl rfl pkk (by first | omega | (simp; done) | (simp; omega)) ?_)
      try simp only [List.set_cons_zero, List.set_cons_succ]
      refine Hd.nil ?_
      refine Hd.slots [(0, _), (1, _), (5, _), (7, _)] ⟨rfl, rfl, rfl, rfl, trivial⟩ ?_
      refine Hd.toK hK9 ?_
      refine Hd.seq (fun K11 hK11 => ?_)
      refine Hd.region ?_
      refine Hd.yv (y_move rfl) ?_
      refine Hd.yv (y_move rfl) ?_
      first | (refine Hd.yv (y_subn rfl rfl (by simp only [InK]; omega)) ?_) | (refine Hd.yv (y_sub rfl rfl) ?_)
      refine Hd.yv (y_assign rfl) ?_
      refine Hd.nil ?_
      refine Hd.slots [(0, _), (1, _), (5, _), (7, _)] ⟨rfl, rfl, rfl, rfl, trivial⟩ ?_
      refine Hd.toK hK11 ?_
      refine Hd.region ?_
      refine Hd.yv (y_move rfl) ?_
      refine Hd.yv (y_nilp rfl) ?_
      first | (refine Hd.yv (y_field' (q := 1) (ft := 3) Try.underlying89 rfl sz3 rfl rfl) ?_) | (refine Hd.yv (y_fieldR (q := 1) (ft := 3) Try.underlying89 rfl sz3 rfl rfl) ?_)
      first | (refine Hd.yv (y_load1 ag3 rfl (Rd.pt1 pkk (by (first | exact hdr_first hrest | rfl)))) ?_) | (refine Hd.yv (y_load1 ag3 rfl (Rd.seg1 pkk (by (first | exact hdr_first hrest | rfl)))) ?_) | (refine Hd.yv (y_loadR1 ag3 rfl (by (first | exact RdS.own pkk)) (by (first | exact hdr_first hrest | rfl))) ?_)
      refine Hd.yv (y_move rfl) ?_
      first | (refine Hd.yv (y_subn rfl rfl (by simp only [InK]; omega)) ?_) | (refine Hd.yv (y_sub rfl rfl) ?_)
      refine Hd.yv (y_nilp rfl) ?_
      first | (refine Hd.yv (y_field' (q := 1) (ft := 3) Try.underlying89 rfl sz3 rfl rfl) ?_) | (refine Hd.yv (y_fieldR (q := 1) (ft := 3) Try.underlying89 rfl sz3 rfl rfl) ?_)
      first | (refine Hd.store1 sz3 rfl rfl rfl pkk (by first | decide | (simp; done) | (simp; omega)) ?_) | (refine Hd.storeG1 sz3 rfl rfl rfl pkk (by first | decide | (simp; done) | (simp; omega)) ?_) | (refine Hd.storeO1 sz3 rfl rfl rfl pkk (by first | omega | (simp; done) | (simp; omega)) ?_)
      try simp only [List.set_cons_zero, List.set_cons_succ]
      refine Hd.nil ?_
      refine Hd.slots [(0, _), (1, _), (5, _)] ⟨rfl, rfl, rfl, trivial⟩ ?_
      refine Hd.inB ?_
      clear hK1 hK2 hK3 hK4 hK5 hK6 hK7 hK8 hK9 hK10 hK11
      refine Hd.thenN ?_
      have hk : min nn.toNat r0.l.length = r0.l.length := by omega
      refine Hd.name (b := nn - (r0.l.length : Int)) 1 rfl (by omega) ?_
      refine Hd.again (outs ++ [⟨r0.ad, r0.l.length, r0.l⟩], rest', ad34, cap34, cutA adH 1 1 capH, capH - 1, nn - (r0.l.length : Int)) (by simp only; omega) (by repeat (first | exact trivial | refine ⟨rfl, ?_⟩ | refine ⟨by show some _ = some _; simp, ?_⟩)) ?_
      intro k s
      subst hrest
      have s2 := cutRow_sep (outs := outs) (rest := rest') (r0 := r0) (j := r0.l.length) (Nat.le_refl _) pkk pkk k s
      have s3 := ownDropP (ad := adH) pkk 1 [hdr r0] (rest'.map hdr) (by simp) (by rfl) rfl k s2
      dsimp only
      refine Ent.sep (.pure ⟨?_, ?_, ?_, ?_, hI5, hI6, ?_, ?_⟩ (.eq pkk (seg_eq ?_) (.eq pkk (own_eq ?_ ?_) (.imp (A := rows (_ :: rest')) pkk (fun _ h => rows_tail h) (.eq pkk (own_eq ?_ ?_) (.eq pkk ?_ enn)))))) k s3
      · rw [hk, hfr]; simp; omega
      · simp
      · simp
      · simp
      · rw [hk]; simp
      · rw [List.take_of_length_le (Nat.le_refl _)]
      · rw [flat_app, flat_one, ← hI1]; simp [flat]
      · exact full_app hI2 (full_one hr0p)
      · exact fun r hr => hI3 r (List.mem_cons_of_mem _ hr)
      · rw [flat_app, flat_one, List.length_append]; dsimp only; omega
      · simp at *; omega
      · intro h; simp at *; omega
    ·
      try simp only [decide_eq_true_eq, decide_eq_false_iff_not, Bool.and_eq_true, Bool.or_eq_true, Bool.and_eq_false_iff, Bool.or_eq_false_iff, Bool.not_eq_true', Bool.not_eq_false', Bool.not_eq_true, Bool.not_eq_false, Int.not_lt, Int.not_le, Decidable.not_not, ne_eq] at hc1
      refine Hd.seq (fun K12 hK12 => ?_)
      refine Hd.region ?_
      refine Hd.yv (y_move rfl) ?_
      refine Hd.yv (y_move rfl) ?_
      refine Hd.yv (y_nilp rfl) ?_
      first | (refine Hd.yv (y_field' (q := 0) (ft := 87) Try.underlying89 rfl sz87 rfl rfl) ?_) | (refine Hd.yv (y_fieldR (q := 0) (ft := 87) Try.underlying89 rfl sz87 rfl rfl) ?_)
      first | (refine Hd.yv (y_load1 ag87 rfl (Rd.pt1 pkk (by (first | exact hdr_first hrest | rfl)))) ?_) | (refine Hd.yv (y_load1 ag87 rfl (Rd.seg1 pkk (by (first | exact hdr_first hrest | rfl)))) ?_) | (refine Hd.yv (y_loadR1 ag87 rfl (by (first | exact RdS.own pkk)) (by (first | exact hdr_first hrest | rfl))) ?_)
      refine Hd.call rfl fk74 (clone2_ct _ _ _ _ _ hdr_one (RdS.own pkk) (by omega)) ?_
      rintro ⟨ad52, cap52⟩
      dsimp only
      refine Hd.yv (y_nilp rfl) ?_
      first | (refine Hd.yv (y_field' (q := 0) (ft := 87) Try.underlying89 rfl sz87 rfl rfl) ?_) | (refine Hd.yv (y_fieldR (q := 0) (ft := 87) Try.underlying89 rfl sz87 rfl rfl) ?_)
      first | (refine Hd.store1 sz87 rfl rfl rfl pkk (by first | decide | (simp; done) | (simp; omega)) ?_) | (refine Hd.storeG1 sz87 rfl rfl rfl pkk (by first | decide | (simp; done) | (simp; omega)) ?_) | (refine Hd.storeO1 sz87 rfl rfl rfl pkk (by first | omega | (simp; done) | (simp; omega)) ?_)
      try simp only [List.set_cons_zero, List.set_cons_succ]
      refine Hd.nil ?_
      refine Hd.slots [(0, _), (1, _), (5, _), (6, _), (7, _)] ⟨rfl, rfl, rfl, rfl, rfl, trivial⟩ ?_
      refine Hd.toK hK12 ?_
      refine Hd.drawsH ([seg b o [.slice ad52 rest.length cap52, .int .i64 ((flat rest).length : Int)], own 39 1 ad52 rest.length cap52 (rest.map hdr)]) (fun j => !([8].contains j)) mixed ?_
      simp only [List.length, Nat.zero_add, Nat.reduceAdd]
      refine Hd.takeH 0 rfl (by kernel_rfl) (by kernel_rfl) (by kernel_rfl) (by kernel_rfl) (y_move rfl) (fun _ _ => rfl) (Ent.sep enn) ?_
      refine Hd.takeH 1 rfl (by kernel_rfl) (by kernel_rfl) (by kernel_rfl) (by kernel_rfl) (y_nilp rfl) (fun _ _ => rfl) (Ent.sep enn) ?_
      first | (refine Hd.takeH 2 rfl (by kernel_rfl) (by kernel_rfl) (by kernel_rfl) (by kernel_rfl) (y_field' (q := 0) (ft := 87) Try.underlying89 rfl sz87 rfl rfl) (fun _ _ => rfl) (Ent.sep enn) ?_) | (refine Hd.takeH 2 rfl (by kernel_rfl) (by kernel_rfl) (by kernel_rfl) (by kernel_rfl) (y_fieldR (q := 0) (ft := 87) Try.underlying89 rfl sz87 rfl rfl) (fun _ _ => rfl) (Ent.sep enn) ?_)
      first | (refine Hd.takeH 3 rfl (by kernel_rfl) (by kernel_rfl) (by kernel_rfl) (by kernel_rfl) (y_load1 ag87 rfl (Rd.pt1 pkk (by (first | exact hdr_first hrest | rfl)))) (fun _ _ => rfl) (Ent.sep enn) ?_) | (refine Hd.takeH 3 rfl (by kernel_rfl) (by kernel_rfl) (by kernel_rfl) (by kernel_rfl) (y_load1 ag87 rfl (Rd.seg1 pkk (by (first | exact hdr_first hrest | rfl)))) (fun _ _ => rfl) (Ent.sep enn) ?_) | (refine Hd.takeH 3 rfl (by kernel_rfl) (by kernel_rfl) (by kernel_rfl) (by kernel_rfl) (y_loadR1 ag87 rfl (by (first | exact RdS.own pkk)) (by (first | exact hdr_first hrest | rfl))) (fun _ _ => rfl) (Ent.sep enn) ?_)
      refine Hd.takeH 4 rfl (by kernel_rfl) (by kernel_rfl) (by kernel_rfl) (by kernel_rfl) (y_move rfl) (fun _ _ => rfl) (Ent.sep enn) ?_
      refine Hd.takeH 5 rfl (by kernel_rfl) (by kernel_rfl) (by kernel_rfl) (by kernel_rfl) (y_move rfl) (fun _ _ => rfl) (Ent.sep enn) ?_
      first | (refine Hd.takeH 6 rfl (by kernel_rfl) (by kernel_rfl) (by kernel_rfl) (by kernel_rfl) (y_slo_oxxN Try.underlying39 sz5 rfl rfl (by first | omega | (simp; done) | decide)) (fun _ _ => rfl) (Ent.sep enn) ?_) | (refine Hd.takeH 6 rfl (by kernel_rfl) (by kernel_rfl) (by kernel_rfl) (by kernel_rfl) (y_slo_oxx Try.underlying39 sz5 rfl rfl (by first | omega | (simp; done) | decide) (by first | omega | (simp; done) | decide)) (fun _ _ => rfl) (Ent.sep enn) ?_)
      first | (refine Hd.takeH 7 rfl (by kernel_rfl) (by kernel_rfl) (by kernel_rfl) (by kernel_rfl) (y_idxS Try.underlying87 sz39 rfl rfl (by first | exact (show (0 : Nat) < _ by omega) | omega | decide)) (fun _ _ => rfl) (Ent.sep enn) ?_) | (refine Hd.takeH 7 rfl (by kernel_rfl) (by kernel_rfl) (by kernel_rfl) (by kernel_rfl) (y_idxR Try.underlying87 sz39 rfl rfl (by first | exact (show (0 : Nat) < _ by omega) | omega | decide) (by (first | exact RdS.own pkk))) (fun _ _ => rfl) (Ent.sep enn) ?_)
      refine Hd.onlyH 8 rfl (by kernel_rfl) ?_
      first | (refine Hd.store1 sz39 rfl rfl rfl pkk (by first | decide | (simp; done) | (simp; omega)) ?_) | (refine Hd.storeG1 sz39 rfl rfl rfl pkk (by first | decide | (simp; done) | (simp; omega)) ?_) | (refine Hd.storeO1 sz39 rfl rfl rfl pkk (by first | omega | (simp; done) | (simp; omega)) ?_)
      try simp only [List.set_cons_zero, List.set_cons_succ]
      refine Hd.nil ?_
      refine Hd.thenN ?_
      refine Hd.heldN (J := (fun j => !([8].contains j))) (i := 8) rfl ?_
      refine Hd.endH (by kernel_rfl) ?_
      refine Hd.slots [(0, _), (1, _), (5, _), (7, _)] ⟨rfl, rfl, rfl, rfl, trivial⟩ ?_
      refine Hd.toK hK9 ?_
      refine Hd.seq (fun K13 hK13 => ?_)
      refine Hd.region ?_
      refine Hd.yv (y_move rfl) ?_
      refine Hd.yv (y_move rfl) ?_
      first | (refine Hd.yv (y_subn rfl rfl (by simp only [InK]; omega)) ?_) | (refine Hd.yv (y_sub rfl rfl) ?_)
      refine Hd.yv (y_assign rfl) ?_
      refine Hd.nil ?_
      refine Hd.slots [(0, _), (1, _), (5, _), (7, _)] ⟨rfl, rfl, rfl, rfl, trivial⟩ ?_
      refine Hd.toK hK13 ?_
      refine Hd.region ?_
      refine Hd.yv (y_move rfl) ?_
      refine Hd.yv (y_nilp rfl) ?_
      first | (refine Hd.yv (y_field' (q := 1) (ft := 3) Try.underlying89 rfl sz3 rfl rfl) ?_) | (refine Hd.yv (y_fieldR (q := 1) (ft := 3) Try.underlying89 rfl sz3 rfl rfl) ?_)
      first | (refine Hd.yv (y_load1 ag3 rfl (Rd.pt1 pkk (by (first | exact hdr_first hrest | rfl)))) ?_) | (refine Hd.yv (y_load1 ag3 rfl (Rd.seg1 pkk (by (first | exact hdr_first hrest | rfl)))) ?_) | (refine Hd.yv (y_loadR1 ag3 rfl (by (first | exact RdS.own pkk)) (by (first | exact hdr_first hrest | rfl))) ?_)
      refine Hd.yv (y_move rfl) ?_
      first | (refine Hd.yv (y_subn rfl rfl (by simp only [InK]; omega)) ?_) | (refine Hd.yv (y_sub rfl rfl) ?_)
      refine Hd.yv (y_nilp rfl) ?_
      first | (refine Hd.yv (y_field' (q := 1) (ft := 3) Try.underlying89 rfl sz3 rfl rfl) ?_) | (refine Hd.yv (y_fieldR (q := 1) (ft := 3) Try.underlying89 rfl sz3 rfl rfl) ?_)
      first | (refine Hd.store1 sz3 rfl rfl rfl pkk (by first | decide | (simp; done) | (simp; omega)) ?_) | (refine Hd.storeG1 sz3 rfl rfl rfl pkk (by first | decide | (simp; done) | (simp; omega)) ?_) | (refine Hd.storeO1 sz3 rfl rfl rfl pkk (by first | omega | (simp; done) | (simp; omega)) ?_)
      try simp only [List.set_cons_zero, List.set_cons_succ]
      refine Hd.nil ?_
      refine Hd.slots [(0, _), (1, _), (5, _)] ⟨rfl, rfl, rfl, trivial⟩ ?_
      refine Hd.inB ?_
      clear hK1 hK2 hK3 hK4 hK5 hK6 hK7 hK8 hK9 hK10 hK12 hK13
      refine Hd.thenN ?_
      have hk : min nn.toNat r0.l.length = nn.toNat := by omega
      refine Hd.name (b := 0) 1 rfl (by omega) ?_
      refine Hd.again (outs ++ [⟨r0.ad, nn.toNat, r0.l.take nn.toNat⟩], ⟨cutA r0.ad 1 nn.toNat r0.cap, r0.cap - nn.toNat, r0.l.drop nn.toNat⟩ :: rest', ad34, cap34, ad52, cap52, 0) (by simp only; omega) (by repeat (first | exact trivial | refine ⟨rfl, ?_⟩ | refine ⟨by show some _ = some _; simp, ?_⟩)) ?_
      intro k s
      subst hrest
      have s2 := cutRow_sep (outs := outs) (rest := rest') (r0 := r0) (j := nn.toNat) (by omega) pkk pkk k s
      dsimp only
      refine Ent.sep (.pure ⟨?_, ?_, ?_, ?_, hI5, hI6, ?_, ?_⟩ (.eq pkk (seg_eq ?_) (.eq pkk (own_eq (us := List.set _ _ _) ?_ ?_) (.pick pkk (.eq pkk (own_eq ?_ ?_) (.pick pkk enn)))))) k s2
      · rw [hk, hfr]; simp [flat]; omega
      · simp
      · rw [hk]; simp
      · simp
      · rw [hk]; simp; omega
      · rw [flat_app, flat_one, ← hI1]; simp [flat]; rw [← List.append_assoc, List.take_append_drop]
      · exact full_app hI2 (full_one (by simp; omega))
      · intro r hr
        rcases List.mem_cons.1 hr with rfl | hr
        · simp; omega
        · exact hI3 r (List.mem_cons_of_mem _ hr)
      · rw [flat_app, flat_one, List.length_append]; simp; omega
      · simp at *; omega
      · intro h; omega
  ·
    try simp only [decide_eq_true_eq, decide_eq_false_iff_not, Bool.and_eq_true, Bool.or_eq_true, Bool.and_eq_false_iff, Bool.or_eq_false_iff, Bool.not_eq_true', Bool.not_eq_false', Bool.not_eq_true, Bool.not_eq_false, Int.not_lt, Int.not_le, Decidable.not_not, ne_eq] at hc0
    have hout : flat outs = (flat rs).take n.toNat ∧ flat rest = (flat rs).drop n.toNat := by
      have hlo : (flat outs).length ≤ n.toNat := by omega
      have hor : (flat outs).length = n.toNat ∨ flat rest = [] := by
        by_cases h : nn.toNat = 0
        · left; omega
        · right
          have : rest = [] := by
            refine List.eq_nil_of_length_eq_zero ?_
            rcases Classical.em (rest.length = 0) with h0 | h0
            · exact h0
            · exact absurd hc0 (by simp; omega)
          rw [this]; rfl
      rw [← hI1]
      rcases hor with h | h
      · rw [← h]; simp
      · rw [h, List.append_nil, List.take_of_length_le hlo, List.drop_of_length_le hlo]; simp
    refine Hd.exit ?_
    refine Hd.thenExit ?_
    refine Hd.thenExit ?_
    refine Hd.inBexit ?_
    refine Hd.toK hK3 ?_
    refine Hd.seq (fun K14 hK14 => ?_)
    refine Hd.region ?_
    refine Hd.yv (y_move rfl) ?_
    refine Hd.yv (y_assign rfl) ?_
    refine Hd.nil ?_
    refine Hd.slots [(4, _)] ⟨rfl, trivial⟩ ?_
    refine Hd.toK hK14 ?_
    refine Hd.ret ?_
    clear hK1 hK2 hK3 hK4 hK5 hK14
    exact Hd.ret1 rfl (outs, rest, adO, capO) rfl (Ent.sep (.pure ⟨hout.1, hout.2, hI2, hI3⟩ (.pick pkk (.pick pkk (.ex (adH, capH) (.pick pkk (.pick pkk (.pick pkk enn))))))))
end Bc
end Go.Proofs.Ytmpemhbfgbochaa
