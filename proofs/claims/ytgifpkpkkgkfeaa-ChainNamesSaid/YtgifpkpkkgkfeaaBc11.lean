/-
  Bytes in pieces; whether a chain is whole.
-/
import Derived.Test.YtgifpkpkkgkfeaaBc10
namespace Go.Proofs.Ytgifpkpkkgkfeaa
set_option linter.unusedSimpArgs false
set_option linter.unusedVariables false
set_option linter.unnecessarySimpa false
open Go.RX Fx
namespace Bc
/-- pieces of what can be read -/
def RdR (L : List SP) (r : Row) : Prop := RdS L 1 r.ad r.l.length (bsl r.l) ∧ r.l.length ≤ r.cap
def PcI (L : List SP) (l : List UInt8) (ps : List Row) (adB : Option Addr) (mB capB : Nat) (lB : List UInt8) (i m : Nat) : Prop :=
  flat ps ++ lB = l ∧ (∀ r ∈ ps, RdR L r) ∧ RdS L 1 adB mB (bsl lB) ∧ mB ≤ capB ∧ lB.length = mB ∧ ps.length = i ∧ i ≤ m
set_option maxHeartbeats 2000000 in
theorem pieces_ct (L R : List SP) (hLR : ∀ k, sep L k → sep R k) (ad : Option Addr) (m cap : Nat) (l : List UInt8) (hD : RdS R 1 ad m (bsl l)) (hmc : m ≤ cap) (ad2 : Option Addr) (c2 : Nat) (xs : List UInt8) (hX : RdS R 1 ad2 xs.length (bsl xs)) (hx : xs.length ≤ 1048576) : Ct Try.prog 15 #[.slice ad m cap, .slice ad2 xs.length c2] (L) (fun q_ : List Row × Option Addr × Nat => .slice q_.2.1 q_.1.length q_.2.2) (fun q_ : List Row × Option Addr × Nat => pu (flat q_.1 = l ∧ (∀ r ∈ q_.1, RdR R r) ∧ q_.1.length ≤ xs.length + 1) :: OwH q_.2.1 q_.2.2 q_.1 :: L) := by
  refine Ct.of (vs := [.slice ad m cap, .slice ad2 xs.length c2]) Try.func15 rfl rfl [(0, .slice ad m cap), (1, .slice ad2 xs.length c2)] (by repeat (first | exact trivial | refine ⟨rfl, ?_⟩)) ?_
  intro E
  show Hd E 40 _ _ _ _
  refine Hd.rdsF (RdS.mono hD hLR) (fun hlm hnil => ?_)
  have hl : l.length = m := by simpa using hlm
  refine Hd.seq (fun K1 hK1 => ?_)
  refine Hd.region ?_
  refine Hd.yv (y_assign rfl) ?_
  refine Hd.nil ?_
  refine Hd.slots [(0, _), (1, _)] ⟨rfl, rfl, trivial⟩ ?_
  refine Hd.toK hK1 ?_
  refine Hd.seq (fun K2 hK2 => ?_)
  refine Hd.region ?_
  refine Hd.yv (y_assign rfl) ?_
  refine Hd.nil ?_
  refine Hd.slots [(0, _), (1, _), (5, _)] ⟨rfl, rfl, rfl, trivial⟩ ?_
  refine Hd.toK hK2 ?_
  refine Hd.seq (fun K3 hK3 => ?_)
  refine Hd.seq (fun K4 hK4 => ?_)
  refine Hd.region ?_
  refine Hd.yv (y_assign rfl) ?_
  refine Hd.nil ?_
  refine Hd.slots [(0, _), (1, _), (5, _), (6, _)] ⟨rfl, rfl, rfl, rfl, trivial⟩ ?_
  refine Hd.toK hK4 ?_
  refine Hd.block ?_
  refine Hd.loopK (ι := List Row × Option Addr × Nat × Nat × Option Addr × Nat × Nat × List UInt8) [(1, _)] (fun q_ => [(0, .slice q_.2.2.2.2.1 q_.2.2.2.2.2.1 q_.2.2.2.2.2.2.1), (5, .slice q_.2.1 q_.1.length q_.2.2.1), (6, .int .i64 (q_.2.2.2.1 : Int))]) (fun q_ => pu (PcI R l q_.1 q_.2.2.2.2.1 q_.2.2.2.2.2.1 q_.2.2.2.2.2.2.1 q_.2.2.2.2.2.2.2 q_.2.2.2.1 xs.length) :: OwH q_.2.1 q_.2.2.1 q_.1 :: L) (fun q_ => xs.length - q_.2.2.2.1) ([], none, 0, 0, ad, m, cap, l) (by repeat (first | exact trivial | refine ⟨rfl, ?_⟩)) (by repeat (first | exact trivial | refine ⟨rfl, ?_⟩)) (Ent.sep (.pure ⟨rfl, fun r hr => (by cases hr), hD, hmc, hl, rfl, Nat.zero_le _⟩ (.ownNil enn))) ?_
  rintro ⟨ps, adO, capO, i, adB, mB, capB, lB⟩
  try dsimp only
  refine Hd.pure (fun hp0 => ?_)
  try dsimp only at hp0
  obtain ⟨hI1, hI2, hI3, hI4, hI5, hI6, hI7⟩ := hp0
  refine Hd.seq (fun K5 hK5 => ?_)
  refine Hd.seq (fun K6 hK6 => ?_)
  refine Hd.region ?_
  refine Hd.yv (y_move rfl) ?_
  refine Hd.yv (y_move rfl) ?_
  refine Hd.yv (y_len Try.underlying22 rfl) ?_
  refine Hd.yv (y_lss rfl rfl) ?_
  refine Hd.yv (y_move rfl) ?_
  apply Hd.andg 4 12 16 [(0, _), (1, _), (5, _), (6, _)] rfl ⟨rfl, rfl, rfl, rfl, trivial⟩
  · intro hg3_12
    try simp only [decide_eq_true_eq, decide_eq_false_iff_not, Bool.and_eq_true, Bool.or_eq_true, Bool.and_eq_false_iff, Bool.or_eq_false_iff, Bool.not_eq_true', Bool.not_eq_false', Bool.not_eq_true, Bool.not_eq_false, Int.not_lt, Int.not_le, Decidable.not_not, ne_eq] at hg3_12
    simp only [List.take]
    refine Hd.yg rfl rfl (y_move rfl) ?_
    refine Hd.yg rfl rfl (y_len Try.underlying22 rfl) ?_
    refine Hd.yg rfl rfl (y_gtr rfl rfl) ?_
    first | (refine Hd.yv (y_pickT rfl rfl) ?_) | (refine Hd.yv (y_pickF rfl rfl) ?_) | (refine Hd.yv (y_pickb rfl rfl rfl) ?_) | (refine Hd.yv (y_pick rfl rfl rfl) ?_)
    refine Hd.nil ?_
    exact Hd.mend (by repeat (first | exact trivial | refine ⟨rfl, ?_⟩)) (Ent.sep enn)
  · intro hg3_12
    try simp only [decide_eq_true_eq, decide_eq_false_iff_not, Bool.and_eq_true, Bool.or_eq_true, Bool.and_eq_false_iff, Bool.or_eq_false_iff, Bool.not_eq_true', Bool.not_eq_false', Bool.not_eq_true, Bool.not_eq_false, Int.not_lt, Int.not_le, Decidable.not_not, ne_eq] at hg3_12
    simp only [List.take]
    refine Hd.ng rfl rfl rfl ?_
    refine Hd.ng rfl rfl rfl ?_
    refine Hd.ng rfl rfl rfl ?_
    first | (refine Hd.yv (y_pickT rfl rfl) ?_) | (refine Hd.yv (y_pickF rfl rfl) ?_) | (refine Hd.yv (y_pickb rfl rfl rfl) ?_) | (refine Hd.yv (y_pick rfl rfl rfl) ?_)
    refine Hd.nil ?_
    exact Hd.mend (by repeat (first | exact trivial | refine ⟨rfl, ?_⟩)) (Ent.sep enn)
  simp only [List.drop]
  refine Hd.nil ?_
  refine Hd.slots [(0, _), (1, _), (5, _), (6, _), (16, _)] ⟨rfl, rfl, rfl, rfl, rfl, trivial⟩ ?_
  refine Hd.toK hK6 ?_
  refine Hd.cond rfl (fun hc0 => ?_) (fun hc0 => ?_)
  ·
    try simp only [decide_eq_true_eq, decide_eq_false_iff_not, Bool.and_eq_true, Bool.or_eq_true, Bool.and_eq_false_iff, Bool.or_eq_false_iff, Bool.not_eq_true', Bool.not_eq_false', Bool.not_eq_true, Bool.not_eq_false, Int.not_lt, Int.not_le, Decidable.not_not, ne_eq] at hc0
    have hi : i < xs.length := by omega
    have hxi : (xs[i]).toNat < 256 := UInt8.toNat_lt _
    have hk : min (xs[i]).toNat mB ≤ mB := Nat.min_le_right _ _
    refine Hd.skip ?_
    refine Hd.toK hK5 ?_
    refine Hd.seq (fun K7 hK7 => ?_)
    refine Hd.block ?_
    refine Hd.seq (fun K8 hK8 => ?_)
    refine Hd.region ?_
    refine Hd.yv (y_move rfl) ?_
    refine Hd.yv (y_move rfl) ?_
    first | (refine Hd.yv (y_idxS Try.underlying22 sz5 rfl rfl (by first | omega | decide)) ?_) | (refine Hd.yv (y_idxR Try.underlying22 sz5 rfl rfl (by first | omega | decide) (by (first | exact RdS.own pkk | exact RdS.mono (RdS.mono hX hLR) (Ent.sep enn)))) ?_)
    first | (refine Hd.yv (y_load1 ag5 rfl (Rd.pt1 pkk (by (first | exact bsl_at hi | rfl)))) ?_) | (refine Hd.yv (y_load1 ag5 rfl (Rd.seg1 pkk (by (first | exact bsl_at hi | rfl)))) ?_) | (refine Hd.yv (y_loadR1 ag5 rfl (by (first | exact RdS.own pkk | exact RdS.mono (RdS.mono hX hLR) (Ent.sep enn))) (by (first | exact bsl_at hi | rfl))) ?_)
    first | (refine Hd.yv (y_convn rfl Try.underlying5 Try.underlying3 (by simp only [InK]; omega)) ?_) | (refine Hd.yv (y_conv rfl Try.underlying5 Try.underlying3) ?_)
    refine Hd.yv (y_move rfl) ?_
    refine Hd.yv (y_len Try.underlying22 rfl) ?_
    refine Hd.yv (y_min rfl rfl) ?_
    refine Hd.yv (y_assign rfl) ?_
    refine Hd.nil ?_
    refine Hd.name (b := ((min (xs[i]).toNat mB : Nat) : Int)) 7 rfl (by omega) ?_
    refine Hd.slots [(0, _), (1, _), (5, _), (6, _), (7, _)] ⟨rfl, rfl, rfl, rfl, rfl, trivial⟩ ?_
    refine Hd.toK hK8 ?_
    refine Hd.seq (fun K9 hK9 => ?_)
    refine Hd.region ?_
    refine Hd.yv (y_move rfl) ?_
    refine Hd.yv (y_move rfl) ?_
    refine Hd.yv (y_move rfl) ?_
    first | (refine Hd.yv (y_slo_xoxN Try.underlying22 sz5 rfl rfl (by first | omega | (simp; done) | decide)) ?_) | (refine Hd.yv (y_slo_xox Try.underlying22 sz5 rfl rfl (by first | omega | (simp; done) | decide) (by first | omega | (simp; done) | decide)) ?_)
    refine Hd.bslice (vs := [(0, _)]) rfl (by first | exact bs15_31 .. | kernel_rfl) (fun b31 => ?_)
    refine Hd.append Try.underlying25 ty22 rfl rfl rfl pkk (by first | exact RdS.rd (Rd.pt pkk (fun j v e => by simpa using e)) rfl | (first | exact RdS.own pkk | exact RdS.mono (RdS.mono hX hLR) (Ent.sep enn))) (by first | (simp [Value.oneCell']; done) | assumption) (by first | (simp only [maxLen]; omega) | assumption) (by omega) (fun ad32 cap32 => ?_)
    refine Hd.yv (y_assign rfl) ?_
    refine Hd.nil ?_
    refine Hd.slots [(0, _), (1, _), (5, _), (6, _), (7, _)] ⟨rfl, rfl, rfl, rfl, rfl, trivial⟩ ?_
    refine Hd.toK hK9 ?_
    refine Hd.region ?_
    refine Hd.yv (y_move rfl) ?_
    refine Hd.yv (y_move rfl) ?_
    first | (refine Hd.yv (y_slo_oxxN Try.underlying22 sz5 rfl rfl (by first | omega | (simp; done) | decide)) ?_) | (refine Hd.yv (y_slo_oxx Try.underlying22 sz5 rfl rfl (by first | omega | (simp; done) | decide) (by first | omega | (simp; done) | decide)) ?_)
    refine Hd.yv (y_assign rfl) ?_
    refine Hd.nil ?_
    refine Hd.slots [(0, _), (1, _), (5, _), (6, _)] ⟨rfl, rfl, rfl, rfl, trivial⟩ ?_
    refine Hd.inB ?_
    refine Hd.toK hK7 ?_
    refine Hd.region ?_
    refine Hd.yv (y_move rfl) ?_
    first | (refine Hd.yv (y_addn rfl rfl (by simp only [InK]; omega)) ?_) | (refine Hd.yv (y_add rfl rfl) ?_)
    refine Hd.yv (y_assign rfl) ?_
    refine Hd.nil ?_
    refine Hd.slots [(0, _), (1, _), (5, _), (6, _)] ⟨rfl, rfl, rfl, rfl, trivial⟩ ?_
    clear hK1 hK2 hK3 hK4 hK5 hK6 hK7 hK8 hK9
    refine Hd.thenN ?_
    refine Hd.again (ps ++ [⟨adB, capB, lB.take (min (xs[i]).toNat mB)⟩], ad32, cap32, i + 1, cutA adB 1 (min (xs[i]).toNat mB) capB, mB - min (xs[i]).toNat mB, capB - min (xs[i]).toNat mB, lB.drop (min (xs[i]).toNat mB)) (by simp only; omega) (by repeat (first | exact trivial | refine ⟨rfl, ?_⟩ | refine ⟨by show some _ = some _; simp, ?_⟩)) (Ent.sep (.pure ⟨?_, ?_, ?_, ?_, ?_, ?_, ?_⟩ (.eq pkk (own_eq ?_ ?_) enn)))
    · rw [flat_app, flat_one, List.append_assoc, List.take_append_drop]; exact hI1
    · intro r hr
      rcases List.mem_append.1 hr with hr | hr
      · exact hI2 r hr
      · simp only [List.mem_singleton] at hr
        subst hr
        have h1 := RdS.head hI3 hk
        rw [Nat.mul_one, ← List.map_take] at h1
        refine ⟨?_, by simp only [List.length_take]; omega⟩
        have e : (lB.take (min (xs[i]).toNat mB)).length = min (xs[i]).toNat mB := by rw [List.length_take]; omega
        rw [e]; exact h1
    · have h1 := RdS.tail (mx := capB) hI3 hk hI4
      rw [Nat.mul_one, ← List.map_drop] at h1
      exact h1
    · exact Nat.sub_le_sub_right hI4 _
    · simp [hI5]
    · simp [hI6]
    · exact hi
    · simp
    · simp [hI5, Nat.min_eq_left hk]
  ·
    try simp only [decide_eq_true_eq, decide_eq_false_iff_not, Bool.and_eq_true, Bool.or_eq_true, Bool.and_eq_false_iff, Bool.or_eq_false_iff, Bool.not_eq_true', Bool.not_eq_false', Bool.not_eq_true, Bool.not_eq_false, Int.not_lt, Int.not_le, Decidable.not_not, ne_eq] at hc0
    refine Hd.exit ?_
    refine Hd.thenExit ?_
    refine Hd.thenExit ?_
    refine Hd.inBexit ?_
    refine Hd.toK hK3 ?_
    refine Hd.seq (fun K10 hK10 => ?_)
    refine Hd.region ?_
    refine Hd.yv (y_move rfl) ?_
    refine Hd.yv (y_move rfl) ?_
    refine Hd.bslice (vs := [(0, _)]) rfl (by first | exact bs15_38 .. | kernel_rfl) (fun b38 => ?_)
    refine Hd.append Try.underlying25 ty22 rfl rfl rfl pkk (by first | exact RdS.rd (Rd.pt pkk (fun j v e => by simpa using e)) rfl | (first | exact RdS.own pkk | exact RdS.mono (RdS.mono hX hLR) (Ent.sep enn))) (by first | (simp [Value.oneCell']; done) | assumption) (by first | (simp only [maxLen]; omega) | assumption) (by omega) (fun ad39 cap39 => ?_)
    refine Hd.yv (y_assign rfl) ?_
    refine Hd.nil ?_
    refine Hd.slots [(4, _)] ⟨rfl, trivial⟩ ?_
    refine Hd.toK hK10 ?_
    refine Hd.ret ?_
    clear hK1 hK2 hK3 hK4 hK5 hK6 hK10
    have hm : lB.length = mB := hI5
    subst hm
    refine Hd.ret1 rfl (ps ++ [⟨adB, capB, lB⟩], ad39, cap39) (by show some _ = some _; simp) (Ent.sep (.pure ⟨?_, ?_, ?_⟩ (.eq pkk (own_eq ?_ ?_) enn)))
    · rw [flat_app, flat_one]; exact hI1
    · intro r hr
      rcases List.mem_append.1 hr with hr | hr
      · exact hI2 r hr
      · simp only [List.mem_singleton] at hr
        subst hr
        exact ⟨hI3, hI4⟩
    · simp; omega
    · simp
    · simp
theorem lens_at {rs : List Row} {i : Nat} (h : i < rs.length) : (lens rs)[i * 1]? = some (V (rs[i].l.length : Int)) := by simp [lens, h]
set_option maxHeartbeats 2000000 in
theorem whole_ct (L : List SP) (b o : Nat) (rs : List Row) (hg : Good rs) (ad : Option Addr) (m cap : Nat) (l : List UInt8) (hD : RdS L 1 ad m (bsl l)) (hfl : flat rs = l) : Ct Try.prog 17 #[.pointer (some ⟨b, o, none⟩), .slice ad m cap] (Ch b o rs :: L) (fun _ : Unit => .bool true) (fun _ : Unit => Ch b o rs :: L) := by
  refine Ct.of (vs := [.pointer (some ⟨b, o, none⟩), .slice ad m cap]) Try.func17 rfl rfl [(0, .pointer (some ⟨b, o, none⟩)), (1, .slice ad m cap)] (by repeat (first | exact trivial | refine ⟨rfl, ?_⟩)) ?_
  intro E
  show Hd E 48 _ _ _ _
  have hg0 := hg
  obtain ⟨hfull, hlen⟩ := hg
  have hrl := full_len hfull
  refine Hd.rdsF (RdS.mono hD (Ent.sep enn)) (fun hlm hnil => ?_)
  have hl : l.length = m := by simpa using hlm
  refine Hd.seq (fun K1 hK1 => ?_)
  refine Hd.region ?_
  refine Hd.yv (y_assign rfl) ?_
  refine Hd.nil ?_
  refine Hd.slots [(0, _), (1, _)] ⟨rfl, rfl, trivial⟩ ?_
  refine Hd.toK hK1 ?_
  refine Hd.seq (fun K2 hK2 => ?_)
  refine Hd.region ?_
  refine Hd.yv (y_assign rfl) ?_
  refine Hd.nil ?_
  refine Hd.slots [(0, _), (1, _), (5, _)] ⟨rfl, rfl, rfl, trivial⟩ ?_
  refine Hd.toK hK2 ?_
  refine Hd.seq (fun K3 hK3 => ?_)
  refine Hd.region ?_
  refine Hd.yv (y_move rfl) ?_
  refine Hd.callE rfl fk30 (chunksOf_ct _ b o rs hg0) (Ent.sep enn) ?_
  rintro ⟨a6, c6⟩
  dsimp only
  refine Hd.yv (y_assign rfl) ?_
  refine Hd.nil ?_
  refine Hd.slots [(0, _), (1, _), (5, _), (6, _)] ⟨rfl, rfl, rfl, rfl, trivial⟩ ?_
  refine Hd.toK hK3 ?_
  refine Hd.seq (fun K4 hK4 => ?_)
  refine Hd.seq (fun K5 hK5 => ?_)
  refine Hd.region ?_
  refine Hd.yv (y_move rfl) ?_
  refine Hd.yv (y_len Try.underlying59 rfl) ?_
  refine Hd.yv (y_move rfl) ?_
  refine Hd.nil ?_
  refine Hd.slots [(0, _), (1, _), (5, _), (6, _), (11, _), (12, _)] ⟨rfl, rfl, rfl, rfl, rfl, rfl, trivial⟩ ?_
  refine Hd.toK hK5 ?_
  refine Hd.block ?_
  refine Hd.loopK (ι := Nat) [(0, _), (1, _), (6, _), (11, _)] (fun i => [(5, .int .i64 ((flat (rs.take i)).length : Int)), (12, .int .i64 (i : Int))]) (fun i => pu (i ≤ rs.length) :: own 3 1 a6 rs.length c6 (lens rs) :: Ch b o rs :: L) (fun i => rs.length - i) 0 (by repeat (first | exact trivial | refine ⟨rfl, ?_⟩)) (by repeat (first | exact trivial | refine ⟨rfl, ?_⟩)) (Ent.sep (.pure (by first | omega | (simp; done) | (simp; omega) | exact ⟨by simp, by simp⟩) enn)) ?_
  intro i
  try dsimp only
  refine Hd.pure (fun hp0 => ?_)
  try dsimp only at hp0
  refine Hd.seq (fun K6 hK6 => ?_)
  refine Hd.region ?_
  refine Hd.yv (y_lss rfl rfl) ?_
  refine Hd.nil ?_
  refine Hd.slots [(0, _), (1, _), (5, _), (6, _), (11, _), (12, _), (13, _)] ⟨rfl, rfl, rfl, rfl, rfl, rfl, rfl, trivial⟩ ?_
  refine Hd.toK hK6 ?_
  refine Hd.seq (fun K7 hK7 => ?_)
  refine Hd.cond rfl (fun hc0 => ?_) (fun hc0 => ?_)
  ·
    try simp only [decide_eq_true_eq, decide_eq_false_iff_not, Bool.and_eq_true, Bool.or_eq_true, Bool.and_eq_false_iff, Bool.or_eq_false_iff, Bool.not_eq_true', Bool.not_eq_false', Bool.not_eq_true, Bool.not_eq_false, Int.not_lt, Int.not_le, Decidable.not_not, ne_eq] at hc0
    have hi : i < rs.length := by omega
    have hpos := hfull _ (List.getElem_mem hi)
    have e1 := flat_take_succ hi
    have e2 := flat_take_le (rs := rs) (i + 1)
    rw [e1, List.length_append] at e2
    refine Hd.skip ?_
    refine Hd.toK hK7 ?_
    refine Hd.seq (fun K8 hK8 => ?_)
    refine Hd.block ?_
    refine Hd.seq (fun K9 hK9 => ?_)
    refine Hd.region ?_
    refine Hd.yv (y_move rfl) ?_
    refine Hd.yv (y_assign rfl) ?_
    refine Hd.nil ?_
    refine Hd.slots [(0, _), (1, _), (5, _), (6, _), (7, _), (11, _), (12, _)] ⟨rfl, rfl, rfl, rfl, rfl, rfl, rfl, trivial⟩ ?_
    refine Hd.toK hK9 ?_
    refine Hd.seq (fun K10 hK10 => ?_)
    refine Hd.seq (fun K11 hK11 => ?_)
    refine Hd.region ?_
    refine Hd.yv (y_move rfl) ?_
    refine Hd.yv (y_move rfl) ?_
    first | (refine Hd.yv (y_idxS Try.underlying59 sz3 rfl rfl (by first | omega | decide)) ?_) | (refine Hd.yv (y_idxR Try.underlying59 sz3 rfl rfl (by first | omega | decide) (by (first | exact RdS.own pkk | exact hD))) ?_)
    first | (refine Hd.yv (y_load1 ag3 rfl (Rd.pt1 pkk (by (first | exact lens_at hi | rfl)))) ?_) | (refine Hd.yv (y_load1 ag3 rfl (Rd.seg1 pkk (by (first | exact lens_at hi | rfl)))) ?_) | (refine Hd.yv (y_loadR1 ag3 rfl (by (first | exact RdS.own pkk | exact hD)) (by (first | exact lens_at hi | rfl))) ?_)
    refine Hd.yv (y_lss rfl rfl) ?_
    refine Hd.nil ?_
    refine Hd.slots [(0, _), (1, _), (5, _), (6, _), (7, _), (11, _), (12, _), (19, _)] ⟨rfl, rfl, rfl, rfl, rfl, rfl, rfl, rfl, trivial⟩ ?_
    refine Hd.toK hK11 ?_
    refine Hd.cond rfl (fun hc1 => ?_) (fun hc1 => ?_)
    ·
      try simp only [decide_eq_true_eq, decide_eq_false_iff_not, Bool.and_eq_true, Bool.or_eq_true, Bool.and_eq_false_iff, Bool.or_eq_false_iff, Bool.not_eq_true', Bool.not_eq_false', Bool.not_eq_true, Bool.not_eq_false, Int.not_lt, Int.not_le, Decidable.not_not, ne_eq] at hc1
      exact absurd hc1 (by omega)
    ·
      try simp only [decide_eq_true_eq, decide_eq_false_iff_not, Bool.and_eq_true, Bool.or_eq_true, Bool.and_eq_false_iff, Bool.or_eq_false_iff, Bool.not_eq_true', Bool.not_eq_false', Bool.not_eq_true, Bool.not_eq_false, Int.not_lt, Int.not_le, Decidable.not_not, ne_eq] at hc1
      refine Hd.skip ?_
      refine Hd.toK hK10 ?_
      refine Hd.region ?_
      refine Hd.yv (y_move rfl) ?_
      refine Hd.yv (y_move rfl) ?_
      refine Hd.yv (y_move rfl) ?_
      first | (refine Hd.yv (y_idxS Try.underlying59 sz3 rfl rfl (by first | omega | decide)) ?_) | (refine Hd.yv (y_idxR Try.underlying59 sz3 rfl rfl (by first | omega | decide) (by (first | exact RdS.own pkk | exact hD))) ?_)
      first | (refine Hd.yv (y_load1 ag3 rfl (Rd.pt1 pkk (by (first | exact lens_at hi | rfl)))) ?_) | (refine Hd.yv (y_load1 ag3 rfl (Rd.seg1 pkk (by (first | exact lens_at hi | rfl)))) ?_) | (refine Hd.yv (y_loadR1 ag3 rfl (by (first | exact RdS.own pkk | exact hD)) (by (first | exact lens_at hi | rfl))) ?_)
      first | (refine Hd.yv (y_addn rfl rfl (by simp only [InK]; omega)) ?_) | (refine Hd.yv (y_add rfl rfl) ?_)
      refine Hd.yv (y_assign rfl) ?_
      refine Hd.nil ?_
      refine Hd.slots [(0, _), (1, _), (5, _), (6, _), (11, _), (12, _)] ⟨rfl, rfl, rfl, rfl, rfl, rfl, trivial⟩ ?_
      refine Hd.inB ?_
      refine Hd.toK hK8 ?_
      refine Hd.region ?_
      first | (refine Hd.yv (y_addn rfl rfl (by simp only [InK]; omega)) ?_) | (refine Hd.yv (y_add rfl rfl) ?_)
      refine Hd.yv (y_move rfl) ?_
      refine Hd.nil ?_
      refine Hd.slots [(0, _), (1, _), (5, _), (6, _), (11, _), (12, _)] ⟨rfl, rfl, rfl, rfl, rfl, rfl, trivial⟩ ?_
      clear hK1 hK2 hK3 hK4 hK5 hK6 hK7 hK8 hK9 hK10 hK11
      refine Hd.thenN ?_
      exact Hd.again (i + 1) (by first | omega | (simp only; omega) | (simp; omega)) (by repeat (first | exact trivial | refine ⟨rfl, ?_⟩ | refine ⟨by (show some _ = some _; rw [e1, List.length_append]; rfl), ?_⟩)) (Ent.sep (.pure (by first | omega | (simp; done) | (simp; omega) | (dsimp only; omega)) enn))
  ·
    try simp only [decide_eq_true_eq, decide_eq_false_iff_not, Bool.and_eq_true, Bool.or_eq_true, Bool.and_eq_false_iff, Bool.or_eq_false_iff, Bool.not_eq_true', Bool.not_eq_false', Bool.not_eq_true, Bool.not_eq_false, Int.not_lt, Int.not_le, Decidable.not_not, ne_eq] at hc0
    obtain rfl : i = rs.length := by omega
    rw [flat_all (Nat.le_refl _)]
    refine Hd.exit ?_
    refine Hd.thenExit ?_
    refine Hd.thenExit ?_
    refine Hd.inBexit ?_
    refine Hd.toK hK4 ?_
    refine Hd.seq (fun K12 hK12 => ?_)
    refine Hd.drawsH (L) (fun _ => true) mixed ?_
    simp only [List.length, Nat.zero_add, Nat.reduceAdd]
    refine Hd.takeH 0 rfl (by kernel_rfl) (by kernel_rfl) (by kernel_rfl) (by kernel_rfl) (y_move rfl) (fun _ _ => rfl) (Ent.sep enn) ?_
    refine Hd.takeH 1 rfl (by kernel_rfl) (by kernel_rfl) (by kernel_rfl) (by kernel_rfl) (y_move rfl) (fun _ _ => rfl) (Ent.sep enn) ?_
    refine Hd.takeH 2 rfl (by kernel_rfl) (by kernel_rfl) (by kernel_rfl) (by kernel_rfl) (y_len Try.underlying22 rfl) (fun _ _ => rfl) (Ent.sep enn) ?_
    first | (refine Hd.takeH 3 rfl (by kernel_rfl) (by kernel_rfl) (by kernel_rfl) (by kernel_rfl) (y_to (y_eqlT rfl rfl) (congrArg Value.bool (decide_eq_true ((by rw [hfl, hl]))))) (fun _ _ => rfl) (Ent.sep enn) ?_) | (refine Hd.takeH 3 rfl (by kernel_rfl) (by kernel_rfl) (by kernel_rfl) (by kernel_rfl) (y_to (y_eql rfl rfl) (congrArg Value.bool (decide_eq_true ((by rw [hfl, hl]))))) (fun _ _ => rfl) (Ent.sep enn) ?_)
    refine Hd.takeH 4 rfl (by kernel_rfl) (by kernel_rfl) (by kernel_rfl) (by kernel_rfl) (y_move rfl) (fun _ _ => rfl) (Ent.sep enn) ?_
    refine Hd.takegH 5 rfl (by kernel_rfl) (by kernel_rfl) (by kernel_rfl) (by kernel_rfl) rfl rfl (y_move rfl) (fun _ _ => rfl) (Ent.sep enn) ?_
    refine Hd.takegH 7 rfl (by kernel_rfl) (by kernel_rfl) (by kernel_rfl) (by kernel_rfl) rfl rfl (y_move rfl) (fun _ _ => rfl) (Ent.sep enn) ?_
    refine Hd.takegH 8 rfl (by kernel_rfl) (by kernel_rfl) (by kernel_rfl) (by kernel_rfl) rfl rfl (y_len Try.underlying22 rfl) (fun _ _ => rfl) (Ent.sep enn) ?_
    refine Hd.onlyH 6 rfl (by kernel_rfl) ?_
    refine Hd.unguard rfl rfl ?_
    refine Hd.callE rfl fk23 (lenC_ct _ b o rs) (Ent.sep enn) ?_
    intro _
    refine Hd.nil ?_
    refine Hd.thenN ?_
    refine Hd.heldK (J := (fun _ => true)) (i := 6) (Ent.sep enn) ?_
    first | (refine Hd.takegH 9 rfl (by kernel_rfl) (by kernel_rfl) (by kernel_rfl) (by kernel_rfl) rfl rfl (y_to (y_eqlT rfl rfl) (congrArg Value.bool (decide_eq_true ((by rw [hfl, hl]))))) (fun _ _ => rfl) (Ent.sep enn) ?_) | (refine Hd.takegH 9 rfl (by kernel_rfl) (by kernel_rfl) (by kernel_rfl) (by kernel_rfl) rfl rfl (y_to (y_eql rfl rfl) (congrArg Value.bool (decide_eq_true ((by rw [hfl, hl]))))) (fun _ _ => rfl) (Ent.sep enn) ?_)
    first | (refine Hd.takeH 10 rfl (by kernel_rfl) (by kernel_rfl) (by kernel_rfl) (by kernel_rfl) (y_pickT rfl rfl) (fun _ _ => rfl) (Ent.sep enn) ?_) | (refine Hd.takeH 10 rfl (by kernel_rfl) (by kernel_rfl) (by kernel_rfl) (by kernel_rfl) (y_pickF rfl rfl) (fun _ _ => rfl) (Ent.sep enn) ?_) | (refine Hd.takeH 10 rfl (by kernel_rfl) (by kernel_rfl) (by kernel_rfl) (by kernel_rfl) (y_pickb rfl rfl rfl) (fun _ _ => rfl) (Ent.sep enn) ?_) | (refine Hd.takeH 10 rfl (by kernel_rfl) (by kernel_rfl) (by kernel_rfl) (by kernel_rfl) (y_pick rfl rfl rfl) (fun _ _ => rfl) (Ent.sep enn) ?_)
    refine Hd.takeH 11 rfl (by kernel_rfl) (by kernel_rfl) (by kernel_rfl) (by kernel_rfl) (y_move rfl) (fun _ _ => rfl) (Ent.sep enn) ?_
    refine Hd.takegH 12 rfl (by kernel_rfl) (by kernel_rfl) (by kernel_rfl) (by kernel_rfl) rfl rfl (y_move rfl) (fun _ _ => rfl) (Ent.sep enn) ?_
    refine Hd.takegH 13 rfl (by kernel_rfl) (by kernel_rfl) (by kernel_rfl) (by kernel_rfl) rfl rfl (y_move rfl) (fun _ _ => rfl) (Ent.sep enn) ?_
    refine Hd.takegH 14 rfl (by kernel_rfl) (by kernel_rfl) (by kernel_rfl) (by kernel_rfl) rfl rfl (y_len Try.underlying22 rfl) (fun _ _ => rfl) (Ent.sep enn) ?_
    refine Hd.takegH 17 rfl (by kernel_rfl) (by kernel_rfl) (by kernel_rfl) (by kernel_rfl) rfl rfl (y_move rfl) (fun _ _ => rfl) (Ent.sep enn) ?_
    refine Hd.takegH 18 rfl (by kernel_rfl) (by kernel_rfl) (by kernel_rfl) (by kernel_rfl) rfl rfl (y_strOf (l := _) (by kernel_rfl) Try.underlying9 rfl (by (first | exact RdS.own pkk | exact hD))) (fun _ _ => rfl) (Ent.sep enn) ?_
    refine Hd.onlyH 15 rfl (by kernel_rfl) ?_
    refine Hd.unguard rfl rfl ?_
    refine Hd.callE rfl fk22 (copy_ct _ b o rs hg0 0 (m : Int) (by simp [InK]) (by simp only [InK]; rw [hfl] at hlen; omega)) (Ent.sep enn) ?_
    rintro ⟨a15, c15⟩
    dsimp only
    refine Hd.nil ?_
    refine Hd.thenN ?_
    refine Hd.heldK (J := (fun _ => true)) (i := 15) (Ent.sep enn) ?_
    refine Hd.onlyH 16 rfl (by kernel_rfl) ?_
    refine Hd.yg rfl rfl (y_strOf (l := _) (by kernel_rfl) Try.underlying9 rfl (by (first | exact RdS.own pkk | exact hD))) ?_
    refine Hd.nil ?_
    refine Hd.thenN ?_
    refine Hd.heldK (J := (fun _ => true)) (i := 16) (Ent.sep enn) ?_
    refine Hd.takegH 19 rfl (by kernel_rfl) (by kernel_rfl) (by kernel_rfl) (by kernel_rfl) rfl rfl (y_to (y_eqlstr rfl rfl) (congrArg Value.bool (decide_eq_true ((by rw [hfl]; unfold cpy; rw [if_neg (by omega)]; simp only [Int.toNat_zero, List.drop_zero, Int.toNat_natCast]; exact List.take_of_length_le (by omega)))))) (fun _ _ => rfl) (Ent.sep enn) ?_
    first | (refine Hd.takeH 20 rfl (by kernel_rfl) (by kernel_rfl) (by kernel_rfl) (by kernel_rfl) (y_pickT rfl rfl) (fun _ _ => rfl) (Ent.sep enn) ?_) | (refine Hd.takeH 20 rfl (by kernel_rfl) (by kernel_rfl) (by kernel_rfl) (by kernel_rfl) (y_pickF rfl rfl) (fun _ _ => rfl) (Ent.sep enn) ?_) | (refine Hd.takeH 20 rfl (by kernel_rfl) (by kernel_rfl) (by kernel_rfl) (by kernel_rfl) (y_pickb rfl rfl rfl) (fun _ _ => rfl) (Ent.sep enn) ?_) | (refine Hd.takeH 20 rfl (by kernel_rfl) (by kernel_rfl) (by kernel_rfl) (by kernel_rfl) (y_pick rfl rfl rfl) (fun _ _ => rfl) (Ent.sep enn) ?_)
    refine Hd.takeH 21 rfl (by kernel_rfl) (by kernel_rfl) (by kernel_rfl) (by kernel_rfl) (y_assign rfl) (fun _ _ => rfl) (Ent.sep enn) ?_
    refine Hd.endH (by kernel_rfl) ?_
    refine Hd.slots [(4, _)] ⟨rfl, trivial⟩ ?_
    refine Hd.toK hK12 ?_
    refine Hd.ret ?_
    clear hK1 hK2 hK3 hK4 hK5 hK6 hK7 hK12
    exact Hd.ret1 rfl () (by first | rfl | (simp only [*]; done) | (simp [*]; done)) (Ent.sep enn)
end Bc
end Go.Proofs.Ytgifpkpkkgkfeaa
