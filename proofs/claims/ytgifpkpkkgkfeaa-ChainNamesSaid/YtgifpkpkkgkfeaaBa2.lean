/-
  That the law ChainMoves answers true.
-/
import Derived.Test.YtgifpkpkkgkfeaaBa1
namespace Go.Proofs.Ytgifpkpkkgkfeaa
set_option linter.unusedSimpArgs false
set_option linter.unusedVariables false
set_option linter.unnecessarySimpa false
open Go.RX Fx
namespace Bc
theorem mvE_ok {l1 l2 : Nat} {n : Int} (h0 : 0 ≤ n) (h : min n.toNat l1 ≤ 1048576 - l2) : mvE l1 l2 n = 0 := by unfold mvE; rw [if_neg (by omega)]; exact mayE_ok h
theorem mvK_ok {l1 l2 : Nat} {n : Int} (h0 : 0 ≤ n) (h : min n.toNat l1 ≤ 1048576 - l2) : mvK l1 l2 n = min n.toNat l1 := by unfold mvK; rw [if_pos (mvE_ok h0 h)]
theorem cpy_all {l : List UInt8} {n : Int} (h : (l.length : Int) ≤ n) : cpy l 0 n = l := by
  unfold cpy
  rw [if_neg (by omega)]
  simp only [Int.toNat_zero, List.drop_zero]
  exact List.take_of_length_le (by omega)
theorem good_add {rs rs2 : List Row} {ps : List Row} {i : Nat} (hi : i < ps.length) (h : flat rs = flat (ps.take i)) (h2 : flat rs2 = if (ps[i]).l.length ≤ 1048576 - (flat rs).length then flat rs ++ (ps[i]).l else flat rs) (hb : (flat ps).length ≤ 1048576) : flat rs2 = flat (ps.take (i + 1)) ∧ (ps[i]).l.length ≤ 1048576 - (flat rs).length := by
  have h3 := flat_take_le (rs := ps) (i + 1)
  rw [flat_take_succ hi, List.length_append] at h3
  have h4 : (ps[i]).l.length ≤ 1048576 - (flat rs).length := by rw [h]; omega
  rw [if_pos h4] at h2
  exact ⟨by rw [h2, h, flat_take_succ hi], h4⟩
theorem piece_le {ps : List Row} {i : Nat} (hi : i < ps.length) : (ps[i]).l.length ≤ (flat ps).length := mem_le (List.getElem_mem hi)
set_option maxHeartbeats 2000000 in
theorem movesLaw_ct (L : List SP) (ad : Option Addr) (m cap : Nat) (l : List UInt8) (hD : RdS L 1 ad m (bsl l)) (hmc : m ≤ cap) (ad2 : Option Addr) (c2 : Nat) (xs : List UInt8) (hX : RdS L 1 ad2 xs.length (bsl xs)) (n : Int) (hn : InK .u16 n) : Ct Try.prog 6 #[.slice ad m cap, .slice ad2 xs.length c2, .int .u16 n] (L) (fun _ : Unit => .bool true) (fun _ : Unit => L) := by
  refine Ct.of (vs := [.slice ad m cap, .slice ad2 xs.length c2, .int .u16 n]) Try.func6 rfl rfl [(0, .slice ad m cap), (1, .slice ad2 xs.length c2), (2, .int .u16 n)] (by repeat (first | exact trivial | refine ⟨rfl, ?_⟩)) ?_
  intro E
  show Hd E 138 _ _ _ _
  simp only [InK] at hn
  refine Hd.rdsF hD (fun hlm hnil => ?_)
  have hl : l.length = m := by simpa using hlm
  refine Hd.seq (fun K1 hK1 => ?_)
  refine Hd.region ?_
  refine Hd.yv (y_assign rfl) ?_
  refine Hd.nil ?_
  refine Hd.slots [(0, _), (1, _), (2, _)] ⟨rfl, rfl, rfl, trivial⟩ ?_
  refine Hd.toK hK1 ?_
  refine Hd.seq (fun K2 hK2 => ?_)
  refine Hd.region ?_
  refine Hd.callE rfl fk14 (alive_ct _) (Ent.sep enn) ?_
  intro _
  refine Hd.yv (y_assign rfl) ?_
  refine Hd.nil ?_
  refine Hd.slots [(0, _), (1, _), (2, _), (7, _)] ⟨rfl, rfl, rfl, rfl, trivial⟩ ?_
  refine Hd.toK hK2 ?_
  refine Hd.seq (fun K3 hK3 => ?_)
  refine Hd.seq (fun K4 hK4 => ?_)
  refine Hd.region ?_
  refine Hd.yv (y_move rfl) ?_
  refine Hd.yv (y_len Try.underlying22 rfl) ?_
  refine Hd.yv (y_gtr rfl rfl) ?_
  refine Hd.yv (y_move rfl) ?_
  apply Hd.org 4 21 25 [(0, _), (1, _), (2, _), (7, _)] rfl ⟨rfl, rfl, rfl, rfl, trivial⟩
  · intro hg2_21
    try simp only [decide_eq_true_eq, decide_eq_false_iff_not, Bool.and_eq_true, Bool.or_eq_true, Bool.and_eq_false_iff, Bool.or_eq_false_iff, Bool.not_eq_true', Bool.not_eq_false', Bool.not_eq_true, Bool.not_eq_false, Int.not_lt, Int.not_le, Decidable.not_not, ne_eq] at hg2_21
    simp only [List.take]
    refine Hd.ng rfl rfl rfl ?_
    refine Hd.ng rfl rfl rfl ?_
    refine Hd.ng rfl rfl rfl ?_
    first | (refine Hd.yv (y_pickT rfl rfl) ?_) | (refine Hd.yv (y_pickF rfl rfl) ?_) | (refine Hd.yv (y_pickb rfl rfl rfl) ?_) | (refine Hd.yv (y_pick rfl rfl rfl) ?_)
    refine Hd.nil ?_
    exact Hd.mend (by repeat (first | exact trivial | refine ⟨rfl, ?_⟩)) (Ent.sep enn)
  · intro hg2_21
    try simp only [decide_eq_true_eq, decide_eq_false_iff_not, Bool.and_eq_true, Bool.or_eq_true, Bool.and_eq_false_iff, Bool.or_eq_false_iff, Bool.not_eq_true', Bool.not_eq_false', Bool.not_eq_true, Bool.not_eq_false, Int.not_lt, Int.not_le, Decidable.not_not, ne_eq] at hg2_21
    simp only [List.take]
    refine Hd.yg rfl rfl (y_move rfl) ?_
    refine Hd.yg rfl rfl (y_len Try.underlying22 rfl) ?_
    refine Hd.yg rfl rfl (y_gtr rfl rfl) ?_
    first | (refine Hd.yv (y_pickT rfl rfl) ?_) | (refine Hd.yv (y_pickF rfl rfl) ?_) | (refine Hd.yv (y_pickb rfl rfl rfl) ?_) | (refine Hd.yv (y_pick rfl rfl rfl) ?_)
    refine Hd.nil ?_
    exact Hd.mend (by repeat (first | exact trivial | refine ⟨rfl, ?_⟩)) (Ent.sep enn)
  simp only [List.drop]
  refine Hd.yv (y_move rfl) ?_
  apply Hd.org 3 26 29 [(0, _), (1, _), (2, _), (7, _)] rfl ⟨rfl, rfl, rfl, rfl, trivial⟩
  · intro hg2_26
    try simp only [decide_eq_true_eq, decide_eq_false_iff_not, Bool.and_eq_true, Bool.or_eq_true, Bool.and_eq_false_iff, Bool.or_eq_false_iff, Bool.not_eq_true', Bool.not_eq_false', Bool.not_eq_true, Bool.not_eq_false, Int.not_lt, Int.not_le, Decidable.not_not, ne_eq] at hg2_26
    simp only [List.take]
    refine Hd.ng rfl rfl rfl ?_
    refine Hd.ng rfl rfl rfl ?_
    first | (refine Hd.yv (y_pickT rfl rfl) ?_) | (refine Hd.yv (y_pickF rfl rfl) ?_) | (refine Hd.yv (y_pickb rfl rfl rfl) ?_) | (refine Hd.yv (y_pick rfl rfl rfl) ?_)
    refine Hd.nil ?_
    exact Hd.mend (by repeat (first | exact trivial | refine ⟨rfl, ?_⟩)) (Ent.sep enn)
  · intro hg2_26
    try simp only [decide_eq_true_eq, decide_eq_false_iff_not, Bool.and_eq_true, Bool.or_eq_true, Bool.and_eq_false_iff, Bool.or_eq_false_iff, Bool.not_eq_true', Bool.not_eq_false', Bool.not_eq_true, Bool.not_eq_false, Int.not_lt, Int.not_le, Decidable.not_not, ne_eq] at hg2_26
    simp only [List.take]
    refine Hd.yg rfl rfl (y_move rfl) ?_
    refine Hd.yg rfl rfl (y_not rfl) ?_
    first | (refine Hd.yv (y_pickT rfl rfl) ?_) | (refine Hd.yv (y_pickF rfl rfl) ?_) | (refine Hd.yv (y_pickb rfl rfl rfl) ?_) | (refine Hd.yv (y_pick rfl rfl rfl) ?_)
    refine Hd.nil ?_
    exact Hd.mend (by repeat (first | exact trivial | refine ⟨rfl, ?_⟩)) (Ent.sep enn)
  simp only [List.drop]
  refine Hd.nil ?_
  refine Hd.slots [(0, _), (1, _), (2, _), (7, _), (29, _)] ⟨rfl, rfl, rfl, rfl, rfl, trivial⟩ ?_
  refine Hd.toK hK4 ?_
  refine Hd.cond rfl (fun hc0 => ?_) (fun hc0 => ?_)
  ·
    try simp only [decide_eq_true_eq, decide_eq_false_iff_not, Bool.and_eq_true, Bool.or_eq_true, Bool.and_eq_false_iff, Bool.or_eq_false_iff, Bool.not_eq_true', Bool.not_eq_false', Bool.not_eq_true, Bool.not_eq_false, Int.not_lt, Int.not_le, Decidable.not_not, ne_eq] at hc0
    refine Hd.seq (fun K5 hK5 => ?_)
    refine Hd.region ?_
    refine Hd.yv (y_move rfl) ?_
    refine Hd.yv (y_assign rfl) ?_
    refine Hd.nil ?_
    refine Hd.slots [(6, _)] ⟨rfl, trivial⟩ ?_
    refine Hd.toK hK5 ?_
    refine Hd.ret ?_
    refine Hd.thenRet ?_
    clear hK1 hK2 hK3 hK4 hK5
    exact Hd.ret1 rfl () (by first | rfl | (simp only [*]; done) | (simp [*]; done)) (Ent.sep enn)
  ·
    try simp only [decide_eq_true_eq, decide_eq_false_iff_not, Bool.and_eq_true, Bool.or_eq_true, Bool.and_eq_false_iff, Bool.or_eq_false_iff, Bool.not_eq_true', Bool.not_eq_false', Bool.not_eq_true, Bool.not_eq_false, Int.not_lt, Int.not_le, Decidable.not_not, ne_eq] at hc0
    obtain ⟨hm, hxl⟩ : m ≤ 5000 ∧ xs.length ≤ 200 := by simp at hc0; omega
    refine Hd.skip ?_
    refine Hd.toK hK3 ?_
    refine Hd.seq (fun K6 hK6 => ?_)
    refine Hd.region ?_
    refine Hd.yv (y_build (vs := []) rfl (by first | exact bd6_31 .. | kernel_rfl)) ?_
    refine Hd.box rfl rfl (fun b32 => ?_)
    refine Hd.mkCh pkk ?_
    refine Hd.yv (y_build (vs := []) rfl (by first | exact bd6_33 .. | kernel_rfl)) ?_
    refine Hd.box rfl rfl (fun b34 => ?_)
    refine Hd.mkCh pkk ?_
    refine Hd.yv (y_assign rfl) ?_
    refine Hd.yv (y_assign rfl) ?_
    refine Hd.nil ?_
    refine Hd.slots [(0, _), (1, _), (2, _), (7, _), (8, _), (9, _)] ⟨rfl, rfl, rfl, rfl, rfl, rfl, trivial⟩ ?_
    refine Hd.toK hK6 ?_
    refine Hd.seq (fun K7 hK7 => ?_)
    refine Hd.region ?_
    refine Hd.yv (y_move rfl) ?_
    refine Hd.yv (y_move rfl) ?_
    refine Hd.callE rfl fk15 (pieces_ct (Ch b32 0 [] :: KdC b32 :: Ch b34 0 [] :: KdC b34 :: L) L (Ent.sep enn) ad m cap l hD hmc ad2 c2 xs hX (by omega)) (Ent.sep enn) ?_
    rintro ⟨ps, a10, c10⟩
    dsimp only
    refine Hd.pure (fun hps => ?_)
    obtain ⟨hp1, hp2, hp3⟩ := hps
    have hpl : (flat ps).length ≤ 5000 := by rw [hp1, hl]; exact hm
    refine Hd.yv (y_assign rfl) ?_
    refine Hd.nil ?_
    refine Hd.slots [(0, _), (2, _), (7, _), (8, _), (9, _), (10, _)] ⟨rfl, rfl, rfl, rfl, rfl, rfl, trivial⟩ ?_
    refine Hd.toK hK7 ?_
    refine Hd.seq (fun K8 hK8 => ?_)
    refine Hd.seq (fun K9 hK9 => ?_)
    refine Hd.region ?_
    refine Hd.yv (y_move rfl) ?_
    refine Hd.yv (y_len Try.underlying25 rfl) ?_
    refine Hd.yv (y_move rfl) ?_
    refine Hd.nil ?_
    refine Hd.slots [(0, _), (2, _), (7, _), (8, _), (9, _), (10, _), (39, _), (40, _)] ⟨rfl, rfl, rfl, rfl, rfl, rfl, rfl, rfl, trivial⟩ ?_
    refine Hd.toK hK9 ?_
    refine Hd.block ?_
    refine Hd.loopK (ι := List Row × Nat) [(0, _), (2, _), (7, _), (8, _), (9, _), (10, _), (39, _)] (fun q_ => [(40, .int .i64 (q_.2 : Int))]) (fun q_ => pu (Good q_.1 ∧ flat q_.1 = flat (ps.take q_.2) ∧ q_.2 ≤ ps.length) :: Ch b32 0 q_.1 :: OwH a10 c10 ps :: Ch b34 0 [] :: KdC b32 :: KdC b34 :: L) (fun q_ => ps.length - q_.2) ([], 0) (by repeat (first | exact trivial | refine ⟨rfl, ?_⟩)) (by repeat (first | exact trivial | refine ⟨rfl, ?_⟩)) (Ent.sep (.pure ⟨good_nil, by simp [flat], Nat.zero_le _⟩ enn)) ?_
    rintro ⟨rs, i⟩
    try dsimp only
    refine Hd.pure (fun hp0 => ?_)
    try dsimp only at hp0
    refine Hd.seq (fun K10 hK10 => ?_)
    refine Hd.region ?_
    refine Hd.yv (y_lss rfl rfl) ?_
    refine Hd.nil ?_
    refine Hd.slots [(0, _), (2, _), (7, _), (8, _), (9, _), (10, _), (39, _), (40, _), (41, _)] ⟨rfl, rfl, rfl, rfl, rfl, rfl, rfl, rfl, rfl, trivial⟩ ?_
    refine Hd.toK hK10 ?_
    refine Hd.seq (fun K11 hK11 => ?_)
    refine Hd.cond rfl (fun hc1 => ?_) (fun hc1 => ?_)
    ·
      try simp only [decide_eq_true_eq, decide_eq_false_iff_not, Bool.and_eq_true, Bool.or_eq_true, Bool.and_eq_false_iff, Bool.or_eq_false_iff, Bool.not_eq_true', Bool.not_eq_false', Bool.not_eq_true, Bool.not_eq_false, Int.not_lt, Int.not_le, Decidable.not_not, ne_eq] at hc1
      obtain ⟨hg, hfl, hi'⟩ := hp0
      have hi : i < ps.length := by omega
      have hrd := hp2 _ (List.getElem_mem hi)
      have hpi := piece_le hi
      refine Hd.skip ?_
      refine Hd.toK hK11 ?_
      refine Hd.seq (fun K12 hK12 => ?_)
      refine Hd.block ?_
      refine Hd.seq (fun K13 hK13 => ?_)
      refine Hd.region ?_
      refine Hd.yv (y_move rfl) ?_
      refine Hd.yv (y_assign rfl) ?_
      refine Hd.nil ?_
      refine Hd.slots [(0, _), (2, _), (7, _), (8, _), (9, _), (10, _), (11, _), (39, _), (40, _)] ⟨rfl, rfl, rfl, rfl, rfl, rfl, rfl, rfl, rfl, trivial⟩ ?_
      refine Hd.toK hK13 ?_
      refine Hd.region ?_
      refine Hd.yv (y_move rfl) ?_
      refine Hd.yv (y_move rfl) ?_
      refine Hd.yv (y_move rfl) ?_
      first | (refine Hd.yv (y_idxS Try.underlying25 sz22 rfl rfl (by first | omega | decide)) ?_) | (refine Hd.yv (y_idxR Try.underlying25 sz22 rfl rfl (by first | omega | decide) (by (first | exact RdS.own pkk | exact rd_head hD (by omega) | exact rd_tail hD (by omega) hmc))) ?_)
      first | (refine Hd.yv (y_load1 ag22 rfl (Rd.pt1 pkk (by (first | exact hdr_at hi | rfl)))) ?_) | (refine Hd.yv (y_load1 ag22 rfl (Rd.seg1 pkk (by (first | exact hdr_at hi | rfl)))) ?_) | (refine Hd.yv (y_loadR1 ag22 rfl (by (first | exact RdS.own pkk | exact rd_head hD (by omega) | exact rd_tail hD (by omega) hmc)) (by (first | exact hdr_at hi | rfl))) ?_)
      refine Hd.callE rfl fk19 (add_ct (OwH a10 c10 ps :: Ch b34 0 [] :: KdC b32 :: KdC b34 :: L) b32 0 rs hg _ _ _ ps[i].l (RdS.mono hrd.1 (Ent.sep enn)) hrd.2 (by omega)) (Ent.sep enn) ?_
      rintro rs2
      refine Hd.pure (fun h2 => ?_)
      have hadd := good_add hi hfl h2.2 (by omega)
      refine Hd.nil ?_
      refine Hd.slots [(0, _), (2, _), (7, _), (8, _), (9, _), (10, _), (39, _), (40, _)] ⟨rfl, rfl, rfl, rfl, rfl, rfl, rfl, rfl, trivial⟩ ?_
      refine Hd.inB ?_
      refine Hd.toK hK12 ?_
      refine Hd.region ?_
      first | (refine Hd.yv (y_addn rfl rfl (by simp only [InK]; omega)) ?_) | (refine Hd.yv (y_add rfl rfl) ?_)
      refine Hd.yv (y_move rfl) ?_
      refine Hd.nil ?_
      refine Hd.slots [(0, _), (2, _), (7, _), (8, _), (9, _), (10, _), (39, _), (40, _)] ⟨rfl, rfl, rfl, rfl, rfl, rfl, rfl, rfl, trivial⟩ ?_
      clear hK1 hK2 hK3 hK4 hK6 hK7 hK8 hK9 hK10 hK11 hK12 hK13
      refine Hd.thenN ?_
      exact Hd.again (rs2, i + 1) (by first | omega | (simp only; omega) | (simp; omega)) (by repeat (first | exact trivial | refine ⟨rfl, ?_⟩)) (Ent.sep (.pure ⟨h2.1, hadd.1, hi⟩ enn))
    ·
      try simp only [decide_eq_true_eq, decide_eq_false_iff_not, Bool.and_eq_true, Bool.or_eq_true, Bool.and_eq_false_iff, Bool.or_eq_false_iff, Bool.not_eq_true', Bool.not_eq_false', Bool.not_eq_true, Bool.not_eq_false, Int.not_lt, Int.not_le, Decidable.not_not, ne_eq] at hc1
      obtain ⟨hg, hfl, hi'⟩ := hp0
      obtain rfl : i = ps.length := by omega
      rw [flat_all (Nat.le_refl _), hp1] at hfl
      refine Hd.exit ?_
      refine Hd.thenExit ?_
      refine Hd.thenExit ?_
      refine Hd.inBexit ?_
      refine Hd.toK hK8 ?_
      refine Hd.seq (fun K14 hK14 => ?_)
      refine Hd.region ?_
      refine Hd.yv (y_move rfl) ?_
      first | (refine Hd.yv (y_convn rfl Try.underlying47 Try.underlying3 (by simp only [InK]; omega)) ?_) | (refine Hd.yv (y_conv rfl Try.underlying47 Try.underlying3) ?_)
      refine Hd.yv (y_move rfl) ?_
      refine Hd.yv (y_len Try.underlying22 rfl) ?_
      refine Hd.yv (y_min rfl rfl) ?_
      refine Hd.yv (y_assign rfl) ?_
      refine Hd.nil ?_
      refine Hd.name (b := ((min n.toNat m : Nat) : Int)) 12 rfl (by omega) ?_
      refine Hd.slots [(0, _), (2, _), (7, _), (8, _), (9, _), (12, _)] ⟨rfl, rfl, rfl, rfl, rfl, rfl, trivial⟩ ?_
      refine Hd.toK hK14 ?_
      refine Hd.seq (fun K15 hK15 => ?_)
      refine Hd.region ?_
      refine Hd.yv (y_move rfl) ?_
      refine Hd.yv (y_move rfl) ?_
      refine Hd.yv (y_move rfl) ?_
      first | (refine Hd.yv (y_convn rfl Try.underlying47 Try.underlying3 (by simp only [InK]; omega)) ?_) | (refine Hd.yv (y_conv rfl Try.underlying47 Try.underlying3) ?_)
      refine Hd.callE rfl fk24 (move_ct (KdC b32 :: KdC b34 :: L) b32 0 b34 0 rs [] hg good_nil n (by simp only [InK]; omega) (NeP.kds .here .here)) (Ent.sep enn) ?_
      rintro ⟨r1, r2⟩
      dsimp only
      have eE : mvE (flat rs).length (flat []).length n = 0 := mvE_ok (by omega) (by rw [hfl]; simp [flat]; omega)
      have eK : mvK (flat rs).length (flat []).length n = min n.toNat m := by rw [mvK_ok (by omega) (by rw [hfl]; simp [flat]; omega), hfl, hl]
      rw [eE, eK, hfl]
      refine Hd.pure (fun hmv => ?_)
      obtain ⟨hg1, hg2, hf1, hf2⟩ := hmv
      have hf2' : flat r2 = l.take (min n.toNat m) := by rw [hf2]; rfl
      refine Hd.yv (y_move rfl) ?_
      refine Hd.yv (y_extract rfl rfl) ?_
      refine Hd.yv (y_extract rfl rfl) ?_
      refine Hd.yv (y_assign rfl) ?_
      refine Hd.yv (y_assign rfl) ?_
      refine Hd.nil ?_
      refine Hd.slots [(0, _), (7, _), (8, _), (9, _), (12, _), (13, _), (14, _)] ⟨rfl, rfl, rfl, rfl, rfl, rfl, rfl, trivial⟩ ?_
      refine Hd.toK hK15 ?_
      refine Hd.seq (fun K16 hK16 => ?_)
      refine Hd.seq (fun K17 hK17 => ?_)
      refine Hd.drawsH (L) (fun _ => true) mixed ?_
      simp only [List.length, Nat.zero_add, Nat.reduceAdd]
      refine Hd.takeH 0 rfl (by kernel_rfl) (by kernel_rfl) (by kernel_rfl) (by kernel_rfl) (y_move rfl) (fun _ _ => rfl) (Ent.sep enn) ?_
      refine Hd.takeH 1 rfl (by kernel_rfl) (by kernel_rfl) (by kernel_rfl) (by kernel_rfl) (y_move rfl) (fun _ _ => rfl) (Ent.sep enn) ?_
      refine Hd.takeH 2 rfl (by kernel_rfl) (by kernel_rfl) (by kernel_rfl) (by kernel_rfl) (y_to (y_neq rfl rfl) (congrArg Value.bool (decide_eq_false ((fun h => h rfl))))) (fun _ _ => rfl) (Ent.sep enn) ?_
      refine Hd.takeH 3 rfl (by kernel_rfl) (by kernel_rfl) (by kernel_rfl) (by kernel_rfl) (y_move rfl) (fun _ _ => rfl) (Ent.sep enn) ?_
      refine Hd.takegH 4 rfl (by kernel_rfl) (by kernel_rfl) (by kernel_rfl) (by kernel_rfl) rfl rfl (y_move rfl) (fun _ _ => rfl) (Ent.sep enn) ?_
      refine Hd.takegH 5 rfl (by kernel_rfl) (by kernel_rfl) (by kernel_rfl) (by kernel_rfl) rfl rfl (y_to (y_neq rfl rfl) (congrArg Value.bool (decide_eq_false ((fun h => h rfl))))) (fun _ _ => rfl) (Ent.sep enn) ?_
      first | (refine Hd.takeH 6 rfl (by kernel_rfl) (by kernel_rfl) (by kernel_rfl) (by kernel_rfl) (y_pickT rfl rfl) (fun _ _ => rfl) (Ent.sep enn) ?_) | (refine Hd.takeH 6 rfl (by kernel_rfl) (by kernel_rfl) (by kernel_rfl) (by kernel_rfl) (y_pickF rfl rfl) (fun _ _ => rfl) (Ent.sep enn) ?_) | (refine Hd.takeH 6 rfl (by kernel_rfl) (by kernel_rfl) (by kernel_rfl) (by kernel_rfl) (y_pickb rfl rfl rfl) (fun _ _ => rfl) (Ent.sep enn) ?_) | (refine Hd.takeH 6 rfl (by kernel_rfl) (by kernel_rfl) (by kernel_rfl) (by kernel_rfl) (y_pick rfl rfl rfl) (fun _ _ => rfl) (Ent.sep enn) ?_)
      refine Hd.takeH 7 rfl (by kernel_rfl) (by kernel_rfl) (by kernel_rfl) (by kernel_rfl) (y_move rfl) (fun _ _ => rfl) (Ent.sep enn) ?_
      refine Hd.takegH 8 rfl (by kernel_rfl) (by kernel_rfl) (by kernel_rfl) (by kernel_rfl) rfl rfl (y_move rfl) (fun _ _ => rfl) (Ent.sep enn) ?_
      refine Hd.takegH 9 rfl (by kernel_rfl) (by kernel_rfl) (by kernel_rfl) (by kernel_rfl) rfl rfl (y_move rfl) (fun _ _ => rfl) (Ent.sep enn) ?_
      refine Hd.takegH 10 rfl (by kernel_rfl) (by kernel_rfl) (by kernel_rfl) (by kernel_rfl) rfl rfl (y_len Try.underlying22 rfl) (fun _ _ => rfl) (Ent.sep enn) ?_
      first | (refine Hd.takegH 11 rfl (by kernel_rfl) (by kernel_rfl) (by kernel_rfl) (by kernel_rfl) rfl rfl (y_addn rfl rfl (by simp only [InK]; omega)) (fun _ _ => rfl) (Ent.sep enn) ?_) | (refine Hd.takegH 11 rfl (by kernel_rfl) (by kernel_rfl) (by kernel_rfl) (by kernel_rfl) rfl rfl (y_add rfl rfl) (fun _ _ => rfl) (Ent.sep enn) ?_)
      refine Hd.takegH 14 rfl (by kernel_rfl) (by kernel_rfl) (by kernel_rfl) (by kernel_rfl) rfl rfl (y_move rfl) (fun _ _ => rfl) (Ent.sep enn) ?_
      refine Hd.takegH 15 rfl (by kernel_rfl) (by kernel_rfl) (by kernel_rfl) (by kernel_rfl) rfl rfl (y_move rfl) (fun _ _ => rfl) (Ent.sep enn) ?_
      first | (refine Hd.takegH 16 rfl (by kernel_rfl) (by kernel_rfl) (by kernel_rfl) (by kernel_rfl) rfl rfl (y_slo_xoxN Try.underlying22 sz5 rfl rfl (by first | omega | (simp; done) | decide)) (fun _ _ => rfl) (Ent.sep enn) ?_) | (refine Hd.takegH 16 rfl (by kernel_rfl) (by kernel_rfl) (by kernel_rfl) (by kernel_rfl) rfl rfl (y_slo_xox Try.underlying22 sz5 rfl rfl (by first | omega | (simp; done) | decide) (by first | omega | (simp; done) | decide)) (fun _ _ => rfl) (Ent.sep enn) ?_)
      first | (refine Hd.takegH 17 rfl (by kernel_rfl) (by kernel_rfl) (by kernel_rfl) (by kernel_rfl) rfl rfl (y_strOf (l := l.take (min n.toNat m)) (by kernel_rfl) Try.underlying9 rfl (by (first | exact RdS.own pkk | exact rd_head hD (by omega) | exact rd_tail hD (by omega) hmc))) (fun _ _ => rfl) (Ent.sep enn) ?_) | (refine Hd.takegH 17 rfl (by kernel_rfl) (by kernel_rfl) (by kernel_rfl) (by kernel_rfl) rfl rfl (y_strOf (l := l.drop (min n.toNat m)) (by kernel_rfl) Try.underlying9 rfl (by (first | exact RdS.own pkk | exact rd_head hD (by omega) | exact rd_tail hD (by omega) hmc))) (fun _ _ => rfl) (Ent.sep enn) ?_) | (refine Hd.takegH 17 rfl (by kernel_rfl) (by kernel_rfl) (by kernel_rfl) (by kernel_rfl) rfl rfl (y_strOf (l := _) (by kernel_rfl) Try.underlying9 rfl (by (first | exact RdS.own pkk | exact rd_head hD (by omega) | exact rd_tail hD (by omega) hmc))) (fun _ _ => rfl) (Ent.sep enn) ?_)
      refine Hd.onlyH 12 rfl (by kernel_rfl) ?_
      refine Hd.unguard rfl rfl ?_
      refine Hd.callE rfl fk22 (copy_ct (Ch b32 0 r1 :: KdC b32 :: KdC b34 :: L) b34 0 r2 hg2 0 _ (by simp [InK]) (by simp only [InK]; omega)) (Ent.sep enn) ?_
      rintro ⟨a75, c75⟩
      dsimp only
      refine Hd.nil ?_
      refine Hd.thenN ?_
      refine Hd.heldK (J := (fun _ => true)) (i := 12) (Ent.sep enn) ?_
      refine Hd.onlyH 13 rfl (by kernel_rfl) ?_
      first | (refine Hd.yg rfl rfl (y_strOf (l := l.take (min n.toNat m)) (by kernel_rfl) Try.underlying9 rfl (by (first | exact RdS.own pkk | exact rd_head hD (by omega) | exact rd_tail hD (by omega) hmc))) ?_) | (refine Hd.yg rfl rfl (y_strOf (l := l.drop (min n.toNat m)) (by kernel_rfl) Try.underlying9 rfl (by (first | exact RdS.own pkk | exact rd_head hD (by omega) | exact rd_tail hD (by omega) hmc))) ?_) | (refine Hd.yg rfl rfl (y_strOf (l := _) (by kernel_rfl) Try.underlying9 rfl (by (first | exact RdS.own pkk | exact rd_head hD (by omega) | exact rd_tail hD (by omega) hmc))) ?_)
      refine Hd.nil ?_
      refine Hd.thenN ?_
      refine Hd.heldK (J := (fun _ => true)) (i := 13) (Ent.sep enn) ?_
      refine Hd.takegH 18 rfl (by kernel_rfl) (by kernel_rfl) (by kernel_rfl) (by kernel_rfl) rfl rfl (y_to (y_neqstr rfl rfl) (congrArg Value.bool (decide_eq_false ((fun h => h (by rw [cpy_all (by rw [hf2', List.length_take]; omega), hf2'])))))) (fun _ _ => rfl) (Ent.sep enn) ?_
      first | (refine Hd.takeH 19 rfl (by kernel_rfl) (by kernel_rfl) (by kernel_rfl) (by kernel_rfl) (y_pickT rfl rfl) (fun _ _ => rfl) (Ent.sep enn) ?_) | (refine Hd.takeH 19 rfl (by kernel_rfl) (by kernel_rfl) (by kernel_rfl) (by kernel_rfl) (y_pickF rfl rfl) (fun _ _ => rfl) (Ent.sep enn) ?_) | (refine Hd.takeH 19 rfl (by kernel_rfl) (by kernel_rfl) (by kernel_rfl) (by kernel_rfl) (y_pickb rfl rfl rfl) (fun _ _ => rfl) (Ent.sep enn) ?_) | (refine Hd.takeH 19 rfl (by kernel_rfl) (by kernel_rfl) (by kernel_rfl) (by kernel_rfl) (y_pick rfl rfl rfl) (fun _ _ => rfl) (Ent.sep enn) ?_)
      refine Hd.takeH 20 rfl (by kernel_rfl) (by kernel_rfl) (by kernel_rfl) (by kernel_rfl) (y_move rfl) (fun _ _ => rfl) (Ent.sep enn) ?_
      refine Hd.takegH 21 rfl (by kernel_rfl) (by kernel_rfl) (by kernel_rfl) (by kernel_rfl) rfl rfl (y_move rfl) (fun _ _ => rfl) (Ent.sep enn) ?_
      refine Hd.takegH 22 rfl (by kernel_rfl) (by kernel_rfl) (by kernel_rfl) (by kernel_rfl) rfl rfl (y_move rfl) (fun _ _ => rfl) (Ent.sep enn) ?_
      refine Hd.takegH 23 rfl (by kernel_rfl) (by kernel_rfl) (by kernel_rfl) (by kernel_rfl) rfl rfl (y_len Try.underlying22 rfl) (fun _ _ => rfl) (Ent.sep enn) ?_
      first | (refine Hd.takegH 24 rfl (by kernel_rfl) (by kernel_rfl) (by kernel_rfl) (by kernel_rfl) rfl rfl (y_addn rfl rfl (by simp only [InK]; omega)) (fun _ _ => rfl) (Ent.sep enn) ?_) | (refine Hd.takegH 24 rfl (by kernel_rfl) (by kernel_rfl) (by kernel_rfl) (by kernel_rfl) rfl rfl (y_add rfl rfl) (fun _ _ => rfl) (Ent.sep enn) ?_)
      refine Hd.takegH 27 rfl (by kernel_rfl) (by kernel_rfl) (by kernel_rfl) (by kernel_rfl) rfl rfl (y_move rfl) (fun _ _ => rfl) (Ent.sep enn) ?_
      refine Hd.takegH 28 rfl (by kernel_rfl) (by kernel_rfl) (by kernel_rfl) (by kernel_rfl) rfl rfl (y_move rfl) (fun _ _ => rfl) (Ent.sep enn) ?_
      first | (refine Hd.takegH 29 rfl (by kernel_rfl) (by kernel_rfl) (by kernel_rfl) (by kernel_rfl) rfl rfl (y_slo_oxxN Try.underlying22 sz5 rfl rfl (by first | omega | (simp; done) | decide)) (fun _ _ => rfl) (Ent.sep enn) ?_) | (refine Hd.takegH 29 rfl (by kernel_rfl) (by kernel_rfl) (by kernel_rfl) (by kernel_rfl) rfl rfl (y_slo_oxx Try.underlying22 sz5 rfl rfl (by first | omega | (simp; done) | decide) (by first | omega | (simp; done) | decide)) (fun _ _ => rfl) (Ent.sep enn) ?_)
      first | (refine Hd.takegH 30 rfl (by kernel_rfl) (by kernel_rfl) (by kernel_rfl) (by kernel_rfl) rfl rfl (y_strOf (l := l.take (min n.toNat m)) (by kernel_rfl) Try.underlying9 rfl (by (first | exact RdS.own pkk | exact rd_head hD (by omega) | exact rd_tail hD (by omega) hmc))) (fun _ _ => rfl) (Ent.sep enn) ?_) | (refine Hd.takegH 30 rfl (by kernel_rfl) (by kernel_rfl) (by kernel_rfl) (by kernel_rfl) rfl rfl (y_strOf (l := l.drop (min n.toNat m)) (by kernel_rfl) Try.underlying9 rfl (by (first | exact RdS.own pkk | exact rd_head hD (by omega) | exact rd_tail hD (by omega) hmc))) (fun _ _ => rfl) (Ent.sep enn) ?_) | (refine Hd.takegH 30 rfl (by kernel_rfl) (by kernel_rfl) (by kernel_rfl) (by kernel_rfl) rfl rfl (y_strOf (l := _) (by kernel_rfl) Try.underlying9 rfl (by (first | exact RdS.own pkk | exact rd_head hD (by omega) | exact rd_tail hD (by omega) hmc))) (fun _ _ => rfl) (Ent.sep enn) ?_)
      refine Hd.onlyH 25 rfl (by kernel_rfl) ?_
      refine Hd.unguard rfl rfl ?_
      refine Hd.callE rfl fk22 (copy_ct (Ch b34 0 r2 :: KdC b32 :: KdC b34 :: L) b32 0 r1 hg1 0 _ (by simp [InK]) (by simp only [InK]; omega)) (Ent.sep enn) ?_
      rintro ⟨a88, c88⟩
      dsimp only
      refine Hd.nil ?_
      refine Hd.thenN ?_
      refine Hd.heldK (J := (fun _ => true)) (i := 25) (Ent.sep enn) ?_
      refine Hd.onlyH 26 rfl (by kernel_rfl) ?_
      first | (refine Hd.yg rfl rfl (y_strOf (l := l.take (min n.toNat m)) (by kernel_rfl) Try.underlying9 rfl (by (first | exact RdS.own pkk | exact rd_head hD (by omega) | exact rd_tail hD (by omega) hmc))) ?_) | (refine Hd.yg rfl rfl (y_strOf (l := l.drop (min n.toNat m)) (by kernel_rfl) Try.underlying9 rfl (by (first | exact RdS.own pkk | exact rd_head hD (by omega) | exact rd_tail hD (by omega) hmc))) ?_) | (refine Hd.yg rfl rfl (y_strOf (l := _) (by kernel_rfl) Try.underlying9 rfl (by (first | exact RdS.own pkk | exact rd_head hD (by omega) | exact rd_tail hD (by omega) hmc))) ?_)
      refine Hd.nil ?_
      refine Hd.thenN ?_
      refine Hd.heldK (J := (fun _ => true)) (i := 26) (Ent.sep enn) ?_
      refine Hd.takegH 31 rfl (by kernel_rfl) (by kernel_rfl) (by kernel_rfl) (by kernel_rfl) rfl rfl (y_to (y_neqstr rfl rfl) (congrArg Value.bool (decide_eq_false ((fun h => h (by rw [cpy_all (by rw [hf1, List.length_drop]; omega), hf1])))))) (fun _ _ => rfl) (Ent.sep enn) ?_
      first | (refine Hd.takeH 32 rfl (by kernel_rfl) (by kernel_rfl) (by kernel_rfl) (by kernel_rfl) (y_pickT rfl rfl) (fun _ _ => rfl) (Ent.sep enn) ?_) | (refine Hd.takeH 32 rfl (by kernel_rfl) (by kernel_rfl) (by kernel_rfl) (by kernel_rfl) (y_pickF rfl rfl) (fun _ _ => rfl) (Ent.sep enn) ?_) | (refine Hd.takeH 32 rfl (by kernel_rfl) (by kernel_rfl) (by kernel_rfl) (by kernel_rfl) (y_pickb rfl rfl rfl) (fun _ _ => rfl) (Ent.sep enn) ?_) | (refine Hd.takeH 32 rfl (by kernel_rfl) (by kernel_rfl) (by kernel_rfl) (by kernel_rfl) (y_pick rfl rfl rfl) (fun _ _ => rfl) (Ent.sep enn) ?_)
      refine Hd.endH (by kernel_rfl) ?_
      refine Hd.slots [(0, _), (7, _), (8, _), (9, _), (12, _), (95, _)] ⟨rfl, rfl, rfl, rfl, rfl, rfl, trivial⟩ ?_
      refine Hd.toK hK17 ?_
      refine Hd.condF rfl ?_
      refine Hd.skip ?_
      refine Hd.toK hK16 ?_
      refine Hd.seq (fun K18 hK18 => ?_)
      refine Hd.region ?_
      refine Hd.yv (y_move rfl) ?_
      refine Hd.yv (y_move rfl) ?_
      refine Hd.yv (y_move rfl) ?_
      refine Hd.yv (y_len Try.underlying22 rfl) ?_
      refine Hd.callE rfl fk24 (move_ct (KdC b32 :: KdC b34 :: L) b32 0 b34 0 r1 r2 hg1 hg2 (m : Int) (by simp only [InK]; omega) (NeP.kds .here .here)) (Ent.sep enn) ?_
      rintro ⟨r3, r4⟩
      dsimp only
      have hl1 : (flat r1).length = m - min n.toNat m := by rw [hf1, List.length_drop, hl]
      have hl2 : (flat r2).length = min n.toNat m := by rw [hf2', List.length_take, hl]; omega
      have eE2 : mvE (flat r1).length (flat r2).length (m : Int) = 0 := mvE_ok (by omega) (by omega)
      have eK2 : mvK (flat r1).length (flat r2).length (m : Int) = m - min n.toNat m := by rw [mvK_ok (by omega) (by omega)]; omega
      rw [eE2, eK2]
      refine Hd.pure (fun hmv2 => ?_)
      obtain ⟨hg3, hg4, hf3, hf4⟩ := hmv2
      have hf3' : flat r3 = [] := by rw [hf3]; exact List.drop_of_length_le (by omega)
      have ht : (l.drop (min n.toNat m)).take (m - min n.toNat m) = l.drop (min n.toNat m) := List.take_of_length_le (by rw [List.length_drop]; omega)
      have hf4' : flat r4 = l := by rw [hf4, hf2', hf1, ht, List.take_append_drop]
      refine Hd.yv (y_move rfl) ?_
      refine Hd.yv (y_extract rfl rfl) ?_
      refine Hd.yv (y_extract rfl rfl) ?_
      refine Hd.yv (y_assign rfl) ?_
      refine Hd.yv (y_assign rfl) ?_
      refine Hd.nil ?_
      refine Hd.slots [(0, _), (7, _), (8, _), (9, _), (12, _), (15, _), (16, _)] ⟨rfl, rfl, rfl, rfl, rfl, rfl, rfl, trivial⟩ ?_
      refine Hd.toK hK18 ?_
      refine Hd.seq (fun K19 hK19 => ?_)
      refine Hd.drawsH (L) (fun _ => true) mixed ?_
      simp only [List.length, Nat.zero_add, Nat.reduceAdd]
      refine Hd.takeH 0 rfl (by kernel_rfl) (by kernel_rfl) (by kernel_rfl) (by kernel_rfl) (y_move rfl) (fun _ _ => rfl) (Ent.sep enn) ?_
      refine Hd.takeH 1 rfl (by kernel_rfl) (by kernel_rfl) (by kernel_rfl) (by kernel_rfl) (y_move rfl) (fun _ _ => rfl) (Ent.sep enn) ?_
      refine Hd.takegH 2 rfl (by kernel_rfl) (by kernel_rfl) (by kernel_rfl) (by kernel_rfl) rfl rfl (y_move rfl) (fun _ _ => rfl) (Ent.sep enn) ?_
      refine Hd.takegH 3 rfl (by kernel_rfl) (by kernel_rfl) (by kernel_rfl) (by kernel_rfl) rfl rfl (y_move rfl) (fun _ _ => rfl) (Ent.sep enn) ?_
      refine Hd.takegH 4 rfl (by kernel_rfl) (by kernel_rfl) (by kernel_rfl) (by kernel_rfl) rfl rfl (y_len Try.underlying22 rfl) (fun _ _ => rfl) (Ent.sep enn) ?_
      refine Hd.takegH 5 rfl (by kernel_rfl) (by kernel_rfl) (by kernel_rfl) (by kernel_rfl) rfl rfl (y_move rfl) (fun _ _ => rfl) (Ent.sep enn) ?_
      first | (refine Hd.takegH 6 rfl (by kernel_rfl) (by kernel_rfl) (by kernel_rfl) (by kernel_rfl) rfl rfl (y_subn rfl rfl (by simp only [InK]; omega)) (fun _ _ => rfl) (Ent.sep enn) ?_) | (refine Hd.takegH 6 rfl (by kernel_rfl) (by kernel_rfl) (by kernel_rfl) (by kernel_rfl) rfl rfl (y_sub rfl rfl) (fun _ _ => rfl) (Ent.sep enn) ?_)
      first | (refine Hd.takegH 7 rfl (by kernel_rfl) (by kernel_rfl) (by kernel_rfl) (by kernel_rfl) rfl rfl (y_to (y_eqlT rfl rfl) (congrArg Value.bool (decide_eq_true ((by omega))))) (fun _ _ => rfl) (Ent.sep enn) ?_) | (refine Hd.takegH 7 rfl (by kernel_rfl) (by kernel_rfl) (by kernel_rfl) (by kernel_rfl) rfl rfl (y_to (y_eql rfl rfl) (congrArg Value.bool (decide_eq_true ((by omega))))) (fun _ _ => rfl) (Ent.sep enn) ?_)
      first | (refine Hd.takeH 8 rfl (by kernel_rfl) (by kernel_rfl) (by kernel_rfl) (by kernel_rfl) (y_pickT rfl rfl) (fun _ _ => rfl) (Ent.sep enn) ?_) | (refine Hd.takeH 8 rfl (by kernel_rfl) (by kernel_rfl) (by kernel_rfl) (by kernel_rfl) (y_pickF rfl rfl) (fun _ _ => rfl) (Ent.sep enn) ?_) | (refine Hd.takeH 8 rfl (by kernel_rfl) (by kernel_rfl) (by kernel_rfl) (by kernel_rfl) (y_pickb rfl rfl rfl) (fun _ _ => rfl) (Ent.sep enn) ?_) | (refine Hd.takeH 8 rfl (by kernel_rfl) (by kernel_rfl) (by kernel_rfl) (by kernel_rfl) (y_pick rfl rfl rfl) (fun _ _ => rfl) (Ent.sep enn) ?_)
      refine Hd.takeH 9 rfl (by kernel_rfl) (by kernel_rfl) (by kernel_rfl) (by kernel_rfl) (y_move rfl) (fun _ _ => rfl) (Ent.sep enn) ?_
      refine Hd.takegH 10 rfl (by kernel_rfl) (by kernel_rfl) (by kernel_rfl) (by kernel_rfl) rfl rfl (y_move rfl) (fun _ _ => rfl) (Ent.sep enn) ?_
      first | (refine Hd.takegH 11 rfl (by kernel_rfl) (by kernel_rfl) (by kernel_rfl) (by kernel_rfl) rfl rfl (y_eqlT rfl rfl) (fun _ _ => rfl) (Ent.sep enn) ?_) | (refine Hd.takegH 11 rfl (by kernel_rfl) (by kernel_rfl) (by kernel_rfl) (by kernel_rfl) rfl rfl (y_eql rfl rfl) (fun _ _ => rfl) (Ent.sep enn) ?_)
      first | (refine Hd.takeH 12 rfl (by kernel_rfl) (by kernel_rfl) (by kernel_rfl) (by kernel_rfl) (y_pickT rfl rfl) (fun _ _ => rfl) (Ent.sep enn) ?_) | (refine Hd.takeH 12 rfl (by kernel_rfl) (by kernel_rfl) (by kernel_rfl) (by kernel_rfl) (y_pickF rfl rfl) (fun _ _ => rfl) (Ent.sep enn) ?_) | (refine Hd.takeH 12 rfl (by kernel_rfl) (by kernel_rfl) (by kernel_rfl) (by kernel_rfl) (y_pickb rfl rfl rfl) (fun _ _ => rfl) (Ent.sep enn) ?_) | (refine Hd.takeH 12 rfl (by kernel_rfl) (by kernel_rfl) (by kernel_rfl) (by kernel_rfl) (y_pick rfl rfl rfl) (fun _ _ => rfl) (Ent.sep enn) ?_)
      refine Hd.takeH 13 rfl (by kernel_rfl) (by kernel_rfl) (by kernel_rfl) (by kernel_rfl) (y_move rfl) (fun _ _ => rfl) (Ent.sep enn) ?_
      refine Hd.takegH 14 rfl (by kernel_rfl) (by kernel_rfl) (by kernel_rfl) (by kernel_rfl) rfl rfl (y_move rfl) (fun _ _ => rfl) (Ent.sep enn) ?_
      refine Hd.onlyH 15 rfl (by kernel_rfl) ?_
      refine Hd.unguard rfl rfl ?_
      refine Hd.callE rfl fk23 (lenC_ct _ b32 0 r3) (Ent.sep enn) ?_
      intro _
      refine Hd.nil ?_
      refine Hd.thenN ?_
      refine Hd.heldK (J := (fun _ => true)) (i := 15) (Ent.sep enn) ?_
      first | (refine Hd.takegH 16 rfl (by kernel_rfl) (by kernel_rfl) (by kernel_rfl) (by kernel_rfl) rfl rfl (y_to (y_eqlT rfl rfl) (congrArg Value.bool (decide_eq_true ((by rw [hf3']; rfl))))) (fun _ _ => rfl) (Ent.sep enn) ?_) | (refine Hd.takegH 16 rfl (by kernel_rfl) (by kernel_rfl) (by kernel_rfl) (by kernel_rfl) rfl rfl (y_to (y_eql rfl rfl) (congrArg Value.bool (decide_eq_true ((by rw [hf3']; rfl))))) (fun _ _ => rfl) (Ent.sep enn) ?_)
      first | (refine Hd.takeH 17 rfl (by kernel_rfl) (by kernel_rfl) (by kernel_rfl) (by kernel_rfl) (y_pickT rfl rfl) (fun _ _ => rfl) (Ent.sep enn) ?_) | (refine Hd.takeH 17 rfl (by kernel_rfl) (by kernel_rfl) (by kernel_rfl) (by kernel_rfl) (y_pickF rfl rfl) (fun _ _ => rfl) (Ent.sep enn) ?_) | (refine Hd.takeH 17 rfl (by kernel_rfl) (by kernel_rfl) (by kernel_rfl) (by kernel_rfl) (y_pickb rfl rfl rfl) (fun _ _ => rfl) (Ent.sep enn) ?_) | (refine Hd.takeH 17 rfl (by kernel_rfl) (by kernel_rfl) (by kernel_rfl) (by kernel_rfl) (y_pick rfl rfl rfl) (fun _ _ => rfl) (Ent.sep enn) ?_)
      refine Hd.takeH 18 rfl (by kernel_rfl) (by kernel_rfl) (by kernel_rfl) (by kernel_rfl) (y_move rfl) (fun _ _ => rfl) (Ent.sep enn) ?_
      refine Hd.takegH 19 rfl (by kernel_rfl) (by kernel_rfl) (by kernel_rfl) (by kernel_rfl) rfl rfl (y_move rfl) (fun _ _ => rfl) (Ent.sep enn) ?_
      refine Hd.takegH 20 rfl (by kernel_rfl) (by kernel_rfl) (by kernel_rfl) (by kernel_rfl) rfl rfl (y_move rfl) (fun _ _ => rfl) (Ent.sep enn) ?_
      refine Hd.takegH 21 rfl (by kernel_rfl) (by kernel_rfl) (by kernel_rfl) (by kernel_rfl) rfl rfl (y_len Try.underlying22 rfl) (fun _ _ => rfl) (Ent.sep enn) ?_
      first | (refine Hd.takegH 22 rfl (by kernel_rfl) (by kernel_rfl) (by kernel_rfl) (by kernel_rfl) rfl rfl (y_addn rfl rfl (by simp only [InK]; omega)) (fun _ _ => rfl) (Ent.sep enn) ?_) | (refine Hd.takegH 22 rfl (by kernel_rfl) (by kernel_rfl) (by kernel_rfl) (by kernel_rfl) rfl rfl (y_add rfl rfl) (fun _ _ => rfl) (Ent.sep enn) ?_)
      refine Hd.takegH 25 rfl (by kernel_rfl) (by kernel_rfl) (by kernel_rfl) (by kernel_rfl) rfl rfl (y_move rfl) (fun _ _ => rfl) (Ent.sep enn) ?_
      first | (refine Hd.takegH 26 rfl (by kernel_rfl) (by kernel_rfl) (by kernel_rfl) (by kernel_rfl) rfl rfl (y_strOf (l := l.take (min n.toNat m)) (by kernel_rfl) Try.underlying9 rfl (by (first | exact RdS.own pkk | exact rd_head hD (by omega) | exact rd_tail hD (by omega) hmc))) (fun _ _ => rfl) (Ent.sep enn) ?_) | (refine Hd.takegH 26 rfl (by kernel_rfl) (by kernel_rfl) (by kernel_rfl) (by kernel_rfl) rfl rfl (y_strOf (l := l.drop (min n.toNat m)) (by kernel_rfl) Try.underlying9 rfl (by (first | exact RdS.own pkk | exact rd_head hD (by omega) | exact rd_tail hD (by omega) hmc))) (fun _ _ => rfl) (Ent.sep enn) ?_) | (refine Hd.takegH 26 rfl (by kernel_rfl) (by kernel_rfl) (by kernel_rfl) (by kernel_rfl) rfl rfl (y_strOf (l := _) (by kernel_rfl) Try.underlying9 rfl (by (first | exact RdS.own pkk | exact rd_head hD (by omega) | exact rd_tail hD (by omega) hmc))) (fun _ _ => rfl) (Ent.sep enn) ?_)
      refine Hd.onlyH 23 rfl (by kernel_rfl) ?_
      refine Hd.unguard rfl rfl ?_
      refine Hd.callE rfl fk18 (take_ct (Ch b32 0 r3 :: KdC b32 :: KdC b34 :: L) b34 0 r4 hg4 _ (by omega)) (Ent.sep enn) ?_
      rintro ⟨rest, a127, c127⟩
      dsimp only
      refine Hd.pure (fun h5 => ?_)
      have hf5 : flat rest = [] := by rw [h5.1, hf4']; exact List.drop_of_length_le (by omega)
      refine Hd.nil ?_
      refine Hd.thenN ?_
      refine Hd.heldK (J := (fun _ => true)) (i := 23) (Ent.sep enn) ?_
      refine Hd.onlyH 24 rfl (by kernel_rfl) ?_
      first | (refine Hd.yg rfl rfl (y_strOf (l := l.take (min n.toNat m)) (by kernel_rfl) Try.underlying9 rfl (by (first | exact RdS.own pkk | exact rd_head hD (by omega) | exact rd_tail hD (by omega) hmc))) ?_) | (refine Hd.yg rfl rfl (y_strOf (l := l.drop (min n.toNat m)) (by kernel_rfl) Try.underlying9 rfl (by (first | exact RdS.own pkk | exact rd_head hD (by omega) | exact rd_tail hD (by omega) hmc))) ?_) | (refine Hd.yg rfl rfl (y_strOf (l := _) (by kernel_rfl) Try.underlying9 rfl (by (first | exact RdS.own pkk | exact rd_head hD (by omega) | exact rd_tail hD (by omega) hmc))) ?_)
      refine Hd.nil ?_
      refine Hd.thenN ?_
      refine Hd.heldK (J := (fun _ => true)) (i := 24) (Ent.sep enn) ?_
      refine Hd.takegH 27 rfl (by kernel_rfl) (by kernel_rfl) (by kernel_rfl) (by kernel_rfl) rfl rfl (y_to (y_eqlstr rfl rfl) (congrArg Value.bool (decide_eq_true ((by rw [hf4', List.take_of_length_le (show l.length ≤ _ by omega), List.take_of_length_le (show l.length ≤ _ by omega)]))))) (fun _ _ => rfl) (Ent.sep enn) ?_
      first | (refine Hd.takeH 28 rfl (by kernel_rfl) (by kernel_rfl) (by kernel_rfl) (by kernel_rfl) (y_pickT rfl rfl) (fun _ _ => rfl) (Ent.sep enn) ?_) | (refine Hd.takeH 28 rfl (by kernel_rfl) (by kernel_rfl) (by kernel_rfl) (by kernel_rfl) (y_pickF rfl rfl) (fun _ _ => rfl) (Ent.sep enn) ?_) | (refine Hd.takeH 28 rfl (by kernel_rfl) (by kernel_rfl) (by kernel_rfl) (by kernel_rfl) (y_pickb rfl rfl rfl) (fun _ _ => rfl) (Ent.sep enn) ?_) | (refine Hd.takeH 28 rfl (by kernel_rfl) (by kernel_rfl) (by kernel_rfl) (by kernel_rfl) (y_pick rfl rfl rfl) (fun _ _ => rfl) (Ent.sep enn) ?_)
      refine Hd.takeH 29 rfl (by kernel_rfl) (by kernel_rfl) (by kernel_rfl) (by kernel_rfl) (y_move rfl) (fun _ _ => rfl) (Ent.sep enn) ?_
      refine Hd.takegH 30 rfl (by kernel_rfl) (by kernel_rfl) (by kernel_rfl) (by kernel_rfl) rfl rfl (y_move rfl) (fun _ _ => rfl) (Ent.sep enn) ?_
      refine Hd.onlyH 31 rfl (by kernel_rfl) ?_
      refine Hd.unguard rfl rfl ?_
      refine Hd.callE rfl fk23 (lenC_ct _ b34 0 rest) (Ent.sep enn) ?_
      intro _
      refine Hd.nil ?_
      refine Hd.thenN ?_
      refine Hd.heldK (J := (fun _ => true)) (i := 31) (Ent.sep enn) ?_
      first | (refine Hd.takegH 32 rfl (by kernel_rfl) (by kernel_rfl) (by kernel_rfl) (by kernel_rfl) rfl rfl (y_to (y_eqlT rfl rfl) (congrArg Value.bool (decide_eq_true ((by rw [hf5]; rfl))))) (fun _ _ => rfl) (Ent.sep enn) ?_) | (refine Hd.takegH 32 rfl (by kernel_rfl) (by kernel_rfl) (by kernel_rfl) (by kernel_rfl) rfl rfl (y_to (y_eql rfl rfl) (congrArg Value.bool (decide_eq_true ((by rw [hf5]; rfl))))) (fun _ _ => rfl) (Ent.sep enn) ?_)
      first | (refine Hd.takeH 33 rfl (by kernel_rfl) (by kernel_rfl) (by kernel_rfl) (by kernel_rfl) (y_pickT rfl rfl) (fun _ _ => rfl) (Ent.sep enn) ?_) | (refine Hd.takeH 33 rfl (by kernel_rfl) (by kernel_rfl) (by kernel_rfl) (by kernel_rfl) (y_pickF rfl rfl) (fun _ _ => rfl) (Ent.sep enn) ?_) | (refine Hd.takeH 33 rfl (by kernel_rfl) (by kernel_rfl) (by kernel_rfl) (by kernel_rfl) (y_pickb rfl rfl rfl) (fun _ _ => rfl) (Ent.sep enn) ?_) | (refine Hd.takeH 33 rfl (by kernel_rfl) (by kernel_rfl) (by kernel_rfl) (by kernel_rfl) (y_pick rfl rfl rfl) (fun _ _ => rfl) (Ent.sep enn) ?_)
      refine Hd.takeH 34 rfl (by kernel_rfl) (by kernel_rfl) (by kernel_rfl) (by kernel_rfl) (y_assign rfl) (fun _ _ => rfl) (Ent.sep enn) ?_
      refine Hd.endH (by kernel_rfl) ?_
      refine Hd.slots [(6, _)] ⟨rfl, trivial⟩ ?_
      refine Hd.toK hK19 ?_
      refine Hd.ret ?_
      clear hK1 hK2 hK3 hK4 hK6 hK7 hK8 hK9 hK10 hK11 hK14 hK15 hK16 hK17 hK18 hK19
      exact Hd.ret1 rfl () (by first | rfl | (simp only [*]; done) | (simp [*]; done)) (Ent.sep enn)
end Bc
end Go.Proofs.Ytgifpkpkkgkfeaa
