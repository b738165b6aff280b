/-
  That the law ChainPieces answers true.
-/
import Derived.Test.YtgifpkpkkgkfeaaBa2
namespace Go.Proofs.Ytgifpkpkkgkfeaa
set_option linter.unusedSimpArgs false
set_option linter.unusedVariables false
set_option linter.unnecessarySimpa false
open Go.RX Fx
namespace Bc
theorem cpy_len_le (l : List UInt8) (n : Nat) : (l.take n).length ≤ l.length := by rw [List.length_take]; omega
set_option maxHeartbeats 2000000 in
theorem piecesLaw_ct (L : List SP) (ad : Option Addr) (m cap : Nat) (l : List UInt8) (hD : RdS L 1 ad m (bsl l)) (hmc : m ≤ cap) (ad2 : Option Addr) (c2 : Nat) (xs : List UInt8) (hX : RdS L 1 ad2 xs.length (bsl xs)) (ad3 : Option Addr) (c3 : Nat) (ys : List UInt8) (hY : RdS L 1 ad3 ys.length (bsl ys)) : Ct Try.prog 5 #[.slice ad m cap, .slice ad2 xs.length c2, .slice ad3 ys.length c3] (L) (fun _ : Unit => .bool true) (fun _ : Unit => L) := by
  refine Ct.of (vs := [.slice ad m cap, .slice ad2 xs.length c2, .slice ad3 ys.length c3]) Try.func5 rfl rfl [(0, .slice ad m cap), (1, .slice ad2 xs.length c2), (2, .slice ad3 ys.length c3)] (by repeat (first | exact trivial | refine ⟨rfl, ?_⟩)) ?_
  intro E
  show Hd E 140 _ _ _ _
  refine Hd.rdsF hD (fun hlm hnil => ?_)
  have hl : l.length = m := by simpa using hlm
  refine Hd.seq (fun K1 hK1 => ?_)
  refine Hd.region ?_
  refine Hd.yv (y_assign rfl) ?_
  refine Hd.nil ?_
  refine Hd.slots [(0, _), (1, _), (2, _)] ⟨rfl, rfl, rfl, trivial⟩ ?_
  refine Hd.toK hK1 ?_
  refine Hd.seq (fun K2 hK2 => ?_)
  refine Hd.region ?_
  refine Hd.callE rfl fk14 (alive_ct _) (Ent.sep enn) ?_
  intro _
  refine Hd.yv (y_assign rfl) ?_
  refine Hd.nil ?_
  refine Hd.slots [(0, _), (1, _), (2, _), (7, _)] ⟨rfl, rfl, rfl, rfl, trivial⟩ ?_
  refine Hd.toK hK2 ?_
  refine Hd.seq (fun K3 hK3 => ?_)
  refine Hd.seq (fun K4 hK4 => ?_)
  refine Hd.region ?_
  refine Hd.yv (y_move rfl) ?_
  refine Hd.yv (y_len Try.underlying22 rfl) ?_
  refine Hd.yv (y_gtr rfl rfl) ?_
  refine Hd.yv (y_move rfl) ?_
  apply Hd.org 4 23 27 [(0, _), (1, _), (2, _), (7, _)] rfl ⟨rfl, rfl, rfl, rfl, trivial⟩
  · intro hg2_23
    try simp only [decide_eq_true_eq, decide_eq_false_iff_not, Bool.and_eq_true, Bool.or_eq_true, Bool.and_eq_false_iff, Bool.or_eq_false_iff, Bool.not_eq_true', Bool.not_eq_false', Bool.not_eq_true, Bool.not_eq_false, Int.not_lt, Int.not_le, Decidable.not_not, ne_eq] at hg2_23
    simp only [List.take]
    refine Hd.ng rfl rfl rfl ?_
    refine Hd.ng rfl rfl rfl ?_
    refine Hd.ng rfl rfl rfl ?_
    first | (refine Hd.yv (y_pickT rfl rfl) ?_) | (refine Hd.yv (y_pickF rfl rfl) ?_) | (refine Hd.yv (y_pickb rfl rfl rfl) ?_) | (refine Hd.yv (y_pick rfl rfl rfl) ?_)
    refine Hd.nil ?_
    exact Hd.mend (by repeat (first | exact trivial | refine ⟨rfl, ?_⟩)) (Ent.sep enn)
  · intro hg2_23
    try simp only [decide_eq_true_eq, decide_eq_false_iff_not, Bool.and_eq_true, Bool.or_eq_true, Bool.and_eq_false_iff, Bool.or_eq_false_iff, Bool.not_eq_true', Bool.not_eq_false', Bool.not_eq_true, Bool.not_eq_false, Int.not_lt, Int.not_le, Decidable.not_not, ne_eq] at hg2_23
    simp only [List.take]
    refine Hd.yg rfl rfl (y_move rfl) ?_
    refine Hd.yg rfl rfl (y_len Try.underlying22 rfl) ?_
    refine Hd.yg rfl rfl (y_gtr rfl rfl) ?_
    first | (refine Hd.yv (y_pickT rfl rfl) ?_) | (refine Hd.yv (y_pickF rfl rfl) ?_) | (refine Hd.yv (y_pickb rfl rfl rfl) ?_) | (refine Hd.yv (y_pick rfl rfl rfl) ?_)
    refine Hd.nil ?_
    exact Hd.mend (by repeat (first | exact trivial | refine ⟨rfl, ?_⟩)) (Ent.sep enn)
  simp only [List.drop]
  refine Hd.yv (y_move rfl) ?_
  apply Hd.org 4 28 32 [(0, _), (1, _), (2, _), (7, _)] rfl ⟨rfl, rfl, rfl, rfl, trivial⟩
  · intro hg2_28
    try simp only [decide_eq_true_eq, decide_eq_false_iff_not, Bool.and_eq_true, Bool.or_eq_true, Bool.and_eq_false_iff, Bool.or_eq_false_iff, Bool.not_eq_true', Bool.not_eq_false', Bool.not_eq_true, Bool.not_eq_false, Int.not_lt, Int.not_le, Decidable.not_not, ne_eq] at hg2_28
    simp only [List.take]
    refine Hd.ng rfl rfl rfl ?_
    refine Hd.ng rfl rfl rfl ?_
    refine Hd.ng rfl rfl rfl ?_
    first | (refine Hd.yv (y_pickT rfl rfl) ?_) | (refine Hd.yv (y_pickF rfl rfl) ?_) | (refine Hd.yv (y_pickb rfl rfl rfl) ?_) | (refine Hd.yv (y_pick rfl rfl rfl) ?_)
    refine Hd.nil ?_
    exact Hd.mend (by repeat (first | exact trivial | refine ⟨rfl, ?_⟩)) (Ent.sep enn)
  · intro hg2_28
    try simp only [decide_eq_true_eq, decide_eq_false_iff_not, Bool.and_eq_true, Bool.or_eq_true, Bool.and_eq_false_iff, Bool.or_eq_false_iff, Bool.not_eq_true', Bool.not_eq_false', Bool.not_eq_true, Bool.not_eq_false, Int.not_lt, Int.not_le, Decidable.not_not, ne_eq] at hg2_28
    simp only [List.take]
    refine Hd.yg rfl rfl (y_move rfl) ?_
    refine Hd.yg rfl rfl (y_len Try.underlying22 rfl) ?_
    refine Hd.yg rfl rfl (y_gtr rfl rfl) ?_
    first | (refine Hd.yv (y_pickT rfl rfl) ?_) | (refine Hd.yv (y_pickF rfl rfl) ?_) | (refine Hd.yv (y_pickb rfl rfl rfl) ?_) | (refine Hd.yv (y_pick rfl rfl rfl) ?_)
    refine Hd.nil ?_
    exact Hd.mend (by repeat (first | exact trivial | refine ⟨rfl, ?_⟩)) (Ent.sep enn)
  simp only [List.drop]
  refine Hd.yv (y_move rfl) ?_
  apply Hd.org 3 33 36 [(0, _), (1, _), (2, _), (7, _)] rfl ⟨rfl, rfl, rfl, rfl, trivial⟩
  · intro hg2_33
    try simp only [decide_eq_true_eq, decide_eq_false_iff_not, Bool.and_eq_true, Bool.or_eq_true, Bool.and_eq_false_iff, Bool.or_eq_false_iff, Bool.not_eq_true', Bool.not_eq_false', Bool.not_eq_true, Bool.not_eq_false, Int.not_lt, Int.not_le, Decidable.not_not, ne_eq] at hg2_33
    simp only [List.take]
    refine Hd.ng rfl rfl rfl ?_
    refine Hd.ng rfl rfl rfl ?_
    first | (refine Hd.yv (y_pickT rfl rfl) ?_) | (refine Hd.yv (y_pickF rfl rfl) ?_) | (refine Hd.yv (y_pickb rfl rfl rfl) ?_) | (refine Hd.yv (y_pick rfl rfl rfl) ?_)
    refine Hd.nil ?_
    exact Hd.mend (by repeat (first | exact trivial | refine ⟨rfl, ?_⟩)) (Ent.sep enn)
  · intro hg2_33
    try simp only [decide_eq_true_eq, decide_eq_false_iff_not, Bool.and_eq_true, Bool.or_eq_true, Bool.and_eq_false_iff, Bool.or_eq_false_iff, Bool.not_eq_true', Bool.not_eq_false', Bool.not_eq_true, Bool.not_eq_false, Int.not_lt, Int.not_le, Decidable.not_not, ne_eq] at hg2_33
    simp only [List.take]
    refine Hd.yg rfl rfl (y_move rfl) ?_
    refine Hd.yg rfl rfl (y_not rfl) ?_
    first | (refine Hd.yv (y_pickT rfl rfl) ?_) | (refine Hd.yv (y_pickF rfl rfl) ?_) | (refine Hd.yv (y_pickb rfl rfl rfl) ?_) | (refine Hd.yv (y_pick rfl rfl rfl) ?_)
    refine Hd.nil ?_
    exact Hd.mend (by repeat (first | exact trivial | refine ⟨rfl, ?_⟩)) (Ent.sep enn)
  simp only [List.drop]
  refine Hd.nil ?_
  refine Hd.slots [(0, _), (1, _), (2, _), (7, _), (36, _)] ⟨rfl, rfl, rfl, rfl, rfl, trivial⟩ ?_
  refine Hd.toK hK4 ?_
  refine Hd.cond rfl (fun hc0 => ?_) (fun hc0 => ?_)
  ·
    try simp only [decide_eq_true_eq, decide_eq_false_iff_not, Bool.and_eq_true, Bool.or_eq_true, Bool.and_eq_false_iff, Bool.or_eq_false_iff, Bool.not_eq_true', Bool.not_eq_false', Bool.not_eq_true, Bool.not_eq_false, Int.not_lt, Int.not_le, Decidable.not_not, ne_eq] at hc0
    refine Hd.seq (fun K5 hK5 => ?_)
    refine Hd.region ?_
    refine Hd.yv (y_move rfl) ?_
    refine Hd.yv (y_assign rfl) ?_
    refine Hd.nil ?_
    refine Hd.slots [(6, _)] ⟨rfl, trivial⟩ ?_
    refine Hd.toK hK5 ?_
    refine Hd.ret ?_
    refine Hd.thenRet ?_
    clear hK1 hK2 hK3 hK4 hK5
    exact Hd.ret1 rfl () (by first | rfl | (simp only [*]; done) | (simp [*]; done)) (Ent.sep enn)
  ·
    try simp only [decide_eq_true_eq, decide_eq_false_iff_not, Bool.and_eq_true, Bool.or_eq_true, Bool.and_eq_false_iff, Bool.or_eq_false_iff, Bool.not_eq_true', Bool.not_eq_false', Bool.not_eq_true, Bool.not_eq_false, Int.not_lt, Int.not_le, Decidable.not_not, ne_eq] at hc0
    obtain ⟨hm, hxl, hyl⟩ : m ≤ 3000 ∧ xs.length ≤ 300 ∧ ys.length ≤ 300 := by simp at hc0; omega
    refine Hd.skip ?_
    refine Hd.toK hK3 ?_
    refine Hd.seq (fun K6 hK6 => ?_)
    refine Hd.region ?_
    refine Hd.alloc zr27 (fun b8 => ?_)
    refine Hd.alloc zr27 (fun b9 => ?_)
    refine Hd.alloc zr27 (fun b10 => ?_)
    refine Hd.nil ?_
    refine Hd.mkCh (b := b8) pkk ?_
    refine Hd.mkCh (b := b9) pkk ?_
    refine Hd.mkCh (b := b10) pkk ?_
    refine Hd.slots [(0, _), (1, _), (2, _), (7, _), (8, _), (9, _), (10, _)] ⟨rfl, rfl, rfl, rfl, rfl, rfl, rfl, trivial⟩ ?_
    refine Hd.toK hK6 ?_
    refine Hd.seq (fun K7 hK7 => ?_)
    refine Hd.region ?_
    refine Hd.yv (y_move rfl) ?_
    refine Hd.callE rfl fk19 (add_ct (Ch b8 0 [] :: Ch b10 0 [] :: KdC b8 :: KdC b10 :: L) b9 0 [] good_nil ad m cap l (RdS.mono hD (Ent.sep enn)) hmc (by omega)) (Ent.sep enn) ?_
    rintro rd
    refine Hd.pure (fun hrd => ?_)
    have hmo : m ≤ 1048576 - (flat []).length := by simp [flat]; omega
    have hfd : flat rd = l := by rw [hrd.2, if_pos hmo]; rfl
    rw [mayE_ok hmo]
    refine Hd.yv (y_assign rfl) ?_
    refine Hd.nil ?_
    refine Hd.slots [(0, _), (1, _), (2, _), (7, _), (8, _), (9, _), (10, _), (11, _)] ⟨rfl, rfl, rfl, rfl, rfl, rfl, rfl, rfl, trivial⟩ ?_
    refine Hd.toK hK7 ?_
    refine Hd.seq (fun K8 hK8 => ?_)
    refine Hd.seq (fun K9 hK9 => ?_)
    refine Hd.region ?_
    refine Hd.yv (y_move rfl) ?_
    refine Hd.yv (y_neq rfl rfl) ?_
    refine Hd.nil ?_
    refine Hd.slots [(0, _), (1, _), (2, _), (7, _), (8, _), (9, _), (10, _), (41, _)] ⟨rfl, rfl, rfl, rfl, rfl, rfl, rfl, rfl, trivial⟩ ?_
    refine Hd.toK hK9 ?_
    refine Hd.condF rfl ?_
    refine Hd.skip ?_
    refine Hd.toK hK8 ?_
    refine Hd.seq (fun K10 hK10 => ?_)
    refine Hd.seq (fun K11 hK11 => ?_)
    refine Hd.region ?_
    refine Hd.yv (y_move rfl) ?_
    refine Hd.yv (y_move rfl) ?_
    refine Hd.callE rfl fk15 (pieces_ct (Ch b8 0 [] :: Ch b10 0 [] :: Ch b9 0 rd :: KdC b8 :: KdC b10 :: L) L (Ent.sep enn) ad m cap l hD hmc ad2 c2 xs hX (by omega)) (Ent.sep enn) ?_
    rintro ⟨ps, a10, c10⟩
    dsimp only
    refine Hd.pure (fun hps => ?_)
    obtain ⟨hp1, hp2, hp3⟩ := hps
    have hpl : (flat ps).length ≤ 3000 := by rw [hp1, hl]; exact hm
    refine Hd.yv (y_len Try.underlying25 rfl) ?_
    refine Hd.yv (y_move rfl) ?_
    refine Hd.nil ?_
    refine Hd.slots [(0, _), (2, _), (7, _), (8, _), (9, _), (10, _), (44, _), (45, _), (46, _)] ⟨rfl, rfl, rfl, rfl, rfl, rfl, rfl, rfl, rfl, trivial⟩ ?_
    refine Hd.toK hK11 ?_
    refine Hd.block ?_
    refine Hd.loopK (ι := List Row × Nat) [(0, _), (2, _), (7, _), (8, _), (9, _), (10, _), (44, _), (45, _)] (fun q_ => [(46, .int .i64 (q_.2 : Int))]) (fun q_ => pu (Good q_.1 ∧ flat q_.1 = flat (ps.take q_.2) ∧ q_.2 ≤ ps.length) :: Ch b8 0 q_.1 :: OwH a10 c10 ps :: Ch b10 0 [] :: Ch b9 0 rd :: KdC b8 :: KdC b10 :: L) (fun q_ => ps.length - q_.2) ([], 0) (by repeat (first | exact trivial | refine ⟨rfl, ?_⟩)) (by repeat (first | exact trivial | refine ⟨rfl, ?_⟩)) (Ent.sep (.pure ⟨good_nil, by simp [flat], Nat.zero_le _⟩ enn)) ?_
    rintro ⟨rs, i⟩
    try dsimp only
    refine Hd.pure (fun hp0 => ?_)
    try dsimp only at hp0
    refine Hd.seq (fun K12 hK12 => ?_)
    refine Hd.region ?_
    refine Hd.yv (y_lss rfl rfl) ?_
    refine Hd.nil ?_
    refine Hd.slots [(0, _), (2, _), (7, _), (8, _), (9, _), (10, _), (44, _), (45, _), (46, _), (47, _)] ⟨rfl, rfl, rfl, rfl, rfl, rfl, rfl, rfl, rfl, rfl, trivial⟩ ?_
    refine Hd.toK hK12 ?_
    refine Hd.seq (fun K13 hK13 => ?_)
    refine Hd.cond rfl (fun hc2 => ?_) (fun hc2 => ?_)
    ·
      try simp only [decide_eq_true_eq, decide_eq_false_iff_not, Bool.and_eq_true, Bool.or_eq_true, Bool.and_eq_false_iff, Bool.or_eq_false_iff, Bool.not_eq_true', Bool.not_eq_false', Bool.not_eq_true, Bool.not_eq_false, Int.not_lt, Int.not_le, Decidable.not_not, ne_eq] at hc2
      obtain ⟨hg, hfl, hi'⟩ := hp0
      have hi : i < ps.length := by omega
      have hrd2 := hp2 _ (List.getElem_mem hi)
      have hpi := piece_le hi
      refine Hd.skip ?_
      refine Hd.toK hK13 ?_
      refine Hd.seq (fun K14 hK14 => ?_)
      refine Hd.block ?_
      refine Hd.seq (fun K15 hK15 => ?_)
      refine Hd.region ?_
      first | (refine Hd.yv (y_idxS Try.underlying25 sz22 rfl rfl (by first | omega | decide)) ?_) | (refine Hd.yv (y_idxR Try.underlying25 sz22 rfl rfl (by first | omega | decide) (by (first | exact RdS.own pkk | exact hD | exact RdS.mono hY (Ent.sep enn) | exact RdS.mono hD (Ent.sep enn)))) ?_)
      first | (refine Hd.yv (y_load1 ag22 rfl (Rd.pt1 pkk (by (first | exact hdr_at hi | exact bsl_at hj | rfl)))) ?_) | (refine Hd.yv (y_load1 ag22 rfl (Rd.seg1 pkk (by (first | exact hdr_at hi | exact bsl_at hj | rfl)))) ?_) | (refine Hd.yv (y_loadR1 ag22 rfl (by (first | exact RdS.own pkk | exact hD | exact RdS.mono hY (Ent.sep enn) | exact RdS.mono hD (Ent.sep enn))) (by (first | exact hdr_at hi | exact bsl_at hj | rfl))) ?_)
      refine Hd.yv (y_assign rfl) ?_
      refine Hd.nil ?_
      refine Hd.slots [(0, _), (2, _), (7, _), (8, _), (9, _), (10, _), (13, _), (44, _), (45, _), (46, _)] ⟨rfl, rfl, rfl, rfl, rfl, rfl, rfl, rfl, rfl, rfl, trivial⟩ ?_
      refine Hd.toK hK15 ?_
      refine Hd.seq (fun K16 hK16 => ?_)
      refine Hd.region ?_
      refine Hd.yv (y_move rfl) ?_
      refine Hd.callE rfl fk19 (add_ct (OwH a10 c10 ps :: Ch b10 0 [] :: Ch b9 0 rd :: KdC b8 :: KdC b10 :: L) b8 0 rs hg _ _ _ ps[i].l (RdS.mono hrd2.1 (Ent.sep enn)) hrd2.2 (by omega)) (Ent.sep enn) ?_
      rintro rs2
      refine Hd.pure (fun h2 => ?_)
      have hadd := good_add hi hfl h2.2 (by omega)
      rw [mayE_ok hadd.2]
      refine Hd.yv (y_assign rfl) ?_
      refine Hd.nil ?_
      refine Hd.slots [(0, _), (2, _), (7, _), (8, _), (9, _), (10, _), (14, _), (44, _), (45, _), (46, _)] ⟨rfl, rfl, rfl, rfl, rfl, rfl, rfl, rfl, rfl, rfl, trivial⟩ ?_
      refine Hd.toK hK16 ?_
      refine Hd.seq (fun K17 hK17 => ?_)
      refine Hd.region ?_
      refine Hd.yv (y_move rfl) ?_
      refine Hd.yv (y_neq rfl rfl) ?_
      refine Hd.nil ?_
      refine Hd.slots [(0, _), (2, _), (7, _), (8, _), (9, _), (10, _), (44, _), (45, _), (46, _), (53, _)] ⟨rfl, rfl, rfl, rfl, rfl, rfl, rfl, rfl, rfl, rfl, trivial⟩ ?_
      refine Hd.toK hK17 ?_
      refine Hd.condF rfl ?_
      refine Hd.skip ?_
      refine Hd.inB ?_
      refine Hd.toK hK14 ?_
      refine Hd.region ?_
      first | (refine Hd.yv (y_addn rfl rfl (by simp only [InK]; omega)) ?_) | (refine Hd.yv (y_add rfl rfl) ?_)
      refine Hd.yv (y_move rfl) ?_
      refine Hd.nil ?_
      refine Hd.slots [(0, _), (2, _), (7, _), (8, _), (9, _), (10, _), (44, _), (45, _), (46, _)] ⟨rfl, rfl, rfl, rfl, rfl, rfl, rfl, rfl, rfl, trivial⟩ ?_
      clear hK1 hK2 hK3 hK4 hK6 hK7 hK8 hK9 hK10 hK11 hK12 hK13 hK14 hK15 hK16 hK17
      refine Hd.thenN ?_
      exact Hd.again (rs2, i + 1) (by first | omega | (simp only; omega) | (simp; omega)) (by repeat (first | exact trivial | refine ⟨rfl, ?_⟩)) (Ent.sep (.pure ⟨h2.1, hadd.1, hi⟩ enn))
    ·
      try simp only [decide_eq_true_eq, decide_eq_false_iff_not, Bool.and_eq_true, Bool.or_eq_true, Bool.and_eq_false_iff, Bool.or_eq_false_iff, Bool.not_eq_true', Bool.not_eq_false', Bool.not_eq_true, Bool.not_eq_false, Int.not_lt, Int.not_le, Decidable.not_not, ne_eq] at hc2
      obtain ⟨hg, hfl, hi'⟩ := hp0
      obtain rfl : i = ps.length := by omega
      rw [flat_all (Nat.le_refl _), hp1] at hfl
      refine Hd.exit ?_
      refine Hd.thenExit ?_
      refine Hd.thenExit ?_
      refine Hd.inBexit ?_
      refine Hd.toK hK10 ?_
      refine Hd.seq (fun K18 hK18 => ?_)
      refine Hd.seq (fun K19 hK19 => ?_)
      refine Hd.drawsH (L) (fun _ => true) mixed ?_
      simp only [List.length, Nat.zero_add, Nat.reduceAdd]
      refine Hd.onlyH 0 rfl (by kernel_rfl) ?_
      refine Hd.callE rfl fk23 (lenC_ct (Ch b9 0 rd :: Ch b10 0 [] :: KdC b8 :: KdC b10 :: L) b8 0 rs) (Ent.sep enn) ?_
      intro _
      refine Hd.nil ?_
      refine Hd.thenN ?_
      refine Hd.heldK (J := (fun _ => true)) (i := 0) (Ent.sep enn) ?_
      refine Hd.onlyH 1 rfl (by kernel_rfl) ?_
      refine Hd.callE rfl fk23 (lenC_ct (Ch b8 0 rs :: Ch b10 0 [] :: KdC b8 :: KdC b10 :: L) b9 0 rd) (Ent.sep enn) ?_
      intro _
      refine Hd.nil ?_
      refine Hd.thenN ?_
      refine Hd.heldK (J := (fun _ => true)) (i := 1) (Ent.sep enn) ?_
      refine Hd.takeH 2 rfl (by kernel_rfl) (by kernel_rfl) (by kernel_rfl) (by kernel_rfl) (y_to (y_neq rfl rfl) (congrArg Value.bool (decide_eq_false ((fun h => h (by rw [hfl, hfd])))))) (fun _ _ => rfl) (Ent.sep enn) ?_
      refine Hd.takeH 3 rfl (by kernel_rfl) (by kernel_rfl) (by kernel_rfl) (by kernel_rfl) (y_move rfl) (fun _ _ => rfl) (Ent.sep enn) ?_
      refine Hd.takegH 4 rfl (by kernel_rfl) (by kernel_rfl) (by kernel_rfl) (by kernel_rfl) rfl rfl (y_move rfl) (fun _ _ => rfl) (Ent.sep enn) ?_
      refine Hd.takegH 5 rfl (by kernel_rfl) (by kernel_rfl) (by kernel_rfl) (by kernel_rfl) rfl rfl (y_len Try.underlying22 rfl) (fun _ _ => rfl) (Ent.sep enn) ?_
      refine Hd.takegH 8 rfl (by kernel_rfl) (by kernel_rfl) (by kernel_rfl) (by kernel_rfl) rfl rfl (y_move rfl) (fun _ _ => rfl) (Ent.sep enn) ?_
      refine Hd.takegH 9 rfl (by kernel_rfl) (by kernel_rfl) (by kernel_rfl) (by kernel_rfl) rfl rfl (y_strOf (l := _) (by kernel_rfl) Try.underlying9 rfl (by (first | exact RdS.own pkk | exact hD | exact RdS.mono hY (Ent.sep enn) | exact RdS.mono hD (Ent.sep enn)))) (fun _ _ => rfl) (Ent.sep enn) ?_
      refine Hd.onlyH 6 rfl (by kernel_rfl) ?_
      refine Hd.unguard rfl rfl ?_
      refine Hd.callE rfl fk22 (copy_ct (Ch b9 0 rd :: Ch b10 0 [] :: KdC b8 :: KdC b10 :: L) b8 0 rs hg 0 (m : Int) (by simp [InK]) (by simp only [InK]; omega)) (Ent.sep enn) ?_
      rintro ⟨a61, c61⟩
      dsimp only
      refine Hd.nil ?_
      refine Hd.thenN ?_
      refine Hd.heldK (J := (fun _ => true)) (i := 6) (Ent.sep enn) ?_
      refine Hd.onlyH 7 rfl (by kernel_rfl) ?_
      refine Hd.yg rfl rfl (y_strOf (l := _) (by kernel_rfl) Try.underlying9 rfl (by (first | exact RdS.own pkk | exact hD | exact RdS.mono hY (Ent.sep enn) | exact RdS.mono hD (Ent.sep enn)))) ?_
      refine Hd.nil ?_
      refine Hd.thenN ?_
      refine Hd.heldK (J := (fun _ => true)) (i := 7) (Ent.sep enn) ?_
      refine Hd.takegH 10 rfl (by kernel_rfl) (by kernel_rfl) (by kernel_rfl) (by kernel_rfl) rfl rfl (y_to (y_neqstr rfl rfl) (congrArg Value.bool (decide_eq_false ((fun h => h (by rw [cpy_all (by rw [hfl]; omega), hfl])))))) (fun _ _ => rfl) (Ent.sep enn) ?_
      first | (refine Hd.takeH 11 rfl (by kernel_rfl) (by kernel_rfl) (by kernel_rfl) (by kernel_rfl) (y_pickT rfl rfl) (fun _ _ => rfl) (Ent.sep enn) ?_) | (refine Hd.takeH 11 rfl (by kernel_rfl) (by kernel_rfl) (by kernel_rfl) (by kernel_rfl) (y_pickF rfl rfl) (fun _ _ => rfl) (Ent.sep enn) ?_) | (refine Hd.takeH 11 rfl (by kernel_rfl) (by kernel_rfl) (by kernel_rfl) (by kernel_rfl) (y_pickb rfl rfl rfl) (fun _ _ => rfl) (Ent.sep enn) ?_) | (refine Hd.takeH 11 rfl (by kernel_rfl) (by kernel_rfl) (by kernel_rfl) (by kernel_rfl) (y_pick rfl rfl rfl) (fun _ _ => rfl) (Ent.sep enn) ?_)
      refine Hd.takeH 12 rfl (by kernel_rfl) (by kernel_rfl) (by kernel_rfl) (by kernel_rfl) (y_move rfl) (fun _ _ => rfl) (Ent.sep enn) ?_
      refine Hd.takegH 13 rfl (by kernel_rfl) (by kernel_rfl) (by kernel_rfl) (by kernel_rfl) rfl rfl (y_move rfl) (fun _ _ => rfl) (Ent.sep enn) ?_
      refine Hd.takegH 14 rfl (by kernel_rfl) (by kernel_rfl) (by kernel_rfl) (by kernel_rfl) rfl rfl (y_len Try.underlying22 rfl) (fun _ _ => rfl) (Ent.sep enn) ?_
      refine Hd.takegH 17 rfl (by kernel_rfl) (by kernel_rfl) (by kernel_rfl) (by kernel_rfl) rfl rfl (y_move rfl) (fun _ _ => rfl) (Ent.sep enn) ?_
      refine Hd.takegH 18 rfl (by kernel_rfl) (by kernel_rfl) (by kernel_rfl) (by kernel_rfl) rfl rfl (y_strOf (l := _) (by kernel_rfl) Try.underlying9 rfl (by (first | exact RdS.own pkk | exact hD | exact RdS.mono hY (Ent.sep enn) | exact RdS.mono hD (Ent.sep enn)))) (fun _ _ => rfl) (Ent.sep enn) ?_
      refine Hd.onlyH 15 rfl (by kernel_rfl) ?_
      refine Hd.unguard rfl rfl ?_
      refine Hd.callE rfl fk22 (copy_ct (Ch b8 0 rs :: Ch b10 0 [] :: KdC b8 :: KdC b10 :: L) b9 0 rd hrd.1 0 (m : Int) (by simp [InK]) (by simp only [InK]; omega)) (Ent.sep enn) ?_
      rintro ⟨a70, c70⟩
      dsimp only
      refine Hd.nil ?_
      refine Hd.thenN ?_
      refine Hd.heldK (J := (fun _ => true)) (i := 15) (Ent.sep enn) ?_
      refine Hd.onlyH 16 rfl (by kernel_rfl) ?_
      refine Hd.yg rfl rfl (y_strOf (l := _) (by kernel_rfl) Try.underlying9 rfl (by (first | exact RdS.own pkk | exact hD | exact RdS.mono hY (Ent.sep enn) | exact RdS.mono hD (Ent.sep enn)))) ?_
      refine Hd.nil ?_
      refine Hd.thenN ?_
      refine Hd.heldK (J := (fun _ => true)) (i := 16) (Ent.sep enn) ?_
      refine Hd.takegH 19 rfl (by kernel_rfl) (by kernel_rfl) (by kernel_rfl) (by kernel_rfl) rfl rfl (y_to (y_neqstr rfl rfl) (congrArg Value.bool (decide_eq_false ((fun h => h (by rw [cpy_all (by rw [hfd]; omega), hfd])))))) (fun _ _ => rfl) (Ent.sep enn) ?_
      first | (refine Hd.takeH 20 rfl (by kernel_rfl) (by kernel_rfl) (by kernel_rfl) (by kernel_rfl) (y_pickT rfl rfl) (fun _ _ => rfl) (Ent.sep enn) ?_) | (refine Hd.takeH 20 rfl (by kernel_rfl) (by kernel_rfl) (by kernel_rfl) (by kernel_rfl) (y_pickF rfl rfl) (fun _ _ => rfl) (Ent.sep enn) ?_) | (refine Hd.takeH 20 rfl (by kernel_rfl) (by kernel_rfl) (by kernel_rfl) (by kernel_rfl) (y_pickb rfl rfl rfl) (fun _ _ => rfl) (Ent.sep enn) ?_) | (refine Hd.takeH 20 rfl (by kernel_rfl) (by kernel_rfl) (by kernel_rfl) (by kernel_rfl) (y_pick rfl rfl rfl) (fun _ _ => rfl) (Ent.sep enn) ?_)
      refine Hd.endH (by kernel_rfl) ?_
      refine Hd.slots [(0, _), (2, _), (7, _), (8, _), (10, _), (75, _)] ⟨rfl, rfl, rfl, rfl, rfl, rfl, trivial⟩ ?_
      refine Hd.toK hK19 ?_
      refine Hd.condF rfl ?_
      refine Hd.skip ?_
      refine Hd.toK hK18 ?_
      refine Hd.seq (fun K20 hK20 => ?_)
      refine Hd.region ?_
      refine Hd.yv (y_assign rfl) ?_
      refine Hd.nil ?_
      refine Hd.slots [(0, _), (2, _), (7, _), (8, _), (10, _), (15, _)] ⟨rfl, rfl, rfl, rfl, rfl, rfl, trivial⟩ ?_
      refine Hd.toK hK20 ?_
      refine Hd.seq (fun K21 hK21 => ?_)
      refine Hd.seq (fun K22 hK22 => ?_)
      refine Hd.region ?_
      refine Hd.yv (y_move rfl) ?_
      refine Hd.yv (y_len Try.underlying22 rfl) ?_
      refine Hd.yv (y_move rfl) ?_
      refine Hd.nil ?_
      refine Hd.slots [(0, _), (2, _), (7, _), (8, _), (10, _), (15, _), (77, _), (78, _)] ⟨rfl, rfl, rfl, rfl, rfl, rfl, rfl, rfl, trivial⟩ ?_
      refine Hd.toK hK22 ?_
      refine Hd.block ?_
      refine Hd.loopK (ι := List Row × List Row × List UInt8 × Nat) [(0, _), (2, _), (7, _), (8, _), (10, _), (77, _)] (fun q_ => [(15, .string (str q_.2.2.1)), (78, .int .i64 (q_.2.2.2 : Int))]) (fun q_ => pu (Good q_.1 ∧ Good q_.2.1 ∧ q_.2.2.1 ++ (flat q_.2.1 ++ flat q_.1) = l ∧ q_.2.2.2 ≤ ys.length) :: Ch b8 0 q_.1 :: Ch b10 0 q_.2.1 :: KdC b8 :: KdC b10 :: L) (fun q_ => ys.length - q_.2.2.2) (rs, [], [], 0) (by repeat (first | exact trivial | refine ⟨rfl, ?_⟩)) (by repeat (first | exact trivial | refine ⟨rfl, ?_⟩)) (Ent.sep (.pure ⟨hg, good_nil, by rw [hfl]; rfl, Nat.zero_le _⟩ enn)) ?_
      rintro ⟨r1, r2, got, j⟩
      try dsimp only
      refine Hd.pure (fun hp1 => ?_)
      try dsimp only at hp1
      refine Hd.seq (fun K23 hK23 => ?_)
      refine Hd.region ?_
      refine Hd.yv (y_lss rfl rfl) ?_
      refine Hd.nil ?_
      refine Hd.slots [(0, _), (2, _), (7, _), (8, _), (10, _), (15, _), (77, _), (78, _), (79, _)] ⟨rfl, rfl, rfl, rfl, rfl, rfl, rfl, rfl, rfl, trivial⟩ ?_
      refine Hd.toK hK23 ?_
      refine Hd.seq (fun K24 hK24 => ?_)
      refine Hd.cond rfl (fun hc5 => ?_) (fun hc5 => ?_)
      ·
        try simp only [decide_eq_true_eq, decide_eq_false_iff_not, Bool.and_eq_true, Bool.or_eq_true, Bool.and_eq_false_iff, Bool.or_eq_false_iff, Bool.not_eq_true', Bool.not_eq_false', Bool.not_eq_true, Bool.not_eq_false, Int.not_lt, Int.not_le, Decidable.not_not, ne_eq] at hc5
        obtain ⟨hg1, hg2, hgot, hj'⟩ := hp1
        have hj : j < ys.length := by omega
        have hyj : (ys[j]).toNat < 256 := UInt8.toNat_lt _
        have htot := congrArg List.length hgot
        simp only [List.length_append, hl] at htot
        refine Hd.skip ?_
        refine Hd.toK hK24 ?_
        refine Hd.seq (fun K25 hK25 => ?_)
        refine Hd.block ?_
        refine Hd.seq (fun K26 hK26 => ?_)
        refine Hd.region ?_
        refine Hd.yv (y_move rfl) ?_
        refine Hd.yv (y_assign rfl) ?_
        refine Hd.nil ?_
        refine Hd.slots [(0, _), (2, _), (7, _), (8, _), (10, _), (15, _), (16, _), (77, _), (78, _)] ⟨rfl, rfl, rfl, rfl, rfl, rfl, rfl, rfl, rfl, trivial⟩ ?_
        refine Hd.toK hK26 ?_
        refine Hd.seq (fun K27 hK27 => ?_)
        refine Hd.region ?_
        refine Hd.yv (y_move rfl) ?_
        refine Hd.yv (y_move rfl) ?_
        first | (refine Hd.yv (y_idxS Try.underlying22 sz5 rfl rfl (by first | omega | decide)) ?_) | (refine Hd.yv (y_idxR Try.underlying22 sz5 rfl rfl (by first | omega | decide) (by (first | exact RdS.own pkk | exact hD | exact RdS.mono hY (Ent.sep enn) | exact RdS.mono hD (Ent.sep enn)))) ?_)
        first | (refine Hd.yv (y_load1 ag5 rfl (Rd.pt1 pkk (by (first | exact hdr_at hi | exact bsl_at hj | rfl)))) ?_) | (refine Hd.yv (y_load1 ag5 rfl (Rd.seg1 pkk (by (first | exact hdr_at hi | exact bsl_at hj | rfl)))) ?_) | (refine Hd.yv (y_loadR1 ag5 rfl (by (first | exact RdS.own pkk | exact hD | exact RdS.mono hY (Ent.sep enn) | exact RdS.mono hD (Ent.sep enn))) (by (first | exact hdr_at hi | exact bsl_at hj | rfl))) ?_)
        first | (refine Hd.yv (y_convn rfl Try.underlying5 Try.underlying3 (by simp only [InK]; omega)) ?_) | (refine Hd.yv (y_conv rfl Try.underlying5 Try.underlying3) ?_)
        refine Hd.callE rfl fk24 (move_ct (KdC b8 :: KdC b10 :: L) b8 0 b10 0 r1 r2 hg1 hg2 ((ys[j]).toNat : Int) (by simp only [InK]; omega) (NeP.kds .here .here)) (Ent.sep enn) ?_
        rintro ⟨r3, r4⟩
        dsimp only
        have eE : mvE (flat r1).length (flat r2).length ((ys[j]).toNat : Int) = 0 := mvE_ok (by omega) (by omega)
        have eK : mvK (flat r1).length (flat r2).length ((ys[j]).toNat : Int) = min (ys[j]).toNat (flat r1).length := by rw [mvK_ok (by omega) (by omega), Int.toNat_natCast]
        rw [eE, eK]
        refine Hd.pure (fun hmv => ?_)
        obtain ⟨hg3, hg4, hf3, hf4⟩ := hmv
        have hcat : flat r4 ++ flat r3 = flat r2 ++ flat r1 := by rw [hf3, hf4, List.append_assoc, List.take_append_drop]
        refine Hd.yv (y_move rfl) ?_
        refine Hd.yv (y_extract rfl rfl) ?_
        refine Hd.yv (y_extract rfl rfl) ?_
        refine Hd.yv (y_assign rfl) ?_
        refine Hd.yv (y_assign rfl) ?_
        refine Hd.nil ?_
        refine Hd.slots [(0, _), (2, _), (7, _), (8, _), (10, _), (15, _), (16, _), (17, _), (18, _), (77, _), (78, _)] ⟨rfl, rfl, rfl, rfl, rfl, rfl, rfl, rfl, rfl, rfl, rfl, trivial⟩ ?_
        refine Hd.toK hK27 ?_
        refine Hd.seq (fun K28 hK28 => ?_)
        refine Hd.seq (fun K29 hK29 => ?_)
        refine Hd.region ?_
        refine Hd.yv (y_move rfl) ?_
        refine Hd.yv (y_to (y_neq rfl rfl) (congrArg Value.bool (decide_eq_false ((fun h => h rfl))))) ?_
        refine Hd.yv (y_move rfl) ?_
        refine Hd.yg rfl rfl (y_move rfl) ?_
        refine Hd.yg rfl rfl (y_move rfl) ?_
        refine Hd.yg rfl rfl (y_move rfl) ?_
        first | (refine Hd.yg rfl rfl (y_idxS Try.underlying22 sz5 rfl rfl (by first | omega | decide)) ?_) | (refine Hd.yg rfl rfl (y_idxR Try.underlying22 sz5 rfl rfl (by first | omega | decide) (by (first | exact RdS.own pkk | exact hD | exact RdS.mono hY (Ent.sep enn) | exact RdS.mono hD (Ent.sep enn)))) ?_)
        first | (refine Hd.yg rfl rfl (y_load1 ag5 rfl (Rd.pt1 pkk (by (first | exact hdr_at hi | exact bsl_at hj | rfl)))) ?_) | (refine Hd.yg rfl rfl (y_load1 ag5 rfl (Rd.seg1 pkk (by (first | exact hdr_at hi | exact bsl_at hj | rfl)))) ?_) | (refine Hd.yg rfl rfl (y_loadR1 ag5 rfl (by (first | exact RdS.own pkk | exact hD | exact RdS.mono hY (Ent.sep enn) | exact RdS.mono hD (Ent.sep enn))) (by (first | exact hdr_at hi | exact bsl_at hj | rfl))) ?_)
        first | (refine Hd.yg rfl rfl (y_convn rfl Try.underlying5 Try.underlying3 (by simp only [InK]; omega)) ?_) | (refine Hd.yg rfl rfl (y_conv rfl Try.underlying5 Try.underlying3) ?_)
        refine Hd.yg rfl rfl (y_to (y_gtr rfl rfl) (congrArg Value.bool (decide_eq_false ((by omega))))) ?_
        first | (refine Hd.yv (y_pickT rfl rfl) ?_) | (refine Hd.yv (y_pickF rfl rfl) ?_) | (refine Hd.yv (y_pickb rfl rfl rfl) ?_) | (refine Hd.yv (y_pick rfl rfl rfl) ?_)
        refine Hd.nil ?_
        refine Hd.slots [(0, _), (2, _), (7, _), (8, _), (10, _), (15, _), (16, _), (77, _), (78, _), (100, _)] ⟨rfl, rfl, rfl, rfl, rfl, rfl, rfl, rfl, rfl, rfl, trivial⟩ ?_
        refine Hd.toK hK29 ?_
        refine Hd.condF rfl ?_
        refine Hd.skip ?_
        refine Hd.toK hK28 ?_
        refine Hd.seq (fun K30 hK30 => ?_)
        refine Hd.region ?_
        refine Hd.yv (y_move rfl) ?_
        first | (refine Hd.yv (y_remN rfl rfl (by omega)) ?_) | (refine Hd.yv (y_remn rfl rfl (by omega) (by omega)) ?_) | (refine Hd.yv (y_rem rfl rfl (by omega)) ?_)
        first | (refine Hd.yv (y_eqlT rfl rfl) ?_) | (refine Hd.yv (y_eql rfl rfl) ?_)
        refine Hd.nil ?_
        refine Hd.slots [(0, _), (2, _), (7, _), (8, _), (10, _), (15, _), (16, _), (77, _), (78, _), (103, _)] ⟨rfl, rfl, rfl, rfl, rfl, rfl, rfl, rfl, rfl, rfl, trivial⟩ ?_
        refine Hd.toK hK30 ?_
        refine Hd.cond rfl (fun hc7 => ?_) (fun hc7 => ?_)
        ·
          try simp only [decide_eq_true_eq, decide_eq_false_iff_not, Bool.and_eq_true, Bool.or_eq_true, Bool.and_eq_false_iff, Bool.or_eq_false_iff, Bool.not_eq_true', Bool.not_eq_false', Bool.not_eq_true, Bool.not_eq_false, Int.not_lt, Int.not_le, Decidable.not_not, ne_eq] at hc7
          refine Hd.region ?_
          refine Hd.yv (y_move rfl) ?_
          refine Hd.yv (y_move rfl) ?_
          refine Hd.yv (y_move rfl) ?_
          first | (refine Hd.yv (y_idxS Try.underlying22 sz5 rfl rfl (by first | omega | decide)) ?_) | (refine Hd.yv (y_idxR Try.underlying22 sz5 rfl rfl (by first | omega | decide) (by (first | exact RdS.own pkk | exact hD | exact RdS.mono hY (Ent.sep enn) | exact RdS.mono hD (Ent.sep enn)))) ?_)
          first | (refine Hd.yv (y_load1 ag5 rfl (Rd.pt1 pkk (by (first | exact hdr_at hi | exact bsl_at hj | rfl)))) ?_) | (refine Hd.yv (y_load1 ag5 rfl (Rd.seg1 pkk (by (first | exact hdr_at hi | exact bsl_at hj | rfl)))) ?_) | (refine Hd.yv (y_loadR1 ag5 rfl (by (first | exact RdS.own pkk | exact hD | exact RdS.mono hY (Ent.sep enn) | exact RdS.mono hD (Ent.sep enn))) (by (first | exact hdr_at hi | exact bsl_at hj | rfl))) ?_)
          first | (refine Hd.yv (y_convn rfl Try.underlying5 Try.underlying3 (by simp only [InK]; omega)) ?_) | (refine Hd.yv (y_conv rfl Try.underlying5 Try.underlying3) ?_)
          refine Hd.callE rfl fk18 (take_ct (Ch b8 0 r3 :: KdC b8 :: KdC b10 :: L) b10 0 r4 hg4 ((ys[j]).toNat : Int) (by omega)) (Ent.sep enn) ?_
          rintro ⟨r5, a110, c110⟩
          dsimp only
          refine Hd.pure (fun h5 => ?_)
          have hle5 := cpy_len_le (flat r4) ((ys[j]).toNat : Int).toNat
          have hgot5 : (got ++ (flat r4).take ((ys[j]).toNat : Int).toNat) ++ (flat r5 ++ flat r3) = l := by
            have e := List.take_append_drop ((ys[j]).toNat : Int).toNat (flat r4)
            rw [h5.1, ← hgot, ← hcat]
            rw [List.append_assoc, ← List.append_assoc ((flat r4).take _), e]
          have hle4 := congrArg List.length hcat
          simp only [List.length_append] at hle4
          refine Hd.yv (y_strOf (l := _) (by kernel_rfl) Try.underlying9 rfl (by (first | exact RdS.own pkk | exact hD | exact RdS.mono hY (Ent.sep enn) | exact RdS.mono hD (Ent.sep enn)))) ?_
          refine Hd.yv (y_addstr rfl rfl (by first | omega | (simp; omega) | (simp only [List.length_append, List.length_take, List.length_drop, List.length_cons, List.length_nil]; omega))) ?_
          refine Hd.yv (y_assign rfl) ?_
          refine Hd.nil ?_
          refine Hd.slots [(0, _), (2, _), (7, _), (8, _), (10, _), (15, _), (77, _), (78, _)] ⟨rfl, rfl, rfl, rfl, rfl, rfl, rfl, rfl, trivial⟩ ?_
          refine Hd.inB ?_
          refine Hd.toK hK25 ?_
          refine Hd.region ?_
          first | (refine Hd.yv (y_addn rfl rfl (by simp only [InK]; omega)) ?_) | (refine Hd.yv (y_add rfl rfl) ?_)
          refine Hd.yv (y_move rfl) ?_
          refine Hd.nil ?_
          refine Hd.slots [(0, _), (2, _), (7, _), (8, _), (10, _), (15, _), (77, _), (78, _)] ⟨rfl, rfl, rfl, rfl, rfl, rfl, rfl, rfl, trivial⟩ ?_
          clear hK1 hK2 hK3 hK4 hK6 hK7 hK8 hK9 hK10 hK11 hK12 hK13 hK18 hK19 hK20 hK21 hK22 hK23 hK24 hK25 hK26 hK27 hK28 hK29 hK30
          refine Hd.thenN ?_
          exact Hd.again (r3, r5, got ++ (flat r4).take ((ys[j]).toNat : Int).toNat, j + 1) (by first | omega | (simp only; omega) | (simp; omega)) (by repeat (first | exact trivial | refine ⟨rfl, ?_⟩)) (Ent.sep (.pure ⟨hg3, good_drop hg4 h5.1 h5.2, hgot5, hj⟩ enn))
        ·
          try simp only [decide_eq_true_eq, decide_eq_false_iff_not, Bool.and_eq_true, Bool.or_eq_true, Bool.and_eq_false_iff, Bool.or_eq_false_iff, Bool.not_eq_true', Bool.not_eq_false', Bool.not_eq_true, Bool.not_eq_false, Int.not_lt, Int.not_le, Decidable.not_not, ne_eq] at hc7
          refine Hd.skip ?_
          refine Hd.inB ?_
          refine Hd.toK hK25 ?_
          refine Hd.region ?_
          first | (refine Hd.yv (y_addn rfl rfl (by simp only [InK]; omega)) ?_) | (refine Hd.yv (y_add rfl rfl) ?_)
          refine Hd.yv (y_move rfl) ?_
          refine Hd.nil ?_
          refine Hd.slots [(0, _), (2, _), (7, _), (8, _), (10, _), (15, _), (77, _), (78, _)] ⟨rfl, rfl, rfl, rfl, rfl, rfl, rfl, rfl, trivial⟩ ?_
          clear hK1 hK2 hK3 hK4 hK6 hK7 hK8 hK9 hK10 hK11 hK12 hK13 hK18 hK19 hK20 hK21 hK22 hK23 hK24 hK25 hK26 hK27 hK28 hK29 hK30
          refine Hd.thenN ?_
          exact Hd.again (r3, r4, got, j + 1) (by first | omega | (simp only; omega) | (simp; omega)) (by repeat (first | exact trivial | refine ⟨rfl, ?_⟩)) (Ent.sep (.pure ⟨hg3, hg4, by rw [hcat]; exact hgot, hj⟩ enn))
      ·
        try simp only [decide_eq_true_eq, decide_eq_false_iff_not, Bool.and_eq_true, Bool.or_eq_true, Bool.and_eq_false_iff, Bool.or_eq_false_iff, Bool.not_eq_true', Bool.not_eq_false', Bool.not_eq_true, Bool.not_eq_false, Int.not_lt, Int.not_le, Decidable.not_not, ne_eq] at hc5
        obtain ⟨hg1, hg2, hgot, hj'⟩ := hp1
        have htot := congrArg List.length hgot
        simp only [List.length_append, hl] at htot
        refine Hd.exit ?_
        refine Hd.thenExit ?_
        refine Hd.thenExit ?_
        refine Hd.inBexit ?_
        refine Hd.toK hK21 ?_
        refine Hd.seq (fun K31 hK31 => ?_)
        refine Hd.drawsH (L) (fun _ => true) mixed ?_
        simp only [List.length, Nat.zero_add, Nat.reduceAdd]
        refine Hd.takeH 0 rfl (by kernel_rfl) (by kernel_rfl) (by kernel_rfl) (by kernel_rfl) (y_move rfl) (fun _ _ => rfl) (Ent.sep enn) ?_
        refine Hd.takeH 1 rfl (by kernel_rfl) (by kernel_rfl) (by kernel_rfl) (by kernel_rfl) (y_move rfl) (fun _ _ => rfl) (Ent.sep enn) ?_
        refine Hd.takeH 2 rfl (by kernel_rfl) (by kernel_rfl) (by kernel_rfl) (by kernel_rfl) (y_len Try.underlying22 rfl) (fun _ _ => rfl) (Ent.sep enn) ?_
        refine Hd.takeH 6 rfl (by kernel_rfl) (by kernel_rfl) (by kernel_rfl) (by kernel_rfl) (y_move rfl) (fun _ _ => rfl) (Ent.sep enn) ?_
        refine Hd.takeH 7 rfl (by kernel_rfl) (by kernel_rfl) (by kernel_rfl) (by kernel_rfl) (y_len Try.underlying22 rfl) (fun _ _ => rfl) (Ent.sep enn) ?_
        refine Hd.onlyH 3 rfl (by kernel_rfl) ?_
        refine Hd.callE rfl fk18 (take_ct (Ch b8 0 r1 :: L) b10 0 r2 hg2 (m : Int) (by omega)) (Ent.sep enn) ?_
        rintro ⟨r5, a117, c117⟩
        dsimp only
        refine Hd.pure (fun h5 => ?_)
        have hle5 := cpy_len_le (flat r2) (m : Int).toNat
        refine Hd.nil ?_
        refine Hd.thenN ?_
        refine Hd.heldK (J := (fun _ => true)) (i := 3) (Ent.sep enn) ?_
        refine Hd.eitherH 4 8 rfl rfl (by kernel_rfl) ?_ ?_
        ·
          refine Hd.yv (y_strOf (l := _) (by kernel_rfl) Try.underlying9 rfl (by (first | exact RdS.own pkk | exact hD | exact RdS.mono hY (Ent.sep enn) | exact RdS.mono hD (Ent.sep enn)))) ?_
          refine Hd.nil ?_
          refine Hd.thenN ?_
          refine Hd.heldK (J := (fun _ => true)) (i := 4) (Ent.sep enn) ?_
          refine Hd.takeH 5 rfl (by kernel_rfl) (by kernel_rfl) (by kernel_rfl) (by kernel_rfl) (y_addstr rfl rfl (by first | omega | (simp; omega) | (simp only [List.length_append, List.length_take, List.length_drop, List.length_cons, List.length_nil]; omega))) (fun _ _ => rfl) (Ent.sep enn) ?_
          refine Hd.onlyH 8 rfl (by kernel_rfl) ?_
          refine Hd.callE rfl fk18 (take_ct (own 5 1 a117 ((flat r2).take (m : Int).toNat).length c117 (bsl ((flat r2).take (m : Int).toNat)) :: Ch b10 0 r5 :: L) b8 0 r1 hg1 (m : Int) (by omega)) (Ent.sep enn) ?_
          rintro ⟨r6, a122, c122⟩
          dsimp only
          refine Hd.pure (fun h6 => ?_)
          have hle6 := cpy_len_le (flat r1) (m : Int).toNat
          refine Hd.nil ?_
          refine Hd.thenN ?_
          refine Hd.heldK (J := (fun _ => true)) (i := 8) (Ent.sep enn) ?_
          refine Hd.onlyH 9 rfl (by kernel_rfl) ?_
          refine Hd.yv (y_strOf (l := _) (by kernel_rfl) Try.underlying9 rfl (by (first | exact RdS.own pkk | exact hD | exact RdS.mono hY (Ent.sep enn) | exact RdS.mono hD (Ent.sep enn)))) ?_
          refine Hd.nil ?_
          refine Hd.thenN ?_
          refine Hd.heldK (J := (fun _ => true)) (i := 9) (Ent.sep enn) ?_
          refine Hd.takeH 10 rfl (by kernel_rfl) (by kernel_rfl) (by kernel_rfl) (by kernel_rfl) (y_addstr rfl rfl (by first | omega | (simp; omega) | (simp only [List.length_append, List.length_take, List.length_drop, List.length_cons, List.length_nil]; omega))) (fun _ _ => rfl) (Ent.sep enn) ?_
          refine Hd.takeH 11 rfl (by kernel_rfl) (by kernel_rfl) (by kernel_rfl) (by kernel_rfl) (y_assign rfl) (fun _ _ => rfl) (Ent.sep enn) ?_
          refine Hd.endH (by kernel_rfl) ?_
          refine Hd.slots [(0, _), (7, _), (8, _), (10, _), (15, _)] ⟨rfl, rfl, rfl, rfl, rfl, trivial⟩ ?_
          refine Hd.toK hK31 ?_
          refine Hd.seq (fun K32 hK32 => ?_)
          have e5 : (flat r2).take (m : Int).toNat = flat r2 := List.take_of_length_le (by omega)
          have e6 : (flat r1).take (m : Int).toNat = flat r1 := List.take_of_length_le (by omega)
          have n5 : flat r5 = [] := by rw [h5.1]; exact List.drop_of_length_le (by omega)
          have n6 : flat r6 = [] := by rw [h6.1]; exact List.drop_of_length_le (by omega)
          refine Hd.region ?_
          refine Hd.yv (y_move rfl) ?_
          refine Hd.yv (y_move rfl) ?_
          refine Hd.yg rfl rfl (y_move rfl) ?_
          refine Hd.yg rfl rfl (y_move rfl) ?_
          refine Hd.yg rfl rfl (y_strOf (l := _) (by kernel_rfl) Try.underlying9 rfl (by (first | exact RdS.own pkk | exact hD | exact RdS.mono hY (Ent.sep enn) | exact RdS.mono hD (Ent.sep enn)))) ?_
          refine Hd.yg rfl rfl (y_to (y_eqlstr rfl rfl) (congrArg Value.bool (decide_eq_true ((by rw [e5, e6, List.append_assoc]; exact hgot))))) ?_
          first | (refine Hd.yv (y_pickT rfl rfl) ?_) | (refine Hd.yv (y_pickF rfl rfl) ?_) | (refine Hd.yv (y_pickb rfl rfl rfl) ?_) | (refine Hd.yv (y_pick rfl rfl rfl) ?_)
          refine Hd.yv (y_move rfl) ?_
          refine Hd.unguard rfl rfl ?_
          refine Hd.callE rfl fk23 (lenC_ct (Ch b10 0 r5 :: L) b8 0 r6) (Ent.sep enn) ?_
          intro _
          first | (refine Hd.yg rfl rfl (y_to (y_eqlT rfl rfl) (congrArg Value.bool (decide_eq_true ((by rw [n6]; rfl))))) ?_) | (refine Hd.yg rfl rfl (y_to (y_eql rfl rfl) (congrArg Value.bool (decide_eq_true ((by rw [n6]; rfl))))) ?_)
          first | (refine Hd.yv (y_pickT rfl rfl) ?_) | (refine Hd.yv (y_pickF rfl rfl) ?_) | (refine Hd.yv (y_pickb rfl rfl rfl) ?_) | (refine Hd.yv (y_pick rfl rfl rfl) ?_)
          refine Hd.yv (y_move rfl) ?_
          refine Hd.unguard rfl rfl ?_
          refine Hd.callE rfl fk23 (lenC_ct (Ch b8 0 r6 :: L) b10 0 r5) (Ent.sep enn) ?_
          intro _
          first | (refine Hd.yg rfl rfl (y_to (y_eqlT rfl rfl) (congrArg Value.bool (decide_eq_true ((by rw [n5]; rfl))))) ?_) | (refine Hd.yg rfl rfl (y_to (y_eql rfl rfl) (congrArg Value.bool (decide_eq_true ((by rw [n5]; rfl))))) ?_)
          first | (refine Hd.yv (y_pickT rfl rfl) ?_) | (refine Hd.yv (y_pickF rfl rfl) ?_) | (refine Hd.yv (y_pickb rfl rfl rfl) ?_) | (refine Hd.yv (y_pick rfl rfl rfl) ?_)
          refine Hd.yv (y_assign rfl) ?_
          refine Hd.nil ?_
          refine Hd.slots [(6, _)] ⟨rfl, trivial⟩ ?_
          refine Hd.toK hK32 ?_
          refine Hd.ret ?_
          clear hK1 hK2 hK3 hK4 hK6 hK7 hK8 hK9 hK10 hK11 hK12 hK13 hK18 hK19 hK20 hK21 hK22 hK23 hK24 hK31 hK32
          exact Hd.ret1 rfl () (by first | rfl | (simp only [*]; done) | (simp [*]; done)) (Ent.sep enn)
        ·
          refine Hd.callE rfl fk18 (take_ct (own 5 1 a117 ((flat r2).take (m : Int).toNat).length c117 (bsl ((flat r2).take (m : Int).toNat)) :: Ch b10 0 r5 :: L) b8 0 r1 hg1 (m : Int) (by omega)) (Ent.sep enn) ?_
          rintro ⟨r6, a122, c122⟩
          dsimp only
          refine Hd.pure (fun h6 => ?_)
          have hle6 := cpy_len_le (flat r1) (m : Int).toNat
          refine Hd.nil ?_
          refine Hd.thenN ?_
          refine Hd.heldK (J := (fun _ => true)) (i := 8) (Ent.sep enn) ?_
          refine Hd.eitherH 4 9 rfl rfl (by kernel_rfl) ?_ ?_
          ·
            refine Hd.yv (y_strOf (l := _) (by kernel_rfl) Try.underlying9 rfl (by (first | exact RdS.own pkk | exact hD | exact RdS.mono hY (Ent.sep enn) | exact RdS.mono hD (Ent.sep enn)))) ?_
            refine Hd.nil ?_
            refine Hd.thenN ?_
            refine Hd.heldK (J := (fun _ => true)) (i := 4) (Ent.sep enn) ?_
            refine Hd.takeH 5 rfl (by kernel_rfl) (by kernel_rfl) (by kernel_rfl) (by kernel_rfl) (y_addstr rfl rfl (by first | omega | (simp; omega) | (simp only [List.length_append, List.length_take, List.length_drop, List.length_cons, List.length_nil]; omega))) (fun _ _ => rfl) (Ent.sep enn) ?_
            refine Hd.onlyH 9 rfl (by kernel_rfl) ?_
            refine Hd.yv (y_strOf (l := _) (by kernel_rfl) Try.underlying9 rfl (by (first | exact RdS.own pkk | exact hD | exact RdS.mono hY (Ent.sep enn) | exact RdS.mono hD (Ent.sep enn)))) ?_
            refine Hd.nil ?_
            refine Hd.thenN ?_
            refine Hd.heldK (J := (fun _ => true)) (i := 9) (Ent.sep enn) ?_
            refine Hd.takeH 10 rfl (by kernel_rfl) (by kernel_rfl) (by kernel_rfl) (by kernel_rfl) (y_addstr rfl rfl (by first | omega | (simp; omega) | (simp only [List.length_append, List.length_take, List.length_drop, List.length_cons, List.length_nil]; omega))) (fun _ _ => rfl) (Ent.sep enn) ?_
            refine Hd.takeH 11 rfl (by kernel_rfl) (by kernel_rfl) (by kernel_rfl) (by kernel_rfl) (y_assign rfl) (fun _ _ => rfl) (Ent.sep enn) ?_
            refine Hd.endH (by kernel_rfl) ?_
            refine Hd.slots [(0, _), (7, _), (8, _), (10, _), (15, _)] ⟨rfl, rfl, rfl, rfl, rfl, trivial⟩ ?_
            refine Hd.toK hK31 ?_
            refine Hd.seq (fun K33 hK33 => ?_)
            have e5 : (flat r2).take (m : Int).toNat = flat r2 := List.take_of_length_le (by omega)
            have e6 : (flat r1).take (m : Int).toNat = flat r1 := List.take_of_length_le (by omega)
            have n5 : flat r5 = [] := by rw [h5.1]; exact List.drop_of_length_le (by omega)
            have n6 : flat r6 = [] := by rw [h6.1]; exact List.drop_of_length_le (by omega)
            refine Hd.region ?_
            refine Hd.yv (y_move rfl) ?_
            refine Hd.yv (y_move rfl) ?_
            refine Hd.yg rfl rfl (y_move rfl) ?_
            refine Hd.yg rfl rfl (y_move rfl) ?_
            refine Hd.yg rfl rfl (y_strOf (l := _) (by kernel_rfl) Try.underlying9 rfl (by (first | exact RdS.own pkk | exact hD | exact RdS.mono hY (Ent.sep enn) | exact RdS.mono hD (Ent.sep enn)))) ?_
            refine Hd.yg rfl rfl (y_to (y_eqlstr rfl rfl) (congrArg Value.bool (decide_eq_true ((by rw [e5, e6, List.append_assoc]; exact hgot))))) ?_
            first | (refine Hd.yv (y_pickT rfl rfl) ?_) | (refine Hd.yv (y_pickF rfl rfl) ?_) | (refine Hd.yv (y_pickb rfl rfl rfl) ?_) | (refine Hd.yv (y_pick rfl rfl rfl) ?_)
            refine Hd.yv (y_move rfl) ?_
            refine Hd.unguard rfl rfl ?_
            refine Hd.callE rfl fk23 (lenC_ct (Ch b10 0 r5 :: L) b8 0 r6) (Ent.sep enn) ?_
            intro _
            first | (refine Hd.yg rfl rfl (y_to (y_eqlT rfl rfl) (congrArg Value.bool (decide_eq_true ((by rw [n6]; rfl))))) ?_) | (refine Hd.yg rfl rfl (y_to (y_eql rfl rfl) (congrArg Value.bool (decide_eq_true ((by rw [n6]; rfl))))) ?_)
            first | (refine Hd.yv (y_pickT rfl rfl) ?_) | (refine Hd.yv (y_pickF rfl rfl) ?_) | (refine Hd.yv (y_pickb rfl rfl rfl) ?_) | (refine Hd.yv (y_pick rfl rfl rfl) ?_)
            refine Hd.yv (y_move rfl) ?_
            refine Hd.unguard rfl rfl ?_
            refine Hd.callE rfl fk23 (lenC_ct (Ch b8 0 r6 :: L) b10 0 r5) (Ent.sep enn) ?_
            intro _
            first | (refine Hd.yg rfl rfl (y_to (y_eqlT rfl rfl) (congrArg Value.bool (decide_eq_true ((by rw [n5]; rfl))))) ?_) | (refine Hd.yg rfl rfl (y_to (y_eql rfl rfl) (congrArg Value.bool (decide_eq_true ((by rw [n5]; rfl))))) ?_)
            first | (refine Hd.yv (y_pickT rfl rfl) ?_) | (refine Hd.yv (y_pickF rfl rfl) ?_) | (refine Hd.yv (y_pickb rfl rfl rfl) ?_) | (refine Hd.yv (y_pick rfl rfl rfl) ?_)
            refine Hd.yv (y_assign rfl) ?_
            refine Hd.nil ?_
            refine Hd.slots [(6, _)] ⟨rfl, trivial⟩ ?_
            refine Hd.toK hK33 ?_
            refine Hd.ret ?_
            clear hK1 hK2 hK3 hK4 hK6 hK7 hK8 hK9 hK10 hK11 hK12 hK13 hK18 hK19 hK20 hK21 hK22 hK23 hK24 hK31 hK33
            exact Hd.ret1 rfl () (by first | rfl | (simp only [*]; done) | (simp [*]; done)) (Ent.sep enn)
          ·
            refine Hd.yv (y_strOf (l := _) (by kernel_rfl) Try.underlying9 rfl (by (first | exact RdS.own pkk | exact hD | exact RdS.mono hY (Ent.sep enn) | exact RdS.mono hD (Ent.sep enn)))) ?_
            refine Hd.nil ?_
            refine Hd.thenN ?_
            refine Hd.heldK (J := (fun _ => true)) (i := 9) (Ent.sep enn) ?_
            refine Hd.onlyH 4 rfl (by kernel_rfl) ?_
            refine Hd.yv (y_strOf (l := _) (by kernel_rfl) Try.underlying9 rfl (by (first | exact RdS.own pkk | exact hD | exact RdS.mono hY (Ent.sep enn) | exact RdS.mono hD (Ent.sep enn)))) ?_
            refine Hd.nil ?_
            refine Hd.thenN ?_
            refine Hd.heldK (J := (fun _ => true)) (i := 4) (Ent.sep enn) ?_
            refine Hd.takeH 5 rfl (by kernel_rfl) (by kernel_rfl) (by kernel_rfl) (by kernel_rfl) (y_addstr rfl rfl (by first | omega | (simp; omega) | (simp only [List.length_append, List.length_take, List.length_drop, List.length_cons, List.length_nil]; omega))) (fun _ _ => rfl) (Ent.sep enn) ?_
            refine Hd.takeH 10 rfl (by kernel_rfl) (by kernel_rfl) (by kernel_rfl) (by kernel_rfl) (y_addstr rfl rfl (by first | omega | (simp; omega) | (simp only [List.length_append, List.length_take, List.length_drop, List.length_cons, List.length_nil]; omega))) (fun _ _ => rfl) (Ent.sep enn) ?_
            refine Hd.takeH 11 rfl (by kernel_rfl) (by kernel_rfl) (by kernel_rfl) (by kernel_rfl) (y_assign rfl) (fun _ _ => rfl) (Ent.sep enn) ?_
            refine Hd.endH (by kernel_rfl) ?_
            refine Hd.slots [(0, _), (7, _), (8, _), (10, _), (15, _)] ⟨rfl, rfl, rfl, rfl, rfl, trivial⟩ ?_
            refine Hd.toK hK31 ?_
            refine Hd.seq (fun K34 hK34 => ?_)
            have e5 : (flat r2).take (m : Int).toNat = flat r2 := List.take_of_length_le (by omega)
            have e6 : (flat r1).take (m : Int).toNat = flat r1 := List.take_of_length_le (by omega)
            have n5 : flat r5 = [] := by rw [h5.1]; exact List.drop_of_length_le (by omega)
            have n6 : flat r6 = [] := by rw [h6.1]; exact List.drop_of_length_le (by omega)
            refine Hd.region ?_
            refine Hd.yv (y_move rfl) ?_
            refine Hd.yv (y_move rfl) ?_
            refine Hd.yg rfl rfl (y_move rfl) ?_
            refine Hd.yg rfl rfl (y_move rfl) ?_
            refine Hd.yg rfl rfl (y_strOf (l := _) (by kernel_rfl) Try.underlying9 rfl (by (first | exact RdS.own pkk | exact hD | exact RdS.mono hY (Ent.sep enn) | exact RdS.mono hD (Ent.sep enn)))) ?_
            refine Hd.yg rfl rfl (y_to (y_eqlstr rfl rfl) (congrArg Value.bool (decide_eq_true ((by rw [e5, e6, List.append_assoc]; exact hgot))))) ?_
            first | (refine Hd.yv (y_pickT rfl rfl) ?_) | (refine Hd.yv (y_pickF rfl rfl) ?_) | (refine Hd.yv (y_pickb rfl rfl rfl) ?_) | (refine Hd.yv (y_pick rfl rfl rfl) ?_)
            refine Hd.yv (y_move rfl) ?_
            refine Hd.unguard rfl rfl ?_
            refine Hd.callE rfl fk23 (lenC_ct (Ch b10 0 r5 :: L) b8 0 r6) (Ent.sep enn) ?_
            intro _
            first | (refine Hd.yg rfl rfl (y_to (y_eqlT rfl rfl) (congrArg Value.bool (decide_eq_true ((by rw [n6]; rfl))))) ?_) | (refine Hd.yg rfl rfl (y_to (y_eql rfl rfl) (congrArg Value.bool (decide_eq_true ((by rw [n6]; rfl))))) ?_)
            first | (refine Hd.yv (y_pickT rfl rfl) ?_) | (refine Hd.yv (y_pickF rfl rfl) ?_) | (refine Hd.yv (y_pickb rfl rfl rfl) ?_) | (refine Hd.yv (y_pick rfl rfl rfl) ?_)
            refine Hd.yv (y_move rfl) ?_
            refine Hd.unguard rfl rfl ?_
            refine Hd.callE rfl fk23 (lenC_ct (Ch b8 0 r6 :: L) b10 0 r5) (Ent.sep enn) ?_
            intro _
            first | (refine Hd.yg rfl rfl (y_to (y_eqlT rfl rfl) (congrArg Value.bool (decide_eq_true ((by rw [n5]; rfl))))) ?_) | (refine Hd.yg rfl rfl (y_to (y_eql rfl rfl) (congrArg Value.bool (decide_eq_true ((by rw [n5]; rfl))))) ?_)
            first | (refine Hd.yv (y_pickT rfl rfl) ?_) | (refine Hd.yv (y_pickF rfl rfl) ?_) | (refine Hd.yv (y_pickb rfl rfl rfl) ?_) | (refine Hd.yv (y_pick rfl rfl rfl) ?_)
            refine Hd.yv (y_assign rfl) ?_
            refine Hd.nil ?_
            refine Hd.slots [(6, _)] ⟨rfl, trivial⟩ ?_
            refine Hd.toK hK34 ?_
            refine Hd.ret ?_
            clear hK1 hK2 hK3 hK4 hK6 hK7 hK8 hK9 hK10 hK11 hK12 hK13 hK18 hK19 hK20 hK21 hK22 hK23 hK24 hK31 hK34
            exact Hd.ret1 rfl () (by first | rfl | (simp only [*]; done) | (simp [*]; done)) (Ent.sep enn)
end Bc
end Go.Proofs.Ytgifpkpkkgkfeaa
