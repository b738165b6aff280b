/-
  That the law ChainFinds answers true.
-/
import Derived.Test.YtgifpkpkkgkfeaaBa4
namespace Go.Proofs.Ytgifpkpkkgkfeaa
set_option linter.unusedSimpArgs false
set_option linter.unusedVariables false
set_option linter.unnecessarySimpa false
open Go.RX Fx
namespace Bc
theorem rd_part {L : List SP} {ad : Option Addr} {m i j cap : Nat} {l : List UInt8} (h : RdS L 1 ad m (bsl l)) (hij : i ≤ j) (hj : j ≤ m) (hc : j ≤ cap) : RdS L 1 (cutA ad 1 i cap) (j - i) (bsl ((l.drop i).take (j - i))) := by
  have h1 := RdS.part (mx := cap) h hij hj hc
  rw [Nat.mul_one, Nat.mul_one, ← List.map_drop, ← List.map_take] at h1; exact h1
abbrev opC (k wh : Int) (wa : Option Addr) (wn wc : Nat) (nn f mm : Int) : List Value := [.int .i64 k, .int .u8 wh, .slice wa wn wc, .int .i64 nn, .int .i64 f, .int .u32 mm]
/-- where nothing is to be found but from ahead of the beginning -/
def EndI (l w : List UInt8) (f e : Int) : Prop := ∀ j : Nat, (j : Int) ≤ e → f ≤ (j : Int) → j + w.length ≤ l.length ∧ (Mt l w j → f < 0)
theorem endI_some {l w : List UInt8} {f : Int} {a : Nat} (h : FndS l w f (some a)) : EndI l w f ((a : Int) - 1) := fun j h1 h2 => ⟨by have := h.2.2.1; omega, fun h3 => absurd h3 (h.2.2.2.2 j h2 (by omega))⟩
theorem endI_none {l w : List UInt8} {f : Int} (h : FndS l w f none) : EndI l w f ((l.length : Int) - (w.length : Int)) := fun j h1 h2 => ⟨by omega, fun h3 => by
  rcases h with h | h
  · exact h
  · exact absurd h3 (h j h2 (by omega))⟩
set_option maxHeartbeats 2000000 in
theorem findsLaw_ct (L : List SP) (ad : Option Addr) (m cap : Nat) (l : List UInt8) (hD : RdS L 1 ad m (bsl l)) (hmc : m ≤ cap) (ad2 : Option Addr) (c2 : Nat) (xs : List UInt8) (hX : RdS L 1 ad2 xs.length (bsl xs)) (k wh : Int) (wa : Option Addr) (wc : Nat) (w : List UInt8) (hW : RdS L 1 wa w.length (bsl w)) (nn f mm : Int) (hf : InK .i64 f) : Ct Try.prog 4 #[.slice ad m cap, .slice ad2 xs.length c2, .agg #[.int .i64 k, .int .u8 wh, .slice wa w.length wc, .int .i64 nn, .int .i64 f, .int .u32 mm]] (L) (fun _ : Unit => .bool true) (fun _ : Unit => L) := by
  refine Ct.of (vs := [.slice ad m cap, .slice ad2 xs.length c2, .agg #[.int .i64 k, .int .u8 wh, .slice wa w.length wc, .int .i64 nn, .int .i64 f, .int .u32 mm]]) Try.func4 rfl rfl [(0, .slice ad m cap), (1, .slice ad2 xs.length c2), (2, .agg #[.int .i64 k, .int .u8 wh, .slice wa w.length wc, .int .i64 nn, .int .i64 f, .int .u32 mm])] (by repeat (first | exact trivial | refine ⟨rfl, ?_⟩)) ?_
  intro E
  show Hd E 137 _ _ _ _
  have hf' := hf
  simp only [InK] at hf
  refine Hd.rdsF hD (fun hlm hnil => ?_)
  have hl : l.length = m := by simpa using hlm
  refine Hd.seq (fun K1 hK1 => ?_)
  refine Hd.region ?_
  refine Hd.box rfl rfl (fun b5 => ?_)
  refine Hd.yv (y_assign rfl) ?_
  refine Hd.nil ?_
  refine Hd.slots [(0, _), (1, _), (5, _)] ⟨rfl, rfl, rfl, trivial⟩ ?_
  refine Hd.toK hK1 ?_
  refine Hd.seq (fun K2 hK2 => ?_)
  refine Hd.region ?_
  refine Hd.callE rfl fk14 (alive_ct _) (Ent.sep enn) ?_
  intro _
  refine Hd.yv (y_assign rfl) ?_
  refine Hd.nil ?_
  refine Hd.slots [(0, _), (1, _), (5, _), (7, _)] ⟨rfl, rfl, rfl, rfl, trivial⟩ ?_
  refine Hd.toK hK2 ?_
  refine Hd.seq (fun K3 hK3 => ?_)
  refine Hd.seq (fun K4 hK4 => ?_)
  refine Hd.region ?_
  refine Hd.yv (y_move rfl) ?_
  refine Hd.yv (y_len Try.underlying22 rfl) ?_
  refine Hd.yv (y_gtr rfl rfl) ?_
  refine Hd.yv (y_move rfl) ?_
  apply Hd.org 4 23 27 [(0, _), (1, _), (5, _), (7, _)] rfl ⟨rfl, rfl, rfl, rfl, trivial⟩
  · intro hg2_23
    try simp only [decide_eq_true_eq, decide_eq_false_iff_not, Bool.and_eq_true, Bool.or_eq_true, Bool.and_eq_false_iff, Bool.or_eq_false_iff, Bool.not_eq_true', Bool.not_eq_false', Bool.not_eq_true, Bool.not_eq_false, Int.not_lt, Int.not_le, Decidable.not_not, ne_eq] at hg2_23
    simp only [List.take]
    refine Hd.ng rfl rfl rfl ?_
    refine Hd.ng rfl rfl rfl ?_
    refine Hd.ng rfl rfl rfl ?_
    first | (refine Hd.yv (y_pickT rfl rfl) ?_) | (refine Hd.yv (y_pickF rfl rfl) ?_) | (refine Hd.yv (y_pickb rfl rfl rfl) ?_) | (refine Hd.yv (y_pick rfl rfl rfl) ?_)
    refine Hd.nil ?_
    exact Hd.mend (by repeat (first | exact trivial | refine ⟨rfl, ?_⟩)) (Ent.sep enn)
  · intro hg2_23
    try simp only [decide_eq_true_eq, decide_eq_false_iff_not, Bool.and_eq_true, Bool.or_eq_true, Bool.and_eq_false_iff, Bool.or_eq_false_iff, Bool.not_eq_true', Bool.not_eq_false', Bool.not_eq_true, Bool.not_eq_false, Int.not_lt, Int.not_le, Decidable.not_not, ne_eq] at hg2_23
    simp only [List.take]
    refine Hd.yg rfl rfl (y_move rfl) ?_
    refine Hd.yg rfl rfl (y_len Try.underlying22 rfl) ?_
    refine Hd.yg rfl rfl (y_gtr rfl rfl) ?_
    first | (refine Hd.yv (y_pickT rfl rfl) ?_) | (refine Hd.yv (y_pickF rfl rfl) ?_) | (refine Hd.yv (y_pickb rfl rfl rfl) ?_) | (refine Hd.yv (y_pick rfl rfl rfl) ?_)
    refine Hd.nil ?_
    exact Hd.mend (by repeat (first | exact trivial | refine ⟨rfl, ?_⟩)) (Ent.sep enn)
  simp only [List.drop]
  refine Hd.yv (y_move rfl) ?_
  apply Hd.org 5 28 33 [(0, _), (1, _), (5, _), (7, _)] rfl ⟨rfl, rfl, rfl, rfl, trivial⟩
  · intro hg2_28
    try simp only [decide_eq_true_eq, decide_eq_false_iff_not, Bool.and_eq_true, Bool.or_eq_true, Bool.and_eq_false_iff, Bool.or_eq_false_iff, Bool.not_eq_true', Bool.not_eq_false', Bool.not_eq_true, Bool.not_eq_false, Int.not_lt, Int.not_le, Decidable.not_not, ne_eq] at hg2_28
    simp only [List.take]
    refine Hd.ng rfl rfl rfl ?_
    refine Hd.ng rfl rfl rfl ?_
    refine Hd.ng rfl rfl rfl ?_
    refine Hd.ng rfl rfl rfl ?_
    first | (refine Hd.yv (y_pickT rfl rfl) ?_) | (refine Hd.yv (y_pickF rfl rfl) ?_) | (refine Hd.yv (y_pickb rfl rfl rfl) ?_) | (refine Hd.yv (y_pick rfl rfl rfl) ?_)
    refine Hd.nil ?_
    exact Hd.mend (by repeat (first | exact trivial | refine ⟨rfl, ?_⟩)) (Ent.sep enn)
  · intro hg2_28
    try simp only [decide_eq_true_eq, decide_eq_false_iff_not, Bool.and_eq_true, Bool.or_eq_true, Bool.and_eq_false_iff, Bool.or_eq_false_iff, Bool.not_eq_true', Bool.not_eq_false', Bool.not_eq_true, Bool.not_eq_false, Int.not_lt, Int.not_le, Decidable.not_not, ne_eq] at hg2_28
    simp only [List.take]
    first | (refine Hd.yg rfl rfl (y_field' (q := 2) (ft := 22) Try.underlying36 rfl sz22 rfl rfl) ?_) | (refine Hd.yg rfl rfl (y_fieldR (q := 2) (ft := 22) Try.underlying36 rfl sz22 rfl rfl) ?_)
    first | (refine Hd.yg rfl rfl (y_load1 ag22 rfl (Rd.pt1 pkk (by (first | exact hdr_at hi | rfl)))) ?_) | (refine Hd.yg rfl rfl (y_load1 ag22 rfl (Rd.seg1 pkk (by (first | exact hdr_at hi | rfl)))) ?_) | (refine Hd.yg rfl rfl (y_loadR1 ag22 rfl (by (first | exact RdS.own pkk | exact RdS.mono hW (Ent.sep enn) | exact RdS.mono (rd_part hD (Nat.le_add_right a w.length) hb1 (Nat.le_trans hb1 hmc)) (Ent.sep enn))) (by (first | exact hdr_at hi | rfl))) ?_)
    refine Hd.yg rfl rfl (y_len Try.underlying22 rfl) ?_
    refine Hd.yg rfl rfl (y_gtr rfl rfl) ?_
    first | (refine Hd.yv (y_pickT rfl rfl) ?_) | (refine Hd.yv (y_pickF rfl rfl) ?_) | (refine Hd.yv (y_pickb rfl rfl rfl) ?_) | (refine Hd.yv (y_pick rfl rfl rfl) ?_)
    refine Hd.nil ?_
    exact Hd.mend (by repeat (first | exact trivial | refine ⟨rfl, ?_⟩)) (Ent.sep enn)
  simp only [List.drop]
  refine Hd.yv (y_move rfl) ?_
  apply Hd.org 3 34 37 [(0, _), (1, _), (5, _), (7, _)] rfl ⟨rfl, rfl, rfl, rfl, trivial⟩
  · intro hg2_34
    try simp only [decide_eq_true_eq, decide_eq_false_iff_not, Bool.and_eq_true, Bool.or_eq_true, Bool.and_eq_false_iff, Bool.or_eq_false_iff, Bool.not_eq_true', Bool.not_eq_false', Bool.not_eq_true, Bool.not_eq_false, Int.not_lt, Int.not_le, Decidable.not_not, ne_eq] at hg2_34
    simp only [List.take]
    refine Hd.ng rfl rfl rfl ?_
    refine Hd.ng rfl rfl rfl ?_
    first | (refine Hd.yv (y_pickT rfl rfl) ?_) | (refine Hd.yv (y_pickF rfl rfl) ?_) | (refine Hd.yv (y_pickb rfl rfl rfl) ?_) | (refine Hd.yv (y_pick rfl rfl rfl) ?_)
    refine Hd.nil ?_
    exact Hd.mend (by repeat (first | exact trivial | refine ⟨rfl, ?_⟩)) (Ent.sep enn)
  · intro hg2_34
    try simp only [decide_eq_true_eq, decide_eq_false_iff_not, Bool.and_eq_true, Bool.or_eq_true, Bool.and_eq_false_iff, Bool.or_eq_false_iff, Bool.not_eq_true', Bool.not_eq_false', Bool.not_eq_true, Bool.not_eq_false, Int.not_lt, Int.not_le, Decidable.not_not, ne_eq] at hg2_34
    simp only [List.take]
    refine Hd.yg rfl rfl (y_move rfl) ?_
    refine Hd.yg rfl rfl (y_not rfl) ?_
    first | (refine Hd.yv (y_pickT rfl rfl) ?_) | (refine Hd.yv (y_pickF rfl rfl) ?_) | (refine Hd.yv (y_pickb rfl rfl rfl) ?_) | (refine Hd.yv (y_pick rfl rfl rfl) ?_)
    refine Hd.nil ?_
    exact Hd.mend (by repeat (first | exact trivial | refine ⟨rfl, ?_⟩)) (Ent.sep enn)
  simp only [List.drop]
  refine Hd.nil ?_
  refine Hd.slots [(0, _), (1, _), (5, _), (7, _), (37, _)] ⟨rfl, rfl, rfl, rfl, rfl, trivial⟩ ?_
  refine Hd.toK hK4 ?_
  refine Hd.cond rfl (fun hc0 => ?_) (fun hc0 => ?_)
  ·
    try simp only [decide_eq_true_eq, decide_eq_false_iff_not, Bool.and_eq_true, Bool.or_eq_true, Bool.and_eq_false_iff, Bool.or_eq_false_iff, Bool.not_eq_true', Bool.not_eq_false', Bool.not_eq_true, Bool.not_eq_false, Int.not_lt, Int.not_le, Decidable.not_not, ne_eq] at hc0
    refine Hd.seq (fun K5 hK5 => ?_)
    refine Hd.region ?_
    refine Hd.yv (y_move rfl) ?_
    refine Hd.yv (y_assign rfl) ?_
    refine Hd.nil ?_
    refine Hd.slots [(6, _)] ⟨rfl, trivial⟩ ?_
    refine Hd.toK hK5 ?_
    refine Hd.ret ?_
    refine Hd.thenRet ?_
    clear hK1 hK2 hK3 hK4 hK5
    exact Hd.ret1 rfl () (by first | rfl | (simp only [*]; done) | (simp [*]; done)) (Ent.sep enn)
  ·
    try simp only [decide_eq_true_eq, decide_eq_false_iff_not, Bool.and_eq_true, Bool.or_eq_true, Bool.and_eq_false_iff, Bool.or_eq_false_iff, Bool.not_eq_true', Bool.not_eq_false', Bool.not_eq_true, Bool.not_eq_false, Int.not_lt, Int.not_le, Decidable.not_not, ne_eq] at hc0
    obtain ⟨hm, hxl, hwl⟩ : m ≤ 3000 ∧ xs.length ≤ 300 ∧ w.length ≤ 100 := by simp at hc0; omega
    refine Hd.skip ?_
    refine Hd.toK hK3 ?_
    refine Hd.seq (fun K6 hK6 => ?_)
    refine Hd.region ?_
    refine Hd.alloc zr27 (fun b8 => ?_)
    refine Hd.nil ?_
    refine Hd.mkCh (b := b8) pkk ?_
    refine Hd.slots [(0, _), (1, _), (5, _), (7, _), (8, _)] ⟨rfl, rfl, rfl, rfl, rfl, trivial⟩ ?_
    refine Hd.toK hK6 ?_
    refine Hd.seq (fun K7 hK7 => ?_)
    refine Hd.seq (fun K8 hK8 => ?_)
    refine Hd.region ?_
    refine Hd.yv (y_move rfl) ?_
    refine Hd.yv (y_move rfl) ?_
    refine Hd.callE rfl fk15 (pieces_ct (Ch b8 0 [] :: pt b5 (opC k wh wa w.length wc nn f mm) 36 :: L) L (Ent.sep enn) ad m cap l hD hmc ad2 c2 xs hX (by omega)) (Ent.sep enn) ?_
    rintro ⟨ps, a10, c10⟩
    dsimp only
    refine Hd.pure (fun hps => ?_)
    obtain ⟨hp1, hp2, hp3⟩ := hps
    have hpl : (flat ps).length = m := by rw [hp1, hl]
    refine Hd.yv (y_len Try.underlying25 rfl) ?_
    refine Hd.yv (y_move rfl) ?_
    refine Hd.nil ?_
    refine Hd.slots [(0, _), (5, _), (7, _), (8, _), (41, _), (42, _), (43, _)] ⟨rfl, rfl, rfl, rfl, rfl, rfl, rfl, trivial⟩ ?_
    refine Hd.toK hK8 ?_
    refine Hd.block ?_
    refine Hd.loopK (ι := List Row × Nat) [(0, _), (5, _), (7, _), (8, _), (41, _), (42, _)] (fun q_ => [(43, .int .i64 (q_.2 : Int))]) (fun q_ => pu (Good q_.1 ∧ flat q_.1 = flat (ps.take q_.2) ∧ q_.2 ≤ ps.length) :: Ch b8 0 q_.1 :: OwH a10 c10 ps :: pt b5 (opC k wh wa w.length wc nn f mm) 36 :: L) (fun q_ => ps.length - q_.2) ([], 0) (by repeat (first | exact trivial | refine ⟨rfl, ?_⟩)) (by repeat (first | exact trivial | refine ⟨rfl, ?_⟩)) (Ent.sep (.pure ⟨good_nil, by simp [flat], Nat.zero_le _⟩ enn)) ?_
    rintro ⟨rs, i⟩
    try dsimp only
    refine Hd.pure (fun hp0 => ?_)
    try dsimp only at hp0
    refine Hd.seq (fun K9 hK9 => ?_)
    refine Hd.region ?_
    refine Hd.yv (y_lss rfl rfl) ?_
    refine Hd.nil ?_
    refine Hd.slots [(0, _), (5, _), (7, _), (8, _), (41, _), (42, _), (43, _), (44, _)] ⟨rfl, rfl, rfl, rfl, rfl, rfl, rfl, rfl, trivial⟩ ?_
    refine Hd.toK hK9 ?_
    refine Hd.seq (fun K10 hK10 => ?_)
    refine Hd.cond rfl (fun hc1 => ?_) (fun hc1 => ?_)
    ·
      try simp only [decide_eq_true_eq, decide_eq_false_iff_not, Bool.and_eq_true, Bool.or_eq_true, Bool.and_eq_false_iff, Bool.or_eq_false_iff, Bool.not_eq_true', Bool.not_eq_false', Bool.not_eq_true, Bool.not_eq_false, Int.not_lt, Int.not_le, Decidable.not_not, ne_eq] at hc1
      obtain ⟨hg, hfl, hi'⟩ := hp0
      have hi : i < ps.length := by omega
      have hrd2 := hp2 _ (List.getElem_mem hi)
      have hpi := piece_le hi
      refine Hd.skip ?_
      refine Hd.toK hK10 ?_
      refine Hd.seq (fun K11 hK11 => ?_)
      refine Hd.block ?_
      refine Hd.seq (fun K12 hK12 => ?_)
      refine Hd.region ?_
      first | (refine Hd.yv (y_idxS Try.underlying25 sz22 rfl rfl (by first | omega | decide)) ?_) | (refine Hd.yv (y_idxR Try.underlying25 sz22 rfl rfl (by first | omega | decide) (by (first | exact RdS.own pkk | exact RdS.mono hW (Ent.sep enn) | exact RdS.mono (rd_part hD (Nat.le_add_right a w.length) hb1 (Nat.le_trans hb1 hmc)) (Ent.sep enn)))) ?_)
      first | (refine Hd.yv (y_load1 ag22 rfl (Rd.pt1 pkk (by (first | exact hdr_at hi | rfl)))) ?_) | (refine Hd.yv (y_load1 ag22 rfl (Rd.seg1 pkk (by (first | exact hdr_at hi | rfl)))) ?_) | (refine Hd.yv (y_loadR1 ag22 rfl (by (first | exact RdS.own pkk | exact RdS.mono hW (Ent.sep enn) | exact RdS.mono (rd_part hD (Nat.le_add_right a w.length) hb1 (Nat.le_trans hb1 hmc)) (Ent.sep enn))) (by (first | exact hdr_at hi | rfl))) ?_)
      refine Hd.yv (y_assign rfl) ?_
      refine Hd.nil ?_
      refine Hd.slots [(0, _), (5, _), (7, _), (8, _), (10, _), (41, _), (42, _), (43, _)] ⟨rfl, rfl, rfl, rfl, rfl, rfl, rfl, rfl, trivial⟩ ?_
      refine Hd.toK hK12 ?_
      refine Hd.region ?_
      refine Hd.yv (y_move rfl) ?_
      refine Hd.callE rfl fk19 (add_ct (OwH a10 c10 ps :: pt b5 (opC k wh wa w.length wc nn f mm) 36 :: L) b8 0 rs hg _ _ _ ps[i].l (RdS.mono hrd2.1 (Ent.sep enn)) hrd2.2 (by omega)) (Ent.sep enn) ?_
      rintro rs2
      refine Hd.pure (fun h2 => ?_)
      have hadd := good_add hi hfl h2.2 (by omega)
      refine Hd.nil ?_
      refine Hd.slots [(0, _), (5, _), (7, _), (8, _), (41, _), (42, _), (43, _)] ⟨rfl, rfl, rfl, rfl, rfl, rfl, rfl, trivial⟩ ?_
      refine Hd.inB ?_
      refine Hd.toK hK11 ?_
      refine Hd.region ?_
      first | (refine Hd.yv (y_addn rfl rfl (by simp only [InK]; omega)) ?_) | (refine Hd.yv (y_add rfl rfl) ?_)
      refine Hd.yv (y_move rfl) ?_
      refine Hd.nil ?_
      refine Hd.slots [(0, _), (5, _), (7, _), (8, _), (41, _), (42, _), (43, _)] ⟨rfl, rfl, rfl, rfl, rfl, rfl, rfl, trivial⟩ ?_
      clear hK1 hK2 hK3 hK4 hK6 hK7 hK8 hK9 hK10 hK11 hK12
      refine Hd.thenN ?_
      exact Hd.again (rs2, i + 1) (by first | omega | (simp only; omega) | (simp; omega)) (by repeat (first | exact trivial | refine ⟨rfl, ?_⟩)) (Ent.sep (.pure ⟨h2.1, hadd.1, hi⟩ enn))
    ·
      try simp only [decide_eq_true_eq, decide_eq_false_iff_not, Bool.and_eq_true, Bool.or_eq_true, Bool.and_eq_false_iff, Bool.or_eq_false_iff, Bool.not_eq_true', Bool.not_eq_false', Bool.not_eq_true, Bool.not_eq_false, Int.not_lt, Int.not_le, Decidable.not_not, ne_eq] at hc1
      obtain ⟨hg, hfl, hi'⟩ := hp0
      obtain rfl : i = ps.length := by omega
      rw [flat_all (Nat.le_refl _), hp1] at hfl
      refine Hd.exit ?_
      refine Hd.thenExit ?_
      refine Hd.thenExit ?_
      refine Hd.inBexit ?_
      refine Hd.toK hK7 ?_
      refine Hd.seq (fun K13 hK13 => ?_)
      refine Hd.region ?_
      first | (refine Hd.yv (y_field' (q := 2) (ft := 22) Try.underlying36 rfl sz22 rfl rfl) ?_) | (refine Hd.yv (y_fieldR (q := 2) (ft := 22) Try.underlying36 rfl sz22 rfl rfl) ?_)
      first | (refine Hd.yv (y_load1 ag22 rfl (Rd.pt1 pkk (by (first | exact hdr_at hi | rfl)))) ?_) | (refine Hd.yv (y_load1 ag22 rfl (Rd.seg1 pkk (by (first | exact hdr_at hi | rfl)))) ?_) | (refine Hd.yv (y_loadR1 ag22 rfl (by (first | exact RdS.own pkk | exact RdS.mono hW (Ent.sep enn) | exact RdS.mono (rd_part hD (Nat.le_add_right a w.length) hb1 (Nat.le_trans hb1 hmc)) (Ent.sep enn))) (by (first | exact hdr_at hi | rfl))) ?_)
      first | (refine Hd.yv (y_field' (q := 4) (ft := 3) Try.underlying36 rfl sz3 rfl rfl) ?_) | (refine Hd.yv (y_fieldR (q := 4) (ft := 3) Try.underlying36 rfl sz3 rfl rfl) ?_)
      first | (refine Hd.yv (y_load1 ag3 rfl (Rd.pt1 pkk (by (first | exact hdr_at hi | rfl)))) ?_) | (refine Hd.yv (y_load1 ag3 rfl (Rd.seg1 pkk (by (first | exact hdr_at hi | rfl)))) ?_) | (refine Hd.yv (y_loadR1 ag3 rfl (by (first | exact RdS.own pkk | exact RdS.mono hW (Ent.sep enn) | exact RdS.mono (rd_part hD (Nat.le_add_right a w.length) hb1 (Nat.le_trans hb1 hmc)) (Ent.sep enn))) (by (first | exact hdr_at hi | rfl))) ?_)
      refine Hd.callE rfl fk20 (find_ct (pt b5 (opC k wh wa w.length wc nn f mm) 36 :: L) b8 0 rs hg wa wc w (RdS.mono hW (Ent.sep enn)) (by omega) f hf') (Ent.sep enn) ?_
      intro r
      refine Hd.pure (fun hr => ?_)
      refine Hd.yv (y_move rfl) ?_
      refine Hd.yv (y_extract rfl rfl) ?_
      refine Hd.yv (y_extract rfl rfl) ?_
      refine Hd.yv (y_assign rfl) ?_
      refine Hd.yv (y_assign rfl) ?_
      refine Hd.nil ?_
      refine Hd.slots [(0, _), (5, _), (7, _), (8, _), (11, _), (12, _)] ⟨rfl, rfl, rfl, rfl, rfl, rfl, trivial⟩ ?_
      refine Hd.toK hK13 ?_
      refine Hd.seq (fun K14 hK14 => ?_)
      refine Hd.region ?_
      refine Hd.yv (y_move rfl) ?_
      refine Hd.yv (y_len Try.underlying22 rfl) ?_
      refine Hd.callE rfl fk21 (pull_ct (pt b5 (opC k wh wa w.length wc nn f mm) 36 :: L) b8 0 rs hg (m : Int) (by simp only [InK]; omega)) (Ent.sep enn) ?_
      rintro ⟨rs3, a61, c61⟩
      dsimp only
      refine Hd.pure (fun h3 => ?_)
      have hok : pullOk (flat rs).length (m : Int) = true := by rw [hfl, hl]; simp [pullOk]
      have eE : pullE (flat rs).length (m : Int) = 0 := by unfold pullE; rw [if_pos hok]
      rw [eE]
      refine Hd.yv (y_move rfl) ?_
      refine Hd.yv (y_extract rfl rfl) ?_
      refine Hd.yv (y_extract rfl rfl) ?_
      refine Hd.yv (y_assign rfl) ?_
      refine Hd.yv (y_assign rfl) ?_
      refine Hd.nil ?_
      refine Hd.slots [(0, _), (5, _), (7, _), (8, _), (11, _), (12, _), (14, _)] ⟨rfl, rfl, rfl, rfl, rfl, rfl, rfl, trivial⟩ ?_
      refine Hd.toK hK14 ?_
      refine Hd.seq (fun K15 hK15 => ?_)
      refine Hd.region ?_
      first | (refine Hd.yv (y_field' (q := 2) (ft := 22) Try.underlying36 rfl sz22 rfl rfl) ?_) | (refine Hd.yv (y_fieldR (q := 2) (ft := 22) Try.underlying36 rfl sz22 rfl rfl) ?_)
      first | (refine Hd.yv (y_load1 ag22 rfl (Rd.pt1 pkk (by (first | exact hdr_at hi | rfl)))) ?_) | (refine Hd.yv (y_load1 ag22 rfl (Rd.seg1 pkk (by (first | exact hdr_at hi | rfl)))) ?_) | (refine Hd.yv (y_loadR1 ag22 rfl (by (first | exact RdS.own pkk | exact RdS.mono hW (Ent.sep enn) | exact RdS.mono (rd_part hD (Nat.le_add_right a w.length) hb1 (Nat.le_trans hb1 hmc)) (Ent.sep enn))) (by (first | exact hdr_at hi | rfl))) ?_)
      first | (refine Hd.yv (y_field' (q := 4) (ft := 3) Try.underlying36 rfl sz3 rfl rfl) ?_) | (refine Hd.yv (y_fieldR (q := 4) (ft := 3) Try.underlying36 rfl sz3 rfl rfl) ?_)
      first | (refine Hd.yv (y_load1 ag3 rfl (Rd.pt1 pkk (by (first | exact hdr_at hi | rfl)))) ?_) | (refine Hd.yv (y_load1 ag3 rfl (Rd.seg1 pkk (by (first | exact hdr_at hi | rfl)))) ?_) | (refine Hd.yv (y_loadR1 ag3 rfl (by (first | exact RdS.own pkk | exact RdS.mono hW (Ent.sep enn) | exact RdS.mono (rd_part hD (Nat.le_add_right a w.length) hb1 (Nat.le_trans hb1 hmc)) (Ent.sep enn))) (by (first | exact hdr_at hi | rfl))) ?_)
      refine Hd.callE rfl fk20 (find_ct (pt b5 (opC k wh wa w.length wc nn f mm) 36 :: L) b8 0 rs3 h3.1 wa wc w (RdS.mono hW (Ent.sep enn)) (by omega) f hf') (Ent.sep enn) ?_
      intro r2
      refine Hd.pure (fun hr2 => ?_)
      rw [h3.2.1] at hr2
      obtain rfl := fnd_one hr hr2
      refine Hd.yv (y_move rfl) ?_
      refine Hd.yv (y_extract rfl rfl) ?_
      refine Hd.yv (y_extract rfl rfl) ?_
      refine Hd.yv (y_assign rfl) ?_
      refine Hd.yv (y_assign rfl) ?_
      refine Hd.nil ?_
      refine Hd.slots [(0, _), (5, _), (7, _), (8, _), (11, _), (12, _), (14, _), (15, _), (16, _)] ⟨rfl, rfl, rfl, rfl, rfl, rfl, rfl, rfl, rfl, trivial⟩ ?_
      refine Hd.toK hK15 ?_
      refine Hd.seq (fun K16 hK16 => ?_)
      refine Hd.seq (fun K17 hK17 => ?_)
      refine Hd.region ?_
      refine Hd.yv (y_move rfl) ?_
      refine Hd.yv (y_to (y_neq rfl rfl) (congrArg Value.bool (decide_eq_false ((fun h => h rfl))))) ?_
      refine Hd.yv (y_move rfl) ?_
      refine Hd.yg rfl rfl (y_move rfl) ?_
      refine Hd.yg rfl rfl (y_move rfl) ?_
      refine Hd.yg rfl rfl (y_to (y_neq rfl rfl) (congrArg Value.bool (decide_eq_false ((fun h => h rfl))))) ?_
      first | (refine Hd.yv (y_pickT rfl rfl) ?_) | (refine Hd.yv (y_pickF rfl rfl) ?_) | (refine Hd.yv (y_pickb rfl rfl rfl) ?_) | (refine Hd.yv (y_pick rfl rfl rfl) ?_)
      refine Hd.yv (y_move rfl) ?_
      refine Hd.yg rfl rfl (y_move rfl) ?_
      refine Hd.yg rfl rfl (y_move rfl) ?_
      refine Hd.yg rfl rfl (y_to (v' := .bool false) (y_neqb Try.underlying4 rfl rfl) (by simp)) ?_
      first | (refine Hd.yv (y_pickT rfl rfl) ?_) | (refine Hd.yv (y_pickF rfl rfl) ?_) | (refine Hd.yv (y_pickb rfl rfl rfl) ?_) | (refine Hd.yv (y_pick rfl rfl rfl) ?_)
      refine Hd.nil ?_
      refine Hd.slots [(0, _), (5, _), (7, _), (8, _), (11, _), (12, _), (83, _)] ⟨rfl, rfl, rfl, rfl, rfl, rfl, rfl, trivial⟩ ?_
      refine Hd.toK hK17 ?_
      refine Hd.condF rfl ?_
      refine Hd.skip ?_
      refine Hd.toK hK16 ?_
      refine Hd.cutK (ι := Unit) [(0, _), (5, _), (7, _), (11, _), (12, _)] (fun _ => []) (fun _ => pt b5 (opC k wh wa w.length wc nn f mm) 36 :: L) ?_ ?_ ⟨rfl, rfl, rfl, rfl, rfl, trivial⟩
      ·
        refine Hd.seq (fun K18 hK18 => ?_)
        rw [hfl] at hr
        refine Hd.drawsH (pt b5 (opC k wh wa w.length wc nn f mm) 36 :: L) (fun _ => true) mixed ?_
        simp only [List.length, Nat.zero_add, Nat.reduceAdd]
        refine Hd.takeH 0 rfl (by kernel_rfl) (by kernel_rfl) (by kernel_rfl) (by kernel_rfl) (y_move rfl) (fun _ _ => rfl) (Ent.sep enn) ?_
        refine Hd.takeH 1 rfl (by kernel_rfl) (by kernel_rfl) (by kernel_rfl) (by kernel_rfl) (y_move rfl) (fun _ _ => rfl) (Ent.sep enn) ?_
        refine Hd.part (gd := 85) rfl (fun hg15_85 => ?_) (fun hg15_85 => ?_)
        ·
          try simp only [decide_eq_true_eq, decide_eq_false_iff_not, Bool.and_eq_true, Bool.or_eq_true, Bool.and_eq_false_iff, Bool.or_eq_false_iff, Bool.not_eq_true', Bool.not_eq_false', Bool.not_eq_true, Bool.not_eq_false, Int.not_lt, Int.not_le, Decidable.not_not, ne_eq] at hg15_85
          obtain ⟨a, hra⟩ := Option.isSome_iff_exists.1 hg15_85
          have hrs := hr
          rw [hra] at hrs
          have hga : r.getD 0 = a := by rw [hra]; rfl
          refine Hd.takegH 2 rfl (by kernel_rfl) (by kernel_rfl) (by kernel_rfl) (by kernel_rfl) rfl rfl (y_move rfl) (fun _ _ => rfl) (Ent.sep enn) ?_
          first | (refine Hd.takegH 3 rfl (by kernel_rfl) (by kernel_rfl) (by kernel_rfl) (by kernel_rfl) rfl rfl (y_field' (q := 4) (ft := 3) Try.underlying36 rfl sz3 rfl rfl) (fun _ _ => rfl) (Ent.sep enn) ?_) | (refine Hd.takegH 3 rfl (by kernel_rfl) (by kernel_rfl) (by kernel_rfl) (by kernel_rfl) rfl rfl (y_fieldR (q := 4) (ft := 3) Try.underlying36 rfl sz3 rfl rfl) (fun _ _ => rfl) (Ent.sep enn) ?_)
          first | (refine Hd.takegH 4 rfl (by kernel_rfl) (by kernel_rfl) (by kernel_rfl) (by kernel_rfl) rfl rfl (y_load1 ag3 rfl (Rd.pt1 pkk (by (first | exact hdr_at hi | rfl)))) (fun _ _ => rfl) (Ent.sep enn) ?_) | (refine Hd.takegH 4 rfl (by kernel_rfl) (by kernel_rfl) (by kernel_rfl) (by kernel_rfl) rfl rfl (y_load1 ag3 rfl (Rd.seg1 pkk (by (first | exact hdr_at hi | rfl)))) (fun _ _ => rfl) (Ent.sep enn) ?_) | (refine Hd.takegH 4 rfl (by kernel_rfl) (by kernel_rfl) (by kernel_rfl) (by kernel_rfl) rfl rfl (y_loadR1 ag3 rfl (by (first | exact RdS.own pkk | exact RdS.mono hW (Ent.sep enn) | exact RdS.mono (rd_part hD (Nat.le_add_right a w.length) hb1 (Nat.le_trans hb1 hmc)) (Ent.sep enn))) (by (first | exact hdr_at hi | rfl))) (fun _ _ => rfl) (Ent.sep enn) ?_)
          refine Hd.takegH 5 rfl (by kernel_rfl) (by kernel_rfl) (by kernel_rfl) (by kernel_rfl) rfl rfl (y_to (y_lss rfl rfl) (congrArg Value.bool (decide_eq_false ((by rw [hga]; have := hrs.2.1; omega))))) (fun _ _ => rfl) (Ent.sep enn) ?_
          refine Hd.takegH 6 rfl (by kernel_rfl) (by kernel_rfl) (by kernel_rfl) (by kernel_rfl) rfl rfl (y_move rfl) (fun _ _ => rfl) (Ent.sep enn) ?_
          refine Hd.takegH 7 rfl (by kernel_rfl) (by kernel_rfl) (by kernel_rfl) (by kernel_rfl) rfl rfl (y_move rfl) (fun _ _ => rfl) (Ent.sep enn) ?_
          first | (refine Hd.takegH 8 rfl (by kernel_rfl) (by kernel_rfl) (by kernel_rfl) (by kernel_rfl) rfl rfl (y_field' (q := 2) (ft := 22) Try.underlying36 rfl sz22 rfl rfl) (fun _ _ => rfl) (Ent.sep enn) ?_) | (refine Hd.takegH 8 rfl (by kernel_rfl) (by kernel_rfl) (by kernel_rfl) (by kernel_rfl) rfl rfl (y_fieldR (q := 2) (ft := 22) Try.underlying36 rfl sz22 rfl rfl) (fun _ _ => rfl) (Ent.sep enn) ?_)
          first | (refine Hd.takegH 9 rfl (by kernel_rfl) (by kernel_rfl) (by kernel_rfl) (by kernel_rfl) rfl rfl (y_load1 ag22 rfl (Rd.pt1 pkk (by (first | exact hdr_at hi | rfl)))) (fun _ _ => rfl) (Ent.sep enn) ?_) | (refine Hd.takegH 9 rfl (by kernel_rfl) (by kernel_rfl) (by kernel_rfl) (by kernel_rfl) rfl rfl (y_load1 ag22 rfl (Rd.seg1 pkk (by (first | exact hdr_at hi | rfl)))) (fun _ _ => rfl) (Ent.sep enn) ?_) | (refine Hd.takegH 9 rfl (by kernel_rfl) (by kernel_rfl) (by kernel_rfl) (by kernel_rfl) rfl rfl (y_loadR1 ag22 rfl (by (first | exact RdS.own pkk | exact RdS.mono hW (Ent.sep enn) | exact RdS.mono (rd_part hD (Nat.le_add_right a w.length) hb1 (Nat.le_trans hb1 hmc)) (Ent.sep enn))) (by (first | exact hdr_at hi | rfl))) (fun _ _ => rfl) (Ent.sep enn) ?_)
          refine Hd.takegH 10 rfl (by kernel_rfl) (by kernel_rfl) (by kernel_rfl) (by kernel_rfl) rfl rfl (y_len Try.underlying22 rfl) (fun _ _ => rfl) (Ent.sep enn) ?_
          first | (refine Hd.takegH 13 rfl (by kernel_rfl) (by kernel_rfl) (by kernel_rfl) (by kernel_rfl) rfl rfl (y_field' (q := 2) (ft := 22) Try.underlying36 rfl sz22 rfl rfl) (fun _ _ => rfl) (Ent.sep enn) ?_) | (refine Hd.takegH 13 rfl (by kernel_rfl) (by kernel_rfl) (by kernel_rfl) (by kernel_rfl) rfl rfl (y_fieldR (q := 2) (ft := 22) Try.underlying36 rfl sz22 rfl rfl) (fun _ _ => rfl) (Ent.sep enn) ?_)
          first | (refine Hd.takegH 14 rfl (by kernel_rfl) (by kernel_rfl) (by kernel_rfl) (by kernel_rfl) rfl rfl (y_load1 ag22 rfl (Rd.pt1 pkk (by (first | exact hdr_at hi | rfl)))) (fun _ _ => rfl) (Ent.sep enn) ?_) | (refine Hd.takegH 14 rfl (by kernel_rfl) (by kernel_rfl) (by kernel_rfl) (by kernel_rfl) rfl rfl (y_load1 ag22 rfl (Rd.seg1 pkk (by (first | exact hdr_at hi | rfl)))) (fun _ _ => rfl) (Ent.sep enn) ?_) | (refine Hd.takegH 14 rfl (by kernel_rfl) (by kernel_rfl) (by kernel_rfl) (by kernel_rfl) rfl rfl (y_loadR1 ag22 rfl (by (first | exact RdS.own pkk | exact RdS.mono hW (Ent.sep enn) | exact RdS.mono (rd_part hD (Nat.le_add_right a w.length) hb1 (Nat.le_trans hb1 hmc)) (Ent.sep enn))) (by (first | exact hdr_at hi | rfl))) (fun _ _ => rfl) (Ent.sep enn) ?_)
          refine Hd.takegH 15 rfl (by kernel_rfl) (by kernel_rfl) (by kernel_rfl) (by kernel_rfl) rfl rfl (y_strOf (l := _) (by kernel_rfl) Try.underlying9 rfl (by (first | exact RdS.own pkk | exact RdS.mono hW (Ent.sep enn) | exact RdS.mono (rd_part hD (Nat.le_add_right a w.length) hb1 (Nat.le_trans hb1 hmc)) (Ent.sep enn)))) (fun _ _ => rfl) (Ent.sep enn) ?_
          refine Hd.onlyH 11 rfl (by kernel_rfl) ?_
          refine Hd.unguard rfl rfl ?_
          refine Hd.callE rfl fk22 (copy_ct (pt b5 (opC k wh wa w.length wc nn f mm) 36 :: L) b8 0 rs3 h3.1 _ (w.length : Int) (by rw [hga]; have := hrs.2.2.1; simp only [InK]; omega) (by simp only [InK]; omega)) (Ent.sep enn) ?_
          rintro ⟨a95, c95⟩
          dsimp only
          refine Hd.nil ?_
          refine Hd.thenN ?_
          refine Hd.heldK (J := (fun _ => true)) (i := 11) (Ent.sep enn) ?_
          refine Hd.onlyH 12 rfl (by kernel_rfl) ?_
          refine Hd.yg rfl rfl (y_strOf (l := _) (by kernel_rfl) Try.underlying9 rfl (by (first | exact RdS.own pkk | exact RdS.mono hW (Ent.sep enn) | exact RdS.mono (rd_part hD (Nat.le_add_right a w.length) hb1 (Nat.le_trans hb1 hmc)) (Ent.sep enn)))) ?_
          refine Hd.nil ?_
          refine Hd.thenN ?_
          refine Hd.heldK (J := (fun _ => true)) (i := 12) (Ent.sep enn) ?_
          refine Hd.takegH 16 rfl (by kernel_rfl) (by kernel_rfl) (by kernel_rfl) (by kernel_rfl) rfl rfl (y_to (y_neqstr rfl rfl) (congrArg Value.bool (decide_eq_false ((fun h => h (by rw [hga, h3.2.1, hfl]; unfold cpy; rw [if_neg (by omega), Int.toNat_natCast, Int.toNat_natCast]; exact hrs.2.2.2.1)))))) (fun _ _ => rfl) (Ent.sep enn) ?_
          first | (refine Hd.takegH 17 rfl (by kernel_rfl) (by kernel_rfl) (by kernel_rfl) (by kernel_rfl) rfl rfl (y_pickT rfl rfl) (fun _ _ => rfl) (Ent.sep enn) ?_) | (refine Hd.takegH 17 rfl (by kernel_rfl) (by kernel_rfl) (by kernel_rfl) (by kernel_rfl) rfl rfl (y_pickF rfl rfl) (fun _ _ => rfl) (Ent.sep enn) ?_) | (refine Hd.takegH 17 rfl (by kernel_rfl) (by kernel_rfl) (by kernel_rfl) (by kernel_rfl) rfl rfl (y_pickb rfl rfl rfl) (fun _ _ => rfl) (Ent.sep enn) ?_) | (refine Hd.takegH 17 rfl (by kernel_rfl) (by kernel_rfl) (by kernel_rfl) (by kernel_rfl) rfl rfl (y_pick rfl rfl rfl) (fun _ _ => rfl) (Ent.sep enn) ?_)
          first | (refine Hd.takeH 18 rfl (by kernel_rfl) (by kernel_rfl) (by kernel_rfl) (by kernel_rfl) (y_pickT rfl rfl) (fun _ _ => rfl) (Ent.sep enn) ?_) | (refine Hd.takeH 18 rfl (by kernel_rfl) (by kernel_rfl) (by kernel_rfl) (by kernel_rfl) (y_pickF rfl rfl) (fun _ _ => rfl) (Ent.sep enn) ?_) | (refine Hd.takeH 18 rfl (by kernel_rfl) (by kernel_rfl) (by kernel_rfl) (by kernel_rfl) (y_pickb rfl rfl rfl) (fun _ _ => rfl) (Ent.sep enn) ?_) | (refine Hd.takeH 18 rfl (by kernel_rfl) (by kernel_rfl) (by kernel_rfl) (by kernel_rfl) (y_pick rfl rfl rfl) (fun _ _ => rfl) (Ent.sep enn) ?_)
          refine Hd.endH (by kernel_rfl) ?_
          refine Hd.slots [(0, _), (5, _), (7, _), (11, _), (12, _), (102, _)] ⟨rfl, rfl, rfl, rfl, rfl, rfl, trivial⟩ ?_
          refine Hd.toK hK18 ?_
          refine Hd.condF rfl ?_
          refine Hd.skip ?_
          clear hK1 hK2 hK3 hK4 hK6 hK7 hK8 hK9 hK10 hK13 hK14 hK15 hK16 hK17 hK18
          refine Hd.thenN ?_
          exact Hd.meet () (by repeat (first | exact trivial | refine ⟨rfl, ?_⟩)) (Ent.sep enn)
        ·
          try simp only [decide_eq_true_eq, decide_eq_false_iff_not, Bool.and_eq_true, Bool.or_eq_true, Bool.and_eq_false_iff, Bool.or_eq_false_iff, Bool.not_eq_true', Bool.not_eq_false', Bool.not_eq_true, Bool.not_eq_false, Int.not_lt, Int.not_le, Decidable.not_not, ne_eq] at hg15_85
          refine Hd.takenH 2 rfl (by kernel_rfl) (by kernel_rfl) (by kernel_rfl) (by kernel_rfl) rfl rfl rfl (fun _ _ => rfl) (Ent.sep enn) ?_
          refine Hd.takenH 3 rfl (by kernel_rfl) (by kernel_rfl) (by kernel_rfl) (by kernel_rfl) rfl rfl rfl (fun _ _ => rfl) (Ent.sep enn) ?_
          refine Hd.takenH 4 rfl (by kernel_rfl) (by kernel_rfl) (by kernel_rfl) (by kernel_rfl) rfl rfl rfl (fun _ _ => rfl) (Ent.sep enn) ?_
          refine Hd.takenH 5 rfl (by kernel_rfl) (by kernel_rfl) (by kernel_rfl) (by kernel_rfl) rfl rfl rfl (fun _ _ => rfl) (Ent.sep enn) ?_
          refine Hd.takenH 6 rfl (by kernel_rfl) (by kernel_rfl) (by kernel_rfl) (by kernel_rfl) rfl rfl rfl (fun _ _ => rfl) (Ent.sep enn) ?_
          refine Hd.takenH 7 rfl (by kernel_rfl) (by kernel_rfl) (by kernel_rfl) (by kernel_rfl) rfl rfl rfl (fun _ _ => rfl) (Ent.sep enn) ?_
          refine Hd.takenH 8 rfl (by kernel_rfl) (by kernel_rfl) (by kernel_rfl) (by kernel_rfl) rfl rfl rfl (fun _ _ => rfl) (Ent.sep enn) ?_
          refine Hd.takenH 9 rfl (by kernel_rfl) (by kernel_rfl) (by kernel_rfl) (by kernel_rfl) rfl rfl rfl (fun _ _ => rfl) (Ent.sep enn) ?_
          refine Hd.takenH 10 rfl (by kernel_rfl) (by kernel_rfl) (by kernel_rfl) (by kernel_rfl) rfl rfl rfl (fun _ _ => rfl) (Ent.sep enn) ?_
          refine Hd.takenH 13 rfl (by kernel_rfl) (by kernel_rfl) (by kernel_rfl) (by kernel_rfl) rfl rfl rfl (fun _ _ => rfl) (Ent.sep enn) ?_
          refine Hd.takenH 14 rfl (by kernel_rfl) (by kernel_rfl) (by kernel_rfl) (by kernel_rfl) rfl rfl rfl (fun _ _ => rfl) (Ent.sep enn) ?_
          refine Hd.takenH 15 rfl (by kernel_rfl) (by kernel_rfl) (by kernel_rfl) (by kernel_rfl) rfl rfl rfl (fun _ _ => rfl) (Ent.sep enn) ?_
          refine Hd.onlyH 11 rfl (by kernel_rfl) ?_
          refine Hd.ng rfl rfl rfl ?_
          refine Hd.nil ?_
          refine Hd.thenN ?_
          refine Hd.heldK (J := (fun _ => true)) (i := 11) (Ent.sep enn) ?_
          refine Hd.onlyH 12 rfl (by kernel_rfl) ?_
          refine Hd.ng rfl rfl rfl ?_
          refine Hd.nil ?_
          refine Hd.thenN ?_
          refine Hd.heldK (J := (fun _ => true)) (i := 12) (Ent.sep enn) ?_
          refine Hd.takenH 16 rfl (by kernel_rfl) (by kernel_rfl) (by kernel_rfl) (by kernel_rfl) rfl rfl rfl (fun _ _ => rfl) (Ent.sep enn) ?_
          refine Hd.takenH 17 rfl (by kernel_rfl) (by kernel_rfl) (by kernel_rfl) (by kernel_rfl) rfl rfl rfl (fun _ _ => rfl) (Ent.sep enn) ?_
          first | (refine Hd.takeH 18 rfl (by kernel_rfl) (by kernel_rfl) (by kernel_rfl) (by kernel_rfl) (y_pickT rfl rfl) (fun _ _ => rfl) (Ent.sep enn) ?_) | (refine Hd.takeH 18 rfl (by kernel_rfl) (by kernel_rfl) (by kernel_rfl) (by kernel_rfl) (y_pickF rfl rfl) (fun _ _ => rfl) (Ent.sep enn) ?_) | (refine Hd.takeH 18 rfl (by kernel_rfl) (by kernel_rfl) (by kernel_rfl) (by kernel_rfl) (y_pickb rfl rfl rfl) (fun _ _ => rfl) (Ent.sep enn) ?_) | (refine Hd.takeH 18 rfl (by kernel_rfl) (by kernel_rfl) (by kernel_rfl) (by kernel_rfl) (y_pick rfl rfl rfl) (fun _ _ => rfl) (Ent.sep enn) ?_)
          refine Hd.endH (by kernel_rfl) ?_
          refine Hd.slots [(0, _), (5, _), (7, _), (11, _), (12, _), (102, _)] ⟨rfl, rfl, rfl, rfl, rfl, rfl, trivial⟩ ?_
          refine Hd.toK hK18 ?_
          refine Hd.condF rfl ?_
          refine Hd.skip ?_
          clear hK1 hK2 hK3 hK4 hK6 hK7 hK8 hK9 hK10 hK13 hK14 hK15 hK16 hK17 hK18
          refine Hd.thenN ?_
          exact Hd.meet () (by repeat (first | exact trivial | refine ⟨rfl, ?_⟩)) (Ent.sep enn)
      ·
        intro _
        refine Hd.seq (fun K19 hK19 => ?_)
        refine Hd.region ?_
        refine Hd.yv (y_move rfl) ?_
        refine Hd.yv (y_len Try.underlying22 rfl) ?_
        first | (refine Hd.yv (y_field' (q := 2) (ft := 22) Try.underlying36 rfl sz22 rfl rfl) ?_) | (refine Hd.yv (y_fieldR (q := 2) (ft := 22) Try.underlying36 rfl sz22 rfl rfl) ?_)
        first | (refine Hd.yv (y_load1 ag22 rfl (Rd.pt1 pkk (by (first | exact hdr_at hi | rfl)))) ?_) | (refine Hd.yv (y_load1 ag22 rfl (Rd.seg1 pkk (by (first | exact hdr_at hi | rfl)))) ?_) | (refine Hd.yv (y_loadR1 ag22 rfl (by (first | exact RdS.own pkk | exact RdS.mono hW (Ent.sep enn) | exact RdS.mono (rd_part hD (Nat.le_add_right a w.length) hb1 (Nat.le_trans hb1 hmc)) (Ent.sep enn))) (by (first | exact hdr_at hi | rfl))) ?_)
        refine Hd.yv (y_len Try.underlying22 rfl) ?_
        first | (refine Hd.yv (y_subn rfl rfl (by simp only [InK]; omega)) ?_) | (refine Hd.yv (y_sub rfl rfl) ?_)
        refine Hd.yv (y_assign rfl) ?_
        refine Hd.nil ?_
        refine Hd.slots [(0, _), (5, _), (7, _), (11, _), (12, _), (17, _)] ⟨rfl, rfl, rfl, rfl, rfl, rfl, trivial⟩ ?_
        refine Hd.toK hK19 ?_
        refine Hd.cutK (ι := Int) [(0, _), (5, _), (7, _)] (fun e => [(17, .int .i64 e)]) (fun e => pu (EndI l w f e) :: pt b5 (opC k wh wa w.length wc nn f mm) 36 :: L) ?_ ?_ ⟨rfl, rfl, rfl, trivial⟩
        ·
          refine Hd.seq (fun K20 hK20 => ?_)
          refine Hd.region ?_
          refine Hd.yv (y_move rfl) ?_
          refine Hd.nil ?_
          refine Hd.slots [(0, _), (5, _), (7, _), (11, _), (17, _), (109, _)] ⟨rfl, rfl, rfl, rfl, rfl, rfl, trivial⟩ ?_
          refine Hd.toK hK20 ?_
          refine Hd.cond rfl (fun hc4 => ?_) (fun hc4 => ?_)
          ·
            try simp only [decide_eq_true_eq, decide_eq_false_iff_not, Bool.and_eq_true, Bool.or_eq_true, Bool.and_eq_false_iff, Bool.or_eq_false_iff, Bool.not_eq_true', Bool.not_eq_false', Bool.not_eq_true, Bool.not_eq_false, Int.not_lt, Int.not_le, Decidable.not_not, ne_eq] at hc4
            obtain ⟨a, hra⟩ := Option.isSome_iff_exists.1 hc4
            rw [hfl, hra] at hr
            have hga : r.getD 0 = a := by rw [hra]; rfl
            have hb0 := hr.2.2.1
            refine Hd.region ?_
            refine Hd.yv (y_move rfl) ?_
            first | (refine Hd.yv (y_subn rfl rfl (by simp only [InK]; omega)) ?_) | (refine Hd.yv (y_sub rfl rfl) ?_)
            refine Hd.yv (y_assign rfl) ?_
            refine Hd.nil ?_
            refine Hd.slots [(0, _), (5, _), (7, _), (17, _)] ⟨rfl, rfl, rfl, rfl, trivial⟩ ?_
            clear hK1 hK2 hK3 hK4 hK6 hK7 hK8 hK9 hK10 hK13 hK14 hK15 hK16 hK17 hK19 hK20
            refine Hd.thenN ?_
            exact Hd.meet ((r.getD 0 : Nat) - 1 : Int) (by repeat (first | exact trivial | refine ⟨rfl, ?_⟩)) (Ent.sep (.pure (by rw [hga]; exact endI_some hr) enn))
          ·
            try simp only [decide_eq_true_eq, decide_eq_false_iff_not, Bool.and_eq_true, Bool.or_eq_true, Bool.and_eq_false_iff, Bool.or_eq_false_iff, Bool.not_eq_true', Bool.not_eq_false', Bool.not_eq_true, Bool.not_eq_false, Int.not_lt, Int.not_le, Decidable.not_not, ne_eq] at hc4
            have hrn : r = none := by cases r <;> simp_all
            rw [hfl, hrn] at hr
            refine Hd.skip ?_
            clear hK1 hK2 hK3 hK4 hK6 hK7 hK8 hK9 hK10 hK13 hK14 hK15 hK16 hK17 hK19 hK20
            refine Hd.thenN ?_
            exact Hd.meet ((m : Int) - (w.length : Int)) (by repeat (first | exact trivial | refine ⟨rfl, ?_⟩)) (Ent.sep (.pure (by rw [← hl]; exact endI_none hr) enn))
        ·
          intro e
          refine Hd.pure (fun he => ?_)
          refine Hd.seq (fun K21 hK21 => ?_)
          refine Hd.seq (fun K22 hK22 => ?_)
          refine Hd.region ?_
          first | (refine Hd.yv (y_field' (q := 4) (ft := 3) Try.underlying36 rfl sz3 rfl rfl) ?_) | (refine Hd.yv (y_fieldR (q := 4) (ft := 3) Try.underlying36 rfl sz3 rfl rfl) ?_)
          first | (refine Hd.yv (y_load1 ag3 rfl (Rd.pt1 pkk (by (first | exact hdr_at hi | rfl)))) ?_) | (refine Hd.yv (y_load1 ag3 rfl (Rd.seg1 pkk (by (first | exact hdr_at hi | rfl)))) ?_) | (refine Hd.yv (y_loadR1 ag3 rfl (by (first | exact RdS.own pkk | exact RdS.mono hW (Ent.sep enn) | exact RdS.mono (rd_part hD (Nat.le_add_right a w.length) hb1 (Nat.le_trans hb1 hmc)) (Ent.sep enn))) (by (first | exact hdr_at hi | rfl))) ?_)
          refine Hd.yv (y_max rfl rfl) ?_
          refine Hd.yv (y_assign rfl) ?_
          refine Hd.nil ?_
          refine Hd.slots [(0, _), (5, _), (7, _), (17, _), (18, _)] ⟨rfl, rfl, rfl, rfl, rfl, trivial⟩ ?_
          refine Hd.toK hK22 ?_
          refine Hd.block ?_
          refine Hd.name (b := (((max 0 f).toNat : Nat) : Int)) 18 rfl (by omega) ?_
          refine Hd.loopK (ι := Nat) [(0, _), (5, _), (7, _), (17, _)] (fun a => [(18, .int .i64 (a : Int))]) (fun a => pu (f ≤ (a : Int)) :: pt b5 (opC k wh wa w.length wc nn f mm) 36 :: L) (fun a => m + 1 - a) ((max 0 f).toNat) (by repeat (first | exact trivial | refine ⟨rfl, ?_⟩)) (by repeat (first | exact trivial | refine ⟨rfl, ?_⟩)) (Ent.sep (.pure (by first | omega | (simp; done) | (simp; omega) | exact ⟨by simp, by simp⟩) enn)) ?_
          intro a
          try dsimp only
          refine Hd.pure (fun hp1 => ?_)
          try dsimp only at hp1
          refine Hd.seq (fun K23 hK23 => ?_)
          refine Hd.seq (fun K24 hK24 => ?_)
          refine Hd.region ?_
          refine Hd.yv (y_move rfl) ?_
          refine Hd.yv (y_move rfl) ?_
          refine Hd.yv (y_leq rfl rfl) ?_
          refine Hd.nil ?_
          refine Hd.slots [(0, _), (5, _), (7, _), (17, _), (18, _), (117, _)] ⟨rfl, rfl, rfl, rfl, rfl, rfl, trivial⟩ ?_
          refine Hd.toK hK24 ?_
          refine Hd.cond rfl (fun hc5 => ?_) (fun hc5 => ?_)
          ·
            try simp only [decide_eq_true_eq, decide_eq_false_iff_not, Bool.and_eq_true, Bool.or_eq_true, Bool.and_eq_false_iff, Bool.or_eq_false_iff, Bool.not_eq_true', Bool.not_eq_false', Bool.not_eq_true, Bool.not_eq_false, Int.not_lt, Int.not_le, Decidable.not_not, ne_eq] at hc5
            obtain ⟨hb1, hb2⟩ := he a hc5 hp1
            rw [hl] at hb1
            refine Hd.skip ?_
            refine Hd.toK hK23 ?_
            refine Hd.seq (fun K25 hK25 => ?_)
            refine Hd.block ?_
            refine Hd.seq (fun K26 hK26 => ?_)
            refine Hd.drawsH (pt b5 (opC k wh wa w.length wc nn f mm) 36 :: L) (fun _ => true) mixed ?_
            simp only [List.length, Nat.zero_add, Nat.reduceAdd]
            refine Hd.takeH 0 rfl (by kernel_rfl) (by kernel_rfl) (by kernel_rfl) (by kernel_rfl) (y_move rfl) (fun _ _ => rfl) (Ent.sep enn) ?_
            refine Hd.takeH 1 rfl (by kernel_rfl) (by kernel_rfl) (by kernel_rfl) (by kernel_rfl) (y_move rfl) (fun _ _ => rfl) (Ent.sep enn) ?_
            refine Hd.takeH 2 rfl (by kernel_rfl) (by kernel_rfl) (by kernel_rfl) (by kernel_rfl) (y_move rfl) (fun _ _ => rfl) (Ent.sep enn) ?_
            first | (refine Hd.takeH 3 rfl (by kernel_rfl) (by kernel_rfl) (by kernel_rfl) (by kernel_rfl) (y_field' (q := 2) (ft := 22) Try.underlying36 rfl sz22 rfl rfl) (fun _ _ => rfl) (Ent.sep enn) ?_) | (refine Hd.takeH 3 rfl (by kernel_rfl) (by kernel_rfl) (by kernel_rfl) (by kernel_rfl) (y_fieldR (q := 2) (ft := 22) Try.underlying36 rfl sz22 rfl rfl) (fun _ _ => rfl) (Ent.sep enn) ?_)
            first | (refine Hd.takeH 4 rfl (by kernel_rfl) (by kernel_rfl) (by kernel_rfl) (by kernel_rfl) (y_load1 ag22 rfl (Rd.pt1 pkk (by (first | exact hdr_at hi | rfl)))) (fun _ _ => rfl) (Ent.sep enn) ?_) | (refine Hd.takeH 4 rfl (by kernel_rfl) (by kernel_rfl) (by kernel_rfl) (by kernel_rfl) (y_load1 ag22 rfl (Rd.seg1 pkk (by (first | exact hdr_at hi | rfl)))) (fun _ _ => rfl) (Ent.sep enn) ?_) | (refine Hd.takeH 4 rfl (by kernel_rfl) (by kernel_rfl) (by kernel_rfl) (by kernel_rfl) (y_loadR1 ag22 rfl (by (first | exact RdS.own pkk | exact RdS.mono hW (Ent.sep enn) | exact RdS.mono (rd_part hD (Nat.le_add_right a w.length) hb1 (Nat.le_trans hb1 hmc)) (Ent.sep enn))) (by (first | exact hdr_at hi | rfl))) (fun _ _ => rfl) (Ent.sep enn) ?_)
            refine Hd.takeH 5 rfl (by kernel_rfl) (by kernel_rfl) (by kernel_rfl) (by kernel_rfl) (y_len Try.underlying22 rfl) (fun _ _ => rfl) (Ent.sep enn) ?_
            first | (refine Hd.takeH 6 rfl (by kernel_rfl) (by kernel_rfl) (by kernel_rfl) (by kernel_rfl) (y_addn rfl rfl (by simp only [InK]; omega)) (fun _ _ => rfl) (Ent.sep enn) ?_) | (refine Hd.takeH 6 rfl (by kernel_rfl) (by kernel_rfl) (by kernel_rfl) (by kernel_rfl) (y_add rfl rfl) (fun _ _ => rfl) (Ent.sep enn) ?_)
            refine Hd.name (b := ((a + w.length : Nat) : Int)) 126 rfl (by omega) ?_
            first | (refine Hd.takeH 7 rfl (by kernel_rfl) (by kernel_rfl) (by kernel_rfl) (by kernel_rfl) (y_slo_ooxN Try.underlying22 sz5 rfl rfl rfl (by first | omega | (simp; done) | decide) (by first | omega | (simp; done) | decide)) (fun _ _ => rfl) (Ent.sep enn) ?_) | (refine Hd.takeH 7 rfl (by kernel_rfl) (by kernel_rfl) (by kernel_rfl) (by kernel_rfl) (y_slo_oox Try.underlying22 sz5 rfl rfl rfl (by first | omega | (simp; done) | decide) (by first | omega | (simp; done) | decide) (by first | omega | (simp; done) | decide)) (fun _ _ => rfl) (Ent.sep enn) ?_)
            refine Hd.takeH 8 rfl (by kernel_rfl) (by kernel_rfl) (by kernel_rfl) (by kernel_rfl) (y_strOf (l := _) (by kernel_rfl) Try.underlying9 rfl (by (first | exact RdS.own pkk | exact RdS.mono hW (Ent.sep enn) | exact RdS.mono (rd_part hD (Nat.le_add_right a w.length) hb1 (Nat.le_trans hb1 hmc)) (Ent.sep enn)))) (fun _ _ => rfl) (Ent.sep enn) ?_
            first | (refine Hd.takeH 9 rfl (by kernel_rfl) (by kernel_rfl) (by kernel_rfl) (by kernel_rfl) (y_field' (q := 2) (ft := 22) Try.underlying36 rfl sz22 rfl rfl) (fun _ _ => rfl) (Ent.sep enn) ?_) | (refine Hd.takeH 9 rfl (by kernel_rfl) (by kernel_rfl) (by kernel_rfl) (by kernel_rfl) (y_fieldR (q := 2) (ft := 22) Try.underlying36 rfl sz22 rfl rfl) (fun _ _ => rfl) (Ent.sep enn) ?_)
            first | (refine Hd.takeH 10 rfl (by kernel_rfl) (by kernel_rfl) (by kernel_rfl) (by kernel_rfl) (y_load1 ag22 rfl (Rd.pt1 pkk (by (first | exact hdr_at hi | rfl)))) (fun _ _ => rfl) (Ent.sep enn) ?_) | (refine Hd.takeH 10 rfl (by kernel_rfl) (by kernel_rfl) (by kernel_rfl) (by kernel_rfl) (y_load1 ag22 rfl (Rd.seg1 pkk (by (first | exact hdr_at hi | rfl)))) (fun _ _ => rfl) (Ent.sep enn) ?_) | (refine Hd.takeH 10 rfl (by kernel_rfl) (by kernel_rfl) (by kernel_rfl) (by kernel_rfl) (y_loadR1 ag22 rfl (by (first | exact RdS.own pkk | exact RdS.mono hW (Ent.sep enn) | exact RdS.mono (rd_part hD (Nat.le_add_right a w.length) hb1 (Nat.le_trans hb1 hmc)) (Ent.sep enn))) (by (first | exact hdr_at hi | rfl))) (fun _ _ => rfl) (Ent.sep enn) ?_)
            refine Hd.takeH 11 rfl (by kernel_rfl) (by kernel_rfl) (by kernel_rfl) (by kernel_rfl) (y_strOf (l := _) (by kernel_rfl) Try.underlying9 rfl (by (first | exact RdS.own pkk | exact RdS.mono hW (Ent.sep enn) | exact RdS.mono (rd_part hD (Nat.le_add_right a w.length) hb1 (Nat.le_trans hb1 hmc)) (Ent.sep enn)))) (fun _ _ => rfl) (Ent.sep enn) ?_
            refine Hd.takeH 12 rfl (by kernel_rfl) (by kernel_rfl) (by kernel_rfl) (by kernel_rfl) (y_eqlstr rfl rfl) (fun _ _ => rfl) (Ent.sep enn) ?_
            refine Hd.endH (by kernel_rfl) ?_
            refine Hd.slots [(0, _), (5, _), (7, _), (17, _), (18, _), (132, _)] ⟨rfl, rfl, rfl, rfl, rfl, rfl, trivial⟩ ?_
            refine Hd.toK hK26 ?_
            refine Hd.cond rfl (fun hc6 => ?_) (fun hc6 => ?_)
            ·
              try simp only [decide_eq_true_eq, decide_eq_false_iff_not, Bool.and_eq_true, Bool.or_eq_true, Bool.and_eq_false_iff, Bool.or_eq_false_iff, Bool.not_eq_true', Bool.not_eq_false', Bool.not_eq_true, Bool.not_eq_false, Int.not_lt, Int.not_le, Decidable.not_not, ne_eq] at hc6
              have hfn : f < 0 := hb2 (by have h := hc6; rw [Nat.add_sub_cancel_left] at h; exact h)
              refine Hd.seq (fun K27 hK27 => ?_)
              refine Hd.region ?_
              first | (refine Hd.yv (y_field' (q := 4) (ft := 3) Try.underlying36 rfl sz3 rfl rfl) ?_) | (refine Hd.yv (y_fieldR (q := 4) (ft := 3) Try.underlying36 rfl sz3 rfl rfl) ?_)
              first | (refine Hd.yv (y_load1 ag3 rfl (Rd.pt1 pkk (by (first | exact hdr_at hi | rfl)))) ?_) | (refine Hd.yv (y_load1 ag3 rfl (Rd.seg1 pkk (by (first | exact hdr_at hi | rfl)))) ?_) | (refine Hd.yv (y_loadR1 ag3 rfl (by (first | exact RdS.own pkk | exact RdS.mono hW (Ent.sep enn) | exact RdS.mono (rd_part hD (Nat.le_add_right a w.length) hb1 (Nat.le_trans hb1 hmc)) (Ent.sep enn))) (by (first | exact hdr_at hi | rfl))) ?_)
              refine Hd.yv (y_lss rfl rfl) ?_
              refine Hd.yv (y_assign rfl) ?_
              refine Hd.nil ?_
              refine Hd.slots [(6, _)] ⟨rfl, trivial⟩ ?_
              refine Hd.toK hK27 ?_
              refine Hd.ret ?_
              refine Hd.inBret ?_
              refine Hd.thenRet ?_
              refine Hd.thenRet ?_
              refine Hd.inBret ?_
              refine Hd.thenRet ?_
              clear hK1 hK2 hK3 hK4 hK6 hK7 hK8 hK9 hK10 hK13 hK14 hK15 hK16 hK17 hK19 hK21 hK22 hK23 hK24 hK25 hK26 hK27
              exact Hd.ret1 rfl () (by show some (Value.bool (decide (f < 0))) = _; rw [decide_eq_true hfn]) (Ent.sep enn)
            ·
              try simp only [decide_eq_true_eq, decide_eq_false_iff_not, Bool.and_eq_true, Bool.or_eq_true, Bool.and_eq_false_iff, Bool.or_eq_false_iff, Bool.not_eq_true', Bool.not_eq_false', Bool.not_eq_true, Bool.not_eq_false, Int.not_lt, Int.not_le, Decidable.not_not, ne_eq] at hc6
              refine Hd.skip ?_
              refine Hd.inB ?_
              refine Hd.toK hK25 ?_
              refine Hd.region ?_
              refine Hd.yv (y_move rfl) ?_
              first | (refine Hd.yv (y_addn rfl rfl (by simp only [InK]; omega)) ?_) | (refine Hd.yv (y_add rfl rfl) ?_)
              refine Hd.yv (y_assign rfl) ?_
              refine Hd.nil ?_
              refine Hd.slots [(0, _), (5, _), (7, _), (17, _), (18, _)] ⟨rfl, rfl, rfl, rfl, rfl, trivial⟩ ?_
              clear hK1 hK2 hK3 hK4 hK6 hK7 hK8 hK9 hK10 hK13 hK14 hK15 hK16 hK17 hK19 hK21 hK22 hK23 hK24 hK25 hK26
              refine Hd.thenN ?_
              exact Hd.again (a + 1) (by first | omega | (simp only; omega) | (simp; omega)) (by repeat (first | exact trivial | refine ⟨rfl, ?_⟩)) (Ent.sep (.pure (by first | omega | (simp; done) | (simp; omega) | (dsimp only; omega)) enn))
          ·
            try simp only [decide_eq_true_eq, decide_eq_false_iff_not, Bool.and_eq_true, Bool.or_eq_true, Bool.and_eq_false_iff, Bool.or_eq_false_iff, Bool.not_eq_true', Bool.not_eq_false', Bool.not_eq_true, Bool.not_eq_false, Int.not_lt, Int.not_le, Decidable.not_not, ne_eq] at hc5
            refine Hd.exit ?_
            refine Hd.thenExit ?_
            refine Hd.thenExit ?_
            refine Hd.inBexit ?_
            refine Hd.toK hK21 ?_
            refine Hd.seq (fun K28 hK28 => ?_)
            refine Hd.region ?_
            refine Hd.yv (y_move rfl) ?_
            refine Hd.yv (y_assign rfl) ?_
            refine Hd.nil ?_
            refine Hd.slots [(6, _)] ⟨rfl, trivial⟩ ?_
            refine Hd.toK hK28 ?_
            refine Hd.ret ?_
            clear hK1 hK2 hK3 hK4 hK6 hK7 hK8 hK9 hK10 hK13 hK14 hK15 hK16 hK17 hK19 hK21 hK22 hK23 hK24 hK28
            exact Hd.ret1 rfl () (by first | rfl | (simp only [*]; done) | (simp [*]; done)) (Ent.sep enn)
end Bc
end Go.Proofs.Ytgifpkpkkgkfeaa
