/-
  The law TimerCommon answers true.
-/
import Derived.Test.YtdjoofidicoimaaTi4
namespace Go.Proofs.Ytdjoofidicoimaa
set_option linter.unusedSimpArgs false
set_option linter.unusedVariables false
set_option linter.unnecessarySimpa false
open Go.RX Fx Hp Cm
namespace Tm
set_option maxRecDepth 8000
set_option maxHeartbeats 2000000 in
theorem tcom_ct (L : List SP) (ad : Option Addr) (c : Nat) (xs : List Opt) (hR : RdS L 5 ad xs.length (xs.flatMap encO)) (hO : ∀ o ∈ xs, OpOk o) (ad2 : Option Addr) (c2 : Nat) (ys : List Int) (hR2 : RdS L 1 ad2 ys.length (ys.map fun y => .int .u64 y)) : Ct Try.prog 7 #[.slice ad xs.length c, .slice ad2 ys.length c2] (L) (fun _ : Unit => .bool true) (fun _ : Unit => L) := by
  refine Ct.of (vs := [.slice ad xs.length c, .slice ad2 ys.length c2]) Try.func7 rfl rfl [(0, .slice ad xs.length c), (1, .slice ad2 ys.length c2)] (by repeat (first | exact trivial | refine ⟨rfl, ?_⟩)) ?_
  intro E
  show Hd E 202 _ _ _ _
  refine Hd.seq (fun K1 hK1 => ?_)
  refine Hd.region ?_
  refine Hd.yv (y_assign rfl) ?_
  refine Hd.nil ?_
  refine Hd.slots [(0, _), (1, _)] ⟨rfl, rfl, trivial⟩ ?_
  refine Hd.toK hK1 ?_
  refine Hd.seq (fun K2 hK2 => ?_)
  refine Hd.region ?_
  refine Hd.callE rfl fk9 (alive_ct _) (Ent.sep enn) ?_
  intro _
  refine Hd.yv (y_assign rfl) ?_
  refine Hd.nil ?_
  refine Hd.slots [(0, _), (1, _), (5, _)] ⟨rfl, rfl, rfl, trivial⟩ ?_
  refine Hd.toK hK2 ?_
  refine Hd.seq (fun K3 hK3 => ?_)
  refine Hd.seq (fun K4 hK4 => ?_)
  refine Hd.region ?_
  refine Hd.yv (y_move rfl) ?_
  refine Hd.yv (y_len Try.underlying39 rfl) ?_
  refine Hd.yv (y_gtr rfl rfl) ?_
  refine Hd.yv (y_move rfl) ?_
  apply Hd.org 4 24 28 [(0, _), (1, _), (5, _)] rfl ⟨rfl, rfl, rfl, trivial⟩
  · intro hg2_24
    try simp only [decide_eq_true_eq, decide_eq_false_iff_not, Bool.and_eq_true, Bool.or_eq_true, Bool.and_eq_false_iff, Bool.or_eq_false_iff, Bool.not_eq_true', Bool.not_eq_false', Bool.not_eq_true, Bool.not_eq_false, Int.not_lt, Int.not_le, Decidable.not_not, ne_eq] at hg2_24
    simp only [List.take]
    refine Hd.ng rfl rfl rfl ?_
    refine Hd.ng rfl rfl rfl ?_
    refine Hd.ng rfl rfl rfl ?_
    first | (refine Hd.yv (y_pickT rfl rfl) ?_) | (refine Hd.yv (y_pickF rfl rfl) ?_) | (refine Hd.yv (y_pickb rfl rfl rfl) ?_) | (refine Hd.yv (y_pick rfl rfl rfl) ?_)
    refine Hd.nil ?_
    exact Hd.mend (by repeat (first | exact trivial | refine ⟨rfl, ?_⟩)) (Ent.sep enn)
  · intro hg2_24
    try simp only [decide_eq_true_eq, decide_eq_false_iff_not, Bool.and_eq_true, Bool.or_eq_true, Bool.and_eq_false_iff, Bool.or_eq_false_iff, Bool.not_eq_true', Bool.not_eq_false', Bool.not_eq_true, Bool.not_eq_false, Int.not_lt, Int.not_le, Decidable.not_not, ne_eq] at hg2_24
    simp only [List.take]
    refine Hd.yg rfl rfl (y_move rfl) ?_
    refine Hd.yg rfl rfl (y_len Try.underlying49 rfl) ?_
    refine Hd.yg rfl rfl (y_gtr rfl rfl) ?_
    first | (refine Hd.yv (y_pickT rfl rfl) ?_) | (refine Hd.yv (y_pickF rfl rfl) ?_) | (refine Hd.yv (y_pickb rfl rfl rfl) ?_) | (refine Hd.yv (y_pick rfl rfl rfl) ?_)
    refine Hd.nil ?_
    exact Hd.mend (by repeat (first | exact trivial | refine ⟨rfl, ?_⟩)) (Ent.sep enn)
  simp only [List.drop]
  refine Hd.yv (y_move rfl) ?_
  apply Hd.org 3 29 32 [(0, _), (1, _), (5, _)] rfl ⟨rfl, rfl, rfl, trivial⟩
  · intro hg2_29
    try simp only [decide_eq_true_eq, decide_eq_false_iff_not, Bool.and_eq_true, Bool.or_eq_true, Bool.and_eq_false_iff, Bool.or_eq_false_iff, Bool.not_eq_true', Bool.not_eq_false', Bool.not_eq_true, Bool.not_eq_false, Int.not_lt, Int.not_le, Decidable.not_not, ne_eq] at hg2_29
    simp only [List.take]
    refine Hd.ng rfl rfl rfl ?_
    refine Hd.ng rfl rfl rfl ?_
    first | (refine Hd.yv (y_pickT rfl rfl) ?_) | (refine Hd.yv (y_pickF rfl rfl) ?_) | (refine Hd.yv (y_pickb rfl rfl rfl) ?_) | (refine Hd.yv (y_pick rfl rfl rfl) ?_)
    refine Hd.nil ?_
    exact Hd.mend (by repeat (first | exact trivial | refine ⟨rfl, ?_⟩)) (Ent.sep enn)
  · intro hg2_29
    try simp only [decide_eq_true_eq, decide_eq_false_iff_not, Bool.and_eq_true, Bool.or_eq_true, Bool.and_eq_false_iff, Bool.or_eq_false_iff, Bool.not_eq_true', Bool.not_eq_false', Bool.not_eq_true, Bool.not_eq_false, Int.not_lt, Int.not_le, Decidable.not_not, ne_eq] at hg2_29
    simp only [List.take]
    refine Hd.yg rfl rfl (y_move rfl) ?_
    refine Hd.yg rfl rfl (y_not rfl) ?_
    first | (refine Hd.yv (y_pickT rfl rfl) ?_) | (refine Hd.yv (y_pickF rfl rfl) ?_) | (refine Hd.yv (y_pickb rfl rfl rfl) ?_) | (refine Hd.yv (y_pick rfl rfl rfl) ?_)
    refine Hd.nil ?_
    exact Hd.mend (by repeat (first | exact trivial | refine ⟨rfl, ?_⟩)) (Ent.sep enn)
  simp only [List.drop]
  refine Hd.nil ?_
  refine Hd.slots [(0, _), (1, _), (5, _), (32, _)] ⟨rfl, rfl, rfl, rfl, trivial⟩ ?_
  refine Hd.toK hK4 ?_
  refine Hd.cond rfl (fun hc0 => ?_) (fun hc0 => ?_)
  ·
    try simp only [decide_eq_true_eq, decide_eq_false_iff_not, Bool.and_eq_true, Bool.or_eq_true, Bool.and_eq_false_iff, Bool.or_eq_false_iff, Bool.not_eq_true', Bool.not_eq_false', Bool.not_eq_true, Bool.not_eq_false, Int.not_lt, Int.not_le, Decidable.not_not, ne_eq] at hc0
    refine Hd.seq (fun K5 hK5 => ?_)
    refine Hd.region ?_
    refine Hd.yv (y_move rfl) ?_
    refine Hd.yv (y_assign rfl) ?_
    refine Hd.nil ?_
    refine Hd.slots [(4, _)] ⟨rfl, trivial⟩ ?_
    refine Hd.toK hK5 ?_
    refine Hd.ret ?_
    refine Hd.thenRet ?_
    clear hK1 hK2 hK3 hK4 hK5
    exact Hd.ret1 rfl () (by first | rfl | (simp only [*]; done) | (simp [*]; done)) (Ent.sep enn)
  ·
    try simp only [decide_eq_true_eq, decide_eq_false_iff_not, Bool.and_eq_true, Bool.or_eq_true, Bool.and_eq_false_iff, Bool.or_eq_false_iff, Bool.not_eq_true', Bool.not_eq_false', Bool.not_eq_true, Bool.not_eq_false, Int.not_lt, Int.not_le, Decidable.not_not, ne_eq] at hc0
    have hx : xs.length ≤ 100 ∧ ys.length ≤ 10 := by have := hc0; simp at this; omega
    refine Hd.skip ?_
    refine Hd.toK hK3 ?_
    refine Hd.seq (fun K6 hK6 => ?_)
    refine Hd.region ?_
    refine Hd.callE rfl fk10 (tnew_ct _) (Ent.sep enn) ?_
    intro o
    refine Hd.yv (y_assign rfl) ?_
    refine Hd.nil ?_
    refine Hd.slots [(0, _), (1, _), (5, _), (6, _)] ⟨rfl, rfl, rfl, rfl, trivial⟩ ?_
    refine Hd.toK hK6 ?_
    refine Hd.seq (fun K7 hK7 => ?_)
    refine Hd.region ?_
    refine Hd.callE rfl fk10 (tnew_ct _) (Ent.sep enn) ?_
    intro p
    refine Hd.yv (y_assign rfl) ?_
    refine Hd.nil ?_
    refine Hd.slots [(0, _), (1, _), (5, _), (6, _), (7, _)] ⟨rfl, rfl, rfl, rfl, rfl, trivial⟩ ?_
    refine Hd.toK hK7 ?_
    refine Hd.seq (fun K8 hK8 => ?_)
    refine Hd.seq (fun K9 hK9 => ?_)
    refine Hd.region ?_
    refine Hd.yv (y_assign rfl) ?_
    refine Hd.nil ?_
    refine Hd.slots [(0, _), (1, _), (5, _), (6, _), (7, _), (8, _)] ⟨rfl, rfl, rfl, rfl, rfl, rfl, trivial⟩ ?_
    refine Hd.toK hK9 ?_
    refine Hd.block ?_
    refine Hd.loopK (ι := Nat × List Q) [(0, _), (1, _), (5, _), (6, _), (7, _)] (fun q_ => [(8, .int .i64 (q_.1 : Int))]) (fun q_ => pu (q_.1 ≤ ys.length) :: TmA o q_.2 [] 0 (fun _ => none) NV :: TmA p [] [] 0 (fun _ => none) NV :: L) (fun q_ => ys.length - q_.1) (0, []) (by repeat (first | exact trivial | refine ⟨rfl, ?_⟩)) (by repeat (first | exact trivial | refine ⟨rfl, ?_⟩)) (Ent.sep (.pure (by first | omega | (simp; done) | (simp; omega) | exact ⟨by simp, by simp⟩) enn)) ?_
    rintro ⟨i, qs⟩
    try dsimp only
    refine Hd.pure (fun hp0 => ?_)
    try dsimp only at hp0
    refine Hd.seq (fun K10 hK10 => ?_)
    refine Hd.seq (fun K11 hK11 => ?_)
    refine Hd.region ?_
    refine Hd.yv (y_move rfl) ?_
    refine Hd.yv (y_move rfl) ?_
    refine Hd.yv (y_len Try.underlying49 rfl) ?_
    refine Hd.yv (y_lss rfl rfl) ?_
    refine Hd.nil ?_
    refine Hd.slots [(0, _), (1, _), (5, _), (6, _), (7, _), (8, _), (39, _)] ⟨rfl, rfl, rfl, rfl, rfl, rfl, rfl, trivial⟩ ?_
    refine Hd.toK hK11 ?_
    refine Hd.cond rfl (fun hc1 => ?_) (fun hc1 => ?_)
    ·
      try simp only [decide_eq_true_eq, decide_eq_false_iff_not, Bool.and_eq_true, Bool.or_eq_true, Bool.and_eq_false_iff, Bool.or_eq_false_iff, Bool.not_eq_true', Bool.not_eq_false', Bool.not_eq_true, Bool.not_eq_false, Int.not_lt, Int.not_le, Decidable.not_not, ne_eq] at hc1
      have hi : i < ys.length := by omega
      have hyi : (ys.map fun y => Value.int .u64 y)[i * 1]? = some (.int .u64 ys[i]) := by rw [Nat.mul_one, List.getElem?_map, List.getElem?_eq_getElem hi]; rfl
      refine Hd.skip ?_
      refine Hd.toK hK10 ?_
      refine Hd.seq (fun K12 hK12 => ?_)
      refine Hd.block ?_
      refine Hd.region ?_
      refine Hd.yv (y_move rfl) ?_
      refine Hd.yv (y_move rfl) ?_
      refine Hd.yv (y_move rfl) ?_
      first | (refine Hd.yv (y_idxS Try.underlying49 sz23 rfl rfl (by first | omega | decide)) ?_) | (refine Hd.yv (y_idxR Try.underlying49 sz23 rfl rfl (by first | omega | decide) (by (first | exact RdS.own pkk | exact RdS.mono hR (Ent.sep enn) | exact RdS.mono hR2 (Ent.sep enn)))) ?_)
      first | (refine Hd.yv (y_load1 ag23 rfl (Rd.pt1 pkk (by (first | exact hyi | rfl)))) ?_) | (refine Hd.yv (y_load1 ag23 rfl (Rd.seg1 pkk (by (first | exact hyi | rfl)))) ?_) | (refine Hd.yv (y_loadR1 ag23 rfl (by (first | exact RdS.own pkk | exact RdS.mono hR (Ent.sep enn) | exact RdS.mono hR2 (Ent.sep enn))) (by (first | exact hyi | rfl))) ?_)
      refine Hd.callE rfl fk11 (tcommon_ct _ o qs [] 0 (fun _ => none) NV ys[i]) (Ent.sep enn) ?_
      intro _
      refine Hd.nil ?_
      refine Hd.slots [(0, _), (1, _), (5, _), (6, _), (7, _), (8, _)] ⟨rfl, rfl, rfl, rfl, rfl, rfl, trivial⟩ ?_
      refine Hd.inB ?_
      refine Hd.toK hK12 ?_
      refine Hd.region ?_
      refine Hd.yv (y_move rfl) ?_
      first | (refine Hd.yv (y_addn rfl rfl (by simp only [InK]; omega)) ?_) | (refine Hd.yv (y_add rfl rfl) ?_)
      refine Hd.yv (y_assign rfl) ?_
      refine Hd.nil ?_
      refine Hd.slots [(0, _), (1, _), (5, _), (6, _), (7, _), (8, _)] ⟨rfl, rfl, rfl, rfl, rfl, rfl, trivial⟩ ?_
      clear hK1 hK2 hK3 hK4 hK6 hK7 hK8 hK9 hK10 hK11 hK12
      refine Hd.thenN ?_
      exact Hd.again (i + 1, mkS qs ys[i]) (by first | omega | (simp only; omega) | (simp; omega)) (by repeat (first | exact trivial | refine ⟨rfl, ?_⟩)) (Ent.sep (.pure (by first | omega | (simp; done) | (simp; omega) | (dsimp only; omega)) enn))
    ·
      try simp only [decide_eq_true_eq, decide_eq_false_iff_not, Bool.and_eq_true, Bool.or_eq_true, Bool.and_eq_false_iff, Bool.or_eq_false_iff, Bool.not_eq_true', Bool.not_eq_false', Bool.not_eq_true, Bool.not_eq_false, Int.not_lt, Int.not_le, Decidable.not_not, ne_eq] at hc1
      refine Hd.exit ?_
      refine Hd.thenExit ?_
      refine Hd.thenExit ?_
      refine Hd.inBexit ?_
      refine Hd.toK hK8 ?_
      refine Hd.seq (fun K13 hK13 => ?_)
      refine Hd.seq (fun K14 hK14 => ?_)
      refine Hd.region ?_
      refine Hd.yv (y_assign rfl) ?_
      refine Hd.nil ?_
      refine Hd.slots [(0, _), (5, _), (6, _), (7, _), (9, _)] ⟨rfl, rfl, rfl, rfl, rfl, trivial⟩ ?_
      refine Hd.toK hK14 ?_
      refine Hd.block ?_
      refine Hd.loopK (ι := Nat × List Q × List Q × List It × Int × AF × Int) [(0, _), (5, _), (6, _), (7, _)] (fun q_ => [(9, .int .i64 (q_.1 : Int))]) (fun q_ => pu (q_.1 ≤ xs.length ∧ q_.2.2.2.1.length ≤ q_.1 ∧ q_.2.2.2.2.1 ≤ q_.1 ∧ AfOk q_.2.2.2.2.2.1) :: TmA o q_.2.1 q_.2.2.2.1 q_.2.2.2.2.1 q_.2.2.2.2.2.1 q_.2.2.2.2.2.2 :: TmA p q_.2.2.1 q_.2.2.2.1 q_.2.2.2.2.1 q_.2.2.2.2.2.1 q_.2.2.2.2.2.2 :: L) (fun q_ => xs.length - q_.1) (0, qs, [], [], 0, (fun _ => none), NV) (by repeat (first | exact trivial | refine ⟨rfl, ?_⟩)) (by repeat (first | exact trivial | refine ⟨rfl, ?_⟩)) (Ent.sep (.pure ⟨Nat.zero_le _, Nat.zero_le _, Int.le_refl _, AfOk.none⟩ enn)) ?_
      rintro ⟨i, qs1, qs2, s, nx, af, lim⟩
      try dsimp only
      refine Hd.pure (fun hp1 => ?_)
      try dsimp only at hp1
      refine Hd.seq (fun K15 hK15 => ?_)
      refine Hd.seq (fun K16 hK16 => ?_)
      refine Hd.region ?_
      refine Hd.yv (y_move rfl) ?_
      refine Hd.yv (y_move rfl) ?_
      refine Hd.yv (y_len Try.underlying39 rfl) ?_
      refine Hd.yv (y_lss rfl rfl) ?_
      refine Hd.nil ?_
      refine Hd.slots [(0, _), (5, _), (6, _), (7, _), (9, _), (51, _)] ⟨rfl, rfl, rfl, rfl, rfl, rfl, trivial⟩ ?_
      refine Hd.toK hK16 ?_
      refine Hd.cond rfl (fun hc2 => ?_) (fun hc2 => ?_)
      ·
        try simp only [decide_eq_true_eq, decide_eq_false_iff_not, Bool.and_eq_true, Bool.or_eq_true, Bool.and_eq_false_iff, Bool.or_eq_false_iff, Bool.not_eq_true', Bool.not_eq_false', Bool.not_eq_true, Bool.not_eq_false, Int.not_lt, Int.not_le, Decidable.not_not, ne_eq] at hc2
        have hi : i < xs.length := by omega
        obtain ⟨_, hsl, hnl, haf⟩ := hp1
        obtain ⟨x, hxo⟩ : ∃ x, xs[i]? = some x := ⟨_, List.getElem?_eq_getElem hi⟩
        have hok := hO x (List.mem_of_getElem? hxo)
        refine Hd.skip ?_
        refine Hd.toK hK15 ?_
        refine Hd.seq (fun K17 hK17 => ?_)
        refine Hd.block ?_
        refine Hd.seq (fun K18 hK18 => ?_)
        refine Hd.region ?_
        refine Hd.yv (y_move rfl) ?_
        refine Hd.yv (y_move rfl) ?_
        first | (refine Hd.yv (y_idxS Try.underlying39 sz41 rfl rfl (by first | omega | decide)) ?_) | (refine Hd.yv (y_idxR Try.underlying39 sz41 rfl rfl (by first | omega | decide) (by (first | exact RdS.own pkk | exact RdS.mono hR (Ent.sep enn) | exact RdS.mono hR2 (Ent.sep enn)))) ?_)
        refine Hd.yv (y_loadRn (vs := [_, _, _, _, _]) ag41 rfl (RdS.mono hR (Ent.sep enn)) (flat_cells encO 5 (fun _ => rfl) hxo) (by exact sz41) (by simp)) ?_
        refine Hd.alloc zr41 (fun b10 => ?_)
        refine Hd.storeA (us := encO x) sz41 rfl rfl rfl (by simp [Value.oneCell']) pkk (by exact rfl) ?_
        refine Hd.nil ?_
        refine Hd.slots [(0, _), (5, _), (6, _), (7, _), (9, _), (10, _)] ⟨rfl, rfl, rfl, rfl, rfl, rfl, trivial⟩ ?_
        refine Hd.toK hK18 ?_
        refine Hd.seq (fun K19 hK19 => ?_)
        refine Hd.region ?_
        refine Hd.yv (y_assign rfl) ?_
        refine Hd.nil ?_
        refine Hd.slots [(0, _), (5, _), (6, _), (7, _), (9, _), (10, _), (11, _)] ⟨rfl, rfl, rfl, rfl, rfl, rfl, rfl, trivial⟩ ?_
        refine Hd.toK hK19 ?_
        refine Hd.cutK (ι := List Q × List Q × List It × Int × AF × Int) [(0, _), (5, _), (6, _), (7, _), (9, _), (10, _)] (fun _ => [(11, .bool true)]) (fun j => pu (j.2.2.1.length ≤ i + 1 ∧ j.2.2.2.1 ≤ i + 1 ∧ AfOk j.2.2.2.2.1) :: pt b10 (encO x) 41 :: TmA o j.1 j.2.2.1 j.2.2.2.1 j.2.2.2.2.1 j.2.2.2.2.2 :: TmA p j.2.1 j.2.2.1 j.2.2.2.1 j.2.2.2.2.1 j.2.2.2.2.2 :: L) ?_ ?_ ⟨rfl, rfl, rfl, rfl, rfl, rfl, trivial⟩
        ·
          refine Hd.seq (fun K20 hK20 => ?_)
          refine Hd.region ?_
          first | (refine Hd.yv (y_field' (q := 0) (ft := 3) Try.underlying41 rfl sz3 rfl rfl) ?_) | (refine Hd.yv (y_fieldR (q := 0) (ft := 3) Try.underlying41 rfl sz3 rfl rfl) ?_)
          first | (refine Hd.yv (y_load1 ag3 rfl (Rd.pt1 pkk (by (first | exact hyi | rfl)))) ?_) | (refine Hd.yv (y_load1 ag3 rfl (Rd.seg1 pkk (by (first | exact hyi | rfl)))) ?_) | (refine Hd.yv (y_loadR1 ag3 rfl (by (first | exact RdS.own pkk | exact RdS.mono hR (Ent.sep enn) | exact RdS.mono hR2 (Ent.sep enn))) (by (first | exact hyi | rfl))) ?_)
          refine Hd.nil ?_
          refine Hd.slots [(0, _), (5, _), (6, _), (7, _), (9, _), (10, _), (11, _), (59, _)] ⟨rfl, rfl, rfl, rfl, rfl, rfl, rfl, rfl, trivial⟩ ?_
          refine Hd.toK hK20 ?_
          refine Hd.block ?_
          refine Hd.seq (fun K21 hK21 => ?_)
          refine Hd.region ?_
          first | (refine Hd.yv (y_eqlT rfl rfl) ?_) | (refine Hd.yv (y_eql rfl rfl) ?_)
          refine Hd.yv (y_assign rfl) ?_
          refine Hd.nil ?_
          refine Hd.slots [(0, _), (5, _), (6, _), (7, _), (9, _), (10, _), (11, _), (59, _), (60, _)] ⟨rfl, rfl, rfl, rfl, rfl, rfl, rfl, rfl, rfl, trivial⟩ ?_
          refine Hd.toK hK21 ?_
          refine Hd.cond rfl (fun hc3 => ?_) (fun hc3 => ?_)
          ·
            try simp only [decide_eq_true_eq, decide_eq_false_iff_not, Bool.and_eq_true, Bool.or_eq_true, Bool.and_eq_false_iff, Bool.or_eq_false_iff, Bool.not_eq_true', Bool.not_eq_false', Bool.not_eq_true, Bool.not_eq_false, Int.not_lt, Int.not_le, Decidable.not_not, ne_eq] at hc3
            refine Hd.drawsH ([pt b10 (encO x) 41]) (fun _ => true) mixed ?_
            simp only [List.length, Nat.zero_add, Nat.reduceAdd]
            refine Hd.takeH 0 rfl (by kernel_rfl) (by kernel_rfl) (by kernel_rfl) (by kernel_rfl) (y_move rfl) (fun _ _ => rfl) (Ent.sep enn) ?_
            first | (refine Hd.takeH 1 rfl (by kernel_rfl) (by kernel_rfl) (by kernel_rfl) (by kernel_rfl) (y_field' (q := 1) (ft := 3) Try.underlying41 rfl sz3 rfl rfl) (fun _ _ => rfl) (Ent.sep enn) ?_) | (refine Hd.takeH 1 rfl (by kernel_rfl) (by kernel_rfl) (by kernel_rfl) (by kernel_rfl) (y_fieldR (q := 1) (ft := 3) Try.underlying41 rfl sz3 rfl rfl) (fun _ _ => rfl) (Ent.sep enn) ?_)
            first | (refine Hd.takeH 2 rfl (by kernel_rfl) (by kernel_rfl) (by kernel_rfl) (by kernel_rfl) (y_load1 ag3 rfl (Rd.pt1 pkk (by (first | exact hyi | rfl)))) (fun _ _ => rfl) (Ent.sep enn) ?_) | (refine Hd.takeH 2 rfl (by kernel_rfl) (by kernel_rfl) (by kernel_rfl) (by kernel_rfl) (y_load1 ag3 rfl (Rd.seg1 pkk (by (first | exact hyi | rfl)))) (fun _ _ => rfl) (Ent.sep enn) ?_) | (refine Hd.takeH 2 rfl (by kernel_rfl) (by kernel_rfl) (by kernel_rfl) (by kernel_rfl) (y_loadR1 ag3 rfl (by (first | exact RdS.own pkk | exact RdS.mono hR (Ent.sep enn) | exact RdS.mono hR2 (Ent.sep enn))) (by (first | exact hyi | rfl))) (fun _ _ => rfl) (Ent.sep enn) ?_)
            first | (refine Hd.takeH 3 rfl (by kernel_rfl) (by kernel_rfl) (by kernel_rfl) (by kernel_rfl) (y_field' (q := 2) (ft := 23) Try.underlying41 rfl sz23 rfl rfl) (fun _ _ => rfl) (Ent.sep enn) ?_) | (refine Hd.takeH 3 rfl (by kernel_rfl) (by kernel_rfl) (by kernel_rfl) (by kernel_rfl) (y_fieldR (q := 2) (ft := 23) Try.underlying41 rfl sz23 rfl rfl) (fun _ _ => rfl) (Ent.sep enn) ?_)
            first | (refine Hd.takeH 4 rfl (by kernel_rfl) (by kernel_rfl) (by kernel_rfl) (by kernel_rfl) (y_load1 ag23 rfl (Rd.pt1 pkk (by (first | exact hyi | rfl)))) (fun _ _ => rfl) (Ent.sep enn) ?_) | (refine Hd.takeH 4 rfl (by kernel_rfl) (by kernel_rfl) (by kernel_rfl) (by kernel_rfl) (y_load1 ag23 rfl (Rd.seg1 pkk (by (first | exact hyi | rfl)))) (fun _ _ => rfl) (Ent.sep enn) ?_) | (refine Hd.takeH 4 rfl (by kernel_rfl) (by kernel_rfl) (by kernel_rfl) (by kernel_rfl) (y_loadR1 ag23 rfl (by (first | exact RdS.own pkk | exact RdS.mono hR (Ent.sep enn) | exact RdS.mono hR2 (Ent.sep enn))) (by (first | exact hyi | rfl))) (fun _ _ => rfl) (Ent.sep enn) ?_)
            first | (refine Hd.takeH 5 rfl (by kernel_rfl) (by kernel_rfl) (by kernel_rfl) (by kernel_rfl) (y_field' (q := 3) (ft := 23) Try.underlying41 rfl sz23 rfl rfl) (fun _ _ => rfl) (Ent.sep enn) ?_) | (refine Hd.takeH 5 rfl (by kernel_rfl) (by kernel_rfl) (by kernel_rfl) (by kernel_rfl) (y_fieldR (q := 3) (ft := 23) Try.underlying41 rfl sz23 rfl rfl) (fun _ _ => rfl) (Ent.sep enn) ?_)
            first | (refine Hd.takeH 6 rfl (by kernel_rfl) (by kernel_rfl) (by kernel_rfl) (by kernel_rfl) (y_load1 ag23 rfl (Rd.pt1 pkk (by (first | exact hyi | rfl)))) (fun _ _ => rfl) (Ent.sep enn) ?_) | (refine Hd.takeH 6 rfl (by kernel_rfl) (by kernel_rfl) (by kernel_rfl) (by kernel_rfl) (y_load1 ag23 rfl (Rd.seg1 pkk (by (first | exact hyi | rfl)))) (fun _ _ => rfl) (Ent.sep enn) ?_) | (refine Hd.takeH 6 rfl (by kernel_rfl) (by kernel_rfl) (by kernel_rfl) (by kernel_rfl) (y_loadR1 ag23 rfl (by (first | exact RdS.own pkk | exact RdS.mono hR (Ent.sep enn) | exact RdS.mono hR2 (Ent.sep enn))) (by (first | exact hyi | rfl))) (fun _ _ => rfl) (Ent.sep enn) ?_)
            refine Hd.takeH 8 rfl (by kernel_rfl) (by kernel_rfl) (by kernel_rfl) (by kernel_rfl) (y_move rfl) (fun _ _ => rfl) (Ent.sep enn) ?_
            first | (refine Hd.takeH 9 rfl (by kernel_rfl) (by kernel_rfl) (by kernel_rfl) (by kernel_rfl) (y_field' (q := 1) (ft := 3) Try.underlying41 rfl sz3 rfl rfl) (fun _ _ => rfl) (Ent.sep enn) ?_) | (refine Hd.takeH 9 rfl (by kernel_rfl) (by kernel_rfl) (by kernel_rfl) (by kernel_rfl) (y_fieldR (q := 1) (ft := 3) Try.underlying41 rfl sz3 rfl rfl) (fun _ _ => rfl) (Ent.sep enn) ?_)
            first | (refine Hd.takeH 10 rfl (by kernel_rfl) (by kernel_rfl) (by kernel_rfl) (by kernel_rfl) (y_load1 ag3 rfl (Rd.pt1 pkk (by (first | exact hyi | rfl)))) (fun _ _ => rfl) (Ent.sep enn) ?_) | (refine Hd.takeH 10 rfl (by kernel_rfl) (by kernel_rfl) (by kernel_rfl) (by kernel_rfl) (y_load1 ag3 rfl (Rd.seg1 pkk (by (first | exact hyi | rfl)))) (fun _ _ => rfl) (Ent.sep enn) ?_) | (refine Hd.takeH 10 rfl (by kernel_rfl) (by kernel_rfl) (by kernel_rfl) (by kernel_rfl) (y_loadR1 ag3 rfl (by (first | exact RdS.own pkk | exact RdS.mono hR (Ent.sep enn) | exact RdS.mono hR2 (Ent.sep enn))) (by (first | exact hyi | rfl))) (fun _ _ => rfl) (Ent.sep enn) ?_)
            first | (refine Hd.takeH 11 rfl (by kernel_rfl) (by kernel_rfl) (by kernel_rfl) (by kernel_rfl) (y_field' (q := 2) (ft := 23) Try.underlying41 rfl sz23 rfl rfl) (fun _ _ => rfl) (Ent.sep enn) ?_) | (refine Hd.takeH 11 rfl (by kernel_rfl) (by kernel_rfl) (by kernel_rfl) (by kernel_rfl) (y_fieldR (q := 2) (ft := 23) Try.underlying41 rfl sz23 rfl rfl) (fun _ _ => rfl) (Ent.sep enn) ?_)
            first | (refine Hd.takeH 12 rfl (by kernel_rfl) (by kernel_rfl) (by kernel_rfl) (by kernel_rfl) (y_load1 ag23 rfl (Rd.pt1 pkk (by (first | exact hyi | rfl)))) (fun _ _ => rfl) (Ent.sep enn) ?_) | (refine Hd.takeH 12 rfl (by kernel_rfl) (by kernel_rfl) (by kernel_rfl) (by kernel_rfl) (y_load1 ag23 rfl (Rd.seg1 pkk (by (first | exact hyi | rfl)))) (fun _ _ => rfl) (Ent.sep enn) ?_) | (refine Hd.takeH 12 rfl (by kernel_rfl) (by kernel_rfl) (by kernel_rfl) (by kernel_rfl) (y_loadR1 ag23 rfl (by (first | exact RdS.own pkk | exact RdS.mono hR (Ent.sep enn) | exact RdS.mono hR2 (Ent.sep enn))) (by (first | exact hyi | rfl))) (fun _ _ => rfl) (Ent.sep enn) ?_)
            first | (refine Hd.takeH 13 rfl (by kernel_rfl) (by kernel_rfl) (by kernel_rfl) (by kernel_rfl) (y_field' (q := 3) (ft := 23) Try.underlying41 rfl sz23 rfl rfl) (fun _ _ => rfl) (Ent.sep enn) ?_) | (refine Hd.takeH 13 rfl (by kernel_rfl) (by kernel_rfl) (by kernel_rfl) (by kernel_rfl) (y_fieldR (q := 3) (ft := 23) Try.underlying41 rfl sz23 rfl rfl) (fun _ _ => rfl) (Ent.sep enn) ?_)
            first | (refine Hd.takeH 14 rfl (by kernel_rfl) (by kernel_rfl) (by kernel_rfl) (by kernel_rfl) (y_load1 ag23 rfl (Rd.pt1 pkk (by (first | exact hyi | rfl)))) (fun _ _ => rfl) (Ent.sep enn) ?_) | (refine Hd.takeH 14 rfl (by kernel_rfl) (by kernel_rfl) (by kernel_rfl) (by kernel_rfl) (y_load1 ag23 rfl (Rd.seg1 pkk (by (first | exact hyi | rfl)))) (fun _ _ => rfl) (Ent.sep enn) ?_) | (refine Hd.takeH 14 rfl (by kernel_rfl) (by kernel_rfl) (by kernel_rfl) (by kernel_rfl) (y_loadR1 ag23 rfl (by (first | exact RdS.own pkk | exact RdS.mono hR (Ent.sep enn) | exact RdS.mono hR2 (Ent.sep enn))) (by (first | exact hyi | rfl))) (fun _ _ => rfl) (Ent.sep enn) ?_)
            refine Hd.onlyH 7 rfl (by kernel_rfl) ?_
            refine Hd.callE rfl fk13 (tadd_ct _ o qs1 s nx af lim (by omega) (by omega) x.id x.now x.af hok.1 hok.2) (Ent.sep enn) ?_
            intro _
            refine Hd.nil ?_
            refine Hd.thenN ?_
            refine Hd.heldK (J := (fun _ => true)) (i := 7) (Ent.sep enn) ?_
            refine Hd.onlyH 15 rfl (by kernel_rfl) ?_
            refine Hd.callE rfl fk13 (tadd_ct _ p qs2 s nx af lim (by omega) (by omega) x.id x.now x.af hok.1 hok.2) (Ent.sep enn) ?_
            intro _
            refine Hd.nil ?_
            refine Hd.thenN ?_
            refine Hd.heldK (J := (fun _ => true)) (i := 15) (Ent.sep enn) ?_
            first | (refine Hd.takeH 16 rfl (by kernel_rfl) (by kernel_rfl) (by kernel_rfl) (by kernel_rfl) (y_to (y_eqlT rfl rfl) (congrArg Value.bool (decide_eq_true (rfl)))) (fun _ _ => rfl) (Ent.sep enn) ?_) | (refine Hd.takeH 16 rfl (by kernel_rfl) (by kernel_rfl) (by kernel_rfl) (by kernel_rfl) (y_to (y_eql rfl rfl) (congrArg Value.bool (decide_eq_true (rfl)))) (fun _ _ => rfl) (Ent.sep enn) ?_)
            refine Hd.takeH 17 rfl (by kernel_rfl) (by kernel_rfl) (by kernel_rfl) (by kernel_rfl) (y_assign rfl) (fun _ _ => rfl) (Ent.sep enn) ?_
            refine Hd.endH (by kernel_rfl) ?_
            refine Hd.slots [(0, _), (5, _), (6, _), (7, _), (9, _), (10, _), (11, _)] ⟨rfl, rfl, rfl, rfl, rfl, rfl, rfl, trivial⟩ ?_
            refine Hd.inB ?_
            clear hK1 hK2 hK3 hK4 hK6 hK7 hK8 hK9 hK10 hK11 hK13 hK14 hK15 hK16 hK17 hK18 hK19 hK20 hK21
            refine Hd.thenN ?_
            exact Hd.meet (addQ qs1 x.id x.now x.af nx, addQ qs2 x.id x.now x.af nx, addS s x.id x.now x.af nx, addN x.id nx, addF af x.id x.af, lim) (by repeat (first | exact trivial | refine ⟨rfl, ?_⟩)) (Ent.sep (.pure (by have h1 := addS_len s x.id x.now x.af nx; have h2 := addN_le x.id nx; exact ⟨by show (addS s x.id x.now x.af nx).length ≤ _; omega, by show addN x.id nx ≤ _; omega, haf.add hok.2 x.id⟩) enn))
          ·
            try simp only [decide_eq_true_eq, decide_eq_false_iff_not, Bool.and_eq_true, Bool.or_eq_true, Bool.and_eq_false_iff, Bool.or_eq_false_iff, Bool.not_eq_true', Bool.not_eq_false', Bool.not_eq_true, Bool.not_eq_false, Int.not_lt, Int.not_le, Decidable.not_not, ne_eq] at hc3
            refine Hd.seq (fun K22 hK22 => ?_)
            refine Hd.region ?_
            first | (refine Hd.yv (y_eqlT rfl rfl) ?_) | (refine Hd.yv (y_eql rfl rfl) ?_)
            refine Hd.yv (y_assign rfl) ?_
            refine Hd.nil ?_
            refine Hd.slots [(0, _), (5, _), (6, _), (7, _), (9, _), (10, _), (11, _), (59, _), (79, _)] ⟨rfl, rfl, rfl, rfl, rfl, rfl, rfl, rfl, rfl, trivial⟩ ?_
            refine Hd.toK hK22 ?_
            refine Hd.cond rfl (fun hc4 => ?_) (fun hc4 => ?_)
            ·
              try simp only [decide_eq_true_eq, decide_eq_false_iff_not, Bool.and_eq_true, Bool.or_eq_true, Bool.and_eq_false_iff, Bool.or_eq_false_iff, Bool.not_eq_true', Bool.not_eq_false', Bool.not_eq_true, Bool.not_eq_false, Int.not_lt, Int.not_le, Decidable.not_not, ne_eq] at hc4
              refine Hd.drawsH ([pt b10 (encO x) 41]) (fun _ => true) mixed ?_
              simp only [List.length, Nat.zero_add, Nat.reduceAdd]
              refine Hd.takeH 0 rfl (by kernel_rfl) (by kernel_rfl) (by kernel_rfl) (by kernel_rfl) (y_move rfl) (fun _ _ => rfl) (Ent.sep enn) ?_
              first | (refine Hd.takeH 1 rfl (by kernel_rfl) (by kernel_rfl) (by kernel_rfl) (by kernel_rfl) (y_field' (q := 1) (ft := 3) Try.underlying41 rfl sz3 rfl rfl) (fun _ _ => rfl) (Ent.sep enn) ?_) | (refine Hd.takeH 1 rfl (by kernel_rfl) (by kernel_rfl) (by kernel_rfl) (by kernel_rfl) (y_fieldR (q := 1) (ft := 3) Try.underlying41 rfl sz3 rfl rfl) (fun _ _ => rfl) (Ent.sep enn) ?_)
              first | (refine Hd.takeH 2 rfl (by kernel_rfl) (by kernel_rfl) (by kernel_rfl) (by kernel_rfl) (y_load1 ag3 rfl (Rd.pt1 pkk (by (first | exact hyi | rfl)))) (fun _ _ => rfl) (Ent.sep enn) ?_) | (refine Hd.takeH 2 rfl (by kernel_rfl) (by kernel_rfl) (by kernel_rfl) (by kernel_rfl) (y_load1 ag3 rfl (Rd.seg1 pkk (by (first | exact hyi | rfl)))) (fun _ _ => rfl) (Ent.sep enn) ?_) | (refine Hd.takeH 2 rfl (by kernel_rfl) (by kernel_rfl) (by kernel_rfl) (by kernel_rfl) (y_loadR1 ag3 rfl (by (first | exact RdS.own pkk | exact RdS.mono hR (Ent.sep enn) | exact RdS.mono hR2 (Ent.sep enn))) (by (first | exact hyi | rfl))) (fun _ _ => rfl) (Ent.sep enn) ?_)
              first | (refine Hd.takeH 3 rfl (by kernel_rfl) (by kernel_rfl) (by kernel_rfl) (by kernel_rfl) (y_field' (q := 2) (ft := 23) Try.underlying41 rfl sz23 rfl rfl) (fun _ _ => rfl) (Ent.sep enn) ?_) | (refine Hd.takeH 3 rfl (by kernel_rfl) (by kernel_rfl) (by kernel_rfl) (by kernel_rfl) (y_fieldR (q := 2) (ft := 23) Try.underlying41 rfl sz23 rfl rfl) (fun _ _ => rfl) (Ent.sep enn) ?_)
              first | (refine Hd.takeH 4 rfl (by kernel_rfl) (by kernel_rfl) (by kernel_rfl) (by kernel_rfl) (y_load1 ag23 rfl (Rd.pt1 pkk (by (first | exact hyi | rfl)))) (fun _ _ => rfl) (Ent.sep enn) ?_) | (refine Hd.takeH 4 rfl (by kernel_rfl) (by kernel_rfl) (by kernel_rfl) (by kernel_rfl) (y_load1 ag23 rfl (Rd.seg1 pkk (by (first | exact hyi | rfl)))) (fun _ _ => rfl) (Ent.sep enn) ?_) | (refine Hd.takeH 4 rfl (by kernel_rfl) (by kernel_rfl) (by kernel_rfl) (by kernel_rfl) (y_loadR1 ag23 rfl (by (first | exact RdS.own pkk | exact RdS.mono hR (Ent.sep enn) | exact RdS.mono hR2 (Ent.sep enn))) (by (first | exact hyi | rfl))) (fun _ _ => rfl) (Ent.sep enn) ?_)
              refine Hd.takeH 6 rfl (by kernel_rfl) (by kernel_rfl) (by kernel_rfl) (by kernel_rfl) (y_move rfl) (fun _ _ => rfl) (Ent.sep enn) ?_
              first | (refine Hd.takeH 7 rfl (by kernel_rfl) (by kernel_rfl) (by kernel_rfl) (by kernel_rfl) (y_field' (q := 1) (ft := 3) Try.underlying41 rfl sz3 rfl rfl) (fun _ _ => rfl) (Ent.sep enn) ?_) | (refine Hd.takeH 7 rfl (by kernel_rfl) (by kernel_rfl) (by kernel_rfl) (by kernel_rfl) (y_fieldR (q := 1) (ft := 3) Try.underlying41 rfl sz3 rfl rfl) (fun _ _ => rfl) (Ent.sep enn) ?_)
              first | (refine Hd.takeH 8 rfl (by kernel_rfl) (by kernel_rfl) (by kernel_rfl) (by kernel_rfl) (y_load1 ag3 rfl (Rd.pt1 pkk (by (first | exact hyi | rfl)))) (fun _ _ => rfl) (Ent.sep enn) ?_) | (refine Hd.takeH 8 rfl (by kernel_rfl) (by kernel_rfl) (by kernel_rfl) (by kernel_rfl) (y_load1 ag3 rfl (Rd.seg1 pkk (by (first | exact hyi | rfl)))) (fun _ _ => rfl) (Ent.sep enn) ?_) | (refine Hd.takeH 8 rfl (by kernel_rfl) (by kernel_rfl) (by kernel_rfl) (by kernel_rfl) (y_loadR1 ag3 rfl (by (first | exact RdS.own pkk | exact RdS.mono hR (Ent.sep enn) | exact RdS.mono hR2 (Ent.sep enn))) (by (first | exact hyi | rfl))) (fun _ _ => rfl) (Ent.sep enn) ?_)
              first | (refine Hd.takeH 9 rfl (by kernel_rfl) (by kernel_rfl) (by kernel_rfl) (by kernel_rfl) (y_field' (q := 2) (ft := 23) Try.underlying41 rfl sz23 rfl rfl) (fun _ _ => rfl) (Ent.sep enn) ?_) | (refine Hd.takeH 9 rfl (by kernel_rfl) (by kernel_rfl) (by kernel_rfl) (by kernel_rfl) (y_fieldR (q := 2) (ft := 23) Try.underlying41 rfl sz23 rfl rfl) (fun _ _ => rfl) (Ent.sep enn) ?_)
              first | (refine Hd.takeH 10 rfl (by kernel_rfl) (by kernel_rfl) (by kernel_rfl) (by kernel_rfl) (y_load1 ag23 rfl (Rd.pt1 pkk (by (first | exact hyi | rfl)))) (fun _ _ => rfl) (Ent.sep enn) ?_) | (refine Hd.takeH 10 rfl (by kernel_rfl) (by kernel_rfl) (by kernel_rfl) (by kernel_rfl) (y_load1 ag23 rfl (Rd.seg1 pkk (by (first | exact hyi | rfl)))) (fun _ _ => rfl) (Ent.sep enn) ?_) | (refine Hd.takeH 10 rfl (by kernel_rfl) (by kernel_rfl) (by kernel_rfl) (by kernel_rfl) (y_loadR1 ag23 rfl (by (first | exact RdS.own pkk | exact RdS.mono hR (Ent.sep enn) | exact RdS.mono hR2 (Ent.sep enn))) (by (first | exact hyi | rfl))) (fun _ _ => rfl) (Ent.sep enn) ?_)
              refine Hd.onlyH 5 rfl (by kernel_rfl) ?_
              refine Hd.callE rfl fk19 (tagain_ct _ o qs1 s nx af lim (by omega) (by omega) haf x.id x.now hok.1) (Ent.sep enn) ?_
              intro _
              refine Hd.nil ?_
              refine Hd.thenN ?_
              refine Hd.heldK (J := (fun _ => true)) (i := 5) (Ent.sep enn) ?_
              refine Hd.onlyH 11 rfl (by kernel_rfl) ?_
              refine Hd.callE rfl fk19 (tagain_ct _ p qs2 s nx af lim (by omega) (by omega) haf x.id x.now hok.1) (Ent.sep enn) ?_
              intro _
              refine Hd.nil ?_
              refine Hd.thenN ?_
              refine Hd.heldK (J := (fun _ => true)) (i := 11) (Ent.sep enn) ?_
              first | (refine Hd.takeH 12 rfl (by kernel_rfl) (by kernel_rfl) (by kernel_rfl) (by kernel_rfl) (y_to (y_eqlT rfl rfl) (congrArg Value.bool (decide_eq_true (rfl)))) (fun _ _ => rfl) (Ent.sep enn) ?_) | (refine Hd.takeH 12 rfl (by kernel_rfl) (by kernel_rfl) (by kernel_rfl) (by kernel_rfl) (y_to (y_eql rfl rfl) (congrArg Value.bool (decide_eq_true (rfl)))) (fun _ _ => rfl) (Ent.sep enn) ?_)
              refine Hd.takeH 13 rfl (by kernel_rfl) (by kernel_rfl) (by kernel_rfl) (by kernel_rfl) (y_assign rfl) (fun _ _ => rfl) (Ent.sep enn) ?_
              refine Hd.endH (by kernel_rfl) ?_
              refine Hd.slots [(0, _), (5, _), (6, _), (7, _), (9, _), (10, _), (11, _)] ⟨rfl, rfl, rfl, rfl, rfl, rfl, rfl, trivial⟩ ?_
              refine Hd.inB ?_
              clear hK1 hK2 hK3 hK4 hK6 hK7 hK8 hK9 hK10 hK11 hK13 hK14 hK15 hK16 hK17 hK18 hK19 hK20 hK21 hK22
              refine Hd.thenN ?_
              exact Hd.meet (agQ qs1 af x.id x.now nx, agQ qs2 af x.id x.now nx, agS s af x.id x.now nx, agN af x.id nx, agF af x.id, lim) (by repeat (first | exact trivial | refine ⟨rfl, ?_⟩)) (Ent.sep (.pure (by have h1 := agS_len s af x.id x.now nx; have h2 := agN_le af x.id nx; exact ⟨by show (agS s af x.id x.now nx).length ≤ _; omega, by show agN af x.id nx ≤ _; omega, haf.ag x.id⟩) enn))
            ·
              try simp only [decide_eq_true_eq, decide_eq_false_iff_not, Bool.and_eq_true, Bool.or_eq_true, Bool.and_eq_false_iff, Bool.or_eq_false_iff, Bool.not_eq_true', Bool.not_eq_false', Bool.not_eq_true, Bool.not_eq_false, Int.not_lt, Int.not_le, Decidable.not_not, ne_eq] at hc4
              refine Hd.seq (fun K23 hK23 => ?_)
              refine Hd.region ?_
              first | (refine Hd.yv (y_eqlT rfl rfl) ?_) | (refine Hd.yv (y_eql rfl rfl) ?_)
              refine Hd.yv (y_assign rfl) ?_
              refine Hd.nil ?_
              refine Hd.slots [(0, _), (5, _), (6, _), (7, _), (9, _), (10, _), (11, _), (59, _), (94, _)] ⟨rfl, rfl, rfl, rfl, rfl, rfl, rfl, rfl, rfl, trivial⟩ ?_
              refine Hd.toK hK23 ?_
              refine Hd.cond rfl (fun hc5 => ?_) (fun hc5 => ?_)
              ·
                try simp only [decide_eq_true_eq, decide_eq_false_iff_not, Bool.and_eq_true, Bool.or_eq_true, Bool.and_eq_false_iff, Bool.or_eq_false_iff, Bool.not_eq_true', Bool.not_eq_false', Bool.not_eq_true, Bool.not_eq_false, Int.not_lt, Int.not_le, Decidable.not_not, ne_eq] at hc5
                refine Hd.drawsH ([pt b10 (encO x) 41]) (fun _ => true) mixed ?_
                simp only [List.length, Nat.zero_add, Nat.reduceAdd]
                refine Hd.takeH 0 rfl (by kernel_rfl) (by kernel_rfl) (by kernel_rfl) (by kernel_rfl) (y_move rfl) (fun _ _ => rfl) (Ent.sep enn) ?_
                first | (refine Hd.takeH 1 rfl (by kernel_rfl) (by kernel_rfl) (by kernel_rfl) (by kernel_rfl) (y_field' (q := 1) (ft := 3) Try.underlying41 rfl sz3 rfl rfl) (fun _ _ => rfl) (Ent.sep enn) ?_) | (refine Hd.takeH 1 rfl (by kernel_rfl) (by kernel_rfl) (by kernel_rfl) (by kernel_rfl) (y_fieldR (q := 1) (ft := 3) Try.underlying41 rfl sz3 rfl rfl) (fun _ _ => rfl) (Ent.sep enn) ?_)
                first | (refine Hd.takeH 2 rfl (by kernel_rfl) (by kernel_rfl) (by kernel_rfl) (by kernel_rfl) (y_load1 ag3 rfl (Rd.pt1 pkk (by (first | exact hyi | rfl)))) (fun _ _ => rfl) (Ent.sep enn) ?_) | (refine Hd.takeH 2 rfl (by kernel_rfl) (by kernel_rfl) (by kernel_rfl) (by kernel_rfl) (y_load1 ag3 rfl (Rd.seg1 pkk (by (first | exact hyi | rfl)))) (fun _ _ => rfl) (Ent.sep enn) ?_) | (refine Hd.takeH 2 rfl (by kernel_rfl) (by kernel_rfl) (by kernel_rfl) (by kernel_rfl) (y_loadR1 ag3 rfl (by (first | exact RdS.own pkk | exact RdS.mono hR (Ent.sep enn) | exact RdS.mono hR2 (Ent.sep enn))) (by (first | exact hyi | rfl))) (fun _ _ => rfl) (Ent.sep enn) ?_)
                refine Hd.takeH 4 rfl (by kernel_rfl) (by kernel_rfl) (by kernel_rfl) (by kernel_rfl) (y_move rfl) (fun _ _ => rfl) (Ent.sep enn) ?_
                first | (refine Hd.takeH 5 rfl (by kernel_rfl) (by kernel_rfl) (by kernel_rfl) (by kernel_rfl) (y_field' (q := 1) (ft := 3) Try.underlying41 rfl sz3 rfl rfl) (fun _ _ => rfl) (Ent.sep enn) ?_) | (refine Hd.takeH 5 rfl (by kernel_rfl) (by kernel_rfl) (by kernel_rfl) (by kernel_rfl) (y_fieldR (q := 1) (ft := 3) Try.underlying41 rfl sz3 rfl rfl) (fun _ _ => rfl) (Ent.sep enn) ?_)
                first | (refine Hd.takeH 6 rfl (by kernel_rfl) (by kernel_rfl) (by kernel_rfl) (by kernel_rfl) (y_load1 ag3 rfl (Rd.pt1 pkk (by (first | exact hyi | rfl)))) (fun _ _ => rfl) (Ent.sep enn) ?_) | (refine Hd.takeH 6 rfl (by kernel_rfl) (by kernel_rfl) (by kernel_rfl) (by kernel_rfl) (y_load1 ag3 rfl (Rd.seg1 pkk (by (first | exact hyi | rfl)))) (fun _ _ => rfl) (Ent.sep enn) ?_) | (refine Hd.takeH 6 rfl (by kernel_rfl) (by kernel_rfl) (by kernel_rfl) (by kernel_rfl) (y_loadR1 ag3 rfl (by (first | exact RdS.own pkk | exact RdS.mono hR (Ent.sep enn) | exact RdS.mono hR2 (Ent.sep enn))) (by (first | exact hyi | rfl))) (fun _ _ => rfl) (Ent.sep enn) ?_)
                refine Hd.onlyH 3 rfl (by kernel_rfl) ?_
                refine Hd.callE rfl fk20 (tcut_ct _ o qs1 s nx af lim (by omega) x.id) (Ent.sep enn) ?_
                intro _
                refine Hd.nil ?_
                refine Hd.thenN ?_
                refine Hd.heldK (J := (fun _ => true)) (i := 3) (Ent.sep enn) ?_
                refine Hd.onlyH 7 rfl (by kernel_rfl) ?_
                refine Hd.callE rfl fk20 (tcut_ct _ p qs2 s nx af lim (by omega) x.id) (Ent.sep enn) ?_
                intro _
                refine Hd.nil ?_
                refine Hd.thenN ?_
                refine Hd.heldK (J := (fun _ => true)) (i := 7) (Ent.sep enn) ?_
                refine Hd.takeH 8 rfl (by kernel_rfl) (by kernel_rfl) (by kernel_rfl) (by kernel_rfl) (y_to (v' := .bool true) (y_eqlb Try.underlying4 rfl rfl) (by simp)) (fun _ _ => rfl) (Ent.sep enn) ?_
                refine Hd.takeH 9 rfl (by kernel_rfl) (by kernel_rfl) (by kernel_rfl) (by kernel_rfl) (y_assign rfl) (fun _ _ => rfl) (Ent.sep enn) ?_
                refine Hd.endH (by kernel_rfl) ?_
                refine Hd.slots [(0, _), (5, _), (6, _), (7, _), (9, _), (10, _), (11, _)] ⟨rfl, rfl, rfl, rfl, rfl, rfl, rfl, trivial⟩ ?_
                refine Hd.inB ?_
                clear hK1 hK2 hK3 hK4 hK6 hK7 hK8 hK9 hK10 hK11 hK13 hK14 hK15 hK16 hK17 hK18 hK19 hK20 hK21 hK22 hK23
                refine Hd.thenN ?_
                exact Hd.meet (cutQ x.id qs1, cutQ x.id qs2, remI x.id s, nx, af, lim) (by repeat (first | exact trivial | refine ⟨rfl, ?_⟩)) (Ent.sep (.pure (by have h1 := remI_len s x.id; exact ⟨by show (remI x.id s).length ≤ _; omega, by show nx ≤ _; omega, haf⟩) enn))
              ·
                try simp only [decide_eq_true_eq, decide_eq_false_iff_not, Bool.and_eq_true, Bool.or_eq_true, Bool.and_eq_false_iff, Bool.or_eq_false_iff, Bool.not_eq_true', Bool.not_eq_false', Bool.not_eq_true, Bool.not_eq_false, Int.not_lt, Int.not_le, Decidable.not_not, ne_eq] at hc5
                refine Hd.seq (fun K24 hK24 => ?_)
                refine Hd.region ?_
                first | (refine Hd.yv (y_eqlT rfl rfl) ?_) | (refine Hd.yv (y_eql rfl rfl) ?_)
                refine Hd.yv (y_assign rfl) ?_
                refine Hd.nil ?_
                refine Hd.slots [(0, _), (5, _), (6, _), (7, _), (9, _), (10, _), (11, _), (59, _), (105, _)] ⟨rfl, rfl, rfl, rfl, rfl, rfl, rfl, rfl, rfl, trivial⟩ ?_
                refine Hd.toK hK24 ?_
                refine Hd.cond rfl (fun hc6 => ?_) (fun hc6 => ?_)
                ·
                  try simp only [decide_eq_true_eq, decide_eq_false_iff_not, Bool.and_eq_true, Bool.or_eq_true, Bool.and_eq_false_iff, Bool.or_eq_false_iff, Bool.not_eq_true', Bool.not_eq_false', Bool.not_eq_true, Bool.not_eq_false, Int.not_lt, Int.not_le, Decidable.not_not, ne_eq] at hc6
                  refine Hd.seq (fun K25 hK25 => ?_)
                  refine Hd.region ?_
                  refine Hd.yv (y_move rfl) ?_
                  first | (refine Hd.yv (y_field' (q := 1) (ft := 3) Try.underlying41 rfl sz3 rfl rfl) ?_) | (refine Hd.yv (y_fieldR (q := 1) (ft := 3) Try.underlying41 rfl sz3 rfl rfl) ?_)
                  first | (refine Hd.yv (y_load1 ag3 rfl (Rd.pt1 pkk (by (first | exact hyi | rfl)))) ?_) | (refine Hd.yv (y_load1 ag3 rfl (Rd.seg1 pkk (by (first | exact hyi | rfl)))) ?_) | (refine Hd.yv (y_loadR1 ag3 rfl (by (first | exact RdS.own pkk | exact RdS.mono hR (Ent.sep enn) | exact RdS.mono hR2 (Ent.sep enn))) (by (first | exact hyi | rfl))) ?_)
                  refine Hd.callE rfl fk21 (tforget_ct _ o qs1 s nx af lim (by omega) x.id) (Ent.sep enn) ?_
                  intro _
                  refine Hd.nil ?_
                  refine Hd.slots [(0, _), (5, _), (6, _), (7, _), (9, _), (10, _), (11, _)] ⟨rfl, rfl, rfl, rfl, rfl, rfl, rfl, trivial⟩ ?_
                  refine Hd.toK hK25 ?_
                  refine Hd.region ?_
                  refine Hd.yv (y_move rfl) ?_
                  first | (refine Hd.yv (y_field' (q := 1) (ft := 3) Try.underlying41 rfl sz3 rfl rfl) ?_) | (refine Hd.yv (y_fieldR (q := 1) (ft := 3) Try.underlying41 rfl sz3 rfl rfl) ?_)
                  first | (refine Hd.yv (y_load1 ag3 rfl (Rd.pt1 pkk (by (first | exact hyi | rfl)))) ?_) | (refine Hd.yv (y_load1 ag3 rfl (Rd.seg1 pkk (by (first | exact hyi | rfl)))) ?_) | (refine Hd.yv (y_loadR1 ag3 rfl (by (first | exact RdS.own pkk | exact RdS.mono hR (Ent.sep enn) | exact RdS.mono hR2 (Ent.sep enn))) (by (first | exact hyi | rfl))) ?_)
                  refine Hd.callE rfl fk21 (tforget_ct _ p qs2 s nx af lim (by omega) x.id) (Ent.sep enn) ?_
                  intro _
                  refine Hd.nil ?_
                  refine Hd.slots [(0, _), (5, _), (6, _), (7, _), (9, _), (10, _), (11, _)] ⟨rfl, rfl, rfl, rfl, rfl, rfl, rfl, trivial⟩ ?_
                  refine Hd.inB ?_
                  clear hK1 hK2 hK3 hK4 hK6 hK7 hK8 hK9 hK10 hK11 hK13 hK14 hK15 hK16 hK17 hK18 hK19 hK20 hK21 hK22 hK23 hK24 hK25
                  refine Hd.thenN ?_
                  exact Hd.meet (cutQ x.id qs1, cutQ x.id qs2, remI x.id s, nx, delA af x.id, lim) (by repeat (first | exact trivial | refine ⟨rfl, ?_⟩)) (Ent.sep (.pure (by have h1 := remI_len s x.id; exact ⟨by show (remI x.id s).length ≤ _; omega, by show nx ≤ _; omega, haf.del x.id⟩) enn))
                ·
                  try simp only [decide_eq_true_eq, decide_eq_false_iff_not, Bool.and_eq_true, Bool.or_eq_true, Bool.and_eq_false_iff, Bool.or_eq_false_iff, Bool.not_eq_true', Bool.not_eq_false', Bool.not_eq_true, Bool.not_eq_false, Int.not_lt, Int.not_le, Decidable.not_not, ne_eq] at hc6
                  refine Hd.seq (fun K26 hK26 => ?_)
                  refine Hd.region ?_
                  first | (refine Hd.yv (y_eqlT rfl rfl) ?_) | (refine Hd.yv (y_eql rfl rfl) ?_)
                  refine Hd.yv (y_assign rfl) ?_
                  refine Hd.nil ?_
                  refine Hd.slots [(0, _), (5, _), (6, _), (7, _), (9, _), (10, _), (11, _), (59, _), (115, _)] ⟨rfl, rfl, rfl, rfl, rfl, rfl, rfl, rfl, rfl, trivial⟩ ?_
                  refine Hd.toK hK26 ?_
                  refine Hd.cond rfl (fun hc7 => ?_) (fun hc7 => ?_)
                  ·
                    try simp only [decide_eq_true_eq, decide_eq_false_iff_not, Bool.and_eq_true, Bool.or_eq_true, Bool.and_eq_false_iff, Bool.or_eq_false_iff, Bool.not_eq_true', Bool.not_eq_false', Bool.not_eq_true, Bool.not_eq_false, Int.not_lt, Int.not_le, Decidable.not_not, ne_eq] at hc7
                    refine Hd.drawsH ([pt b10 (encO x) 41]) (fun _ => true) mixed ?_
                    simp only [List.length, Nat.zero_add, Nat.reduceAdd]
                    refine Hd.takeH 0 rfl (by kernel_rfl) (by kernel_rfl) (by kernel_rfl) (by kernel_rfl) (y_move rfl) (fun _ _ => rfl) (Ent.sep enn) ?_
                    first | (refine Hd.takeH 1 rfl (by kernel_rfl) (by kernel_rfl) (by kernel_rfl) (by kernel_rfl) (y_field' (q := 2) (ft := 23) Try.underlying41 rfl sz23 rfl rfl) (fun _ _ => rfl) (Ent.sep enn) ?_) | (refine Hd.takeH 1 rfl (by kernel_rfl) (by kernel_rfl) (by kernel_rfl) (by kernel_rfl) (y_fieldR (q := 2) (ft := 23) Try.underlying41 rfl sz23 rfl rfl) (fun _ _ => rfl) (Ent.sep enn) ?_)
                    first | (refine Hd.takeH 2 rfl (by kernel_rfl) (by kernel_rfl) (by kernel_rfl) (by kernel_rfl) (y_load1 ag23 rfl (Rd.pt1 pkk (by (first | exact hyi | rfl)))) (fun _ _ => rfl) (Ent.sep enn) ?_) | (refine Hd.takeH 2 rfl (by kernel_rfl) (by kernel_rfl) (by kernel_rfl) (by kernel_rfl) (y_load1 ag23 rfl (Rd.seg1 pkk (by (first | exact hyi | rfl)))) (fun _ _ => rfl) (Ent.sep enn) ?_) | (refine Hd.takeH 2 rfl (by kernel_rfl) (by kernel_rfl) (by kernel_rfl) (by kernel_rfl) (y_loadR1 ag23 rfl (by (first | exact RdS.own pkk | exact RdS.mono hR (Ent.sep enn) | exact RdS.mono hR2 (Ent.sep enn))) (by (first | exact hyi | rfl))) (fun _ _ => rfl) (Ent.sep enn) ?_)
                    refine Hd.takeH 4 rfl (by kernel_rfl) (by kernel_rfl) (by kernel_rfl) (by kernel_rfl) (y_move rfl) (fun _ _ => rfl) (Ent.sep enn) ?_
                    first | (refine Hd.takeH 5 rfl (by kernel_rfl) (by kernel_rfl) (by kernel_rfl) (by kernel_rfl) (y_field' (q := 2) (ft := 23) Try.underlying41 rfl sz23 rfl rfl) (fun _ _ => rfl) (Ent.sep enn) ?_) | (refine Hd.takeH 5 rfl (by kernel_rfl) (by kernel_rfl) (by kernel_rfl) (by kernel_rfl) (y_fieldR (q := 2) (ft := 23) Try.underlying41 rfl sz23 rfl rfl) (fun _ _ => rfl) (Ent.sep enn) ?_)
                    first | (refine Hd.takeH 6 rfl (by kernel_rfl) (by kernel_rfl) (by kernel_rfl) (by kernel_rfl) (y_load1 ag23 rfl (Rd.pt1 pkk (by (first | exact hyi | rfl)))) (fun _ _ => rfl) (Ent.sep enn) ?_) | (refine Hd.takeH 6 rfl (by kernel_rfl) (by kernel_rfl) (by kernel_rfl) (by kernel_rfl) (y_load1 ag23 rfl (Rd.seg1 pkk (by (first | exact hyi | rfl)))) (fun _ _ => rfl) (Ent.sep enn) ?_) | (refine Hd.takeH 6 rfl (by kernel_rfl) (by kernel_rfl) (by kernel_rfl) (by kernel_rfl) (y_loadR1 ag23 rfl (by (first | exact RdS.own pkk | exact RdS.mono hR (Ent.sep enn) | exact RdS.mono hR2 (Ent.sep enn))) (by (first | exact hyi | rfl))) (fun _ _ => rfl) (Ent.sep enn) ?_)
                    refine Hd.onlyH 3 rfl (by kernel_rfl) ?_
                    refine Hd.callE rfl fk16 (tdue_ct _ o qs1 s nx af lim (by omega) x.now) (Ent.sep enn) ?_
                    rintro ⟨a1, c1⟩
                    dsimp only
                    refine Hd.nil ?_
                    refine Hd.thenN ?_
                    refine Hd.heldK (J := (fun _ => true)) (i := 3) (Ent.sep enn) ?_
                    refine Hd.onlyH 7 rfl (by kernel_rfl) ?_
                    refine Hd.callE rfl fk16 (tdue_ct _ p qs2 s nx af lim (by omega) x.now) (Ent.sep enn) ?_
                    rintro ⟨a2, c3⟩
                    dsimp only
                    have hdl : (du x.now s).length ≤ s.length := (List.takeWhile_sublist _).length_le
                    refine Hd.nil ?_
                    refine Hd.thenN ?_
                    refine Hd.heldK (J := (fun _ => true)) (i := 7) (Ent.sep enn) ?_
                    refine Hd.onlyH 8 rfl (by kernel_rfl) ?_
                    refine Hd.callE rfl fk23 (same_ct _ a1 (du x.now s).length c1 ((du x.now s).map It.id) (by rw [List.length_map]) (by omega) ?h1 a2 (du x.now s).length c3 ((du x.now s).map It.id) (by rw [List.length_map]) ?h2) (Ent.sep enn) ?_
                    case h1 => rw [← eN_eI]; exact RdS.own (ad := a1) pkk
                    case h2 => rw [← eN_eI]; exact RdS.own (ad := a2) pkk
                    intro bb
                    refine Hd.pure (fun hbb => ?_)
                    obtain rfl : bb = true := by rw [hbb]; simp
                    refine Hd.nil ?_
                    refine Hd.thenN ?_
                    refine Hd.heldK (J := (fun _ => true)) (i := 8) (Ent.sep enn) ?_
                    refine Hd.takeH 9 rfl (by kernel_rfl) (by kernel_rfl) (by kernel_rfl) (by kernel_rfl) (y_assign rfl) (fun _ _ => rfl) (Ent.sep enn) ?_
                    refine Hd.endH (by kernel_rfl) ?_
                    refine Hd.slots [(0, _), (5, _), (6, _), (7, _), (9, _), (10, _), (11, _)] ⟨rfl, rfl, rfl, rfl, rfl, rfl, rfl, trivial⟩ ?_
                    refine Hd.inB ?_
                    clear hK1 hK2 hK3 hK4 hK6 hK7 hK8 hK9 hK10 hK11 hK13 hK14 hK15 hK16 hK17 hK18 hK19 hK20 hK21 hK22 hK23 hK24 hK26
                    refine Hd.thenN ?_
                    exact Hd.meet (cutAll (du x.now s) qs1, cutAll (du x.now s) qs2, restI (min x.now 18446744073709551614) s, nx, af, lim) (by repeat (first | exact trivial | refine ⟨rfl, ?_⟩)) (Ent.sep (.pure (by have h1 := restI_len s (min x.now 18446744073709551614); exact ⟨by show (restI (min x.now 18446744073709551614) s).length ≤ _; omega, by show nx ≤ _; omega, haf⟩) enn))
                  ·
                    try simp only [decide_eq_true_eq, decide_eq_false_iff_not, Bool.and_eq_true, Bool.or_eq_true, Bool.and_eq_false_iff, Bool.or_eq_false_iff, Bool.not_eq_true', Bool.not_eq_false', Bool.not_eq_true, Bool.not_eq_false, Int.not_lt, Int.not_le, Decidable.not_not, ne_eq] at hc7
                    refine Hd.seq (fun K27 hK27 => ?_)
                    refine Hd.region ?_
                    first | (refine Hd.yv (y_eqlT rfl rfl) ?_) | (refine Hd.yv (y_eql rfl rfl) ?_)
                    refine Hd.yv (y_assign rfl) ?_
                    refine Hd.nil ?_
                    refine Hd.slots [(0, _), (5, _), (6, _), (7, _), (9, _), (10, _), (11, _), (126, _)] ⟨rfl, rfl, rfl, rfl, rfl, rfl, rfl, rfl, trivial⟩ ?_
                    refine Hd.toK hK27 ?_
                    refine Hd.cond rfl (fun hc8 => ?_) (fun hc8 => ?_)
                    ·
                      try simp only [decide_eq_true_eq, decide_eq_false_iff_not, Bool.and_eq_true, Bool.or_eq_true, Bool.and_eq_false_iff, Bool.or_eq_false_iff, Bool.not_eq_true', Bool.not_eq_false', Bool.not_eq_true, Bool.not_eq_false, Int.not_lt, Int.not_le, Decidable.not_not, ne_eq] at hc8
                      refine Hd.seq (fun K28 hK28 => ?_)
                      refine Hd.region ?_
                      refine Hd.yv (y_move rfl) ?_
                      first | (refine Hd.yv (y_field' (q := 3) (ft := 23) Try.underlying41 rfl sz23 rfl rfl) ?_) | (refine Hd.yv (y_fieldR (q := 3) (ft := 23) Try.underlying41 rfl sz23 rfl rfl) ?_)
                      first | (refine Hd.yv (y_load1 ag23 rfl (Rd.pt1 pkk (by (first | exact hyi | rfl)))) ?_) | (refine Hd.yv (y_load1 ag23 rfl (Rd.seg1 pkk (by (first | exact hyi | rfl)))) ?_) | (refine Hd.yv (y_loadR1 ag23 rfl (by (first | exact RdS.own pkk | exact RdS.mono hR (Ent.sep enn) | exact RdS.mono hR2 (Ent.sep enn))) (by (first | exact hyi | rfl))) ?_)
                      refine Hd.callE rfl fk12 (tlimit_ct _ o qs1 s nx af lim x.af hok.2) (Ent.sep enn) ?_
                      intro _
                      refine Hd.nil ?_
                      refine Hd.slots [(0, _), (5, _), (6, _), (7, _), (9, _), (10, _), (11, _)] ⟨rfl, rfl, rfl, rfl, rfl, rfl, rfl, trivial⟩ ?_
                      refine Hd.toK hK28 ?_
                      refine Hd.region ?_
                      refine Hd.yv (y_move rfl) ?_
                      first | (refine Hd.yv (y_field' (q := 3) (ft := 23) Try.underlying41 rfl sz23 rfl rfl) ?_) | (refine Hd.yv (y_fieldR (q := 3) (ft := 23) Try.underlying41 rfl sz23 rfl rfl) ?_)
                      first | (refine Hd.yv (y_load1 ag23 rfl (Rd.pt1 pkk (by (first | exact hyi | rfl)))) ?_) | (refine Hd.yv (y_load1 ag23 rfl (Rd.seg1 pkk (by (first | exact hyi | rfl)))) ?_) | (refine Hd.yv (y_loadR1 ag23 rfl (by (first | exact RdS.own pkk | exact RdS.mono hR (Ent.sep enn) | exact RdS.mono hR2 (Ent.sep enn))) (by (first | exact hyi | rfl))) ?_)
                      refine Hd.callE rfl fk12 (tlimit_ct _ p qs2 s nx af lim x.af hok.2) (Ent.sep enn) ?_
                      intro _
                      refine Hd.nil ?_
                      refine Hd.slots [(0, _), (5, _), (6, _), (7, _), (9, _), (10, _), (11, _)] ⟨rfl, rfl, rfl, rfl, rfl, rfl, rfl, trivial⟩ ?_
                      refine Hd.inB ?_
                      clear hK1 hK2 hK3 hK4 hK6 hK7 hK8 hK9 hK10 hK11 hK13 hK14 hK15 hK16 hK17 hK18 hK19 hK20 hK21 hK22 hK23 hK24 hK26 hK27 hK28
                      refine Hd.thenN ?_
                      exact Hd.meet (qs1, qs2, s, nx, af, x.af) (by repeat (first | exact trivial | refine ⟨rfl, ?_⟩)) (Ent.sep (.pure (by exact ⟨by show s.length ≤ _; omega, by show nx ≤ _; omega, haf⟩) enn))
                    ·
                      try simp only [decide_eq_true_eq, decide_eq_false_iff_not, Bool.and_eq_true, Bool.or_eq_true, Bool.and_eq_false_iff, Bool.or_eq_false_iff, Bool.not_eq_true', Bool.not_eq_false', Bool.not_eq_true, Bool.not_eq_false, Int.not_lt, Int.not_le, Decidable.not_not, ne_eq] at hc8
                      refine Hd.skip ?_
                      refine Hd.inB ?_
                      clear hK1 hK2 hK3 hK4 hK6 hK7 hK8 hK9 hK10 hK11 hK13 hK14 hK15 hK16 hK17 hK18 hK19 hK20 hK21 hK22 hK23 hK24 hK26 hK27
                      refine Hd.thenN ?_
                      exact Hd.meet (qs1, qs2, s, nx, af, lim) (by repeat (first | exact trivial | refine ⟨rfl, ?_⟩)) (Ent.sep (.pure (by exact ⟨by show s.length ≤ _; omega, by show nx ≤ _; omega, haf⟩) enn))
        ·
          rintro ⟨qa, qb, s2, n2, af2, lim2⟩
          refine Hd.pure (fun hs2 => ?_)
          dsimp only at hs2
          dsimp only
          refine Hd.seq (fun K29 hK29 => ?_)
          refine Hd.region ?_
          refine Hd.yv (y_move rfl) ?_
          first | (refine Hd.yv (y_field' (q := 2) (ft := 23) Try.underlying41 rfl sz23 rfl rfl) ?_) | (refine Hd.yv (y_fieldR (q := 2) (ft := 23) Try.underlying41 rfl sz23 rfl rfl) ?_)
          first | (refine Hd.yv (y_load1 ag23 rfl (Rd.pt1 pkk (by (first | exact hyi | rfl)))) ?_) | (refine Hd.yv (y_load1 ag23 rfl (Rd.seg1 pkk (by (first | exact hyi | rfl)))) ?_) | (refine Hd.yv (y_loadR1 ag23 rfl (by (first | exact RdS.own pkk | exact RdS.mono hR (Ent.sep enn) | exact RdS.mono hR2 (Ent.sep enn))) (by (first | exact hyi | rfl))) ?_)
          first | (refine Hd.yv (y_field' (q := 4) (ft := 4) Try.underlying41 rfl sz4 rfl rfl) ?_) | (refine Hd.yv (y_fieldR (q := 4) (ft := 4) Try.underlying41 rfl sz4 rfl rfl) ?_)
          first | (refine Hd.yv (y_load1 ag4 rfl (Rd.pt1 pkk (by (first | exact hyi | rfl)))) ?_) | (refine Hd.yv (y_load1 ag4 rfl (Rd.seg1 pkk (by (first | exact hyi | rfl)))) ?_) | (refine Hd.yv (y_loadR1 ag4 rfl (by (first | exact RdS.own pkk | exact RdS.mono hR (Ent.sep enn) | exact RdS.mono hR2 (Ent.sep enn))) (by (first | exact hyi | rfl))) ?_)
          refine Hd.callE rfl fk14 (twait_ct _ o qa s2 n2 af2 lim2 x.now hok.1 x.busy) (Ent.sep enn) ?_
          intro _
          refine Hd.yv (y_move rfl) ?_
          refine Hd.yv (y_extract rfl rfl) ?_
          refine Hd.yv (y_extract rfl rfl) ?_
          refine Hd.yv (y_assign rfl) ?_
          refine Hd.yv (y_assign rfl) ?_
          refine Hd.nil ?_
          refine Hd.slots [(0, _), (5, _), (6, _), (7, _), (9, _), (10, _), (11, _), (12, _), (13, _)] ⟨rfl, rfl, rfl, rfl, rfl, rfl, rfl, rfl, rfl, trivial⟩ ?_
          refine Hd.toK hK29 ?_
          refine Hd.seq (fun K30 hK30 => ?_)
          refine Hd.region ?_
          refine Hd.yv (y_move rfl) ?_
          first | (refine Hd.yv (y_field' (q := 2) (ft := 23) Try.underlying41 rfl sz23 rfl rfl) ?_) | (refine Hd.yv (y_fieldR (q := 2) (ft := 23) Try.underlying41 rfl sz23 rfl rfl) ?_)
          first | (refine Hd.yv (y_load1 ag23 rfl (Rd.pt1 pkk (by (first | exact hyi | rfl)))) ?_) | (refine Hd.yv (y_load1 ag23 rfl (Rd.seg1 pkk (by (first | exact hyi | rfl)))) ?_) | (refine Hd.yv (y_loadR1 ag23 rfl (by (first | exact RdS.own pkk | exact RdS.mono hR (Ent.sep enn) | exact RdS.mono hR2 (Ent.sep enn))) (by (first | exact hyi | rfl))) ?_)
          first | (refine Hd.yv (y_field' (q := 4) (ft := 4) Try.underlying41 rfl sz4 rfl rfl) ?_) | (refine Hd.yv (y_fieldR (q := 4) (ft := 4) Try.underlying41 rfl sz4 rfl rfl) ?_)
          first | (refine Hd.yv (y_load1 ag4 rfl (Rd.pt1 pkk (by (first | exact hyi | rfl)))) ?_) | (refine Hd.yv (y_load1 ag4 rfl (Rd.seg1 pkk (by (first | exact hyi | rfl)))) ?_) | (refine Hd.yv (y_loadR1 ag4 rfl (by (first | exact RdS.own pkk | exact RdS.mono hR (Ent.sep enn) | exact RdS.mono hR2 (Ent.sep enn))) (by (first | exact hyi | rfl))) ?_)
          refine Hd.callE rfl fk14 (twait_ct _ p qb s2 n2 af2 lim2 x.now hok.1 x.busy) (Ent.sep enn) ?_
          intro _
          refine Hd.yv (y_move rfl) ?_
          refine Hd.yv (y_extract rfl rfl) ?_
          refine Hd.yv (y_extract rfl rfl) ?_
          refine Hd.yv (y_assign rfl) ?_
          refine Hd.yv (y_assign rfl) ?_
          refine Hd.nil ?_
          refine Hd.slots [(0, _), (5, _), (6, _), (7, _), (9, _), (10, _), (11, _), (12, _), (13, _), (14, _), (15, _)] ⟨rfl, rfl, rfl, rfl, rfl, rfl, rfl, rfl, rfl, rfl, rfl, trivial⟩ ?_
          refine Hd.toK hK30 ?_
          refine Hd.seq (fun K31 hK31 => ?_)
          refine Hd.region ?_
          refine Hd.yv (y_move rfl) ?_
          first | (refine Hd.yv (y_field' (q := 1) (ft := 3) Try.underlying41 rfl sz3 rfl rfl) ?_) | (refine Hd.yv (y_fieldR (q := 1) (ft := 3) Try.underlying41 rfl sz3 rfl rfl) ?_)
          first | (refine Hd.yv (y_load1 ag3 rfl (Rd.pt1 pkk (by (first | exact hyi | rfl)))) ?_) | (refine Hd.yv (y_load1 ag3 rfl (Rd.seg1 pkk (by (first | exact hyi | rfl)))) ?_) | (refine Hd.yv (y_loadR1 ag3 rfl (by (first | exact RdS.own pkk | exact RdS.mono hR (Ent.sep enn) | exact RdS.mono hR2 (Ent.sep enn))) (by (first | exact hyi | rfl))) ?_)
          first | (refine Hd.yv (y_field' (q := 2) (ft := 23) Try.underlying41 rfl sz23 rfl rfl) ?_) | (refine Hd.yv (y_fieldR (q := 2) (ft := 23) Try.underlying41 rfl sz23 rfl rfl) ?_)
          first | (refine Hd.yv (y_load1 ag23 rfl (Rd.pt1 pkk (by (first | exact hyi | rfl)))) ?_) | (refine Hd.yv (y_load1 ag23 rfl (Rd.seg1 pkk (by (first | exact hyi | rfl)))) ?_) | (refine Hd.yv (y_loadR1 ag23 rfl (by (first | exact RdS.own pkk | exact RdS.mono hR (Ent.sep enn) | exact RdS.mono hR2 (Ent.sep enn))) (by (first | exact hyi | rfl))) ?_)
          refine Hd.callE rfl fk18 (tleft_ct _ o qa s2 n2 af2 lim2 x.id x.now hok.1) (Ent.sep enn) ?_
          intro _
          refine Hd.yv (y_move rfl) ?_
          refine Hd.yv (y_extract rfl rfl) ?_
          refine Hd.yv (y_extract rfl rfl) ?_
          refine Hd.yv (y_assign rfl) ?_
          refine Hd.yv (y_assign rfl) ?_
          refine Hd.nil ?_
          refine Hd.slots [(0, _), (5, _), (6, _), (7, _), (9, _), (10, _), (11, _), (12, _), (13, _), (14, _), (15, _), (16, _), (17, _)] ⟨rfl, rfl, rfl, rfl, rfl, rfl, rfl, rfl, rfl, rfl, rfl, rfl, rfl, trivial⟩ ?_
          refine Hd.toK hK31 ?_
          refine Hd.seq (fun K32 hK32 => ?_)
          refine Hd.region ?_
          refine Hd.yv (y_move rfl) ?_
          first | (refine Hd.yv (y_field' (q := 1) (ft := 3) Try.underlying41 rfl sz3 rfl rfl) ?_) | (refine Hd.yv (y_fieldR (q := 1) (ft := 3) Try.underlying41 rfl sz3 rfl rfl) ?_)
          first | (refine Hd.yv (y_load1 ag3 rfl (Rd.pt1 pkk (by (first | exact hyi | rfl)))) ?_) | (refine Hd.yv (y_load1 ag3 rfl (Rd.seg1 pkk (by (first | exact hyi | rfl)))) ?_) | (refine Hd.yv (y_loadR1 ag3 rfl (by (first | exact RdS.own pkk | exact RdS.mono hR (Ent.sep enn) | exact RdS.mono hR2 (Ent.sep enn))) (by (first | exact hyi | rfl))) ?_)
          first | (refine Hd.yv (y_field' (q := 2) (ft := 23) Try.underlying41 rfl sz23 rfl rfl) ?_) | (refine Hd.yv (y_fieldR (q := 2) (ft := 23) Try.underlying41 rfl sz23 rfl rfl) ?_)
          first | (refine Hd.yv (y_load1 ag23 rfl (Rd.pt1 pkk (by (first | exact hyi | rfl)))) ?_) | (refine Hd.yv (y_load1 ag23 rfl (Rd.seg1 pkk (by (first | exact hyi | rfl)))) ?_) | (refine Hd.yv (y_loadR1 ag23 rfl (by (first | exact RdS.own pkk | exact RdS.mono hR (Ent.sep enn) | exact RdS.mono hR2 (Ent.sep enn))) (by (first | exact hyi | rfl))) ?_)
          refine Hd.callE rfl fk18 (tleft_ct _ p qb s2 n2 af2 lim2 x.id x.now hok.1) (Ent.sep enn) ?_
          intro _
          refine Hd.yv (y_move rfl) ?_
          refine Hd.yv (y_extract rfl rfl) ?_
          refine Hd.yv (y_extract rfl rfl) ?_
          refine Hd.yv (y_assign rfl) ?_
          refine Hd.yv (y_assign rfl) ?_
          refine Hd.nil ?_
          refine Hd.slots [(0, _), (5, _), (6, _), (7, _), (9, _), (11, _), (12, _), (13, _), (14, _), (15, _), (16, _), (17, _), (18, _), (19, _)] ⟨rfl, rfl, rfl, rfl, rfl, rfl, rfl, rfl, rfl, rfl, rfl, rfl, rfl, rfl, trivial⟩ ?_
          refine Hd.toK hK32 ?_
          refine Hd.seq (fun K33 hK33 => ?_)
          refine Hd.region ?_
          refine Hd.yv (y_move rfl) ?_
          refine Hd.yv (y_not rfl) ?_
          refine Hd.yv (y_move rfl) ?_
          refine Hd.yg rfl rfl (y_move rfl) ?_
          refine Hd.yg rfl rfl (y_move rfl) ?_
          refine Hd.yg rfl rfl (y_to (y_neq rfl rfl) (congrArg Value.bool (decide_eq_false ((fun h => h rfl))))) ?_
          first | (refine Hd.yv (y_pickT rfl rfl) ?_) | (refine Hd.yv (y_pickF rfl rfl) ?_) | (refine Hd.yv (y_pickb rfl rfl rfl) ?_) | (refine Hd.yv (y_pick rfl rfl rfl) ?_)
          refine Hd.yv (y_move rfl) ?_
          refine Hd.yg rfl rfl (y_move rfl) ?_
          refine Hd.yg rfl rfl (y_move rfl) ?_
          refine Hd.yg rfl rfl (y_to (v' := .bool false) (y_neqb Try.underlying4 rfl rfl) (by simp)) ?_
          first | (refine Hd.yv (y_pickT rfl rfl) ?_) | (refine Hd.yv (y_pickF rfl rfl) ?_) | (refine Hd.yv (y_pickb rfl rfl rfl) ?_) | (refine Hd.yv (y_pick rfl rfl rfl) ?_)
          refine Hd.yv (y_move rfl) ?_
          refine Hd.yg rfl rfl (y_move rfl) ?_
          refine Hd.yg rfl rfl (y_move rfl) ?_
          refine Hd.yg rfl rfl (y_to (y_neq rfl rfl) (congrArg Value.bool (decide_eq_false ((fun h => h rfl))))) ?_
          first | (refine Hd.yv (y_pickT rfl rfl) ?_) | (refine Hd.yv (y_pickF rfl rfl) ?_) | (refine Hd.yv (y_pickb rfl rfl rfl) ?_) | (refine Hd.yv (y_pick rfl rfl rfl) ?_)
          refine Hd.yv (y_move rfl) ?_
          refine Hd.yg rfl rfl (y_move rfl) ?_
          refine Hd.yg rfl rfl (y_move rfl) ?_
          refine Hd.yg rfl rfl (y_to (v' := .bool false) (y_neqb Try.underlying4 rfl rfl) (by simp)) ?_
          first | (refine Hd.yv (y_pickT rfl rfl) ?_) | (refine Hd.yv (y_pickF rfl rfl) ?_) | (refine Hd.yv (y_pickb rfl rfl rfl) ?_) | (refine Hd.yv (y_pick rfl rfl rfl) ?_)
          refine Hd.yv (y_move rfl) ?_
          refine Hd.yg rfl rfl (y_move rfl) ?_
          refine Hd.unguard rfl rfl ?_
          refine Hd.callE rfl fk15 (tlen_ct _ o qa s2 n2 af2 lim2) (Ent.sep enn) ?_
          intro _
          refine Hd.yg rfl rfl (y_move rfl) ?_
          refine Hd.unguard rfl rfl ?_
          refine Hd.callE rfl fk15 (tlen_ct _ p qb s2 n2 af2 lim2) (Ent.sep enn) ?_
          intro _
          refine Hd.yg rfl rfl (y_to (y_neq rfl rfl) (congrArg Value.bool (decide_eq_false ((fun h => h rfl))))) ?_
          first | (refine Hd.yv (y_pickT rfl rfl) ?_) | (refine Hd.yv (y_pickF rfl rfl) ?_) | (refine Hd.yv (y_pickb rfl rfl rfl) ?_) | (refine Hd.yv (y_pick rfl rfl rfl) ?_)
          refine Hd.nil ?_
          refine Hd.slots [(0, _), (5, _), (6, _), (7, _), (9, _), (200, _)] ⟨rfl, rfl, rfl, rfl, rfl, rfl, trivial⟩ ?_
          refine Hd.toK hK33 ?_
          refine Hd.condF rfl ?_
          refine Hd.skip ?_
          refine Hd.inB ?_
          refine Hd.toK hK17 ?_
          refine Hd.region ?_
          refine Hd.yv (y_move rfl) ?_
          first | (refine Hd.yv (y_addn rfl rfl (by simp only [InK]; omega)) ?_) | (refine Hd.yv (y_add rfl rfl) ?_)
          refine Hd.yv (y_assign rfl) ?_
          refine Hd.nil ?_
          refine Hd.slots [(0, _), (5, _), (6, _), (7, _), (9, _)] ⟨rfl, rfl, rfl, rfl, rfl, trivial⟩ ?_
          clear hK1 hK2 hK3 hK4 hK6 hK7 hK8 hK9 hK10 hK11 hK13 hK14 hK15 hK16 hK17 hK18 hK19 hK29 hK30 hK31 hK32 hK33
          refine Hd.thenN ?_
          exact Hd.again (i + 1, qa, qb, s2, n2, af2, lim2) (by first | omega | (simp only; omega) | (simp; omega)) (by repeat (first | exact trivial | refine ⟨rfl, ?_⟩)) (Ent.sep (.pure ⟨hi, by show s2.length ≤ i + 1; omega, by show n2 ≤ ((i + 1 : Nat) : Int); omega, hs2.2.2⟩ enn))
      ·
        try simp only [decide_eq_true_eq, decide_eq_false_iff_not, Bool.and_eq_true, Bool.or_eq_true, Bool.and_eq_false_iff, Bool.or_eq_false_iff, Bool.not_eq_true', Bool.not_eq_false', Bool.not_eq_true, Bool.not_eq_false, Int.not_lt, Int.not_le, Decidable.not_not, ne_eq] at hc2
        refine Hd.exit ?_
        refine Hd.thenExit ?_
        refine Hd.thenExit ?_
        refine Hd.inBexit ?_
        refine Hd.toK hK13 ?_
        refine Hd.seq (fun K34 hK34 => ?_)
        refine Hd.region ?_
        refine Hd.yv (y_move rfl) ?_
        refine Hd.yv (y_assign rfl) ?_
        refine Hd.nil ?_
        refine Hd.slots [(4, _)] ⟨rfl, trivial⟩ ?_
        refine Hd.toK hK34 ?_
        refine Hd.ret ?_
        clear hK1 hK2 hK3 hK4 hK6 hK7 hK8 hK9 hK10 hK11 hK13 hK14 hK15 hK16 hK34
        exact Hd.ret1 rfl () (by first | rfl | (simp only [*]; done) | (simp [*]; done)) (Ent.sep enn)
end Tm
end Go.Proofs.Ytdjoofidicoimaa
