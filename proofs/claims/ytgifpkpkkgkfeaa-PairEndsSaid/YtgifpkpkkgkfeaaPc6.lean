/-
  The law PairEnds answers true.
-/
import Derived.Test.YtgifpkpkkgkfeaaPc2
import Derived.Test.YtgifpkpkkgkfeaaPc5
import Derived.Test.YtgifpkpkkgkfeaaRxG
namespace Go.Proofs.Ytgifpkpkkgkfeaa
set_option linter.unusedSimpArgs false
set_option linter.unusedVariables false
set_option linter.unnecessarySimpa false
open Go.RX Fx
namespace Pa
open Bc
set_option maxRecDepth 8000
abbrev Highs (A : Nat → AE) : Nat → Int := fun j => (A j).high
abbrev Fins (A : Nat → AE) : Nat → Bool := fun j => (A j).fin
/-- who was told, while the first n are looked at -/
abbrev tls (A A2 : Nat → AE) (n : Nat) : Nat → Bool := fun j => if j < n then (A2 j).tol else (A j).tol
theorem tls_next {A A2 : Nat → AE} {q : Nat} {ev : Int} (hq : q < 2) (ht : tls A A2 q q = (A q).tol) (hd : (A2 q).tol = ((A q).tol || decide (ev ≠ 0))) : ∀ n, n < 2 → upd (tls A A2 q) q (tls A A2 q q || decide (ev ≠ 0)) n = tls A A2 (q + 1) n := fun n hn => by
  rcases two_cases hq hn with rfl | ⟨e1, e2, e3⟩
  · rw [upd_same, ht, ← hd]; exact (if_pos (Nat.lt_succ_self n)).symm
  · rw [upd_ne e3]
    show (if n < q then _ else _) = (if n < q + 1 then _ else _)
    by_cases h : n < q
    · rw [if_pos h, if_pos (by omega)]
    · rw [if_neg h, if_neg (by omega)]
set_option maxHeartbeats 2000000 in
theorem ends8_ct (L : List SP) (ad : Option Addr) (c : Nat) (xs : List Cv) (hR : RdS L 6 ad xs.length (xs.flatMap encC)) (hok : ∀ o ∈ xs, CvOk L o) : Ct Try.prog 13 #[.slice ad xs.length c] (L) (fun _ : Unit => .bool true) (fun _ : Unit => L) := by
  refine Ct.of (vs := [.slice ad xs.length c]) Try.func13 rfl rfl [(0, .slice ad xs.length c)] (by repeat (first | exact trivial | refine ⟨rfl, ?_⟩)) ?_
  intro E
  show Hd E 209 _ _ _ _
  refine Hd.seq (fun K1 hK1 => ?_)
  refine Hd.region ?_
  refine Hd.yv (y_assign rfl) ?_
  refine Hd.nil ?_
  refine Hd.slots [(0, _)] ⟨rfl, trivial⟩ ?_
  refine Hd.toK hK1 ?_
  refine Hd.seq (fun K2 hK2 => ?_)
  refine Hd.region ?_
  refine Hd.callE rfl fk41 (alive8_ct _) (Ent.sep enn) ?_
  intro _
  refine Hd.yv (y_assign rfl) ?_
  refine Hd.nil ?_
  refine Hd.slots [(0, _), (3, _)] ⟨rfl, rfl, trivial⟩ ?_
  refine Hd.toK hK2 ?_
  refine Hd.seq (fun K3 hK3 => ?_)
  refine Hd.seq (fun K4 hK4 => ?_)
  refine Hd.region ?_
  refine Hd.yv (y_move rfl) ?_
  refine Hd.callE rfl fk42 (great8_ct _ ad c xs ?hD) (Ent.sep enn) ?_
  case hD => exact RdS.mono hR (Ent.sep enn)
  intro g
  refine Hd.pure (fun hgr => ?_)
  refine Hd.yv (y_gtr rfl rfl) ?_
  refine Hd.yv (y_move rfl) ?_
  apply Hd.org 3 22 25 [(0, _), (3, _)] rfl ⟨rfl, rfl, trivial⟩
  · intro hg2_22
    try simp only [decide_eq_true_eq, decide_eq_false_iff_not, Bool.and_eq_true, Bool.or_eq_true, Bool.and_eq_false_iff, Bool.or_eq_false_iff, Bool.not_eq_true', Bool.not_eq_false', Bool.not_eq_true, Bool.not_eq_false, Int.not_lt, Int.not_le, Decidable.not_not, ne_eq] at hg2_22
    simp only [List.take]
    refine Hd.ng rfl rfl rfl ?_
    refine Hd.ng rfl rfl rfl ?_
    first | (refine Hd.yv (y_pickT rfl rfl) ?_) | (refine Hd.yv (y_pickF rfl rfl) ?_) | (refine Hd.yv (y_pickb rfl rfl rfl) ?_) | (refine Hd.yv (y_pick rfl rfl rfl) ?_)
    refine Hd.nil ?_
    exact Hd.mend (by repeat (first | exact trivial | refine ⟨rfl, ?_⟩)) (Ent.sep enn)
  · intro hg2_22
    try simp only [decide_eq_true_eq, decide_eq_false_iff_not, Bool.and_eq_true, Bool.or_eq_true, Bool.and_eq_false_iff, Bool.or_eq_false_iff, Bool.not_eq_true', Bool.not_eq_false', Bool.not_eq_true, Bool.not_eq_false, Int.not_lt, Int.not_le, Decidable.not_not, ne_eq] at hg2_22
    simp only [List.take]
    refine Hd.yg rfl rfl (y_move rfl) ?_
    refine Hd.yg rfl rfl (y_not rfl) ?_
    first | (refine Hd.yv (y_pickT rfl rfl) ?_) | (refine Hd.yv (y_pickF rfl rfl) ?_) | (refine Hd.yv (y_pickb rfl rfl rfl) ?_) | (refine Hd.yv (y_pick rfl rfl rfl) ?_)
    refine Hd.nil ?_
    exact Hd.mend (by repeat (first | exact trivial | refine ⟨rfl, ?_⟩)) (Ent.sep enn)
  simp only [List.drop]
  refine Hd.nil ?_
  refine Hd.slots [(0, _), (3, _), (25, _)] ⟨rfl, rfl, rfl, trivial⟩ ?_
  refine Hd.toK hK4 ?_
  refine Hd.cond rfl (fun hc0 => ?_) (fun hc0 => ?_)
  ·
    try simp only [decide_eq_true_eq, decide_eq_false_iff_not, Bool.and_eq_true, Bool.or_eq_true, Bool.and_eq_false_iff, Bool.or_eq_false_iff, Bool.not_eq_true', Bool.not_eq_false', Bool.not_eq_true, Bool.not_eq_false, Int.not_lt, Int.not_le, Decidable.not_not, ne_eq] at hc0
    refine Hd.seq (fun K5 hK5 => ?_)
    refine Hd.region ?_
    refine Hd.yv (y_move rfl) ?_
    refine Hd.yv (y_assign rfl) ?_
    refine Hd.nil ?_
    refine Hd.slots [(2, _)] ⟨rfl, trivial⟩ ?_
    refine Hd.toK hK5 ?_
    refine Hd.ret ?_
    refine Hd.thenRet ?_
    clear hK1 hK2 hK3 hK4 hK5
    exact Hd.ret1 rfl () (by first | rfl | (simp only [*]; done) | (simp [*]; done)) (Ent.sep enn)
  ·
    try simp only [decide_eq_true_eq, decide_eq_false_iff_not, Bool.and_eq_true, Bool.or_eq_true, Bool.and_eq_false_iff, Bool.or_eq_false_iff, Bool.not_eq_true', Bool.not_eq_false', Bool.not_eq_true, Bool.not_eq_false, Int.not_lt, Int.not_le, Decidable.not_not, ne_eq] at hc0
    have hgr2 := hgr (by simpa using hc0)
    obtain ⟨hx, hbs⟩ := hgr2
    refine Hd.skip ?_
    refine Hd.toK hK3 ?_
    refine Hd.seq (fun K6 hK6 => ?_)
    refine Hd.region ?_
    refine Hd.callE rfl fk32 (newA _) (Ent.sep enn) ?_
    intro bp
    refine Hd.yv (y_assign rfl) ?_
    refine Hd.nil ?_
    refine Hd.slots [(0, _), (3, _), (4, _)] ⟨rfl, rfl, rfl, trivial⟩ ?_
    refine Hd.toK hK6 ?_
    refine Hd.seq (fun K7 hK7 => ?_)
    refine Hd.region ?_
    refine Hd.alloc zr95 (fun b5 => ?_)
    refine Hd.nil ?_
    refine Hd.slots [(0, _), (3, _), (4, _), (5, _)] ⟨rfl, rfl, rfl, rfl, trivial⟩ ?_
    refine Hd.toK hK7 ?_
    refine Hd.seq (fun K8 hK8 => ?_)
    refine Hd.region ?_
    refine Hd.alloc zr96 (fun b6 => ?_)
    refine Hd.nil ?_
    refine Hd.slots [(0, _), (3, _), (4, _), (5, _), (6, _)] ⟨rfl, rfl, rfl, rfl, rfl, trivial⟩ ?_
    refine Hd.toK hK8 ?_
    refine Hd.seq (fun K9 hK9 => ?_)
    refine Hd.region ?_
    refine Hd.alloc zr96 (fun b7 => ?_)
    refine Hd.nil ?_
    refine Hd.slots [(0, _), (3, _), (4, _), (5, _), (6, _), (7, _)] ⟨rfl, rfl, rfl, rfl, rfl, rfl, trivial⟩ ?_
    refine Hd.toK hK9 ?_
    refine Hd.seq (fun K10 hK10 => ?_)
    refine Hd.seq (fun K11 hK11 => ?_)
    refine Hd.region ?_
    refine Hd.yv (y_assign rfl) ?_
    refine Hd.nil ?_
    refine Hd.slots [(0, _), (3, _), (4, _), (5, _), (6, _), (7, _), (8, _)] ⟨rfl, rfl, rfl, rfl, rfl, rfl, rfl, trivial⟩ ?_
    refine Hd.toK hK11 ?_
    refine Hd.block ?_
    refine Hd.loopK (ι := Nat × (Nat → AE)) [(0, _), (3, _), (4, _), (5, _), (6, _), (7, _)] (fun q_ => [(8, .int .i64 (q_.1 : Int))]) (fun q_ => pu (q_.1 ≤ xs.length ∧ InvE q_.2) :: PrA bp q_.2 :: pt b5 (encI2 (Highs q_.2)) 95 :: pt b6 (encB2 (Fins q_.2)) 96 :: pt b7 (encB2 (tls q_.2 q_.2 0)) 96 :: L) (fun q_ => xs.length - q_.1) (0, (fun _ => ae0)) (by repeat (first | exact trivial | refine ⟨rfl, ?_⟩)) (by repeat (first | exact trivial | refine ⟨rfl, ?_⟩)) (Ent.sep (.pure ⟨Nat.zero_le _, (fun _ _ h => by cases h)⟩ (show Ent _ (PrA bp (fun _ => ae0) :: pt b5 [.int .i64 0, .int .i64 0] 95 :: pt b6 [.bool false, .bool false] 96 :: pt b7 [.bool false, .bool false] 96 :: L) from enn))) ?_
    rintro ⟨i, A⟩
    try dsimp only
    refine Hd.pure (fun hp0 => ?_)
    try dsimp only at hp0
    refine Hd.seq (fun K12 hK12 => ?_)
    refine Hd.seq (fun K13 hK13 => ?_)
    refine Hd.region ?_
    refine Hd.yv (y_move rfl) ?_
    refine Hd.yv (y_move rfl) ?_
    refine Hd.yv (y_len Try.underlying75 rfl) ?_
    refine Hd.yv (y_lss rfl rfl) ?_
    refine Hd.nil ?_
    refine Hd.slots [(0, _), (3, _), (4, _), (5, _), (6, _), (7, _), (8, _), (31, _)] ⟨rfl, rfl, rfl, rfl, rfl, rfl, rfl, rfl, trivial⟩ ?_
    refine Hd.toK hK13 ?_
    refine Hd.cond rfl (fun hc1 => ?_) (fun hc1 => ?_)
    ·
      try simp only [decide_eq_true_eq, decide_eq_false_iff_not, Bool.and_eq_true, Bool.or_eq_true, Bool.and_eq_false_iff, Bool.or_eq_false_iff, Bool.not_eq_true', Bool.not_eq_false', Bool.not_eq_true, Bool.not_eq_false, Int.not_lt, Int.not_le, Decidable.not_not, ne_eq] at hc1
      obtain ⟨_, hI⟩ := hp0
      have hi : i < xs.length := by omega
      obtain ⟨o, ho⟩ : ∃ o, xs[i]? = some o := ⟨_, List.getElem?_eq_getElem hi⟩
      have hoo := hok o (List.mem_of_getElem? ho)
      have hbo := hbs o (List.mem_of_getElem? ho)
      have hon := hoo.n
      obtain ⟨n, hn⟩ : ∃ n, n = kOf o.k := ⟨_, rfl⟩
      have hn2 : n < 2 := by rw [hn]; exact kOf_lt _
      refine Hd.skip ?_
      refine Hd.toK hK12 ?_
      refine Hd.seq (fun K14 hK14 => ?_)
      refine Hd.block ?_
      refine Hd.seq (fun K15 hK15 => ?_)
      refine Hd.region ?_
      refine Hd.yv (y_move rfl) ?_
      refine Hd.yv (y_move rfl) ?_
      first | (refine Hd.yv (y_idxS Try.underlying75 sz80 rfl rfl (by first | omega | decide)) ?_) | (refine Hd.yv (y_idxR Try.underlying75 sz80 rfl rfl (by first | omega | decide) (by (first | exact RdS.own pkk | exact RdS.mono hR (Ent.sep enn) | exact RdS.mono hoo.rd (Ent.sep enn)))) ?_)
      refine Hd.yv (y_loadRn (vs := [_, _, _, _, _, _]) ag80 rfl (RdS.mono hR (Ent.sep enn)) (flat_cells encC 6 (fun _ => rfl) ho) (by exact sz80) (by simp)) ?_
      refine Hd.alloc zr80 (fun b9 => ?_)
      refine Hd.storeA (us := encC o) sz80 rfl rfl rfl (by simp [Value.oneCell']) pkk (by exact rfl) ?_
      refine Hd.nil ?_
      refine Hd.slots [(0, _), (3, _), (4, _), (5, _), (6, _), (7, _), (8, _), (9, _)] ⟨rfl, rfl, rfl, rfl, rfl, rfl, rfl, rfl, trivial⟩ ?_
      refine Hd.toK hK15 ?_
      refine Hd.seq (fun K16 hK16 => ?_)
      refine Hd.region ?_
      first | (refine Hd.yv (y_field' (q := 1) (ft := 3) Try.underlying80 rfl sz3 rfl rfl) ?_) | (refine Hd.yv (y_fieldR (q := 1) (ft := 3) Try.underlying80 rfl sz3 rfl rfl) ?_)
      first | (refine Hd.yv (y_load1 ag3 rfl (Rd.pt1 pkk (by (first | exact encI2_at hn2 | exact encB2_at hq2 | exact encI2_at hq2 | exact encB2_at hr2 | exact told_at hq2 2 (by omega) | exact told_at hq2 4 (by omega) | exact told_at hr2 5 (by omega) | rfl)))) ?_) | (refine Hd.yv (y_load1 ag3 rfl (Rd.seg1 pkk (by (first | exact encI2_at hn2 | exact encB2_at hq2 | exact encI2_at hq2 | exact encB2_at hr2 | exact told_at hq2 2 (by omega) | exact told_at hq2 4 (by omega) | exact told_at hr2 5 (by omega) | rfl)))) ?_) | (refine Hd.yv (y_loadR1 ag3 rfl (by (first | exact RdS.own pkk | exact RdS.mono hR (Ent.sep enn) | exact RdS.mono hoo.rd (Ent.sep enn))) (by (first | exact encI2_at hn2 | exact encB2_at hq2 | exact encI2_at hq2 | exact encB2_at hr2 | exact told_at hq2 2 (by omega) | exact told_at hq2 4 (by omega) | exact told_at hr2 5 (by omega) | rfl))) ?_)
      refine Hd.yv (y_rem rfl rfl (by decide)) ?_
      refine Hd.yv (y_addn rfl rfl (by have h1 := Int.tmod_lt_of_pos o.k (show (0 : Int) < 2 by decide); have h2 := Int.lt_tmod_of_pos o.k (show (0 : Int) < 2 by decide); simp only [InK]; omega)) ?_
      refine Hd.yv (y_rem rfl rfl (by decide)) ?_
      refine Hd.yv (y_assign rfl) ?_
      refine Hd.nil ?_
      refine Hd.name (b := (n : Int)) 10 rfl (by have h2 := Int.lt_tmod_of_pos o.k (show (0 : Int) < 2 by decide); have h3 := Int.tmod_nonneg 2 (show 0 ≤ o.k.tmod 2 + 2 by omega); rw [hn]; unfold kOf; omega) ?_
      refine Hd.slots [(0, _), (3, _), (4, _), (5, _), (6, _), (7, _), (8, _), (9, _), (10, _)] ⟨rfl, rfl, rfl, rfl, rfl, rfl, rfl, rfl, rfl, trivial⟩ ?_
      refine Hd.toK hK16 ?_
      refine Hd.seq (fun K17 hK17 => ?_)
      refine Hd.region ?_
      refine Hd.alloc zr69 (fun b11 => ?_)
      refine Hd.nil ?_
      refine Hd.slots [(0, _), (3, _), (4, _), (5, _), (6, _), (7, _), (8, _), (9, _), (10, _), (11, _)] ⟨rfl, rfl, rfl, rfl, rfl, rfl, rfl, rfl, rfl, rfl, trivial⟩ ?_
      refine Hd.toK hK17 ?_
      refine Hd.cutK (ι := AS) [(0, _), (3, _), (4, _), (5, _), (6, _), (7, _), (8, _), (9, _), (11, _)] (fun _ => []) (fun S => pu (EndsR (o.kind = 6) A S) :: PrA bp S.e :: pt b5 (encI2 (Highs S.e)) 95 :: pt b6 (encB2 (Fins S.e)) 96 :: pt b7 (encB2 (tls A A 0)) 96 :: pt b9 (encC o) 80 :: pt b11 (encT (S.t 0) ++ encT (S.t 1)) 69 :: L) ?_ ?_ ⟨rfl, rfl, rfl, rfl, rfl, rfl, rfl, rfl, rfl, trivial⟩
      ·
        refine Hd.seq (fun K18 hK18 => ?_)
        refine Hd.region ?_
        first | (refine Hd.yv (y_field' (q := 0) (ft := 3) Try.underlying80 rfl sz3 rfl rfl) ?_) | (refine Hd.yv (y_fieldR (q := 0) (ft := 3) Try.underlying80 rfl sz3 rfl rfl) ?_)
        first | (refine Hd.yv (y_load1 ag3 rfl (Rd.pt1 pkk (by (first | exact encI2_at hn2 | exact encB2_at hq2 | exact encI2_at hq2 | exact encB2_at hr2 | exact told_at hq2 2 (by omega) | exact told_at hq2 4 (by omega) | exact told_at hr2 5 (by omega) | rfl)))) ?_) | (refine Hd.yv (y_load1 ag3 rfl (Rd.seg1 pkk (by (first | exact encI2_at hn2 | exact encB2_at hq2 | exact encI2_at hq2 | exact encB2_at hr2 | exact told_at hq2 2 (by omega) | exact told_at hq2 4 (by omega) | exact told_at hr2 5 (by omega) | rfl)))) ?_) | (refine Hd.yv (y_loadR1 ag3 rfl (by (first | exact RdS.own pkk | exact RdS.mono hR (Ent.sep enn) | exact RdS.mono hoo.rd (Ent.sep enn))) (by (first | exact encI2_at hn2 | exact encB2_at hq2 | exact encI2_at hq2 | exact encB2_at hr2 | exact told_at hq2 2 (by omega) | exact told_at hq2 4 (by omega) | exact told_at hr2 5 (by omega) | rfl))) ?_)
        refine Hd.nil ?_
        refine Hd.slots [(0, _), (3, _), (4, _), (5, _), (6, _), (7, _), (8, _), (9, _), (10, _), (11, _), (44, _)] ⟨rfl, rfl, rfl, rfl, rfl, rfl, rfl, rfl, rfl, rfl, rfl, trivial⟩ ?_
        refine Hd.toK hK18 ?_
        refine Hd.block ?_
        refine Hd.seq (fun K19 hK19 => ?_)
        refine Hd.region ?_
        first | (refine Hd.yv (y_eqlT rfl rfl) ?_) | (refine Hd.yv (y_eql rfl rfl) ?_)
        refine Hd.yv (y_assign rfl) ?_
        refine Hd.nil ?_
        refine Hd.slots [(0, _), (3, _), (4, _), (5, _), (6, _), (7, _), (8, _), (9, _), (10, _), (11, _), (44, _), (45, _)] ⟨rfl, rfl, rfl, rfl, rfl, rfl, rfl, rfl, rfl, rfl, rfl, rfl, trivial⟩ ?_
        refine Hd.toK hK19 ?_
        refine Hd.cond rfl (fun hc2 => ?_) (fun hc2 => ?_)
        ·
          try simp only [decide_eq_true_eq, decide_eq_false_iff_not, Bool.and_eq_true, Bool.or_eq_true, Bool.and_eq_false_iff, Bool.or_eq_false_iff, Bool.not_eq_true', Bool.not_eq_false', Bool.not_eq_true, Bool.not_eq_false, Int.not_lt, Int.not_le, Decidable.not_not, ne_eq] at hc2
          refine Hd.region ?_
          refine Hd.yv (y_move rfl) ?_
          refine Hd.yv (y_move rfl) ?_
          first | (refine Hd.yv (y_field' (q := 3) (ft := 3) Try.underlying80 rfl sz3 rfl rfl) ?_) | (refine Hd.yv (y_fieldR (q := 3) (ft := 3) Try.underlying80 rfl sz3 rfl rfl) ?_)
          first | (refine Hd.yv (y_load1 ag3 rfl (Rd.pt1 pkk (by (first | exact encI2_at hn2 | exact encB2_at hq2 | exact encI2_at hq2 | exact encB2_at hr2 | exact told_at hq2 2 (by omega) | exact told_at hq2 4 (by omega) | exact told_at hr2 5 (by omega) | rfl)))) ?_) | (refine Hd.yv (y_load1 ag3 rfl (Rd.seg1 pkk (by (first | exact encI2_at hn2 | exact encB2_at hq2 | exact encI2_at hq2 | exact encB2_at hr2 | exact told_at hq2 2 (by omega) | exact told_at hq2 4 (by omega) | exact told_at hr2 5 (by omega) | rfl)))) ?_) | (refine Hd.yv (y_loadR1 ag3 rfl (by (first | exact RdS.own pkk | exact RdS.mono hR (Ent.sep enn) | exact RdS.mono hoo.rd (Ent.sep enn))) (by (first | exact encI2_at hn2 | exact encB2_at hq2 | exact encI2_at hq2 | exact encB2_at hr2 | exact told_at hq2 2 (by omega) | exact told_at hq2 4 (by omega) | exact told_at hr2 5 (by omega) | rfl))) ?_)
          refine Hd.callE rfl fk34 (enableA _ bp A n o.n hon) (Ent.sep enn) ?_
          intro _
          refine Hd.nil ?_
          refine Hd.slots [(0, _), (3, _), (4, _), (5, _), (6, _), (7, _), (8, _), (9, _), (11, _)] ⟨rfl, rfl, rfl, rfl, rfl, rfl, rfl, rfl, rfl, trivial⟩ ?_
          refine Hd.inB ?_
          clear hK1 hK2 hK3 hK4 hK6 hK7 hK8 hK9 hK10 hK11 hK12 hK13 hK14 hK15 hK16 hK17 hK18 hK19
          refine Hd.thenN ?_
          exact Hd.meet ⟨aTurn A n o.n true, fun _ => t0⟩ (by repeat (first | exact trivial | refine ⟨rfl, ?_⟩)) (Ent.sep (.pure (ends_quiet (hI.same fun n _ => ⟨(aTurn_ftu n).1, (aTurn_ftu n).2.1, (aTurn_ftu n).2.2.1⟩) fun n _ => (aTurn_ftu n).2.1) (.pick pkk (.eq pkk (pt_eq (encI2_eq fun n _ => (aTurn_ftu n).2.2.2.symm)) (.eq pkk (pt_eq (encB2_eq fun n _ => (aTurn_ftu n).1.symm)) (.pick pkk (.pick pkk (.eq pkk (pt_eq (by rfl)) enn))))))))
        ·
          try simp only [decide_eq_true_eq, decide_eq_false_iff_not, Bool.and_eq_true, Bool.or_eq_true, Bool.and_eq_false_iff, Bool.or_eq_false_iff, Bool.not_eq_true', Bool.not_eq_false', Bool.not_eq_true, Bool.not_eq_false, Int.not_lt, Int.not_le, Decidable.not_not, ne_eq] at hc2
          refine Hd.seq (fun K20 hK20 => ?_)
          refine Hd.region ?_
          first | (refine Hd.yv (y_eqlT rfl rfl) ?_) | (refine Hd.yv (y_eql rfl rfl) ?_)
          refine Hd.yv (y_assign rfl) ?_
          refine Hd.nil ?_
          refine Hd.slots [(0, _), (3, _), (4, _), (5, _), (6, _), (7, _), (8, _), (9, _), (10, _), (11, _), (44, _), (52, _)] ⟨rfl, rfl, rfl, rfl, rfl, rfl, rfl, rfl, rfl, rfl, rfl, rfl, trivial⟩ ?_
          refine Hd.toK hK20 ?_
          refine Hd.cond rfl (fun hc3 => ?_) (fun hc3 => ?_)
          ·
            try simp only [decide_eq_true_eq, decide_eq_false_iff_not, Bool.and_eq_true, Bool.or_eq_true, Bool.and_eq_false_iff, Bool.or_eq_false_iff, Bool.not_eq_true', Bool.not_eq_false', Bool.not_eq_true, Bool.not_eq_false, Int.not_lt, Int.not_le, Decidable.not_not, ne_eq] at hc3
            refine Hd.region ?_
            refine Hd.yv (y_move rfl) ?_
            refine Hd.yv (y_move rfl) ?_
            first | (refine Hd.yv (y_field' (q := 3) (ft := 3) Try.underlying80 rfl sz3 rfl rfl) ?_) | (refine Hd.yv (y_fieldR (q := 3) (ft := 3) Try.underlying80 rfl sz3 rfl rfl) ?_)
            first | (refine Hd.yv (y_load1 ag3 rfl (Rd.pt1 pkk (by (first | exact encI2_at hn2 | exact encB2_at hq2 | exact encI2_at hq2 | exact encB2_at hr2 | exact told_at hq2 2 (by omega) | exact told_at hq2 4 (by omega) | exact told_at hr2 5 (by omega) | rfl)))) ?_) | (refine Hd.yv (y_load1 ag3 rfl (Rd.seg1 pkk (by (first | exact encI2_at hn2 | exact encB2_at hq2 | exact encI2_at hq2 | exact encB2_at hr2 | exact told_at hq2 2 (by omega) | exact told_at hq2 4 (by omega) | exact told_at hr2 5 (by omega) | rfl)))) ?_) | (refine Hd.yv (y_loadR1 ag3 rfl (by (first | exact RdS.own pkk | exact RdS.mono hR (Ent.sep enn) | exact RdS.mono hoo.rd (Ent.sep enn))) (by (first | exact encI2_at hn2 | exact encB2_at hq2 | exact encI2_at hq2 | exact encB2_at hr2 | exact told_at hq2 2 (by omega) | exact told_at hq2 4 (by omega) | exact told_at hr2 5 (by omega) | rfl))) ?_)
            refine Hd.callE rfl fk45 (disableA _ bp A n o.n hon) (Ent.sep enn) ?_
            intro _
            refine Hd.nil ?_
            refine Hd.slots [(0, _), (3, _), (4, _), (5, _), (6, _), (7, _), (8, _), (9, _), (11, _)] ⟨rfl, rfl, rfl, rfl, rfl, rfl, rfl, rfl, rfl, trivial⟩ ?_
            refine Hd.inB ?_
            clear hK1 hK2 hK3 hK4 hK6 hK7 hK8 hK9 hK10 hK11 hK12 hK13 hK14 hK15 hK16 hK17 hK18 hK19 hK20
            refine Hd.thenN ?_
            exact Hd.meet ⟨aTurn A n o.n false, fun _ => t0⟩ (by repeat (first | exact trivial | refine ⟨rfl, ?_⟩)) (Ent.sep (.pure (ends_quiet (hI.same fun n _ => ⟨(aTurn_ftu n).1, (aTurn_ftu n).2.1, (aTurn_ftu n).2.2.1⟩) fun n _ => (aTurn_ftu n).2.1) (.pick pkk (.eq pkk (pt_eq (encI2_eq fun n _ => (aTurn_ftu n).2.2.2.symm)) (.eq pkk (pt_eq (encB2_eq fun n _ => (aTurn_ftu n).1.symm)) (.pick pkk (.pick pkk (.eq pkk (pt_eq (by rfl)) enn))))))))
          ·
            try simp only [decide_eq_true_eq, decide_eq_false_iff_not, Bool.and_eq_true, Bool.or_eq_true, Bool.and_eq_false_iff, Bool.or_eq_false_iff, Bool.not_eq_true', Bool.not_eq_false', Bool.not_eq_true, Bool.not_eq_false, Int.not_lt, Int.not_le, Decidable.not_not, ne_eq] at hc3
            refine Hd.seq (fun K21 hK21 => ?_)
            refine Hd.region ?_
            first | (refine Hd.yv (y_eqlT rfl rfl) ?_) | (refine Hd.yv (y_eql rfl rfl) ?_)
            refine Hd.yv (y_assign rfl) ?_
            refine Hd.nil ?_
            refine Hd.slots [(0, _), (3, _), (4, _), (5, _), (6, _), (7, _), (8, _), (9, _), (10, _), (11, _), (44, _), (59, _)] ⟨rfl, rfl, rfl, rfl, rfl, rfl, rfl, rfl, rfl, rfl, rfl, rfl, trivial⟩ ?_
            refine Hd.toK hK21 ?_
            refine Hd.cond rfl (fun hc4 => ?_) (fun hc4 => ?_)
            ·
              try simp only [decide_eq_true_eq, decide_eq_false_iff_not, Bool.and_eq_true, Bool.or_eq_true, Bool.and_eq_false_iff, Bool.or_eq_false_iff, Bool.not_eq_true', Bool.not_eq_false', Bool.not_eq_true, Bool.not_eq_false, Int.not_lt, Int.not_le, Decidable.not_not, ne_eq] at hc4
              refine Hd.seq (fun K22 hK22 => ?_)
              refine Hd.region ?_
              refine Hd.yv (y_move rfl) ?_
              refine Hd.yv (y_move rfl) ?_
              first | (refine Hd.yv (y_field' (q := 2) (ft := 3) Try.underlying80 rfl sz3 rfl rfl) ?_) | (refine Hd.yv (y_fieldR (q := 2) (ft := 3) Try.underlying80 rfl sz3 rfl rfl) ?_)
              first | (refine Hd.yv (y_load1 ag3 rfl (Rd.pt1 pkk (by (first | exact encI2_at hn2 | exact encB2_at hq2 | exact encI2_at hq2 | exact encB2_at hr2 | exact told_at hq2 2 (by omega) | exact told_at hq2 4 (by omega) | exact told_at hr2 5 (by omega) | rfl)))) ?_) | (refine Hd.yv (y_load1 ag3 rfl (Rd.seg1 pkk (by (first | exact encI2_at hn2 | exact encB2_at hq2 | exact encI2_at hq2 | exact encB2_at hr2 | exact told_at hq2 2 (by omega) | exact told_at hq2 4 (by omega) | exact told_at hr2 5 (by omega) | rfl)))) ?_) | (refine Hd.yv (y_loadR1 ag3 rfl (by (first | exact RdS.own pkk | exact RdS.mono hR (Ent.sep enn) | exact RdS.mono hoo.rd (Ent.sep enn))) (by (first | exact encI2_at hn2 | exact encB2_at hq2 | exact encI2_at hq2 | exact encB2_at hr2 | exact told_at hq2 2 (by omega) | exact told_at hq2 4 (by omega) | exact told_at hr2 5 (by omega) | rfl))) ?_)
              first | (refine Hd.yv (y_field' (q := 3) (ft := 3) Try.underlying80 rfl sz3 rfl rfl) ?_) | (refine Hd.yv (y_fieldR (q := 3) (ft := 3) Try.underlying80 rfl sz3 rfl rfl) ?_)
              first | (refine Hd.yv (y_load1 ag3 rfl (Rd.pt1 pkk (by (first | exact encI2_at hn2 | exact encB2_at hq2 | exact encI2_at hq2 | exact encB2_at hr2 | exact told_at hq2 2 (by omega) | exact told_at hq2 4 (by omega) | exact told_at hr2 5 (by omega) | rfl)))) ?_) | (refine Hd.yv (y_load1 ag3 rfl (Rd.seg1 pkk (by (first | exact encI2_at hn2 | exact encB2_at hq2 | exact encI2_at hq2 | exact encB2_at hr2 | exact told_at hq2 2 (by omega) | exact told_at hq2 4 (by omega) | exact told_at hr2 5 (by omega) | rfl)))) ?_) | (refine Hd.yv (y_loadR1 ag3 rfl (by (first | exact RdS.own pkk | exact RdS.mono hR (Ent.sep enn) | exact RdS.mono hoo.rd (Ent.sep enn))) (by (first | exact encI2_at hn2 | exact encB2_at hq2 | exact encI2_at hq2 | exact encB2_at hr2 | exact told_at hq2 2 (by omega) | exact told_at hq2 4 (by omega) | exact told_at hr2 5 (by omega) | rfl))) ?_)
              first | (refine Hd.yv (y_field' (q := 4) (ft := 3) Try.underlying80 rfl sz3 rfl rfl) ?_) | (refine Hd.yv (y_fieldR (q := 4) (ft := 3) Try.underlying80 rfl sz3 rfl rfl) ?_)
              first | (refine Hd.yv (y_load1 ag3 rfl (Rd.pt1 pkk (by (first | exact encI2_at hn2 | exact encB2_at hq2 | exact encI2_at hq2 | exact encB2_at hr2 | exact told_at hq2 2 (by omega) | exact told_at hq2 4 (by omega) | exact told_at hr2 5 (by omega) | rfl)))) ?_) | (refine Hd.yv (y_load1 ag3 rfl (Rd.seg1 pkk (by (first | exact encI2_at hn2 | exact encB2_at hq2 | exact encI2_at hq2 | exact encB2_at hr2 | exact told_at hq2 2 (by omega) | exact told_at hq2 4 (by omega) | exact told_at hr2 5 (by omega) | rfl)))) ?_) | (refine Hd.yv (y_loadR1 ag3 rfl (by (first | exact RdS.own pkk | exact RdS.mono hR (Ent.sep enn) | exact RdS.mono hoo.rd (Ent.sep enn))) (by (first | exact encI2_at hn2 | exact encB2_at hq2 | exact encI2_at hq2 | exact encB2_at hr2 | exact told_at hq2 2 (by omega) | exact told_at hq2 4 (by omega) | exact told_at hr2 5 (by omega) | rfl))) ?_)
              refine Hd.callE rfl fk35 (marksA _ bp A n o.side o.n o.m) (Ent.sep enn) ?_
              intro _
              refine Hd.yv (y_assign rfl) ?_
              refine Hd.nil ?_
              refine Hd.slots [(0, _), (3, _), (4, _), (5, _), (6, _), (7, _), (8, _), (9, _), (10, _), (11, _), (12, _)] ⟨rfl, rfl, rfl, rfl, rfl, rfl, rfl, rfl, rfl, rfl, rfl, trivial⟩ ?_
              refine Hd.toK hK22 ?_
              refine Hd.seq (fun K23 hK23 => ?_)
              refine Hd.region ?_
              refine Hd.yv (y_move rfl) ?_
              first | (refine Hd.yv (y_eqlT rfl rfl) ?_) | (refine Hd.yv (y_eql rfl rfl) ?_)
              refine Hd.yv (y_move rfl) ?_
              apply Hd.andg 4 72 76 [(0, _), (3, _), (4, _), (5, _), (6, _), (7, _), (8, _), (9, _), (10, _), (11, _)] rfl ⟨rfl, rfl, rfl, rfl, rfl, rfl, rfl, rfl, rfl, rfl, trivial⟩
              · intro hg21_72
                try simp only [decide_eq_true_eq, decide_eq_false_iff_not, Bool.and_eq_true, Bool.or_eq_true, Bool.and_eq_false_iff, Bool.or_eq_false_iff, Bool.not_eq_true', Bool.not_eq_false', Bool.not_eq_true, Bool.not_eq_false, Int.not_lt, Int.not_le, Decidable.not_not, ne_eq] at hg21_72
                simp only [List.take]
                first | (refine Hd.yg rfl rfl (y_field' (q := 2) (ft := 3) Try.underlying80 rfl sz3 rfl rfl) ?_) | (refine Hd.yg rfl rfl (y_fieldR (q := 2) (ft := 3) Try.underlying80 rfl sz3 rfl rfl) ?_)
                first | (refine Hd.yg rfl rfl (y_load1 ag3 rfl (Rd.pt1 pkk (by (first | exact encI2_at hn2 | exact encB2_at hq2 | exact encI2_at hq2 | exact encB2_at hr2 | exact told_at hq2 2 (by omega) | exact told_at hq2 4 (by omega) | exact told_at hr2 5 (by omega) | rfl)))) ?_) | (refine Hd.yg rfl rfl (y_load1 ag3 rfl (Rd.seg1 pkk (by (first | exact encI2_at hn2 | exact encB2_at hq2 | exact encI2_at hq2 | exact encB2_at hr2 | exact told_at hq2 2 (by omega) | exact told_at hq2 4 (by omega) | exact told_at hr2 5 (by omega) | rfl)))) ?_) | (refine Hd.yg rfl rfl (y_loadR1 ag3 rfl (by (first | exact RdS.own pkk | exact RdS.mono hR (Ent.sep enn) | exact RdS.mono hoo.rd (Ent.sep enn))) (by (first | exact encI2_at hn2 | exact encB2_at hq2 | exact encI2_at hq2 | exact encB2_at hr2 | exact told_at hq2 2 (by omega) | exact told_at hq2 4 (by omega) | exact told_at hr2 5 (by omega) | rfl))) ?_)
                first | (refine Hd.yg rfl rfl (y_eqlT rfl rfl) ?_) | (refine Hd.yg rfl rfl (y_eql rfl rfl) ?_)
                first | (refine Hd.yv (y_pickT rfl rfl) ?_) | (refine Hd.yv (y_pickF rfl rfl) ?_) | (refine Hd.yv (y_pickb rfl rfl rfl) ?_) | (refine Hd.yv (y_pick rfl rfl rfl) ?_)
                refine Hd.nil ?_
                exact Hd.mend (by repeat (first | exact trivial | refine ⟨rfl, ?_⟩)) (Ent.sep enn)
              · intro hg21_72
                try simp only [decide_eq_true_eq, decide_eq_false_iff_not, Bool.and_eq_true, Bool.or_eq_true, Bool.and_eq_false_iff, Bool.or_eq_false_iff, Bool.not_eq_true', Bool.not_eq_false', Bool.not_eq_true, Bool.not_eq_false, Int.not_lt, Int.not_le, Decidable.not_not, ne_eq] at hg21_72
                simp only [List.take]
                refine Hd.ng rfl rfl rfl ?_
                refine Hd.ng rfl rfl rfl ?_
                refine Hd.ng rfl rfl rfl ?_
                first | (refine Hd.yv (y_pickT rfl rfl) ?_) | (refine Hd.yv (y_pickF rfl rfl) ?_) | (refine Hd.yv (y_pickb rfl rfl rfl) ?_) | (refine Hd.yv (y_pick rfl rfl rfl) ?_)
                refine Hd.nil ?_
                exact Hd.mend (by repeat (first | exact trivial | refine ⟨rfl, ?_⟩)) (Ent.sep enn)
              simp only [List.drop]
              refine Hd.nil ?_
              refine Hd.slots [(0, _), (3, _), (4, _), (5, _), (6, _), (7, _), (8, _), (9, _), (10, _), (11, _), (76, _)] ⟨rfl, rfl, rfl, rfl, rfl, rfl, rfl, rfl, rfl, rfl, rfl, trivial⟩ ?_
              refine Hd.toK hK23 ?_
              refine Hd.cond rfl (fun hc5 => ?_) (fun hc5 => ?_)
              ·
                try simp only [decide_eq_true_eq, decide_eq_false_iff_not, Bool.and_eq_true, Bool.or_eq_true, Bool.and_eq_false_iff, Bool.or_eq_false_iff, Bool.not_eq_true', Bool.not_eq_false', Bool.not_eq_true, Bool.not_eq_false, Int.not_lt, Int.not_le, Decidable.not_not, ne_eq] at hc5
                refine Hd.region ?_
                refine Hd.yv (y_move rfl) ?_
                first | (refine Hd.yv (y_field' (q := 4) (ft := 3) Try.underlying80 rfl sz3 rfl rfl) ?_) | (refine Hd.yv (y_fieldR (q := 4) (ft := 3) Try.underlying80 rfl sz3 rfl rfl) ?_)
                first | (refine Hd.yv (y_load1 ag3 rfl (Rd.pt1 pkk (by (first | exact encI2_at hn2 | exact encB2_at hq2 | exact encI2_at hq2 | exact encB2_at hr2 | exact told_at hq2 2 (by omega) | exact told_at hq2 4 (by omega) | exact told_at hr2 5 (by omega) | rfl)))) ?_) | (refine Hd.yv (y_load1 ag3 rfl (Rd.seg1 pkk (by (first | exact encI2_at hn2 | exact encB2_at hq2 | exact encI2_at hq2 | exact encB2_at hr2 | exact told_at hq2 2 (by omega) | exact told_at hq2 4 (by omega) | exact told_at hr2 5 (by omega) | rfl)))) ?_) | (refine Hd.yv (y_loadR1 ag3 rfl (by (first | exact RdS.own pkk | exact RdS.mono hR (Ent.sep enn) | exact RdS.mono hoo.rd (Ent.sep enn))) (by (first | exact encI2_at hn2 | exact encB2_at hq2 | exact encI2_at hq2 | exact encB2_at hr2 | exact told_at hq2 2 (by omega) | exact told_at hq2 4 (by omega) | exact told_at hr2 5 (by omega) | rfl))) ?_)
                refine Hd.yv (y_idxA Try.underlying95 sz3 rfl rfl (by first | omega | decide)) ?_
                first | (refine Hd.store1 sz3 rfl rfl rfl pkk (by first | decide | (simp; done) | (simp; omega)) ?_) | (refine Hd.storeG1 sz3 rfl rfl rfl pkk (by first | decide | (simp; done) | (simp; omega)) ?_) | (refine Hd.storeO1 sz3 rfl rfl rfl pkk (by first | omega | (simp; done) | (simp; omega)) ?_)
                try simp only [List.set_cons_zero, List.set_cons_succ]
                refine Hd.nil ?_
                refine Hd.slots [(0, _), (3, _), (4, _), (5, _), (6, _), (7, _), (8, _), (9, _), (11, _)] ⟨rfl, rfl, rfl, rfl, rfl, rfl, rfl, rfl, rfl, trivial⟩ ?_
                refine Hd.inB ?_
                clear hK1 hK2 hK3 hK4 hK6 hK7 hK8 hK9 hK10 hK11 hK12 hK13 hK14 hK15 hK16 hK17 hK18 hK19 hK20 hK21 hK22 hK23
                refine Hd.thenN ?_
                exact Hd.meet ⟨aMarks A n o.side o.n o.m, fun _ => t0⟩ (by repeat (first | exact trivial | refine ⟨rfl, ?_⟩)) (Ent.sep (.pure (ends_quiet (hI.same fun n _ => aMarks_ftu n) fun n _ => (aMarks_ftu n).2.1) (.pick pkk (.eq pkk (pt_eq ((encI2_set hn2 _).trans (encI2_eq fun j _ => by show _ = (aMarks A (n : Int) o.side o.n o.m j).high; rw [aMarks_high hn2, if_pos hc5]))) (.eq pkk (pt_eq (encB2_eq fun n _ => (aMarks_ftu n).1.symm)) (.pick pkk (.pick pkk (.eq pkk (pt_eq (by rfl)) enn))))))))
              ·
                try simp only [decide_eq_true_eq, decide_eq_false_iff_not, Bool.and_eq_true, Bool.or_eq_true, Bool.and_eq_false_iff, Bool.or_eq_false_iff, Bool.not_eq_true', Bool.not_eq_false', Bool.not_eq_true, Bool.not_eq_false, Int.not_lt, Int.not_le, Decidable.not_not, ne_eq] at hc5
                refine Hd.skip ?_
                refine Hd.inB ?_
                clear hK1 hK2 hK3 hK4 hK6 hK7 hK8 hK9 hK10 hK11 hK12 hK13 hK14 hK15 hK16 hK17 hK18 hK19 hK20 hK21 hK22 hK23
                refine Hd.thenN ?_
                exact Hd.meet ⟨aMarks A n o.side o.n o.m, fun _ => t0⟩ (by repeat (first | exact trivial | refine ⟨rfl, ?_⟩)) (Ent.sep (.pure (ends_quiet (hI.same fun n _ => aMarks_ftu n) fun n _ => (aMarks_ftu n).2.1) (.pick pkk (.eq pkk (pt_eq (encI2_eq fun j _ => by show _ = (aMarks A (n : Int) o.side o.n o.m j).high; rw [aMarks_high hn2, if_neg (by rintro ⟨q1, q2⟩; rcases hc5 with h | h; exact h q1; exact h q2)])) (.eq pkk (pt_eq (encB2_eq fun n _ => (aMarks_ftu n).1.symm)) (.pick pkk (.pick pkk (.eq pkk (pt_eq (by rfl)) enn))))))))
            ·
              try simp only [decide_eq_true_eq, decide_eq_false_iff_not, Bool.and_eq_true, Bool.or_eq_true, Bool.and_eq_false_iff, Bool.or_eq_false_iff, Bool.not_eq_true', Bool.not_eq_false', Bool.not_eq_true, Bool.not_eq_false, Int.not_lt, Int.not_le, Decidable.not_not, ne_eq] at hc4
              refine Hd.seq (fun K24 hK24 => ?_)
              refine Hd.region ?_
              first | (refine Hd.yv (y_eqlT rfl rfl) ?_) | (refine Hd.yv (y_eql rfl rfl) ?_)
              refine Hd.yv (y_assign rfl) ?_
              refine Hd.nil ?_
              refine Hd.slots [(0, _), (3, _), (4, _), (5, _), (6, _), (7, _), (8, _), (9, _), (10, _), (11, _), (44, _), (81, _)] ⟨rfl, rfl, rfl, rfl, rfl, rfl, rfl, rfl, rfl, rfl, rfl, rfl, trivial⟩ ?_
              refine Hd.toK hK24 ?_
              refine Hd.cond rfl (fun hc6 => ?_) (fun hc6 => ?_)
              ·
                try simp only [decide_eq_true_eq, decide_eq_false_iff_not, Bool.and_eq_true, Bool.or_eq_true, Bool.and_eq_false_iff, Bool.or_eq_false_iff, Bool.not_eq_true', Bool.not_eq_false', Bool.not_eq_true, Bool.not_eq_false, Int.not_lt, Int.not_le, Decidable.not_not, ne_eq] at hc6
                refine Hd.region ?_
                refine Hd.yv (y_move rfl) ?_
                refine Hd.yv (y_move rfl) ?_
                first | (refine Hd.yv (y_field' (q := 5) (ft := 22) Try.underlying80 rfl sz22 rfl rfl) ?_) | (refine Hd.yv (y_fieldR (q := 5) (ft := 22) Try.underlying80 rfl sz22 rfl rfl) ?_)
                first | (refine Hd.yv (y_load1 ag22 rfl (Rd.pt1 pkk (by (first | exact encI2_at hn2 | exact encB2_at hq2 | exact encI2_at hq2 | exact encB2_at hr2 | exact told_at hq2 2 (by omega) | exact told_at hq2 4 (by omega) | exact told_at hr2 5 (by omega) | rfl)))) ?_) | (refine Hd.yv (y_load1 ag22 rfl (Rd.seg1 pkk (by (first | exact encI2_at hn2 | exact encB2_at hq2 | exact encI2_at hq2 | exact encB2_at hr2 | exact told_at hq2 2 (by omega) | exact told_at hq2 4 (by omega) | exact told_at hr2 5 (by omega) | rfl)))) ?_) | (refine Hd.yv (y_loadR1 ag22 rfl (by (first | exact RdS.own pkk | exact RdS.mono hR (Ent.sep enn) | exact RdS.mono hoo.rd (Ent.sep enn))) (by (first | exact encI2_at hn2 | exact encB2_at hq2 | exact encI2_at hq2 | exact encB2_at hr2 | exact told_at hq2 2 (by omega) | exact told_at hq2 4 (by omega) | exact told_at hr2 5 (by omega) | rfl))) ?_)
                refine Hd.callE rfl fk33 (writeA _ bp A n o.ad o.c o.b ?hD hoo.c (by omega)) (Ent.sep enn) ?_
                case hD => exact RdS.mono hoo.rd (Ent.sep enn)
                intro _
                refine Hd.nil ?_
                refine Hd.slots [(0, _), (3, _), (4, _), (5, _), (6, _), (7, _), (8, _), (9, _), (11, _)] ⟨rfl, rfl, rfl, rfl, rfl, rfl, rfl, rfl, rfl, trivial⟩ ?_
                refine Hd.inB ?_
                clear hK1 hK2 hK3 hK4 hK6 hK7 hK8 hK9 hK10 hK11 hK12 hK13 hK14 hK15 hK16 hK17 hK18 hK19 hK20 hK21 hK24
                refine Hd.thenN ?_
                have hIw := hI.write hn2 o.b
                exact Hd.meet ⟨aWrite A n o.b, fun _ => t0⟩ (by repeat (first | exact trivial | refine ⟨rfl, ?_⟩)) (Ent.sep (.pure (ends_quiet hIw.1 fun n h => (hIw.2 n h).2.1) (.pick pkk (.eq pkk (pt_eq (encI2_eq fun n h => (hIw.2 n h).2.2.symm)) (.eq pkk (pt_eq (encB2_eq fun n h => (hIw.2 n h).1.symm)) (.pick pkk (.pick pkk (.eq pkk (pt_eq (by rfl)) enn))))))))
              ·
                try simp only [decide_eq_true_eq, decide_eq_false_iff_not, Bool.and_eq_true, Bool.or_eq_true, Bool.and_eq_false_iff, Bool.or_eq_false_iff, Bool.not_eq_true', Bool.not_eq_false', Bool.not_eq_true, Bool.not_eq_false, Int.not_lt, Int.not_le, Decidable.not_not, ne_eq] at hc6
                refine Hd.seq (fun K25 hK25 => ?_)
                refine Hd.region ?_
                first | (refine Hd.yv (y_eqlT rfl rfl) ?_) | (refine Hd.yv (y_eql rfl rfl) ?_)
                refine Hd.yv (y_assign rfl) ?_
                refine Hd.nil ?_
                refine Hd.slots [(0, _), (3, _), (4, _), (5, _), (6, _), (7, _), (8, _), (9, _), (10, _), (11, _), (44, _), (88, _)] ⟨rfl, rfl, rfl, rfl, rfl, rfl, rfl, rfl, rfl, rfl, rfl, rfl, trivial⟩ ?_
                refine Hd.toK hK25 ?_
                refine Hd.cond rfl (fun hc7 => ?_) (fun hc7 => ?_)
                ·
                  try simp only [decide_eq_true_eq, decide_eq_false_iff_not, Bool.and_eq_true, Bool.or_eq_true, Bool.and_eq_false_iff, Bool.or_eq_false_iff, Bool.not_eq_true', Bool.not_eq_false', Bool.not_eq_true, Bool.not_eq_false, Int.not_lt, Int.not_le, Decidable.not_not, ne_eq] at hc7
                  refine Hd.region ?_
                  refine Hd.yv (y_move rfl) ?_
                  refine Hd.yv (y_move rfl) ?_
                  first | (refine Hd.yv (y_field' (q := 3) (ft := 3) Try.underlying80 rfl sz3 rfl rfl) ?_) | (refine Hd.yv (y_fieldR (q := 3) (ft := 3) Try.underlying80 rfl sz3 rfl rfl) ?_)
                  first | (refine Hd.yv (y_load1 ag3 rfl (Rd.pt1 pkk (by (first | exact encI2_at hn2 | exact encB2_at hq2 | exact encI2_at hq2 | exact encB2_at hr2 | exact told_at hq2 2 (by omega) | exact told_at hq2 4 (by omega) | exact told_at hr2 5 (by omega) | rfl)))) ?_) | (refine Hd.yv (y_load1 ag3 rfl (Rd.seg1 pkk (by (first | exact encI2_at hn2 | exact encB2_at hq2 | exact encI2_at hq2 | exact encB2_at hr2 | exact told_at hq2 2 (by omega) | exact told_at hq2 4 (by omega) | exact told_at hr2 5 (by omega) | rfl)))) ?_) | (refine Hd.yv (y_loadR1 ag3 rfl (by (first | exact RdS.own pkk | exact RdS.mono hR (Ent.sep enn) | exact RdS.mono hoo.rd (Ent.sep enn))) (by (first | exact encI2_at hn2 | exact encB2_at hq2 | exact encI2_at hq2 | exact encB2_at hr2 | exact told_at hq2 2 (by omega) | exact told_at hq2 4 (by omega) | exact told_at hr2 5 (by omega) | rfl))) ?_)
                  refine Hd.callE rfl fk40 (readA _ bp A n o.n hon) (Ent.sep enn) ?_
                  rintro ⟨a5, c5⟩
                  dsimp only
                  refine Hd.nil ?_
                  refine Hd.slots [(0, _), (3, _), (4, _), (5, _), (6, _), (7, _), (8, _), (9, _), (11, _)] ⟨rfl, rfl, rfl, rfl, rfl, rfl, rfl, rfl, rfl, trivial⟩ ?_
                  refine Hd.inB ?_
                  clear hK1 hK2 hK3 hK4 hK6 hK7 hK8 hK9 hK10 hK11 hK12 hK13 hK14 hK15 hK16 hK17 hK18 hK19 hK20 hK21 hK24 hK25
                  refine Hd.thenN ?_
                  exact Hd.meet ⟨aRead A n o.n, fun _ => t0⟩ (by repeat (first | exact trivial | refine ⟨rfl, ?_⟩)) (Ent.sep (.pure (ends_quiet (hI.same fun n _ => ⟨(aRead_ftu n).1, (aRead_ftu n).2.1, (aRead_ftu n).2.2.1⟩) fun n _ => (aRead_ftu n).2.1) (.pick pkk (.eq pkk (pt_eq (encI2_eq fun n _ => (aRead_ftu n).2.2.2.symm)) (.eq pkk (pt_eq (encB2_eq fun n _ => (aRead_ftu n).1.symm)) (.pick pkk (.pick pkk (.eq pkk (pt_eq (by rfl)) enn))))))))
                ·
                  try simp only [decide_eq_true_eq, decide_eq_false_iff_not, Bool.and_eq_true, Bool.or_eq_true, Bool.and_eq_false_iff, Bool.or_eq_false_iff, Bool.not_eq_true', Bool.not_eq_false', Bool.not_eq_true, Bool.not_eq_false, Int.not_lt, Int.not_le, Decidable.not_not, ne_eq] at hc7
                  refine Hd.seq (fun K26 hK26 => ?_)
                  refine Hd.region ?_
                  first | (refine Hd.yv (y_eqlT rfl rfl) ?_) | (refine Hd.yv (y_eql rfl rfl) ?_)
                  refine Hd.yv (y_assign rfl) ?_
                  refine Hd.nil ?_
                  refine Hd.slots [(0, _), (3, _), (4, _), (5, _), (6, _), (7, _), (8, _), (9, _), (10, _), (11, _), (44, _), (95, _)] ⟨rfl, rfl, rfl, rfl, rfl, rfl, rfl, rfl, rfl, rfl, rfl, rfl, trivial⟩ ?_
                  refine Hd.toK hK26 ?_
                  refine Hd.cond rfl (fun hc8 => ?_) (fun hc8 => ?_)
                  ·
                    try simp only [decide_eq_true_eq, decide_eq_false_iff_not, Bool.and_eq_true, Bool.or_eq_true, Bool.and_eq_false_iff, Bool.or_eq_false_iff, Bool.not_eq_true', Bool.not_eq_false', Bool.not_eq_true, Bool.not_eq_false, Int.not_lt, Int.not_le, Decidable.not_not, ne_eq] at hc8
                    refine Hd.seq (fun K27 hK27 => ?_)
                    refine Hd.region ?_
                    refine Hd.yv (y_move rfl) ?_
                    refine Hd.yv (y_move rfl) ?_
                    refine Hd.callE rfl fk38 (finishA _ bp A n) (Ent.sep enn) ?_
                    intro _
                    refine Hd.nil ?_
                    refine Hd.slots [(0, _), (3, _), (4, _), (5, _), (6, _), (7, _), (8, _), (9, _), (10, _), (11, _)] ⟨rfl, rfl, rfl, rfl, rfl, rfl, rfl, rfl, rfl, rfl, trivial⟩ ?_
                    refine Hd.toK hK27 ?_
                    refine Hd.region ?_
                    refine Hd.yv (y_move rfl) ?_
                    refine Hd.yv (y_idxA Try.underlying96 sz4 rfl rfl (by first | omega | decide)) ?_
                    first | (refine Hd.store1 sz4 rfl rfl rfl pkk (by first | decide | (simp; done) | (simp; omega)) ?_) | (refine Hd.storeG1 sz4 rfl rfl rfl pkk (by first | decide | (simp; done) | (simp; omega)) ?_) | (refine Hd.storeO1 sz4 rfl rfl rfl pkk (by first | omega | (simp; done) | (simp; omega)) ?_)
                    try simp only [List.set_cons_zero, List.set_cons_succ]
                    refine Hd.nil ?_
                    refine Hd.slots [(0, _), (3, _), (4, _), (5, _), (6, _), (7, _), (8, _), (9, _), (11, _)] ⟨rfl, rfl, rfl, rfl, rfl, rfl, rfl, rfl, rfl, trivial⟩ ?_
                    refine Hd.inB ?_
                    clear hK1 hK2 hK3 hK4 hK6 hK7 hK8 hK9 hK10 hK11 hK12 hK13 hK14 hK15 hK16 hK17 hK18 hK19 hK20 hK21 hK24 hK25 hK26 hK27
                    refine Hd.thenN ?_
                    have hIf := hI.finish hn2
                    exact Hd.meet ⟨aFinish A n, fun _ => t0⟩ (by repeat (first | exact trivial | refine ⟨rfl, ?_⟩)) (Ent.sep (.pure (ends_quiet hIf.1 fun n h => (hIf.2 n h).2.1) (.pick pkk (.eq pkk (pt_eq (encI2_eq fun n h => (hIf.2 n h).2.2.symm)) (.eq pkk (pt_eq ((encB2_set hn2 true).trans (encB2_eq fun n h => (hIf.2 n h).1.symm))) (.pick pkk (.pick pkk (.eq pkk (pt_eq (by rfl)) enn))))))))
                  ·
                    try simp only [decide_eq_true_eq, decide_eq_false_iff_not, Bool.and_eq_true, Bool.or_eq_true, Bool.and_eq_false_iff, Bool.or_eq_false_iff, Bool.not_eq_true', Bool.not_eq_false', Bool.not_eq_true, Bool.not_eq_false, Int.not_lt, Int.not_le, Decidable.not_not, ne_eq] at hc8
                    refine Hd.seq (fun K28 hK28 => ?_)
                    refine Hd.region ?_
                    first | (refine Hd.yv (y_eqlT rfl rfl) ?_) | (refine Hd.yv (y_eql rfl rfl) ?_)
                    refine Hd.yv (y_assign rfl) ?_
                    refine Hd.nil ?_
                    refine Hd.slots [(0, _), (3, _), (4, _), (5, _), (6, _), (7, _), (8, _), (9, _), (10, _), (11, _), (44, _), (102, _)] ⟨rfl, rfl, rfl, rfl, rfl, rfl, rfl, rfl, rfl, rfl, rfl, rfl, trivial⟩ ?_
                    refine Hd.toK hK28 ?_
                    refine Hd.cond rfl (fun hc9 => ?_) (fun hc9 => ?_)
                    ·
                      try simp only [decide_eq_true_eq, decide_eq_false_iff_not, Bool.and_eq_true, Bool.or_eq_true, Bool.and_eq_false_iff, Bool.or_eq_false_iff, Bool.not_eq_true', Bool.not_eq_false', Bool.not_eq_true, Bool.not_eq_false, Int.not_lt, Int.not_le, Decidable.not_not, ne_eq] at hc9
                      refine Hd.region ?_
                      refine Hd.yv (y_move rfl) ?_
                      refine Hd.callE rfl fk36 (step_ct _ bp A) (Ent.sep enn) ?_
                      intro _
                      refine Hd.storeA (us := encT ((aStep A).t 0) ++ encT ((aStep A).t 1)) sz69 rfl rfl rfl (by simp [Value.oneCell']) pkk (by exact rfl) ?_
                      refine Hd.nil ?_
                      refine Hd.slots [(0, _), (3, _), (4, _), (5, _), (6, _), (7, _), (8, _), (9, _), (11, _)] ⟨rfl, rfl, rfl, rfl, rfl, rfl, rfl, rfl, rfl, trivial⟩ ?_
                      refine Hd.inB ?_
                      clear hK1 hK2 hK3 hK4 hK6 hK7 hK8 hK9 hK10 hK11 hK12 hK13 hK14 hK15 hK16 hK17 hK18 hK19 hK20 hK21 hK24 hK25 hK26 hK28
                      refine Hd.thenN ?_
                      have hE := ends_step hI
                      have hk : ∀ n, n < 2 → ((aStep A).e n).fin = (A n).fin ∧ ((aStep A).e n).high = (A n).high := fun n h => ⟨(pass_keep _ _ (by omega) h).1.trans (pass_keep _ _ (by omega) h).1, (pass_keep _ _ (by omega) h).2.trans (pass_keep _ _ (by omega) h).2⟩
                      exact Hd.meet (aStep A) (by repeat (first | exact trivial | refine ⟨rfl, ?_⟩)) (Ent.sep (.pure ⟨fun n h => ⟨(hE.1 n h).a, (hE.1 n h).b, (hE.1 n h).c, (hE.1 n h).d, fun _ => (hE.1 n h).e trivial⟩, hE.2⟩ (.pick pkk (.eq pkk (pt_eq (encI2_eq fun n h => (hk n h).2.symm)) (.eq pkk (pt_eq (encB2_eq fun n h => (hk n h).1.symm)) enn)))))
                    ·
                      try simp only [decide_eq_true_eq, decide_eq_false_iff_not, Bool.and_eq_true, Bool.or_eq_true, Bool.and_eq_false_iff, Bool.or_eq_false_iff, Bool.not_eq_true', Bool.not_eq_false', Bool.not_eq_true, Bool.not_eq_false, Int.not_lt, Int.not_le, Decidable.not_not, ne_eq] at hc9
                      refine Hd.seq (fun K29 hK29 => ?_)
                      refine Hd.region ?_
                      first | (refine Hd.yv (y_eqlT rfl rfl) ?_) | (refine Hd.yv (y_eql rfl rfl) ?_)
                      refine Hd.yv (y_assign rfl) ?_
                      refine Hd.nil ?_
                      refine Hd.slots [(0, _), (3, _), (4, _), (5, _), (6, _), (7, _), (8, _), (9, _), (10, _), (11, _), (106, _)] ⟨rfl, rfl, rfl, rfl, rfl, rfl, rfl, rfl, rfl, rfl, rfl, trivial⟩ ?_
                      refine Hd.toK hK29 ?_
                      refine Hd.cond rfl (fun hc10 => ?_) (fun hc10 => ?_)
                      ·
                        try simp only [decide_eq_true_eq, decide_eq_false_iff_not, Bool.and_eq_true, Bool.or_eq_true, Bool.and_eq_false_iff, Bool.or_eq_false_iff, Bool.not_eq_true', Bool.not_eq_false', Bool.not_eq_true, Bool.not_eq_false, Int.not_lt, Int.not_le, Decidable.not_not, ne_eq] at hc10
                        refine Hd.region ?_
                        refine Hd.yv (y_move rfl) ?_
                        refine Hd.yv (y_move rfl) ?_
                        refine Hd.callE rfl fk39 (flushA _ bp A n) (Ent.sep enn) ?_
                        intro _
                        refine Hd.storeA (us := encT ((aFlush A n).t 0) ++ encT ((aFlush A n).t 1)) sz69 rfl rfl rfl (by simp [Value.oneCell']) pkk (by exact rfl) ?_
                        refine Hd.nil ?_
                        refine Hd.slots [(0, _), (3, _), (4, _), (5, _), (6, _), (7, _), (8, _), (9, _), (11, _)] ⟨rfl, rfl, rfl, rfl, rfl, rfl, rfl, rfl, rfl, trivial⟩ ?_
                        refine Hd.inB ?_
                        clear hK1 hK2 hK3 hK4 hK6 hK7 hK8 hK9 hK10 hK11 hK12 hK13 hK14 hK15 hK16 hK17 hK18 hK19 hK20 hK21 hK24 hK25 hK26 hK28 hK29
                        refine Hd.thenN ?_
                        have hE := ends_flush hI hn2
                        have hk : ∀ j, j < 2 → ((aFlush A n).e j).fin = (A j).fin ∧ ((aFlush A n).e j).high = (A j).high := fun j h => by rw [aFlush_at hn2]; exact pass_keep _ _ hn2 h
                        exact Hd.meet (aFlush A n) (by repeat (first | exact trivial | refine ⟨rfl, ?_⟩)) (Ent.sep (.pure ⟨fun n h => ⟨(hE.1 n h).a, (hE.1 n h).b, (hE.1 n h).c, (hE.1 n h).d, fun q => absurd q (by omega)⟩, hE.2⟩ (.pick pkk (.eq pkk (pt_eq (encI2_eq fun n h => (hk n h).2.symm)) (.eq pkk (pt_eq (encB2_eq fun n h => (hk n h).1.symm)) enn)))))
                      ·
                        try simp only [decide_eq_true_eq, decide_eq_false_iff_not, Bool.and_eq_true, Bool.or_eq_true, Bool.and_eq_false_iff, Bool.or_eq_false_iff, Bool.not_eq_true', Bool.not_eq_false', Bool.not_eq_true, Bool.not_eq_false, Int.not_lt, Int.not_le, Decidable.not_not, ne_eq] at hc10
                        refine Hd.skip ?_
                        refine Hd.inB ?_
                        clear hK1 hK2 hK3 hK4 hK6 hK7 hK8 hK9 hK10 hK11 hK12 hK13 hK14 hK15 hK16 hK17 hK18 hK19 hK20 hK21 hK24 hK25 hK26 hK28 hK29
                        refine Hd.thenN ?_
                        exact Hd.meet ⟨A, fun _ => t0⟩ (by repeat (first | exact trivial | refine ⟨rfl, ?_⟩)) (Ent.sep (.pure (ends_quiet hI fun _ _ => rfl) (.pick pkk (.pick pkk (.pick pkk (.pick pkk (.pick pkk (.eq pkk (pt_eq (by rfl)) enn))))))))
      ·
        intro S
        refine Hd.pure (fun hE => ?_)
        refine Hd.seq (fun K30 hK30 => ?_)
        refine Hd.region ?_
        refine Hd.yv (y_assign rfl) ?_
        refine Hd.nil ?_
        refine Hd.slots [(0, _), (3, _), (4, _), (5, _), (6, _), (7, _), (8, _), (9, _), (11, _), (13, _)] ⟨rfl, rfl, rfl, rfl, rfl, rfl, rfl, rfl, rfl, rfl, trivial⟩ ?_
        refine Hd.toK hK30 ?_
        refine Hd.block ?_
        refine Hd.loopK (ι := Nat) [(0, _), (3, _), (4, _), (5, _), (6, _), (7, _), (8, _), (9, _), (11, _)] (fun q => [(13, .int .i64 (q : Int))]) (fun q => pu (q ≤ 2) :: PrA bp S.e :: pt b5 (encI2 (Highs S.e)) 95 :: pt b6 (encB2 (Fins S.e)) 96 :: pt b7 (encB2 (tls A S.e q)) 96 :: pt b9 (encC o) 80 :: pt b11 (encT (S.t 0) ++ encT (S.t 1)) 69 :: L) (fun q => 2 - q) 0 (by repeat (first | exact trivial | refine ⟨rfl, ?_⟩)) (by repeat (first | exact trivial | refine ⟨rfl, ?_⟩)) (Ent.sep (.pure (Nat.zero_le _) (show Ent _ (PrA bp S.e :: pt b5 (encI2 (Highs S.e)) 95 :: pt b6 (encB2 (Fins S.e)) 96 :: pt b7 (encB2 (tls A A 0)) 96 :: pt b9 (encC o) 80 :: pt b11 (encT (S.t 0) ++ encT (S.t 1)) 69 :: L) from enn))) ?_
        intro q
        try dsimp only
        refine Hd.pure (fun hp1 => ?_)
        try dsimp only at hp1
        refine Hd.seq (fun K31 hK31 => ?_)
        refine Hd.seq (fun K32 hK32 => ?_)
        refine Hd.region ?_
        refine Hd.yv (y_move rfl) ?_
        refine Hd.yv (y_lss rfl rfl) ?_
        refine Hd.nil ?_
        refine Hd.slots [(0, _), (3, _), (4, _), (5, _), (6, _), (7, _), (8, _), (9, _), (11, _), (13, _), (112, _)] ⟨rfl, rfl, rfl, rfl, rfl, rfl, rfl, rfl, rfl, rfl, rfl, trivial⟩ ?_
        refine Hd.toK hK32 ?_
        refine Hd.cond rfl (fun hc11 => ?_) (fun hc11 => ?_)
        ·
          try simp only [decide_eq_true_eq, decide_eq_false_iff_not, Bool.and_eq_true, Bool.or_eq_true, Bool.and_eq_false_iff, Bool.or_eq_false_iff, Bool.not_eq_true', Bool.not_eq_false', Bool.not_eq_true, Bool.not_eq_false, Int.not_lt, Int.not_le, Decidable.not_not, ne_eq] at hc11
          have hq2 : q < 2 := by omega
          have hr2 : 1 - q < 2 := by omega
          have hEq := hE.1 q hq2
          have htl : tls A S.e q q = (A q).tol := if_neg (Nat.lt_irrefl _)
          refine Hd.skip ?_
          refine Hd.toK hK31 ?_
          refine Hd.seq (fun K33 hK33 => ?_)
          refine Hd.block ?_
          refine Hd.seq (fun K34 hK34 => ?_)
          refine Hd.region ?_
          refine Hd.yv (y_move rfl) ?_
          refine Hd.yv (y_move rfl) ?_
          refine Hd.callE rfl fk37 (lensA _ bp S.e q hq2) (Ent.sep enn) ?_
          intro _
          refine Hd.yv (y_move rfl) ?_
          refine Hd.yv (y_extract rfl rfl) ?_
          refine Hd.yv (y_extract rfl rfl) ?_
          refine Hd.yv (y_assign rfl) ?_
          refine Hd.yv (y_assign rfl) ?_
          refine Hd.nil ?_
          refine Hd.slots [(0, _), (3, _), (4, _), (5, _), (6, _), (7, _), (8, _), (9, _), (11, _), (13, _), (14, _)] ⟨rfl, rfl, rfl, rfl, rfl, rfl, rfl, rfl, rfl, rfl, rfl, trivial⟩ ?_
          refine Hd.toK hK34 ?_
          refine Hd.seq (fun K35 hK35 => ?_)
          refine Hd.region ?_
          refine Hd.yv (y_move rfl) ?_
          refine Hd.yv (y_move rfl) ?_
          first | (refine Hd.yv (y_to (v' := .int .i64 ((1 - q : Nat) : Int)) (y_subn rfl rfl (by simp only [InK]; omega)) (by (congr 1; omega))) ?_) | (refine Hd.yv (y_to (v' := .int .i64 ((1 - q : Nat) : Int)) (y_sub rfl rfl) (by (congr 1; omega))) ?_)
          refine Hd.callE rfl fk37 (lensA _ bp S.e (1 - q) hr2) (Ent.sep enn) ?_
          intro _
          refine Hd.yv (y_move rfl) ?_
          refine Hd.yv (y_extract rfl rfl) ?_
          refine Hd.yv (y_extract rfl rfl) ?_
          refine Hd.yv (y_assign rfl) ?_
          refine Hd.yv (y_assign rfl) ?_
          refine Hd.nil ?_
          refine Hd.slots [(0, _), (3, _), (4, _), (5, _), (6, _), (7, _), (8, _), (9, _), (11, _), (13, _), (14, _), (17, _)] ⟨rfl, rfl, rfl, rfl, rfl, rfl, rfl, rfl, rfl, rfl, rfl, rfl, trivial⟩ ?_
          refine Hd.toK hK35 ?_
          refine Hd.seq (fun K36 hK36 => ?_)
          refine Hd.seq (fun K37 hK37 => ?_)
          refine Hd.region ?_
          refine Hd.yv (y_move rfl) ?_
          refine Hd.yv (y_idxA Try.underlying96 sz4 rfl rfl (by first | omega | decide)) ?_
          first | (refine Hd.yv (y_load1 ag4 rfl (Rd.pt1 pkk (by (first | exact encI2_at hn2 | exact encB2_at hq2 | exact encI2_at hq2 | exact encB2_at hr2 | exact told_at hq2 2 (by omega) | exact told_at hq2 4 (by omega) | exact told_at hr2 5 (by omega) | rfl)))) ?_) | (refine Hd.yv (y_load1 ag4 rfl (Rd.seg1 pkk (by (first | exact encI2_at hn2 | exact encB2_at hq2 | exact encI2_at hq2 | exact encB2_at hr2 | exact told_at hq2 2 (by omega) | exact told_at hq2 4 (by omega) | exact told_at hr2 5 (by omega) | rfl)))) ?_) | (refine Hd.yv (y_loadR1 ag4 rfl (by (first | exact RdS.own pkk | exact RdS.mono hR (Ent.sep enn) | exact RdS.mono hoo.rd (Ent.sep enn))) (by (first | exact encI2_at hn2 | exact encB2_at hq2 | exact encI2_at hq2 | exact encB2_at hr2 | exact told_at hq2 2 (by omega) | exact told_at hq2 4 (by omega) | exact told_at hr2 5 (by omega) | rfl))) ?_)
          refine Hd.yv (y_move rfl) ?_
          apply Hd.andg 6 131 137 [(0, _), (3, _), (4, _), (5, _), (6, _), (7, _), (8, _), (9, _), (11, _), (13, _), (14, _), (17, _)] rfl ⟨rfl, rfl, rfl, rfl, rfl, rfl, rfl, rfl, rfl, rfl, rfl, rfl, trivial⟩
          · intro hg39_131
            try simp only [decide_eq_true_eq, decide_eq_false_iff_not, Bool.and_eq_true, Bool.or_eq_true, Bool.and_eq_false_iff, Bool.or_eq_false_iff, Bool.not_eq_true', Bool.not_eq_false', Bool.not_eq_true, Bool.not_eq_false, Int.not_lt, Int.not_le, Decidable.not_not, ne_eq] at hg39_131
            simp only [List.take]
            refine Hd.yg rfl rfl (y_move rfl) ?_
            refine Hd.yg rfl rfl (y_idxA Try.underlying69 sz68 rfl rfl (by first | omega | decide)) ?_
            first | (refine Hd.yg rfl rfl (y_field' (q := 4) (ft := 3) Try.underlying68 rfl sz3 rfl rfl) ?_) | (refine Hd.yg rfl rfl (y_fieldR (q := 4) (ft := 3) Try.underlying68 rfl sz3 rfl rfl) ?_)
            first | (refine Hd.yg rfl rfl (y_load1 ag3 rfl (Rd.pt1 pkk (by (first | exact encI2_at hn2 | exact encB2_at hq2 | exact encI2_at hq2 | exact encB2_at hr2 | exact told_at hq2 2 (by omega) | exact told_at hq2 4 (by omega) | exact told_at hr2 5 (by omega) | rfl)))) ?_) | (refine Hd.yg rfl rfl (y_load1 ag3 rfl (Rd.seg1 pkk (by (first | exact encI2_at hn2 | exact encB2_at hq2 | exact encI2_at hq2 | exact encB2_at hr2 | exact told_at hq2 2 (by omega) | exact told_at hq2 4 (by omega) | exact told_at hr2 5 (by omega) | rfl)))) ?_) | (refine Hd.yg rfl rfl (y_loadR1 ag3 rfl (by (first | exact RdS.own pkk | exact RdS.mono hR (Ent.sep enn) | exact RdS.mono hoo.rd (Ent.sep enn))) (by (first | exact encI2_at hn2 | exact encB2_at hq2 | exact encI2_at hq2 | exact encB2_at hr2 | exact told_at hq2 2 (by omega) | exact told_at hq2 4 (by omega) | exact told_at hr2 5 (by omega) | rfl))) ?_)
            refine Hd.yg rfl rfl (y_gtr rfl rfl) ?_
            first | (refine Hd.yv (y_pickT rfl rfl) ?_) | (refine Hd.yv (y_pickF rfl rfl) ?_) | (refine Hd.yv (y_pickb rfl rfl rfl) ?_) | (refine Hd.yv (y_pick rfl rfl rfl) ?_)
            refine Hd.nil ?_
            exact Hd.mend (by repeat (first | exact trivial | refine ⟨rfl, ?_⟩)) (Ent.sep enn)
          · intro hg39_131
            try simp only [decide_eq_true_eq, decide_eq_false_iff_not, Bool.and_eq_true, Bool.or_eq_true, Bool.and_eq_false_iff, Bool.or_eq_false_iff, Bool.not_eq_true', Bool.not_eq_false', Bool.not_eq_true, Bool.not_eq_false, Int.not_lt, Int.not_le, Decidable.not_not, ne_eq] at hg39_131
            simp only [List.take]
            refine Hd.ng rfl rfl rfl ?_
            refine Hd.ng rfl rfl rfl ?_
            refine Hd.ng rfl rfl rfl ?_
            refine Hd.ng rfl rfl rfl ?_
            refine Hd.ng rfl rfl rfl ?_
            first | (refine Hd.yv (y_pickT rfl rfl) ?_) | (refine Hd.yv (y_pickF rfl rfl) ?_) | (refine Hd.yv (y_pickb rfl rfl rfl) ?_) | (refine Hd.yv (y_pick rfl rfl rfl) ?_)
            refine Hd.nil ?_
            exact Hd.mend (by repeat (first | exact trivial | refine ⟨rfl, ?_⟩)) (Ent.sep enn)
          simp only [List.drop]
          refine Hd.yv (y_move rfl) ?_
          apply Hd.org (q := (decide ((S.t q).ev ≠ 0) && (tls A S.e q q || !(S.e (1 - q)).fin || decide (((S.e (1 - q)).u.length : Int) ≠ 0)))) 22 138 160 [(0, _), (3, _), (4, _), (5, _), (6, _), (7, _), (8, _), (9, _), (11, _), (13, _), (14, _)] rfl ⟨rfl, rfl, rfl, rfl, rfl, rfl, rfl, rfl, rfl, rfl, rfl, trivial⟩
          · intro hg39_138
            try simp only [decide_eq_true_eq, decide_eq_false_iff_not, Bool.and_eq_true, Bool.or_eq_true, Bool.and_eq_false_iff, Bool.or_eq_false_iff, Bool.not_eq_true', Bool.not_eq_false', Bool.not_eq_true, Bool.not_eq_false, Int.not_lt, Int.not_le, Decidable.not_not, ne_eq] at hg39_138
            simp only [List.take]
            refine Hd.ng rfl rfl rfl ?_
            refine Hd.ng rfl rfl rfl ?_
            refine Hd.ng rfl rfl rfl ?_
            refine Hd.ng rfl rfl rfl ?_
            refine Hd.ng rfl rfl rfl ?_
            refine Hd.ng rfl rfl rfl ?_
            refine Hd.ng rfl rfl rfl ?_
            refine Hd.ng rfl rfl rfl ?_
            refine Hd.ng rfl rfl rfl ?_
            refine Hd.ng rfl rfl rfl ?_
            refine Hd.ng rfl rfl rfl ?_
            refine Hd.ng rfl rfl rfl ?_
            refine Hd.ng rfl rfl rfl ?_
            refine Hd.ng rfl rfl rfl ?_
            refine Hd.ng rfl rfl rfl ?_
            refine Hd.ng rfl rfl rfl ?_
            refine Hd.ng rfl rfl rfl ?_
            refine Hd.ng rfl rfl rfl ?_
            refine Hd.ng rfl rfl rfl ?_
            refine Hd.ng rfl rfl rfl ?_
            refine Hd.ng rfl rfl rfl ?_
            first | (refine Hd.yv (y_pickT rfl rfl) ?_) | (refine Hd.yv (y_pickF rfl rfl) ?_) | (refine Hd.yv (y_pickb rfl rfl rfl) ?_) | (refine Hd.yv (y_pick rfl rfl rfl) ?_)
            refine Hd.nil ?_
            exact Hd.mend (by repeat (first | exact trivial | refine ⟨rfl, ?_⟩)) (Ent.sep enn)
          · intro hg39_138
            try simp only [decide_eq_true_eq, decide_eq_false_iff_not, Bool.and_eq_true, Bool.or_eq_true, Bool.and_eq_false_iff, Bool.or_eq_false_iff, Bool.not_eq_true', Bool.not_eq_false', Bool.not_eq_true, Bool.not_eq_false, Int.not_lt, Int.not_le, Decidable.not_not, ne_eq] at hg39_138
            simp only [List.take]
            refine Hd.yg rfl rfl (y_move rfl) ?_
            refine Hd.yg rfl rfl (y_idxA Try.underlying69 sz68 rfl rfl (by first | omega | decide)) ?_
            first | (refine Hd.yg rfl rfl (y_field' (q := 2) (ft := 3) Try.underlying68 rfl sz3 rfl rfl) ?_) | (refine Hd.yg rfl rfl (y_fieldR (q := 2) (ft := 3) Try.underlying68 rfl sz3 rfl rfl) ?_)
            first | (refine Hd.yg rfl rfl (y_load1 ag3 rfl (Rd.pt1 pkk (by (first | exact encI2_at hn2 | exact encB2_at hq2 | exact encI2_at hq2 | exact encB2_at hr2 | exact told_at hq2 2 (by omega) | exact told_at hq2 4 (by omega) | exact told_at hr2 5 (by omega) | rfl)))) ?_) | (refine Hd.yg rfl rfl (y_load1 ag3 rfl (Rd.seg1 pkk (by (first | exact encI2_at hn2 | exact encB2_at hq2 | exact encI2_at hq2 | exact encB2_at hr2 | exact told_at hq2 2 (by omega) | exact told_at hq2 4 (by omega) | exact told_at hr2 5 (by omega) | rfl)))) ?_) | (refine Hd.yg rfl rfl (y_loadR1 ag3 rfl (by (first | exact RdS.own pkk | exact RdS.mono hR (Ent.sep enn) | exact RdS.mono hoo.rd (Ent.sep enn))) (by (first | exact encI2_at hn2 | exact encB2_at hq2 | exact encI2_at hq2 | exact encB2_at hr2 | exact told_at hq2 2 (by omega) | exact told_at hq2 4 (by omega) | exact told_at hr2 5 (by omega) | rfl))) ?_)
            refine Hd.yg rfl rfl (y_neq rfl rfl) ?_
            refine Hd.yg rfl rfl (y_move rfl) ?_
            apply Hd.andg 15 144 159 [(0, _), (3, _), (4, _), (5, _), (6, _), (7, _), (8, _), (9, _), (11, _), (13, _), (14, _), (138, _)] rfl ⟨rfl, rfl, rfl, rfl, rfl, rfl, rfl, rfl, rfl, rfl, rfl, rfl, trivial⟩
            · intro hg39_144
              try simp only [decide_eq_true_eq, decide_eq_false_iff_not, Bool.and_eq_true, Bool.or_eq_true, Bool.and_eq_false_iff, Bool.or_eq_false_iff, Bool.not_eq_true', Bool.not_eq_false', Bool.not_eq_true, Bool.not_eq_false, Int.not_lt, Int.not_le, Decidable.not_not, ne_eq] at hg39_144
              simp only [List.take]
              refine Hd.yg rfl rfl (y_move rfl) ?_
              refine Hd.yg rfl rfl (y_idxA Try.underlying96 sz4 rfl rfl (by first | omega | decide)) ?_
              first | (refine Hd.yg rfl rfl (y_load1 ag4 rfl (Rd.pt1 pkk (by (first | exact encI2_at hn2 | exact encB2_at hq2 | exact encI2_at hq2 | exact encB2_at hr2 | exact told_at hq2 2 (by omega) | exact told_at hq2 4 (by omega) | exact told_at hr2 5 (by omega) | rfl)))) ?_) | (refine Hd.yg rfl rfl (y_load1 ag4 rfl (Rd.seg1 pkk (by (first | exact encI2_at hn2 | exact encB2_at hq2 | exact encI2_at hq2 | exact encB2_at hr2 | exact told_at hq2 2 (by omega) | exact told_at hq2 4 (by omega) | exact told_at hr2 5 (by omega) | rfl)))) ?_) | (refine Hd.yg rfl rfl (y_loadR1 ag4 rfl (by (first | exact RdS.own pkk | exact RdS.mono hR (Ent.sep enn) | exact RdS.mono hoo.rd (Ent.sep enn))) (by (first | exact encI2_at hn2 | exact encB2_at hq2 | exact encI2_at hq2 | exact encB2_at hr2 | exact told_at hq2 2 (by omega) | exact told_at hq2 4 (by omega) | exact told_at hr2 5 (by omega) | rfl))) ?_)
              refine Hd.yg rfl rfl (y_move rfl) ?_
              apply Hd.org 6 148 154 [(0, _), (3, _), (4, _), (5, _), (6, _), (7, _), (8, _), (9, _), (11, _), (13, _), (14, _), (17, _), (138, _), (144, _)] rfl ⟨rfl, rfl, rfl, rfl, rfl, rfl, rfl, rfl, rfl, rfl, rfl, rfl, rfl, rfl, trivial⟩
              · intro hg39_148
                try simp only [decide_eq_true_eq, decide_eq_false_iff_not, Bool.and_eq_true, Bool.or_eq_true, Bool.and_eq_false_iff, Bool.or_eq_false_iff, Bool.not_eq_true', Bool.not_eq_false', Bool.not_eq_true, Bool.not_eq_false, Int.not_lt, Int.not_le, Decidable.not_not, ne_eq] at hg39_148
                simp only [List.take]
                refine Hd.ng rfl rfl rfl ?_
                refine Hd.ng rfl rfl rfl ?_
                refine Hd.ng rfl rfl rfl ?_
                refine Hd.ng rfl rfl rfl ?_
                refine Hd.ng rfl rfl rfl ?_
                first | (refine Hd.yg rfl rfl (y_pickT rfl rfl) ?_) | (refine Hd.yg rfl rfl (y_pickF rfl rfl) ?_) | (refine Hd.yg rfl rfl (y_pickb rfl rfl rfl) ?_) | (refine Hd.yg rfl rfl (y_pick rfl rfl rfl) ?_)
                refine Hd.nil ?_
                exact Hd.mend (by repeat (first | exact trivial | refine ⟨rfl, ?_⟩)) (Ent.sep enn)
              · intro hg39_148
                try simp only [decide_eq_true_eq, decide_eq_false_iff_not, Bool.and_eq_true, Bool.or_eq_true, Bool.and_eq_false_iff, Bool.or_eq_false_iff, Bool.not_eq_true', Bool.not_eq_false', Bool.not_eq_true, Bool.not_eq_false, Int.not_lt, Int.not_le, Decidable.not_not, ne_eq] at hg39_148
                simp only [List.take]
                refine Hd.yg rfl rfl (y_move rfl) ?_
                first | (refine Hd.yg rfl rfl (y_to (v' := .int .i64 ((1 - q : Nat) : Int)) (y_subn rfl rfl (by simp only [InK]; omega)) (by (congr 1; omega))) ?_) | (refine Hd.yg rfl rfl (y_to (v' := .int .i64 ((1 - q : Nat) : Int)) (y_sub rfl rfl) (by (congr 1; omega))) ?_)
                refine Hd.yg rfl rfl (y_idxA Try.underlying96 sz4 rfl rfl (by first | omega | decide)) ?_
                first | (refine Hd.yg rfl rfl (y_load1 ag4 rfl (Rd.pt1 pkk (by (first | exact encI2_at hn2 | exact encB2_at hq2 | exact encI2_at hq2 | exact encB2_at hr2 | exact told_at hq2 2 (by omega) | exact told_at hq2 4 (by omega) | exact told_at hr2 5 (by omega) | rfl)))) ?_) | (refine Hd.yg rfl rfl (y_load1 ag4 rfl (Rd.seg1 pkk (by (first | exact encI2_at hn2 | exact encB2_at hq2 | exact encI2_at hq2 | exact encB2_at hr2 | exact told_at hq2 2 (by omega) | exact told_at hq2 4 (by omega) | exact told_at hr2 5 (by omega) | rfl)))) ?_) | (refine Hd.yg rfl rfl (y_loadR1 ag4 rfl (by (first | exact RdS.own pkk | exact RdS.mono hR (Ent.sep enn) | exact RdS.mono hoo.rd (Ent.sep enn))) (by (first | exact encI2_at hn2 | exact encB2_at hq2 | exact encI2_at hq2 | exact encB2_at hr2 | exact told_at hq2 2 (by omega) | exact told_at hq2 4 (by omega) | exact told_at hr2 5 (by omega) | rfl))) ?_)
                refine Hd.yg rfl rfl (y_not rfl) ?_
                first | (refine Hd.yg rfl rfl (y_pickT rfl rfl) ?_) | (refine Hd.yg rfl rfl (y_pickF rfl rfl) ?_) | (refine Hd.yg rfl rfl (y_pickb rfl rfl rfl) ?_) | (refine Hd.yg rfl rfl (y_pick rfl rfl rfl) ?_)
                refine Hd.nil ?_
                exact Hd.mend (by repeat (first | exact trivial | refine ⟨rfl, ?_⟩)) (Ent.sep enn)
              simp only [List.drop]
              refine Hd.yg rfl rfl (y_move rfl) ?_
              apply Hd.org 3 155 158 [(0, _), (3, _), (4, _), (5, _), (6, _), (7, _), (8, _), (9, _), (11, _), (13, _), (14, _), (138, _), (144, _)] rfl ⟨rfl, rfl, rfl, rfl, rfl, rfl, rfl, rfl, rfl, rfl, rfl, rfl, rfl, trivial⟩
              · intro hg39_155
                try simp only [decide_eq_true_eq, decide_eq_false_iff_not, Bool.and_eq_true, Bool.or_eq_true, Bool.and_eq_false_iff, Bool.or_eq_false_iff, Bool.not_eq_true', Bool.not_eq_false', Bool.not_eq_true, Bool.not_eq_false, Int.not_lt, Int.not_le, Decidable.not_not, ne_eq] at hg39_155
                simp only [List.take]
                refine Hd.ng rfl rfl rfl ?_
                refine Hd.ng rfl rfl rfl ?_
                first | (refine Hd.yg rfl rfl (y_pickT rfl rfl) ?_) | (refine Hd.yg rfl rfl (y_pickF rfl rfl) ?_) | (refine Hd.yg rfl rfl (y_pickb rfl rfl rfl) ?_) | (refine Hd.yg rfl rfl (y_pick rfl rfl rfl) ?_)
                refine Hd.nil ?_
                exact Hd.mend (by repeat (first | exact trivial | refine ⟨rfl, ?_⟩)) (Ent.sep enn)
              · intro hg39_155
                try simp only [decide_eq_true_eq, decide_eq_false_iff_not, Bool.and_eq_true, Bool.or_eq_true, Bool.and_eq_false_iff, Bool.or_eq_false_iff, Bool.not_eq_true', Bool.not_eq_false', Bool.not_eq_true, Bool.not_eq_false, Int.not_lt, Int.not_le, Decidable.not_not, ne_eq] at hg39_155
                simp only [List.take]
                refine Hd.yg rfl rfl (y_move rfl) ?_
                refine Hd.yg rfl rfl (y_neq rfl rfl) ?_
                first | (refine Hd.yg rfl rfl (y_pickT rfl rfl) ?_) | (refine Hd.yg rfl rfl (y_pickF rfl rfl) ?_) | (refine Hd.yg rfl rfl (y_pickb rfl rfl rfl) ?_) | (refine Hd.yg rfl rfl (y_pick rfl rfl rfl) ?_)
                refine Hd.nil ?_
                exact Hd.mend (by repeat (first | exact trivial | refine ⟨rfl, ?_⟩)) (Ent.sep enn)
              simp only [List.drop]
              first | (refine Hd.yg rfl rfl (y_pickT rfl rfl) ?_) | (refine Hd.yg rfl rfl (y_pickF rfl rfl) ?_) | (refine Hd.yg rfl rfl (y_pickb rfl rfl rfl) ?_) | (refine Hd.yg rfl rfl (y_pick rfl rfl rfl) ?_)
              refine Hd.nil ?_
              exact Hd.mend (by repeat (first | exact trivial | refine ⟨rfl, ?_⟩)) (Ent.sep enn)
            · intro hg39_144
              try simp only [decide_eq_true_eq, decide_eq_false_iff_not, Bool.and_eq_true, Bool.or_eq_true, Bool.and_eq_false_iff, Bool.or_eq_false_iff, Bool.not_eq_true', Bool.not_eq_false', Bool.not_eq_true, Bool.not_eq_false, Int.not_lt, Int.not_le, Decidable.not_not, ne_eq] at hg39_144
              simp only [List.take]
              refine Hd.ng rfl rfl rfl ?_
              refine Hd.ng rfl rfl rfl ?_
              refine Hd.ng rfl rfl rfl ?_
              refine Hd.ng rfl rfl rfl ?_
              refine Hd.ng rfl rfl rfl ?_
              refine Hd.ng rfl rfl rfl ?_
              refine Hd.ng rfl rfl rfl ?_
              refine Hd.ng rfl rfl rfl ?_
              refine Hd.ng rfl rfl rfl ?_
              refine Hd.ng rfl rfl rfl ?_
              refine Hd.ng rfl rfl rfl ?_
              refine Hd.ng rfl rfl rfl ?_
              refine Hd.ng rfl rfl rfl ?_
              refine Hd.ng rfl rfl rfl ?_
              first | (refine Hd.yg rfl rfl (y_pickT rfl rfl) ?_) | (refine Hd.yg rfl rfl (y_pickF rfl rfl) ?_) | (refine Hd.yg rfl rfl (y_pickb rfl rfl rfl) ?_) | (refine Hd.yg rfl rfl (y_pick rfl rfl rfl) ?_)
              refine Hd.nil ?_
              exact Hd.mend (by repeat (first | exact trivial | refine ⟨rfl, ?_⟩)) (Ent.sep enn)
            simp only [List.drop]
            first | (refine Hd.yv (y_pickT rfl rfl) ?_) | (refine Hd.yv (y_pickF rfl rfl) ?_) | (refine Hd.yv (y_pickb rfl rfl rfl) ?_) | (refine Hd.yv (y_pick rfl rfl rfl) ?_)
            refine Hd.nil ?_
            exact Hd.mend (by repeat (first | exact trivial | refine ⟨rfl, ?_⟩)) (Ent.sep enn)
          simp only [List.drop]
          refine Hd.nil ?_
          refine Hd.slots [(0, _), (3, _), (4, _), (5, _), (6, _), (7, _), (8, _), (9, _), (11, _), (13, _), (14, _), (160, _)] ⟨rfl, rfl, rfl, rfl, rfl, rfl, rfl, rfl, rfl, rfl, rfl, rfl, trivial⟩ ?_
          refine Hd.toK hK37 ?_
          refine Hd.cond rfl (fun hc12 => ?_) (fun hc12 => ?_)
          ·
            try simp only [decide_eq_true_eq, decide_eq_false_iff_not, Bool.and_eq_true, Bool.or_eq_true, Bool.and_eq_false_iff, Bool.or_eq_false_iff, Bool.not_eq_true', Bool.not_eq_false', Bool.not_eq_true, Bool.not_eq_false, Int.not_lt, Int.not_le, Decidable.not_not, ne_eq] at hc12
            exfalso
            rcases hc12 with ⟨h1, h2⟩ | ⟨h1, h2⟩
            · rw [htl] at h1; have := hEq.a h1; omega
            · have hb := hEq.b h1
              rcases h2 with (h2 | h2) | h2
              · rw [htl, hb.1] at h2; cases h2
              · rw [show (S.e (1 - q)).fin = true from hb.2.1] at h2; cases h2
              · exact h2 (by rw [hb.2.2]; rfl)
          ·
            try simp only [decide_eq_true_eq, decide_eq_false_iff_not, Bool.and_eq_true, Bool.or_eq_true, Bool.and_eq_false_iff, Bool.or_eq_false_iff, Bool.not_eq_true', Bool.not_eq_false', Bool.not_eq_true, Bool.not_eq_false, Int.not_lt, Int.not_le, Decidable.not_not, ne_eq] at hc12
            refine Hd.skip ?_
            refine Hd.toK hK36 ?_
            refine Hd.seq (fun K38 hK38 => ?_)
            refine Hd.seq (fun K39 hK39 => ?_)
            refine Hd.quiet mixed (by kernel_rfl) ?_
            first | (refine Hq.yv (y_field' (q := 0) (ft := 3) Try.underlying80 rfl sz3 rfl rfl) ?_) | (refine Hq.yv (y_fieldR (q := 0) (ft := 3) Try.underlying80 rfl sz3 rfl rfl) ?_)
            first | (refine Hq.yv (y_load1 ag3 rfl (Rd.pt1 pkk (by (first | exact encI2_at hn2 | exact encB2_at hq2 | exact encI2_at hq2 | exact encB2_at hr2 | exact told_at hq2 2 (by omega) | exact told_at hq2 4 (by omega) | exact told_at hr2 5 (by omega) | rfl)))) ?_) | (refine Hq.yv (y_load1 ag3 rfl (Rd.seg1 pkk (by (first | exact encI2_at hn2 | exact encB2_at hq2 | exact encI2_at hq2 | exact encB2_at hr2 | exact told_at hq2 2 (by omega) | exact told_at hq2 4 (by omega) | exact told_at hr2 5 (by omega) | rfl)))) ?_) | (refine Hq.yv (y_loadR1 ag3 rfl (by (first | exact RdS.own pkk | exact RdS.mono hR (Ent.sep enn) | exact RdS.mono hoo.rd (Ent.sep enn))) (by (first | exact encI2_at hn2 | exact encB2_at hq2 | exact encI2_at hq2 | exact encB2_at hr2 | exact told_at hq2 2 (by omega) | exact told_at hq2 4 (by omega) | exact told_at hr2 5 (by omega) | rfl))) ?_)
            first | (refine Hq.yv (y_eqlT rfl rfl) ?_) | (refine Hq.yv (y_eql rfl rfl) ?_)
            refine Hq.yv (y_move rfl) ?_
            apply Hq.andg 6 164 170 [(0, _), (3, _), (4, _), (5, _), (6, _), (7, _), (8, _), (9, _), (11, _), (13, _), (14, _)] rfl ⟨rfl, rfl, rfl, rfl, rfl, rfl, rfl, rfl, rfl, rfl, rfl, trivial⟩
            · intro hg41_164
              try simp only [decide_eq_true_eq, decide_eq_false_iff_not, Bool.and_eq_true, Bool.or_eq_true, Bool.and_eq_false_iff, Bool.or_eq_false_iff, Bool.not_eq_true', Bool.not_eq_false', Bool.not_eq_true, Bool.not_eq_false, Int.not_lt, Int.not_le, Decidable.not_not, ne_eq] at hg41_164
              simp only [List.take]
              refine Hq.yg rfl rfl (y_move rfl) ?_
              refine Hq.yg rfl rfl (y_idxA Try.underlying69 sz68 rfl rfl (by first | omega | decide)) ?_
              first | (refine Hq.yg rfl rfl (y_field' (q := 4) (ft := 3) Try.underlying68 rfl sz3 rfl rfl) ?_) | (refine Hq.yg rfl rfl (y_fieldR (q := 4) (ft := 3) Try.underlying68 rfl sz3 rfl rfl) ?_)
              first | (refine Hq.yg rfl rfl (y_load1 ag3 rfl (Rd.pt1 pkk (by (first | exact encI2_at hn2 | exact encB2_at hq2 | exact encI2_at hq2 | exact encB2_at hr2 | exact told_at hq2 2 (by omega) | exact told_at hq2 4 (by omega) | exact told_at hr2 5 (by omega) | rfl)))) ?_) | (refine Hq.yg rfl rfl (y_load1 ag3 rfl (Rd.seg1 pkk (by (first | exact encI2_at hn2 | exact encB2_at hq2 | exact encI2_at hq2 | exact encB2_at hr2 | exact told_at hq2 2 (by omega) | exact told_at hq2 4 (by omega) | exact told_at hr2 5 (by omega) | rfl)))) ?_) | (refine Hq.yg rfl rfl (y_loadR1 ag3 rfl (by (first | exact RdS.own pkk | exact RdS.mono hR (Ent.sep enn) | exact RdS.mono hoo.rd (Ent.sep enn))) (by (first | exact encI2_at hn2 | exact encB2_at hq2 | exact encI2_at hq2 | exact encB2_at hr2 | exact told_at hq2 2 (by omega) | exact told_at hq2 4 (by omega) | exact told_at hr2 5 (by omega) | rfl))) ?_)
              refine Hq.yg rfl rfl (y_gtr rfl rfl) ?_
              first | (refine Hq.yv (y_pickT rfl rfl) ?_) | (refine Hq.yv (y_pickF rfl rfl) ?_) | (refine Hq.yv (y_pickb rfl rfl rfl) ?_) | (refine Hq.yv (y_pick rfl rfl rfl) ?_)
              exact Hq.mend (by repeat (first | exact trivial | refine ⟨rfl, ?_⟩))
            · intro hg41_164
              try simp only [decide_eq_true_eq, decide_eq_false_iff_not, Bool.and_eq_true, Bool.or_eq_true, Bool.and_eq_false_iff, Bool.or_eq_false_iff, Bool.not_eq_true', Bool.not_eq_false', Bool.not_eq_true, Bool.not_eq_false, Int.not_lt, Int.not_le, Decidable.not_not, ne_eq] at hg41_164
              simp only [List.take]
              refine Hq.ng rfl rfl rfl ?_
              refine Hq.ng rfl rfl rfl ?_
              refine Hq.ng rfl rfl rfl ?_
              refine Hq.ng rfl rfl rfl ?_
              refine Hq.ng rfl rfl rfl ?_
              first | (refine Hq.yv (y_pickT rfl rfl) ?_) | (refine Hq.yv (y_pickF rfl rfl) ?_) | (refine Hq.yv (y_pickb rfl rfl rfl) ?_) | (refine Hq.yv (y_pick rfl rfl rfl) ?_)
              exact Hq.mend (by repeat (first | exact trivial | refine ⟨rfl, ?_⟩))
            simp only [List.drop]
            refine Hq.yv (y_move rfl) ?_
            apply Hq.andg 5 171 176 [(0, _), (3, _), (4, _), (5, _), (6, _), (7, _), (8, _), (9, _), (11, _), (13, _), (14, _)] rfl ⟨rfl, rfl, rfl, rfl, rfl, rfl, rfl, rfl, rfl, rfl, rfl, trivial⟩
            · intro hg41_171
              try simp only [decide_eq_true_eq, decide_eq_false_iff_not, Bool.and_eq_true, Bool.or_eq_true, Bool.and_eq_false_iff, Bool.or_eq_false_iff, Bool.not_eq_true', Bool.not_eq_false', Bool.not_eq_true, Bool.not_eq_false, Int.not_lt, Int.not_le, Decidable.not_not, ne_eq] at hg41_171
              simp only [List.take]
              refine Hq.yg rfl rfl (y_move rfl) ?_
              refine Hq.yg rfl rfl (y_idxA Try.underlying95 sz3 rfl rfl (by first | omega | decide)) ?_
              first | (refine Hq.yg rfl rfl (y_load1 ag3 rfl (Rd.pt1 pkk (by (first | exact encI2_at hn2 | exact encB2_at hq2 | exact encI2_at hq2 | exact encB2_at hr2 | exact told_at hq2 2 (by omega) | exact told_at hq2 4 (by omega) | exact told_at hr2 5 (by omega) | rfl)))) ?_) | (refine Hq.yg rfl rfl (y_load1 ag3 rfl (Rd.seg1 pkk (by (first | exact encI2_at hn2 | exact encB2_at hq2 | exact encI2_at hq2 | exact encB2_at hr2 | exact told_at hq2 2 (by omega) | exact told_at hq2 4 (by omega) | exact told_at hr2 5 (by omega) | rfl)))) ?_) | (refine Hq.yg rfl rfl (y_loadR1 ag3 rfl (by (first | exact RdS.own pkk | exact RdS.mono hR (Ent.sep enn) | exact RdS.mono hoo.rd (Ent.sep enn))) (by (first | exact encI2_at hn2 | exact encB2_at hq2 | exact encI2_at hq2 | exact encB2_at hr2 | exact told_at hq2 2 (by omega) | exact told_at hq2 4 (by omega) | exact told_at hr2 5 (by omega) | rfl))) ?_)
              refine Hq.yg rfl rfl (y_gtr rfl rfl) ?_
              first | (refine Hq.yv (y_pickT rfl rfl) ?_) | (refine Hq.yv (y_pickF rfl rfl) ?_) | (refine Hq.yv (y_pickb rfl rfl rfl) ?_) | (refine Hq.yv (y_pick rfl rfl rfl) ?_)
              exact Hq.mend (by repeat (first | exact trivial | refine ⟨rfl, ?_⟩))
            · intro hg41_171
              try simp only [decide_eq_true_eq, decide_eq_false_iff_not, Bool.and_eq_true, Bool.or_eq_true, Bool.and_eq_false_iff, Bool.or_eq_false_iff, Bool.not_eq_true', Bool.not_eq_false', Bool.not_eq_true, Bool.not_eq_false, Int.not_lt, Int.not_le, Decidable.not_not, ne_eq] at hg41_171
              simp only [List.take]
              refine Hq.ng rfl rfl rfl ?_
              refine Hq.ng rfl rfl rfl ?_
              refine Hq.ng rfl rfl rfl ?_
              refine Hq.ng rfl rfl rfl ?_
              first | (refine Hq.yv (y_pickT rfl rfl) ?_) | (refine Hq.yv (y_pickF rfl rfl) ?_) | (refine Hq.yv (y_pickb rfl rfl rfl) ?_) | (refine Hq.yv (y_pick rfl rfl rfl) ?_)
              exact Hq.mend (by repeat (first | exact trivial | refine ⟨rfl, ?_⟩))
            simp only [List.drop]
            refine Hq.yv (y_move rfl) ?_
            apply Hq.andg 6 177 183 [(0, _), (3, _), (4, _), (5, _), (6, _), (7, _), (8, _), (9, _), (11, _), (13, _)] rfl ⟨rfl, rfl, rfl, rfl, rfl, rfl, rfl, rfl, rfl, rfl, trivial⟩
            · intro hg41_177
              try simp only [decide_eq_true_eq, decide_eq_false_iff_not, Bool.and_eq_true, Bool.or_eq_true, Bool.and_eq_false_iff, Bool.or_eq_false_iff, Bool.not_eq_true', Bool.not_eq_false', Bool.not_eq_true, Bool.not_eq_false, Int.not_lt, Int.not_le, Decidable.not_not, ne_eq] at hg41_177
              simp only [List.take]
              refine Hq.yg rfl rfl (y_move rfl) ?_
              refine Hq.yg rfl rfl (y_move rfl) ?_
              refine Hq.yg rfl rfl (y_idxA Try.underlying95 sz3 rfl rfl (by first | omega | decide)) ?_
              first | (refine Hq.yg rfl rfl (y_load1 ag3 rfl (Rd.pt1 pkk (by (first | exact encI2_at hn2 | exact encB2_at hq2 | exact encI2_at hq2 | exact encB2_at hr2 | exact told_at hq2 2 (by omega) | exact told_at hq2 4 (by omega) | exact told_at hr2 5 (by omega) | rfl)))) ?_) | (refine Hq.yg rfl rfl (y_load1 ag3 rfl (Rd.seg1 pkk (by (first | exact encI2_at hn2 | exact encB2_at hq2 | exact encI2_at hq2 | exact encB2_at hr2 | exact told_at hq2 2 (by omega) | exact told_at hq2 4 (by omega) | exact told_at hr2 5 (by omega) | rfl)))) ?_) | (refine Hq.yg rfl rfl (y_loadR1 ag3 rfl (by (first | exact RdS.own pkk | exact RdS.mono hR (Ent.sep enn) | exact RdS.mono hoo.rd (Ent.sep enn))) (by (first | exact encI2_at hn2 | exact encB2_at hq2 | exact encI2_at hq2 | exact encB2_at hr2 | exact told_at hq2 2 (by omega) | exact told_at hq2 4 (by omega) | exact told_at hr2 5 (by omega) | rfl))) ?_)
              refine Hq.yg rfl rfl (y_gtr rfl rfl) ?_
              first | (refine Hq.yv (y_pickT rfl rfl) ?_) | (refine Hq.yv (y_pickF rfl rfl) ?_) | (refine Hq.yv (y_pickb rfl rfl rfl) ?_) | (refine Hq.yv (y_pick rfl rfl rfl) ?_)
              exact Hq.mend (by repeat (first | exact trivial | refine ⟨rfl, ?_⟩))
            · intro hg41_177
              try simp only [decide_eq_true_eq, decide_eq_false_iff_not, Bool.and_eq_true, Bool.or_eq_true, Bool.and_eq_false_iff, Bool.or_eq_false_iff, Bool.not_eq_true', Bool.not_eq_false', Bool.not_eq_true, Bool.not_eq_false, Int.not_lt, Int.not_le, Decidable.not_not, ne_eq] at hg41_177
              simp only [List.take]
              refine Hq.ng rfl rfl rfl ?_
              refine Hq.ng rfl rfl rfl ?_
              refine Hq.ng rfl rfl rfl ?_
              refine Hq.ng rfl rfl rfl ?_
              refine Hq.ng rfl rfl rfl ?_
              first | (refine Hq.yv (y_pickT rfl rfl) ?_) | (refine Hq.yv (y_pickF rfl rfl) ?_) | (refine Hq.yv (y_pickb rfl rfl rfl) ?_) | (refine Hq.yv (y_pick rfl rfl rfl) ?_)
              exact Hq.mend (by repeat (first | exact trivial | refine ⟨rfl, ?_⟩))
            simp only [List.drop]
            refine Hq.yv (y_move rfl) ?_
            apply Hq.org 11 184 195 [(0, _), (3, _), (4, _), (5, _), (6, _), (7, _), (8, _), (9, _), (11, _), (13, _)] rfl ⟨rfl, rfl, rfl, rfl, rfl, rfl, rfl, rfl, rfl, rfl, trivial⟩
            · intro hg41_184
              try simp only [decide_eq_true_eq, decide_eq_false_iff_not, Bool.and_eq_true, Bool.or_eq_true, Bool.and_eq_false_iff, Bool.or_eq_false_iff, Bool.not_eq_true', Bool.not_eq_false', Bool.not_eq_true, Bool.not_eq_false, Int.not_lt, Int.not_le, Decidable.not_not, ne_eq] at hg41_184
              simp only [List.take]
              refine Hq.ng rfl rfl rfl ?_
              refine Hq.ng rfl rfl rfl ?_
              refine Hq.ng rfl rfl rfl ?_
              refine Hq.ng rfl rfl rfl ?_
              refine Hq.ng rfl rfl rfl ?_
              refine Hq.ng rfl rfl rfl ?_
              refine Hq.ng rfl rfl rfl ?_
              refine Hq.ng rfl rfl rfl ?_
              refine Hq.ng rfl rfl rfl ?_
              refine Hq.ng rfl rfl rfl ?_
              first | (refine Hq.yv (y_pickT rfl rfl) ?_) | (refine Hq.yv (y_pickF rfl rfl) ?_) | (refine Hq.yv (y_pickb rfl rfl rfl) ?_) | (refine Hq.yv (y_pick rfl rfl rfl) ?_)
              exact Hq.mend (by repeat (first | exact trivial | refine ⟨rfl, ?_⟩))
            · intro hg41_184
              try simp only [decide_eq_true_eq, decide_eq_false_iff_not, Bool.and_eq_true, Bool.or_eq_true, Bool.and_eq_false_iff, Bool.or_eq_false_iff, Bool.not_eq_true', Bool.not_eq_false', Bool.not_eq_true, Bool.not_eq_false, Int.not_lt, Int.not_le, Decidable.not_not, ne_eq] at hg41_184
              simp only [List.take]
              refine Hq.yg rfl rfl (y_move rfl) ?_
              refine Hq.yg rfl rfl (y_idxA Try.underlying69 sz68 rfl rfl (by first | omega | decide)) ?_
              first | (refine Hq.yg rfl rfl (y_field' (q := 4) (ft := 3) Try.underlying68 rfl sz3 rfl rfl) ?_) | (refine Hq.yg rfl rfl (y_fieldR (q := 4) (ft := 3) Try.underlying68 rfl sz3 rfl rfl) ?_)
              first | (refine Hq.yg rfl rfl (y_load1 ag3 rfl (Rd.pt1 pkk (by (first | exact encI2_at hn2 | exact encB2_at hq2 | exact encI2_at hq2 | exact encB2_at hr2 | exact told_at hq2 2 (by omega) | exact told_at hq2 4 (by omega) | exact told_at hr2 5 (by omega) | rfl)))) ?_) | (refine Hq.yg rfl rfl (y_load1 ag3 rfl (Rd.seg1 pkk (by (first | exact encI2_at hn2 | exact encB2_at hq2 | exact encI2_at hq2 | exact encB2_at hr2 | exact told_at hq2 2 (by omega) | exact told_at hq2 4 (by omega) | exact told_at hr2 5 (by omega) | rfl)))) ?_) | (refine Hq.yg rfl rfl (y_loadR1 ag3 rfl (by (first | exact RdS.own pkk | exact RdS.mono hR (Ent.sep enn) | exact RdS.mono hoo.rd (Ent.sep enn))) (by (first | exact encI2_at hn2 | exact encB2_at hq2 | exact encI2_at hq2 | exact encB2_at hr2 | exact told_at hq2 2 (by omega) | exact told_at hq2 4 (by omega) | exact told_at hr2 5 (by omega) | rfl))) ?_)
              refine Hq.yg rfl rfl (y_move rfl) ?_
              first | (refine Hq.yg rfl rfl (y_to (v' := .int .i64 ((1 - q : Nat) : Int)) (y_subn rfl rfl (by simp only [InK]; omega)) (by (congr 1; omega))) ?_) | (refine Hq.yg rfl rfl (y_to (v' := .int .i64 ((1 - q : Nat) : Int)) (y_sub rfl rfl) (by (congr 1; omega))) ?_)
              refine Hq.yg rfl rfl (y_idxA Try.underlying69 sz68 rfl rfl (by first | omega | decide)) ?_
              first | (refine Hq.yg rfl rfl (y_field' (q := 5) (ft := 3) Try.underlying68 rfl sz3 rfl rfl) ?_) | (refine Hq.yg rfl rfl (y_fieldR (q := 5) (ft := 3) Try.underlying68 rfl sz3 rfl rfl) ?_)
              first | (refine Hq.yg rfl rfl (y_load1 ag3 rfl (Rd.pt1 pkk (by (first | exact encI2_at hn2 | exact encB2_at hq2 | exact encI2_at hq2 | exact encB2_at hr2 | exact told_at hq2 2 (by omega) | exact told_at hq2 4 (by omega) | exact told_at hr2 5 (by omega) | rfl)))) ?_) | (refine Hq.yg rfl rfl (y_load1 ag3 rfl (Rd.seg1 pkk (by (first | exact encI2_at hn2 | exact encB2_at hq2 | exact encI2_at hq2 | exact encB2_at hr2 | exact told_at hq2 2 (by omega) | exact told_at hq2 4 (by omega) | exact told_at hr2 5 (by omega) | rfl)))) ?_) | (refine Hq.yg rfl rfl (y_loadR1 ag3 rfl (by (first | exact RdS.own pkk | exact RdS.mono hR (Ent.sep enn) | exact RdS.mono hoo.rd (Ent.sep enn))) (by (first | exact encI2_at hn2 | exact encB2_at hq2 | exact encI2_at hq2 | exact encB2_at hr2 | exact told_at hq2 2 (by omega) | exact told_at hq2 4 (by omega) | exact told_at hr2 5 (by omega) | rfl))) ?_)
              refine Hq.yg rfl rfl (y_neq rfl rfl) ?_
              first | (refine Hq.yv (y_pickT rfl rfl) ?_) | (refine Hq.yv (y_pickF rfl rfl) ?_) | (refine Hq.yv (y_pickb rfl rfl rfl) ?_) | (refine Hq.yv (y_pick rfl rfl rfl) ?_)
              exact Hq.mend (by repeat (first | exact trivial | refine ⟨rfl, ?_⟩))
            simp only [List.drop]
            refine Hq.nil ?_
            refine Hd.slots [(0, _), (3, _), (4, _), (5, _), (6, _), (7, _), (8, _), (9, _), (11, _), (13, _), (195, _)] ⟨rfl, rfl, rfl, rfl, rfl, rfl, rfl, rfl, rfl, rfl, rfl, trivial⟩ ?_
            refine Hd.toK hK39 ?_
            refine Hd.cond rfl (fun hc13 => ?_) (fun hc13 => ?_)
            ·
              try simp only [decide_eq_true_eq, decide_eq_false_iff_not, Bool.and_eq_true, Bool.or_eq_true, Bool.and_eq_false_iff, Bool.or_eq_false_iff, Bool.not_eq_true', Bool.not_eq_false', Bool.not_eq_true, Bool.not_eq_false, Int.not_lt, Int.not_le, Decidable.not_not, ne_eq] at hc13
              exfalso
              rcases hc13 with ⟨⟨⟨h1, h2⟩, h3⟩, h4⟩ | h1
              · have h5 := hEq.e h1 h2 h3
                have h6 : (S.e q).high < ((S.e q).i.length : Int) := h4
                omega
              · exact h1 hEq.c
            ·
              try simp only [decide_eq_true_eq, decide_eq_false_iff_not, Bool.and_eq_true, Bool.or_eq_true, Bool.and_eq_false_iff, Bool.or_eq_false_iff, Bool.not_eq_true', Bool.not_eq_false', Bool.not_eq_true, Bool.not_eq_false, Int.not_lt, Int.not_le, Decidable.not_not, ne_eq] at hc13
              refine Hd.skip ?_
              refine Hd.toK hK38 ?_
              refine Hd.region ?_
              refine Hd.yv (y_move rfl) ?_
              refine Hd.yv (y_move rfl) ?_
              refine Hd.yv (y_idxA Try.underlying96 sz4 rfl rfl (by first | omega | decide)) ?_
              first | (refine Hd.yv (y_load1 ag4 rfl (Rd.pt1 pkk (by (first | exact encI2_at hn2 | exact encB2_at hq2 | exact encI2_at hq2 | exact encB2_at hr2 | exact told_at hq2 2 (by omega) | exact told_at hq2 4 (by omega) | exact told_at hr2 5 (by omega) | rfl)))) ?_) | (refine Hd.yv (y_load1 ag4 rfl (Rd.seg1 pkk (by (first | exact encI2_at hn2 | exact encB2_at hq2 | exact encI2_at hq2 | exact encB2_at hr2 | exact told_at hq2 2 (by omega) | exact told_at hq2 4 (by omega) | exact told_at hr2 5 (by omega) | rfl)))) ?_) | (refine Hd.yv (y_loadR1 ag4 rfl (by (first | exact RdS.own pkk | exact RdS.mono hR (Ent.sep enn) | exact RdS.mono hoo.rd (Ent.sep enn))) (by (first | exact encI2_at hn2 | exact encB2_at hq2 | exact encI2_at hq2 | exact encB2_at hr2 | exact told_at hq2 2 (by omega) | exact told_at hq2 4 (by omega) | exact told_at hr2 5 (by omega) | rfl))) ?_)
              refine Hd.yv (y_move rfl) ?_
              apply Hd.org 6 200 206 [(0, _), (3, _), (4, _), (5, _), (6, _), (7, _), (8, _), (9, _), (11, _), (13, _), (196, _)] rfl ⟨rfl, rfl, rfl, rfl, rfl, rfl, rfl, rfl, rfl, rfl, rfl, trivial⟩
              · intro hg43_200
                try simp only [decide_eq_true_eq, decide_eq_false_iff_not, Bool.and_eq_true, Bool.or_eq_true, Bool.and_eq_false_iff, Bool.or_eq_false_iff, Bool.not_eq_true', Bool.not_eq_false', Bool.not_eq_true, Bool.not_eq_false, Int.not_lt, Int.not_le, Decidable.not_not, ne_eq] at hg43_200
                simp only [List.take]
                refine Hd.ng rfl rfl rfl ?_
                refine Hd.ng rfl rfl rfl ?_
                refine Hd.ng rfl rfl rfl ?_
                refine Hd.ng rfl rfl rfl ?_
                refine Hd.ng rfl rfl rfl ?_
                first | (refine Hd.yv (y_pickT rfl rfl) ?_) | (refine Hd.yv (y_pickF rfl rfl) ?_) | (refine Hd.yv (y_pickb rfl rfl rfl) ?_) | (refine Hd.yv (y_pick rfl rfl rfl) ?_)
                refine Hd.nil ?_
                exact Hd.mend (by repeat (first | exact trivial | refine ⟨rfl, ?_⟩)) (Ent.sep enn)
              · intro hg43_200
                try simp only [decide_eq_true_eq, decide_eq_false_iff_not, Bool.and_eq_true, Bool.or_eq_true, Bool.and_eq_false_iff, Bool.or_eq_false_iff, Bool.not_eq_true', Bool.not_eq_false', Bool.not_eq_true, Bool.not_eq_false, Int.not_lt, Int.not_le, Decidable.not_not, ne_eq] at hg43_200
                simp only [List.take]
                refine Hd.yg rfl rfl (y_move rfl) ?_
                refine Hd.yg rfl rfl (y_idxA Try.underlying69 sz68 rfl rfl (by first | omega | decide)) ?_
                first | (refine Hd.yg rfl rfl (y_field' (q := 2) (ft := 3) Try.underlying68 rfl sz3 rfl rfl) ?_) | (refine Hd.yg rfl rfl (y_fieldR (q := 2) (ft := 3) Try.underlying68 rfl sz3 rfl rfl) ?_)
                first | (refine Hd.yg rfl rfl (y_load1 ag3 rfl (Rd.pt1 pkk (by (first | exact encI2_at hn2 | exact encB2_at hq2 | exact encI2_at hq2 | exact encB2_at hr2 | exact told_at hq2 2 (by omega) | exact told_at hq2 4 (by omega) | exact told_at hr2 5 (by omega) | rfl)))) ?_) | (refine Hd.yg rfl rfl (y_load1 ag3 rfl (Rd.seg1 pkk (by (first | exact encI2_at hn2 | exact encB2_at hq2 | exact encI2_at hq2 | exact encB2_at hr2 | exact told_at hq2 2 (by omega) | exact told_at hq2 4 (by omega) | exact told_at hr2 5 (by omega) | rfl)))) ?_) | (refine Hd.yg rfl rfl (y_loadR1 ag3 rfl (by (first | exact RdS.own pkk | exact RdS.mono hR (Ent.sep enn) | exact RdS.mono hoo.rd (Ent.sep enn))) (by (first | exact encI2_at hn2 | exact encB2_at hq2 | exact encI2_at hq2 | exact encB2_at hr2 | exact told_at hq2 2 (by omega) | exact told_at hq2 4 (by omega) | exact told_at hr2 5 (by omega) | rfl))) ?_)
                refine Hd.yg rfl rfl (y_neq rfl rfl) ?_
                first | (refine Hd.yv (y_pickT rfl rfl) ?_) | (refine Hd.yv (y_pickF rfl rfl) ?_) | (refine Hd.yv (y_pickb rfl rfl rfl) ?_) | (refine Hd.yv (y_pick rfl rfl rfl) ?_)
                refine Hd.nil ?_
                exact Hd.mend (by repeat (first | exact trivial | refine ⟨rfl, ?_⟩)) (Ent.sep enn)
              simp only [List.drop]
              refine Hd.yv (y_idxA Try.underlying96 sz4 rfl rfl (by first | omega | decide)) ?_
              first | (refine Hd.store1 sz4 rfl rfl rfl pkk (by first | decide | (simp; done) | (simp; omega)) ?_) | (refine Hd.storeG1 sz4 rfl rfl rfl pkk (by first | decide | (simp; done) | (simp; omega)) ?_) | (refine Hd.storeO1 sz4 rfl rfl rfl pkk (by first | omega | (simp; done) | (simp; omega)) ?_)
              try simp only [List.set_cons_zero, List.set_cons_succ]
              refine Hd.nil ?_
              refine Hd.slots [(0, _), (3, _), (4, _), (5, _), (6, _), (7, _), (8, _), (9, _), (11, _), (13, _)] ⟨rfl, rfl, rfl, rfl, rfl, rfl, rfl, rfl, rfl, rfl, trivial⟩ ?_
              refine Hd.inB ?_
              refine Hd.toK hK33 ?_
              refine Hd.region ?_
              refine Hd.yv (y_move rfl) ?_
              first | (refine Hd.yv (y_addn rfl rfl (by simp only [InK]; omega)) ?_) | (refine Hd.yv (y_add rfl rfl) ?_)
              refine Hd.yv (y_assign rfl) ?_
              refine Hd.nil ?_
              refine Hd.slots [(0, _), (3, _), (4, _), (5, _), (6, _), (7, _), (8, _), (9, _), (11, _), (13, _)] ⟨rfl, rfl, rfl, rfl, rfl, rfl, rfl, rfl, rfl, rfl, trivial⟩ ?_
              clear hK1 hK2 hK3 hK4 hK6 hK7 hK8 hK9 hK10 hK11 hK12 hK13 hK14 hK15 hK16 hK17 hK30 hK31 hK32 hK33 hK34 hK35 hK36 hK37 hK38 hK39
              refine Hd.thenN ?_
              exact Hd.again (q + 1) (by first | omega | (simp only; omega) | (simp; omega)) (by repeat (first | exact trivial | refine ⟨rfl, ?_⟩)) (Ent.sep (.pure (by first | omega | (simp; done) | (simp; omega) | (dsimp only; omega)) (.pick pkk (.pick pkk (.pick pkk (.eq pkk (pt_eq ((encB2_set hq2 _).trans (encB2_eq (tls_next hq2 htl hEq.d)))) enn))))))
        ·
          try simp only [decide_eq_true_eq, decide_eq_false_iff_not, Bool.and_eq_true, Bool.or_eq_true, Bool.and_eq_false_iff, Bool.or_eq_false_iff, Bool.not_eq_true', Bool.not_eq_false', Bool.not_eq_true, Bool.not_eq_false, Int.not_lt, Int.not_le, Decidable.not_not, ne_eq] at hc11
          refine Hd.exit ?_
          refine Hd.thenExit ?_
          refine Hd.thenExit ?_
          refine Hd.inBexit ?_
          refine Hd.inB ?_
          refine Hd.toK hK14 ?_
          refine Hd.region ?_
          refine Hd.yv (y_move rfl) ?_
          first | (refine Hd.yv (y_addn rfl rfl (by simp only [InK]; omega)) ?_) | (refine Hd.yv (y_add rfl rfl) ?_)
          refine Hd.yv (y_assign rfl) ?_
          refine Hd.nil ?_
          refine Hd.slots [(0, _), (3, _), (4, _), (5, _), (6, _), (7, _), (8, _)] ⟨rfl, rfl, rfl, rfl, rfl, rfl, rfl, trivial⟩ ?_
          clear hK1 hK2 hK3 hK4 hK6 hK7 hK8 hK9 hK10 hK11 hK12 hK13 hK14 hK15 hK16 hK17 hK30 hK31 hK32
          refine Hd.thenN ?_
          exact Hd.again (i + 1, S.e) (by first | omega | (simp only; omega) | (simp; omega)) (by repeat (first | exact trivial | refine ⟨rfl, ?_⟩)) (Ent.sep (.pure ⟨hi, hE.2⟩ (.pick pkk (.pick pkk (.pick pkk (.eq pkk (pt_eq (encB2_eq (fun n h => by show (if n < q then _ else _) = _; rw [if_pos (by omega)]; rfl))) enn))))))
    ·
      try simp only [decide_eq_true_eq, decide_eq_false_iff_not, Bool.and_eq_true, Bool.or_eq_true, Bool.and_eq_false_iff, Bool.or_eq_false_iff, Bool.not_eq_true', Bool.not_eq_false', Bool.not_eq_true, Bool.not_eq_false, Int.not_lt, Int.not_le, Decidable.not_not, ne_eq] at hc1
      refine Hd.exit ?_
      refine Hd.thenExit ?_
      refine Hd.thenExit ?_
      refine Hd.inBexit ?_
      refine Hd.toK hK10 ?_
      refine Hd.seq (fun K40 hK40 => ?_)
      refine Hd.region ?_
      refine Hd.yv (y_move rfl) ?_
      refine Hd.yv (y_assign rfl) ?_
      refine Hd.nil ?_
      refine Hd.slots [(2, _)] ⟨rfl, trivial⟩ ?_
      refine Hd.toK hK40 ?_
      refine Hd.ret ?_
      clear hK1 hK2 hK3 hK4 hK6 hK7 hK8 hK9 hK10 hK11 hK12 hK13 hK40
      exact Hd.ret1 rfl () (by first | rfl | (simp only [*]; done) | (simp [*]; done)) (Ent.sep enn)
end Pa
end Go.Proofs.Ytgifpkpkkgkfeaa
