/-
  The law PairBytes answers true.
-/
import Derived.Test.YtgifpkpkkgkfeaaPc2
import Derived.Test.YtgifpkpkkgkfeaaPc3
namespace Go.Proofs.Ytgifpkpkkgkfeaa
set_option linter.unusedSimpArgs false
set_option linter.unusedVariables false
set_option linter.unnecessarySimpa false
open Go.RX Fx
namespace Pa
open Bc
set_option maxRecDepth 8000
theorem aReadV_len {A : Nat → AE} {n : Nat} (hn : n < 2) (x : Int) : (aReadV A n x).length ≤ (A n).i.length := by rw [aReadV_at hn]; simp; omega
theorem str_app (a b : List UInt8) : Value.string (str (a ++ b)) = Value.string (str (a ++ b)) := rfl
theorem InvB.bnd {A : Nat → AE} {W R : Sts} {b : Nat} (h : InvB A W R) (hw : ∀ n, n < 2 → (W n).length ≤ b) {n : Nat} (hn : n < 2) : (R n).length + (A n).i.length ≤ b := by
  have h1 := h.len hn
  have h2 := hw (1 - n) (by omega)
  omega
theorem bnd_upd {W : Sts} {i n : Nat} {l : List UInt8} (hw : ∀ n, n < 2 → (W n).length ≤ 300 * i) (hn : n < 2) (hl : l.length ≤ 300) : ∀ j, j < 2 → (upd W n (W n ++ l) j).length ≤ 300 * (i + 1) := fun j hj => by
  have h1 := hw j hj
  unfold upd; split
  · rename_i e; subst e; rw [List.length_append]; omega
  · omega
theorem bnd_up {W : Sts} {i : Nat} (hw : ∀ n, n < 2 → (W n).length ≤ 300 * i) : ∀ j, j < 2 → (W j).length ≤ 300 * (i + 1) := fun j hj => by
  have := hw j hj
  omega
set_option maxHeartbeats 2000000 in
theorem bytes8_ct (L : List SP) (ad : Option Addr) (c : Nat) (xs : List Cv) (hR : RdS L 6 ad xs.length (xs.flatMap encC)) (hok : ∀ o ∈ xs, CvOk L o) : Ct Try.prog 12 #[.slice ad xs.length c] (L) (fun _ : Unit => .bool true) (fun _ : Unit => L) := by
  refine Ct.of (vs := [.slice ad xs.length c]) Try.func12 rfl rfl [(0, .slice ad xs.length c)] (by repeat (first | exact trivial | refine ⟨rfl, ?_⟩)) ?_
  intro E
  show Hd E 190 _ _ _ _
  refine Hd.seq (fun K1 hK1 => ?_)
  refine Hd.region ?_
  refine Hd.yv (y_assign rfl) ?_
  refine Hd.nil ?_
  refine Hd.slots [(0, _)] ⟨rfl, trivial⟩ ?_
  refine Hd.toK hK1 ?_
  refine Hd.seq (fun K2 hK2 => ?_)
  refine Hd.region ?_
  refine Hd.callE rfl fk41 (alive8_ct _) (Ent.sep enn) ?_
  intro _
  refine Hd.yv (y_assign rfl) ?_
  refine Hd.nil ?_
  refine Hd.slots [(0, _), (3, _)] ⟨rfl, rfl, trivial⟩ ?_
  refine Hd.toK hK2 ?_
  refine Hd.seq (fun K3 hK3 => ?_)
  refine Hd.seq (fun K4 hK4 => ?_)
  refine Hd.region ?_
  refine Hd.yv (y_move rfl) ?_
  refine Hd.callE rfl fk42 (great8_ct _ ad c xs ?hD) (Ent.sep enn) ?_
  case hD => exact RdS.mono hR (Ent.sep enn)
  intro g
  refine Hd.pure (fun hgr => ?_)
  refine Hd.yv (y_gtr rfl rfl) ?_
  refine Hd.yv (y_move rfl) ?_
  apply Hd.org 3 20 23 [(0, _), (3, _)] rfl ⟨rfl, rfl, trivial⟩
  · intro hg2_20
    try simp only [decide_eq_true_eq, decide_eq_false_iff_not, Bool.and_eq_true, Bool.or_eq_true, Bool.and_eq_false_iff, Bool.or_eq_false_iff, Bool.not_eq_true', Bool.not_eq_false', Bool.not_eq_true, Bool.not_eq_false, Int.not_lt, Int.not_le, Decidable.not_not, ne_eq] at hg2_20
    simp only [List.take]
    refine Hd.ng rfl rfl rfl ?_
    refine Hd.ng rfl rfl rfl ?_
    first | (refine Hd.yv (y_pickT rfl rfl) ?_) | (refine Hd.yv (y_pickF rfl rfl) ?_) | (refine Hd.yv (y_pickb rfl rfl rfl) ?_) | (refine Hd.yv (y_pick rfl rfl rfl) ?_)
    refine Hd.nil ?_
    exact Hd.mend (by repeat (first | exact trivial | refine ⟨rfl, ?_⟩)) (Ent.sep enn)
  · intro hg2_20
    try simp only [decide_eq_true_eq, decide_eq_false_iff_not, Bool.and_eq_true, Bool.or_eq_true, Bool.and_eq_false_iff, Bool.or_eq_false_iff, Bool.not_eq_true', Bool.not_eq_false', Bool.not_eq_true, Bool.not_eq_false, Int.not_lt, Int.not_le, Decidable.not_not, ne_eq] at hg2_20
    simp only [List.take]
    refine Hd.yg rfl rfl (y_move rfl) ?_
    refine Hd.yg rfl rfl (y_not rfl) ?_
    first | (refine Hd.yv (y_pickT rfl rfl) ?_) | (refine Hd.yv (y_pickF rfl rfl) ?_) | (refine Hd.yv (y_pickb rfl rfl rfl) ?_) | (refine Hd.yv (y_pick rfl rfl rfl) ?_)
    refine Hd.nil ?_
    exact Hd.mend (by repeat (first | exact trivial | refine ⟨rfl, ?_⟩)) (Ent.sep enn)
  simp only [List.drop]
  refine Hd.nil ?_
  refine Hd.slots [(0, _), (3, _), (23, _)] ⟨rfl, rfl, rfl, trivial⟩ ?_
  refine Hd.toK hK4 ?_
  refine Hd.cond rfl (fun hc0 => ?_) (fun hc0 => ?_)
  ·
    try simp only [decide_eq_true_eq, decide_eq_false_iff_not, Bool.and_eq_true, Bool.or_eq_true, Bool.and_eq_false_iff, Bool.or_eq_false_iff, Bool.not_eq_true', Bool.not_eq_false', Bool.not_eq_true, Bool.not_eq_false, Int.not_lt, Int.not_le, Decidable.not_not, ne_eq] at hc0
    refine Hd.seq (fun K5 hK5 => ?_)
    refine Hd.region ?_
    refine Hd.yv (y_move rfl) ?_
    refine Hd.yv (y_assign rfl) ?_
    refine Hd.nil ?_
    refine Hd.slots [(2, _)] ⟨rfl, trivial⟩ ?_
    refine Hd.toK hK5 ?_
    refine Hd.ret ?_
    refine Hd.thenRet ?_
    clear hK1 hK2 hK3 hK4 hK5
    exact Hd.ret1 rfl () (by first | rfl | (simp only [*]; done) | (simp [*]; done)) (Ent.sep enn)
  ·
    try simp only [decide_eq_true_eq, decide_eq_false_iff_not, Bool.and_eq_true, Bool.or_eq_true, Bool.and_eq_false_iff, Bool.or_eq_false_iff, Bool.not_eq_true', Bool.not_eq_false', Bool.not_eq_true, Bool.not_eq_false, Int.not_lt, Int.not_le, Decidable.not_not, ne_eq] at hc0
    have hgr2 := hgr (by simpa using hc0)
    obtain ⟨hx, hbs⟩ := hgr2
    refine Hd.skip ?_
    refine Hd.toK hK3 ?_
    refine Hd.seq (fun K6 hK6 => ?_)
    refine Hd.region ?_
    refine Hd.callE rfl fk32 (newA _) (Ent.sep enn) ?_
    intro bp
    refine Hd.yv (y_assign rfl) ?_
    refine Hd.nil ?_
    refine Hd.slots [(0, _), (3, _), (4, _)] ⟨rfl, rfl, rfl, trivial⟩ ?_
    refine Hd.toK hK6 ?_
    refine Hd.seq (fun K7 hK7 => ?_)
    refine Hd.region ?_
    refine Hd.alloc zr94 (fun b5 => ?_)
    refine Hd.nil ?_
    refine Hd.slots [(0, _), (3, _), (4, _), (5, _)] ⟨rfl, rfl, rfl, rfl, trivial⟩ ?_
    refine Hd.toK hK7 ?_
    refine Hd.seq (fun K8 hK8 => ?_)
    refine Hd.region ?_
    refine Hd.alloc zr94 (fun b6 => ?_)
    refine Hd.nil ?_
    refine Hd.slots [(0, _), (3, _), (4, _), (5, _), (6, _)] ⟨rfl, rfl, rfl, rfl, rfl, trivial⟩ ?_
    refine Hd.toK hK8 ?_
    refine Hd.seq (fun K9 hK9 => ?_)
    refine Hd.seq (fun K10 hK10 => ?_)
    refine Hd.region ?_
    refine Hd.yv (y_assign rfl) ?_
    refine Hd.nil ?_
    refine Hd.slots [(0, _), (3, _), (4, _), (5, _), (6, _), (7, _)] ⟨rfl, rfl, rfl, rfl, rfl, rfl, trivial⟩ ?_
    refine Hd.toK hK10 ?_
    refine Hd.block ?_
    refine Hd.loopK (ι := Nat × (Nat → AE) × Sts × Sts) [(0, _), (3, _), (4, _), (5, _), (6, _)] (fun q_ => [(7, .int .i64 (q_.1 : Int))]) (fun q_ => pu (q_.1 ≤ xs.length ∧ InvB q_.2.1 q_.2.2.1 q_.2.2.2 ∧ ∀ n, n < 2 → (q_.2.2.1 n).length ≤ 300 * q_.1) :: PrA bp q_.2.1 :: pt b5 (encS q_.2.2.1) 94 :: pt b6 (encS q_.2.2.2) 94 :: L) (fun q_ => xs.length - q_.1) (0, (fun _ => ae0), (fun _ => []), (fun _ => [])) (by repeat (first | exact trivial | refine ⟨rfl, ?_⟩)) (by repeat (first | exact trivial | refine ⟨rfl, ?_⟩)) (Ent.sep (.pure ⟨Nat.zero_le _, (fun _ _ => rfl), (fun _ _ => Nat.zero_le _)⟩ enn)) ?_
    rintro ⟨i, A, W, R⟩
    try dsimp only
    refine Hd.pure (fun hp0 => ?_)
    try dsimp only at hp0
    refine Hd.seq (fun K11 hK11 => ?_)
    refine Hd.seq (fun K12 hK12 => ?_)
    refine Hd.region ?_
    refine Hd.yv (y_move rfl) ?_
    refine Hd.yv (y_move rfl) ?_
    refine Hd.yv (y_len Try.underlying75 rfl) ?_
    refine Hd.yv (y_lss rfl rfl) ?_
    refine Hd.nil ?_
    refine Hd.slots [(0, _), (3, _), (4, _), (5, _), (6, _), (7, _), (29, _)] ⟨rfl, rfl, rfl, rfl, rfl, rfl, rfl, trivial⟩ ?_
    refine Hd.toK hK12 ?_
    refine Hd.cond rfl (fun hc1 => ?_) (fun hc1 => ?_)
    ·
      try simp only [decide_eq_true_eq, decide_eq_false_iff_not, Bool.and_eq_true, Bool.or_eq_true, Bool.and_eq_false_iff, Bool.or_eq_false_iff, Bool.not_eq_true', Bool.not_eq_false', Bool.not_eq_true, Bool.not_eq_false, Int.not_lt, Int.not_le, Decidable.not_not, ne_eq] at hc1
      obtain ⟨_, hI, hW⟩ := hp0
      have hi : i < xs.length := by omega
      obtain ⟨o, ho⟩ : ∃ o, xs[i]? = some o := ⟨_, List.getElem?_eq_getElem hi⟩
      have hoo := hok o (List.mem_of_getElem? ho)
      have hbo := hbs o (List.mem_of_getElem? ho)
      have hon := hoo.n
      obtain ⟨n, hn⟩ : ∃ n, n = kOf o.k := ⟨_, rfl⟩
      have hn2 : n < 2 := by rw [hn]; exact kOf_lt _
      have hWn := hW n hn2
      have hRn := hI.bnd hW hn2
      have hVn := aReadV_len (A := A) hn2 o.n
      refine Hd.skip ?_
      refine Hd.toK hK11 ?_
      refine Hd.cutK (ι := (Nat → AE) × Sts × Sts) [(0, _), (3, _), (4, _), (5, _), (6, _), (7, _)] (fun _ => []) (fun j => pu (InvB j.1 j.2.1 j.2.2 ∧ ∀ n, n < 2 → (j.2.1 n).length ≤ 300 * (i + 1)) :: PrA bp j.1 :: pt b5 (encS j.2.1) 94 :: pt b6 (encS j.2.2) 94 :: L) ?_ ?_ ⟨rfl, rfl, rfl, rfl, rfl, rfl, trivial⟩
      ·
        refine Hd.block ?_
        refine Hd.seq (fun K13 hK13 => ?_)
        refine Hd.region ?_
        refine Hd.yv (y_move rfl) ?_
        refine Hd.yv (y_move rfl) ?_
        first | (refine Hd.yv (y_idxS Try.underlying75 sz80 rfl rfl (by first | omega | decide)) ?_) | (refine Hd.yv (y_idxR Try.underlying75 sz80 rfl rfl (by first | omega | decide) (by (first | exact RdS.own pkk | exact RdS.mono hR (Ent.sep enn) | exact RdS.mono hoo.rd (Ent.sep enn)))) ?_)
        refine Hd.yv (y_loadRn (vs := [_, _, _, _, _, _]) ag80 rfl (RdS.mono hR (Ent.sep enn)) (flat_cells encC 6 (fun _ => rfl) ho) (by exact sz80) (by simp)) ?_
        refine Hd.alloc zr80 (fun b8 => ?_)
        refine Hd.storeA (us := encC o) sz80 rfl rfl rfl (by simp [Value.oneCell']) pkk (by exact rfl) ?_
        refine Hd.nil ?_
        refine Hd.slots [(0, _), (3, _), (4, _), (5, _), (6, _), (7, _), (8, _)] ⟨rfl, rfl, rfl, rfl, rfl, rfl, rfl, trivial⟩ ?_
        refine Hd.toK hK13 ?_
        refine Hd.seq (fun K14 hK14 => ?_)
        refine Hd.region ?_
        first | (refine Hd.yv (y_field' (q := 1) (ft := 3) Try.underlying80 rfl sz3 rfl rfl) ?_) | (refine Hd.yv (y_fieldR (q := 1) (ft := 3) Try.underlying80 rfl sz3 rfl rfl) ?_)
        first | (refine Hd.yv (y_load1 ag3 rfl (Rd.pt1 pkk (by (first | exact encS_at hn2 | exact encS_at hk2 | exact encS_at hj2 | rfl)))) ?_) | (refine Hd.yv (y_load1 ag3 rfl (Rd.seg1 pkk (by (first | exact encS_at hn2 | exact encS_at hk2 | exact encS_at hj2 | rfl)))) ?_) | (refine Hd.yv (y_loadR1 ag3 rfl (by (first | exact RdS.own pkk | exact RdS.mono hR (Ent.sep enn) | exact RdS.mono hoo.rd (Ent.sep enn))) (by (first | exact encS_at hn2 | exact encS_at hk2 | exact encS_at hj2 | rfl))) ?_)
        refine Hd.yv (y_rem rfl rfl (by decide)) ?_
        refine Hd.yv (y_addn rfl rfl (by have h1 := Int.tmod_lt_of_pos o.k (show (0 : Int) < 2 by decide); have h2 := Int.lt_tmod_of_pos o.k (show (0 : Int) < 2 by decide); simp only [InK]; omega)) ?_
        refine Hd.yv (y_rem rfl rfl (by decide)) ?_
        refine Hd.yv (y_assign rfl) ?_
        refine Hd.nil ?_
        refine Hd.name (b := (n : Int)) 9 rfl (by have h2 := Int.lt_tmod_of_pos o.k (show (0 : Int) < 2 by decide); have h3 := Int.tmod_nonneg 2 (show 0 ≤ o.k.tmod 2 + 2 by omega); rw [hn]; unfold kOf; omega) ?_
        refine Hd.slots [(0, _), (3, _), (4, _), (5, _), (6, _), (7, _), (8, _), (9, _)] ⟨rfl, rfl, rfl, rfl, rfl, rfl, rfl, rfl, trivial⟩ ?_
        refine Hd.toK hK14 ?_
        refine Hd.seq (fun K15 hK15 => ?_)
        refine Hd.region ?_
        first | (refine Hd.yv (y_field' (q := 0) (ft := 3) Try.underlying80 rfl sz3 rfl rfl) ?_) | (refine Hd.yv (y_fieldR (q := 0) (ft := 3) Try.underlying80 rfl sz3 rfl rfl) ?_)
        first | (refine Hd.yv (y_load1 ag3 rfl (Rd.pt1 pkk (by (first | exact encS_at hn2 | exact encS_at hk2 | exact encS_at hj2 | rfl)))) ?_) | (refine Hd.yv (y_load1 ag3 rfl (Rd.seg1 pkk (by (first | exact encS_at hn2 | exact encS_at hk2 | exact encS_at hj2 | rfl)))) ?_) | (refine Hd.yv (y_loadR1 ag3 rfl (by (first | exact RdS.own pkk | exact RdS.mono hR (Ent.sep enn) | exact RdS.mono hoo.rd (Ent.sep enn))) (by (first | exact encS_at hn2 | exact encS_at hk2 | exact encS_at hj2 | rfl))) ?_)
        refine Hd.nil ?_
        refine Hd.slots [(0, _), (3, _), (4, _), (5, _), (6, _), (7, _), (8, _), (9, _), (42, _)] ⟨rfl, rfl, rfl, rfl, rfl, rfl, rfl, rfl, rfl, trivial⟩ ?_
        refine Hd.toK hK15 ?_
        refine Hd.block ?_
        refine Hd.seq (fun K16 hK16 => ?_)
        refine Hd.region ?_
        first | (refine Hd.yv (y_eqlT rfl rfl) ?_) | (refine Hd.yv (y_eql rfl rfl) ?_)
        refine Hd.yv (y_assign rfl) ?_
        refine Hd.nil ?_
        refine Hd.slots [(0, _), (3, _), (4, _), (5, _), (6, _), (7, _), (8, _), (9, _), (42, _), (43, _)] ⟨rfl, rfl, rfl, rfl, rfl, rfl, rfl, rfl, rfl, rfl, trivial⟩ ?_
        refine Hd.toK hK16 ?_
        refine Hd.cond rfl (fun hc2 => ?_) (fun hc2 => ?_)
        ·
          try simp only [decide_eq_true_eq, decide_eq_false_iff_not, Bool.and_eq_true, Bool.or_eq_true, Bool.and_eq_false_iff, Bool.or_eq_false_iff, Bool.not_eq_true', Bool.not_eq_false', Bool.not_eq_true, Bool.not_eq_false, Int.not_lt, Int.not_le, Decidable.not_not, ne_eq] at hc2
          refine Hd.region ?_
          refine Hd.yv (y_move rfl) ?_
          refine Hd.yv (y_move rfl) ?_
          first | (refine Hd.yv (y_field' (q := 3) (ft := 3) Try.underlying80 rfl sz3 rfl rfl) ?_) | (refine Hd.yv (y_fieldR (q := 3) (ft := 3) Try.underlying80 rfl sz3 rfl rfl) ?_)
          first | (refine Hd.yv (y_load1 ag3 rfl (Rd.pt1 pkk (by (first | exact encS_at hn2 | exact encS_at hk2 | exact encS_at hj2 | rfl)))) ?_) | (refine Hd.yv (y_load1 ag3 rfl (Rd.seg1 pkk (by (first | exact encS_at hn2 | exact encS_at hk2 | exact encS_at hj2 | rfl)))) ?_) | (refine Hd.yv (y_loadR1 ag3 rfl (by (first | exact RdS.own pkk | exact RdS.mono hR (Ent.sep enn) | exact RdS.mono hoo.rd (Ent.sep enn))) (by (first | exact encS_at hn2 | exact encS_at hk2 | exact encS_at hj2 | rfl))) ?_)
          refine Hd.callE rfl fk34 (enableA _ bp A n o.n hon) (Ent.sep enn) ?_
          intro _
          refine Hd.nil ?_
          refine Hd.slots [(0, _), (3, _), (4, _), (5, _), (6, _), (7, _)] ⟨rfl, rfl, rfl, rfl, rfl, rfl, trivial⟩ ?_
          refine Hd.inB ?_
          refine Hd.inB ?_
          clear hK1 hK2 hK3 hK4 hK6 hK7 hK8 hK9 hK10 hK11 hK12 hK13 hK14 hK15 hK16
          refine Hd.thenN ?_
          exact Hd.meet (aTurn A n o.n true, W, R) (by repeat (first | exact trivial | refine ⟨rfl, ?_⟩)) (Ent.sep (.pure ⟨hI.same fun n _ => aTurn_iu n, bnd_up hW⟩ enn))
        ·
          try simp only [decide_eq_true_eq, decide_eq_false_iff_not, Bool.and_eq_true, Bool.or_eq_true, Bool.and_eq_false_iff, Bool.or_eq_false_iff, Bool.not_eq_true', Bool.not_eq_false', Bool.not_eq_true, Bool.not_eq_false, Int.not_lt, Int.not_le, Decidable.not_not, ne_eq] at hc2
          refine Hd.seq (fun K17 hK17 => ?_)
          refine Hd.region ?_
          first | (refine Hd.yv (y_eqlT rfl rfl) ?_) | (refine Hd.yv (y_eql rfl rfl) ?_)
          refine Hd.yv (y_assign rfl) ?_
          refine Hd.nil ?_
          refine Hd.slots [(0, _), (3, _), (4, _), (5, _), (6, _), (7, _), (8, _), (9, _), (42, _), (50, _)] ⟨rfl, rfl, rfl, rfl, rfl, rfl, rfl, rfl, rfl, rfl, trivial⟩ ?_
          refine Hd.toK hK17 ?_
          refine Hd.cond rfl (fun hc3 => ?_) (fun hc3 => ?_)
          ·
            try simp only [decide_eq_true_eq, decide_eq_false_iff_not, Bool.and_eq_true, Bool.or_eq_true, Bool.and_eq_false_iff, Bool.or_eq_false_iff, Bool.not_eq_true', Bool.not_eq_false', Bool.not_eq_true, Bool.not_eq_false, Int.not_lt, Int.not_le, Decidable.not_not, ne_eq] at hc3
            refine Hd.region ?_
            refine Hd.yv (y_move rfl) ?_
            refine Hd.yv (y_move rfl) ?_
            first | (refine Hd.yv (y_field' (q := 3) (ft := 3) Try.underlying80 rfl sz3 rfl rfl) ?_) | (refine Hd.yv (y_fieldR (q := 3) (ft := 3) Try.underlying80 rfl sz3 rfl rfl) ?_)
            first | (refine Hd.yv (y_load1 ag3 rfl (Rd.pt1 pkk (by (first | exact encS_at hn2 | exact encS_at hk2 | exact encS_at hj2 | rfl)))) ?_) | (refine Hd.yv (y_load1 ag3 rfl (Rd.seg1 pkk (by (first | exact encS_at hn2 | exact encS_at hk2 | exact encS_at hj2 | rfl)))) ?_) | (refine Hd.yv (y_loadR1 ag3 rfl (by (first | exact RdS.own pkk | exact RdS.mono hR (Ent.sep enn) | exact RdS.mono hoo.rd (Ent.sep enn))) (by (first | exact encS_at hn2 | exact encS_at hk2 | exact encS_at hj2 | rfl))) ?_)
            refine Hd.callE rfl fk45 (disableA _ bp A n o.n hon) (Ent.sep enn) ?_
            intro _
            refine Hd.nil ?_
            refine Hd.slots [(0, _), (3, _), (4, _), (5, _), (6, _), (7, _)] ⟨rfl, rfl, rfl, rfl, rfl, rfl, trivial⟩ ?_
            refine Hd.inB ?_
            refine Hd.inB ?_
            clear hK1 hK2 hK3 hK4 hK6 hK7 hK8 hK9 hK10 hK11 hK12 hK13 hK14 hK15 hK16 hK17
            refine Hd.thenN ?_
            exact Hd.meet (aTurn A n o.n false, W, R) (by repeat (first | exact trivial | refine ⟨rfl, ?_⟩)) (Ent.sep (.pure ⟨hI.same fun n _ => aTurn_iu n, bnd_up hW⟩ enn))
          ·
            try simp only [decide_eq_true_eq, decide_eq_false_iff_not, Bool.and_eq_true, Bool.or_eq_true, Bool.and_eq_false_iff, Bool.or_eq_false_iff, Bool.not_eq_true', Bool.not_eq_false', Bool.not_eq_true, Bool.not_eq_false, Int.not_lt, Int.not_le, Decidable.not_not, ne_eq] at hc3
            refine Hd.seq (fun K18 hK18 => ?_)
            refine Hd.region ?_
            first | (refine Hd.yv (y_eqlT rfl rfl) ?_) | (refine Hd.yv (y_eql rfl rfl) ?_)
            refine Hd.yv (y_assign rfl) ?_
            refine Hd.nil ?_
            refine Hd.slots [(0, _), (3, _), (4, _), (5, _), (6, _), (7, _), (8, _), (9, _), (42, _), (57, _)] ⟨rfl, rfl, rfl, rfl, rfl, rfl, rfl, rfl, rfl, rfl, trivial⟩ ?_
            refine Hd.toK hK18 ?_
            refine Hd.cond rfl (fun hc4 => ?_) (fun hc4 => ?_)
            ·
              try simp only [decide_eq_true_eq, decide_eq_false_iff_not, Bool.and_eq_true, Bool.or_eq_true, Bool.and_eq_false_iff, Bool.or_eq_false_iff, Bool.not_eq_true', Bool.not_eq_false', Bool.not_eq_true, Bool.not_eq_false, Int.not_lt, Int.not_le, Decidable.not_not, ne_eq] at hc4
              refine Hd.region ?_
              refine Hd.yv (y_move rfl) ?_
              refine Hd.yv (y_move rfl) ?_
              first | (refine Hd.yv (y_field' (q := 2) (ft := 3) Try.underlying80 rfl sz3 rfl rfl) ?_) | (refine Hd.yv (y_fieldR (q := 2) (ft := 3) Try.underlying80 rfl sz3 rfl rfl) ?_)
              first | (refine Hd.yv (y_load1 ag3 rfl (Rd.pt1 pkk (by (first | exact encS_at hn2 | exact encS_at hk2 | exact encS_at hj2 | rfl)))) ?_) | (refine Hd.yv (y_load1 ag3 rfl (Rd.seg1 pkk (by (first | exact encS_at hn2 | exact encS_at hk2 | exact encS_at hj2 | rfl)))) ?_) | (refine Hd.yv (y_loadR1 ag3 rfl (by (first | exact RdS.own pkk | exact RdS.mono hR (Ent.sep enn) | exact RdS.mono hoo.rd (Ent.sep enn))) (by (first | exact encS_at hn2 | exact encS_at hk2 | exact encS_at hj2 | rfl))) ?_)
              first | (refine Hd.yv (y_field' (q := 3) (ft := 3) Try.underlying80 rfl sz3 rfl rfl) ?_) | (refine Hd.yv (y_fieldR (q := 3) (ft := 3) Try.underlying80 rfl sz3 rfl rfl) ?_)
              first | (refine Hd.yv (y_load1 ag3 rfl (Rd.pt1 pkk (by (first | exact encS_at hn2 | exact encS_at hk2 | exact encS_at hj2 | rfl)))) ?_) | (refine Hd.yv (y_load1 ag3 rfl (Rd.seg1 pkk (by (first | exact encS_at hn2 | exact encS_at hk2 | exact encS_at hj2 | rfl)))) ?_) | (refine Hd.yv (y_loadR1 ag3 rfl (by (first | exact RdS.own pkk | exact RdS.mono hR (Ent.sep enn) | exact RdS.mono hoo.rd (Ent.sep enn))) (by (first | exact encS_at hn2 | exact encS_at hk2 | exact encS_at hj2 | rfl))) ?_)
              first | (refine Hd.yv (y_field' (q := 4) (ft := 3) Try.underlying80 rfl sz3 rfl rfl) ?_) | (refine Hd.yv (y_fieldR (q := 4) (ft := 3) Try.underlying80 rfl sz3 rfl rfl) ?_)
              first | (refine Hd.yv (y_load1 ag3 rfl (Rd.pt1 pkk (by (first | exact encS_at hn2 | exact encS_at hk2 | exact encS_at hj2 | rfl)))) ?_) | (refine Hd.yv (y_load1 ag3 rfl (Rd.seg1 pkk (by (first | exact encS_at hn2 | exact encS_at hk2 | exact encS_at hj2 | rfl)))) ?_) | (refine Hd.yv (y_loadR1 ag3 rfl (by (first | exact RdS.own pkk | exact RdS.mono hR (Ent.sep enn) | exact RdS.mono hoo.rd (Ent.sep enn))) (by (first | exact encS_at hn2 | exact encS_at hk2 | exact encS_at hj2 | rfl))) ?_)
              refine Hd.callE rfl fk35 (marksA _ bp A n o.side o.n o.m) (Ent.sep enn) ?_
              intro _
              refine Hd.nil ?_
              refine Hd.slots [(0, _), (3, _), (4, _), (5, _), (6, _), (7, _)] ⟨rfl, rfl, rfl, rfl, rfl, rfl, trivial⟩ ?_
              refine Hd.inB ?_
              refine Hd.inB ?_
              clear hK1 hK2 hK3 hK4 hK6 hK7 hK8 hK9 hK10 hK11 hK12 hK13 hK14 hK15 hK16 hK17 hK18
              refine Hd.thenN ?_
              exact Hd.meet (aMarks A n o.side o.n o.m, W, R) (by repeat (first | exact trivial | refine ⟨rfl, ?_⟩)) (Ent.sep (.pure ⟨hI.same fun n _ => aMarks_iu n, bnd_up hW⟩ enn))
            ·
              try simp only [decide_eq_true_eq, decide_eq_false_iff_not, Bool.and_eq_true, Bool.or_eq_true, Bool.and_eq_false_iff, Bool.or_eq_false_iff, Bool.not_eq_true', Bool.not_eq_false', Bool.not_eq_true, Bool.not_eq_false, Int.not_lt, Int.not_le, Decidable.not_not, ne_eq] at hc4
              refine Hd.seq (fun K19 hK19 => ?_)
              refine Hd.region ?_
              first | (refine Hd.yv (y_eqlT rfl rfl) ?_) | (refine Hd.yv (y_eql rfl rfl) ?_)
              refine Hd.yv (y_assign rfl) ?_
              refine Hd.nil ?_
              refine Hd.slots [(0, _), (3, _), (4, _), (5, _), (6, _), (7, _), (8, _), (9, _), (42, _), (68, _)] ⟨rfl, rfl, rfl, rfl, rfl, rfl, rfl, rfl, rfl, rfl, trivial⟩ ?_
              refine Hd.toK hK19 ?_
              refine Hd.cond rfl (fun hc5 => ?_) (fun hc5 => ?_)
              ·
                try simp only [decide_eq_true_eq, decide_eq_false_iff_not, Bool.and_eq_true, Bool.or_eq_true, Bool.and_eq_false_iff, Bool.or_eq_false_iff, Bool.not_eq_true', Bool.not_eq_false', Bool.not_eq_true, Bool.not_eq_false, Int.not_lt, Int.not_le, Decidable.not_not, ne_eq] at hc5
                refine Hd.seq (fun K20 hK20 => ?_)
                refine Hd.region ?_
                refine Hd.yv (y_move rfl) ?_
                refine Hd.yv (y_move rfl) ?_
                first | (refine Hd.yv (y_field' (q := 5) (ft := 22) Try.underlying80 rfl sz22 rfl rfl) ?_) | (refine Hd.yv (y_fieldR (q := 5) (ft := 22) Try.underlying80 rfl sz22 rfl rfl) ?_)
                first | (refine Hd.yv (y_load1 ag22 rfl (Rd.pt1 pkk (by (first | exact encS_at hn2 | exact encS_at hk2 | exact encS_at hj2 | rfl)))) ?_) | (refine Hd.yv (y_load1 ag22 rfl (Rd.seg1 pkk (by (first | exact encS_at hn2 | exact encS_at hk2 | exact encS_at hj2 | rfl)))) ?_) | (refine Hd.yv (y_loadR1 ag22 rfl (by (first | exact RdS.own pkk | exact RdS.mono hR (Ent.sep enn) | exact RdS.mono hoo.rd (Ent.sep enn))) (by (first | exact encS_at hn2 | exact encS_at hk2 | exact encS_at hj2 | rfl))) ?_)
                refine Hd.callE rfl fk33 (writeA _ bp A n o.ad o.c o.b ?hD hoo.c (by omega)) (Ent.sep enn) ?_
                case hD => exact RdS.mono hoo.rd (Ent.sep enn)
                intro _
                refine Hd.yv (y_assign rfl) ?_
                refine Hd.nil ?_
                refine Hd.slots [(0, _), (3, _), (4, _), (5, _), (6, _), (7, _), (8, _), (9, _), (10, _)] ⟨rfl, rfl, rfl, rfl, rfl, rfl, rfl, rfl, rfl, trivial⟩ ?_
                refine Hd.toK hK20 ?_
                refine Hd.seq (fun K21 hK21 => ?_)
                refine Hd.region ?_
                refine Hd.yv (y_move rfl) ?_
                first | (refine Hd.yv (y_eqlT rfl rfl) ?_) | (refine Hd.yv (y_eql rfl rfl) ?_)
                refine Hd.nil ?_
                refine Hd.slots [(0, _), (3, _), (4, _), (5, _), (6, _), (7, _), (8, _), (9, _), (76, _)] ⟨rfl, rfl, rfl, rfl, rfl, rfl, rfl, rfl, rfl, trivial⟩ ?_
                refine Hd.toK hK21 ?_
                refine Hd.cond rfl (fun hc6 => ?_) (fun hc6 => ?_)
                ·
                  try simp only [decide_eq_true_eq, decide_eq_false_iff_not, Bool.and_eq_true, Bool.or_eq_true, Bool.and_eq_false_iff, Bool.or_eq_false_iff, Bool.not_eq_true', Bool.not_eq_false', Bool.not_eq_true, Bool.not_eq_false, Int.not_lt, Int.not_le, Decidable.not_not, ne_eq] at hc6
                  rw [aWrite_ok hn2 hc6]
                  refine Hd.drawsH (pt b5 (encS W) 94 :: pt b8 (encC o) 80 :: L) (fun j => !([9].contains j)) mixed ?_
                  simp only [List.length, Nat.zero_add, Nat.reduceAdd]
                  refine Hd.takeH 0 rfl (by kernel_rfl) (by kernel_rfl) (by kernel_rfl) (by kernel_rfl) (y_move rfl) (fun _ _ => rfl) (Ent.sep enn) ?_
                  refine Hd.takeH 1 rfl (by kernel_rfl) (by kernel_rfl) (by kernel_rfl) (by kernel_rfl) (y_move rfl) (fun _ _ => rfl) (Ent.sep enn) ?_
                  refine Hd.takeH 2 rfl (by kernel_rfl) (by kernel_rfl) (by kernel_rfl) (by kernel_rfl) (y_idxA Try.underlying94 sz9 rfl rfl (by first | omega | decide)) (fun _ _ => rfl) (Ent.sep enn) ?_
                  first | (refine Hd.takeH 3 rfl (by kernel_rfl) (by kernel_rfl) (by kernel_rfl) (by kernel_rfl) (y_load1 ag9 rfl (Rd.pt1 pkk (by (first | exact encS_at hn2 | exact encS_at hk2 | exact encS_at hj2 | rfl)))) (fun _ _ => rfl) (Ent.sep enn) ?_) | (refine Hd.takeH 3 rfl (by kernel_rfl) (by kernel_rfl) (by kernel_rfl) (by kernel_rfl) (y_load1 ag9 rfl (Rd.seg1 pkk (by (first | exact encS_at hn2 | exact encS_at hk2 | exact encS_at hj2 | rfl)))) (fun _ _ => rfl) (Ent.sep enn) ?_) | (refine Hd.takeH 3 rfl (by kernel_rfl) (by kernel_rfl) (by kernel_rfl) (by kernel_rfl) (y_loadR1 ag9 rfl (by (first | exact RdS.own pkk | exact RdS.mono hR (Ent.sep enn) | exact RdS.mono hoo.rd (Ent.sep enn))) (by (first | exact encS_at hn2 | exact encS_at hk2 | exact encS_at hj2 | rfl))) (fun _ _ => rfl) (Ent.sep enn) ?_)
                  first | (refine Hd.takeH 4 rfl (by kernel_rfl) (by kernel_rfl) (by kernel_rfl) (by kernel_rfl) (y_field' (q := 5) (ft := 22) Try.underlying80 rfl sz22 rfl rfl) (fun _ _ => rfl) (Ent.sep enn) ?_) | (refine Hd.takeH 4 rfl (by kernel_rfl) (by kernel_rfl) (by kernel_rfl) (by kernel_rfl) (y_fieldR (q := 5) (ft := 22) Try.underlying80 rfl sz22 rfl rfl) (fun _ _ => rfl) (Ent.sep enn) ?_)
                  first | (refine Hd.takeH 5 rfl (by kernel_rfl) (by kernel_rfl) (by kernel_rfl) (by kernel_rfl) (y_load1 ag22 rfl (Rd.pt1 pkk (by (first | exact encS_at hn2 | exact encS_at hk2 | exact encS_at hj2 | rfl)))) (fun _ _ => rfl) (Ent.sep enn) ?_) | (refine Hd.takeH 5 rfl (by kernel_rfl) (by kernel_rfl) (by kernel_rfl) (by kernel_rfl) (y_load1 ag22 rfl (Rd.seg1 pkk (by (first | exact encS_at hn2 | exact encS_at hk2 | exact encS_at hj2 | rfl)))) (fun _ _ => rfl) (Ent.sep enn) ?_) | (refine Hd.takeH 5 rfl (by kernel_rfl) (by kernel_rfl) (by kernel_rfl) (by kernel_rfl) (y_loadR1 ag22 rfl (by (first | exact RdS.own pkk | exact RdS.mono hR (Ent.sep enn) | exact RdS.mono hoo.rd (Ent.sep enn))) (by (first | exact encS_at hn2 | exact encS_at hk2 | exact encS_at hj2 | rfl))) (fun _ _ => rfl) (Ent.sep enn) ?_)
                  refine Hd.takeH 6 rfl (by kernel_rfl) (by kernel_rfl) (by kernel_rfl) (by kernel_rfl) (y_strOf (l := _) (by kernel_rfl) Try.underlying9 rfl (by (first | exact RdS.own pkk | exact RdS.mono hR (Ent.sep enn) | exact RdS.mono hoo.rd (Ent.sep enn)))) (fun _ _ => rfl) (Ent.sep enn) ?_
                  refine Hd.takeH 7 rfl (by kernel_rfl) (by kernel_rfl) (by kernel_rfl) (by kernel_rfl) (y_addstr rfl rfl (by first | omega | (omega) | (rw [hV1]; omega) | (rw [hV2]; omega) | (rw [hV2, upd_same, List.length_append]; omega) | (simp; omega) | (simp only [List.length_append, List.length_take, List.length_drop, List.length_cons, List.length_nil]; omega))) (fun _ _ => rfl) (Ent.sep enn) ?_
                  refine Hd.takeH 8 rfl (by kernel_rfl) (by kernel_rfl) (by kernel_rfl) (by kernel_rfl) (y_idxA Try.underlying94 sz9 rfl rfl (by first | omega | decide)) (fun _ _ => rfl) (Ent.sep enn) ?_
                  refine Hd.onlyH 9 rfl (by kernel_rfl) ?_
                  first | (refine Hd.store1 sz9 rfl rfl rfl pkk (by first | decide | (simp; done) | (simp; omega)) ?_) | (refine Hd.storeG1 sz9 rfl rfl rfl pkk (by first | decide | (simp; done) | (simp; omega)) ?_) | (refine Hd.storeO1 sz9 rfl rfl rfl pkk (by first | omega | (simp; done) | (simp; omega)) ?_)
                  try simp only [List.set_cons_zero, List.set_cons_succ]
                  refine Hd.nil ?_
                  refine Hd.thenN ?_
                  refine Hd.heldN (J := (fun j => !([9].contains j))) (i := 9) rfl ?_
                  refine Hd.endH (by kernel_rfl) ?_
                  refine Hd.slots [(0, _), (3, _), (4, _), (5, _), (6, _), (7, _)] ⟨rfl, rfl, rfl, rfl, rfl, rfl, trivial⟩ ?_
                  refine Hd.inB ?_
                  refine Hd.inB ?_
                  clear hK1 hK2 hK3 hK4 hK6 hK7 hK8 hK9 hK10 hK11 hK12 hK13 hK14 hK15 hK16 hK17 hK18 hK19 hK20 hK21
                  refine Hd.thenN ?_
                  exact Hd.meet (upd A n { A n with u := (A n).u ++ o.b }, upd W n (W n ++ o.b), R) (by repeat (first | exact trivial | refine ⟨rfl, ?_⟩)) (Ent.sep (.pure ⟨hI.write hn2 o.b, bnd_upd hW hn2 hbo⟩ (.pick pkk (.eq pkk (pt_eq (encS_set hn2 _)) enn))))
                ·
                  try simp only [decide_eq_true_eq, decide_eq_false_iff_not, Bool.and_eq_true, Bool.or_eq_true, Bool.and_eq_false_iff, Bool.or_eq_false_iff, Bool.not_eq_true', Bool.not_eq_false', Bool.not_eq_true, Bool.not_eq_false, Int.not_lt, Int.not_le, Decidable.not_not, ne_eq] at hc6
                  refine Hd.skip ?_
                  refine Hd.inB ?_
                  refine Hd.inB ?_
                  clear hK1 hK2 hK3 hK4 hK6 hK7 hK8 hK9 hK10 hK11 hK12 hK13 hK14 hK15 hK16 hK17 hK18 hK19 hK20 hK21
                  refine Hd.thenN ?_
                  rw [aWrite_no hc6]
                  exact Hd.meet (A, W, R) (by repeat (first | exact trivial | refine ⟨rfl, ?_⟩)) (Ent.sep (.pure ⟨hI, bnd_up hW⟩ enn))
              ·
                try simp only [decide_eq_true_eq, decide_eq_false_iff_not, Bool.and_eq_true, Bool.or_eq_true, Bool.and_eq_false_iff, Bool.or_eq_false_iff, Bool.not_eq_true', Bool.not_eq_false', Bool.not_eq_true, Bool.not_eq_false, Int.not_lt, Int.not_le, Decidable.not_not, ne_eq] at hc5
                refine Hd.seq (fun K22 hK22 => ?_)
                refine Hd.region ?_
                first | (refine Hd.yv (y_eqlT rfl rfl) ?_) | (refine Hd.yv (y_eql rfl rfl) ?_)
                refine Hd.yv (y_assign rfl) ?_
                refine Hd.nil ?_
                refine Hd.slots [(0, _), (3, _), (4, _), (5, _), (6, _), (7, _), (8, _), (9, _), (42, _), (86, _)] ⟨rfl, rfl, rfl, rfl, rfl, rfl, rfl, rfl, rfl, rfl, trivial⟩ ?_
                refine Hd.toK hK22 ?_
                refine Hd.cond rfl (fun hc7 => ?_) (fun hc7 => ?_)
                ·
                  try simp only [decide_eq_true_eq, decide_eq_false_iff_not, Bool.and_eq_true, Bool.or_eq_true, Bool.and_eq_false_iff, Bool.or_eq_false_iff, Bool.not_eq_true', Bool.not_eq_false', Bool.not_eq_true, Bool.not_eq_false, Int.not_lt, Int.not_le, Decidable.not_not, ne_eq] at hc7
                  refine Hd.drawsH (pt b6 (encS R) 94 :: pt b8 (encC o) 80 :: L) (fun j => !([12].contains j)) mixed ?_
                  simp only [List.length, Nat.zero_add, Nat.reduceAdd]
                  refine Hd.takeH 0 rfl (by kernel_rfl) (by kernel_rfl) (by kernel_rfl) (by kernel_rfl) (y_move rfl) (fun _ _ => rfl) (Ent.sep enn) ?_
                  refine Hd.takeH 1 rfl (by kernel_rfl) (by kernel_rfl) (by kernel_rfl) (by kernel_rfl) (y_move rfl) (fun _ _ => rfl) (Ent.sep enn) ?_
                  refine Hd.takeH 2 rfl (by kernel_rfl) (by kernel_rfl) (by kernel_rfl) (by kernel_rfl) (y_idxA Try.underlying94 sz9 rfl rfl (by first | omega | decide)) (fun _ _ => rfl) (Ent.sep enn) ?_
                  first | (refine Hd.takeH 3 rfl (by kernel_rfl) (by kernel_rfl) (by kernel_rfl) (by kernel_rfl) (y_load1 ag9 rfl (Rd.pt1 pkk (by (first | exact encS_at hn2 | exact encS_at hk2 | exact encS_at hj2 | rfl)))) (fun _ _ => rfl) (Ent.sep enn) ?_) | (refine Hd.takeH 3 rfl (by kernel_rfl) (by kernel_rfl) (by kernel_rfl) (by kernel_rfl) (y_load1 ag9 rfl (Rd.seg1 pkk (by (first | exact encS_at hn2 | exact encS_at hk2 | exact encS_at hj2 | rfl)))) (fun _ _ => rfl) (Ent.sep enn) ?_) | (refine Hd.takeH 3 rfl (by kernel_rfl) (by kernel_rfl) (by kernel_rfl) (by kernel_rfl) (y_loadR1 ag9 rfl (by (first | exact RdS.own pkk | exact RdS.mono hR (Ent.sep enn) | exact RdS.mono hoo.rd (Ent.sep enn))) (by (first | exact encS_at hn2 | exact encS_at hk2 | exact encS_at hj2 | rfl))) (fun _ _ => rfl) (Ent.sep enn) ?_)
                  refine Hd.takeH 4 rfl (by kernel_rfl) (by kernel_rfl) (by kernel_rfl) (by kernel_rfl) (y_move rfl) (fun _ _ => rfl) (Ent.sep enn) ?_
                  refine Hd.takeH 5 rfl (by kernel_rfl) (by kernel_rfl) (by kernel_rfl) (by kernel_rfl) (y_move rfl) (fun _ _ => rfl) (Ent.sep enn) ?_
                  first | (refine Hd.takeH 6 rfl (by kernel_rfl) (by kernel_rfl) (by kernel_rfl) (by kernel_rfl) (y_field' (q := 3) (ft := 3) Try.underlying80 rfl sz3 rfl rfl) (fun _ _ => rfl) (Ent.sep enn) ?_) | (refine Hd.takeH 6 rfl (by kernel_rfl) (by kernel_rfl) (by kernel_rfl) (by kernel_rfl) (y_fieldR (q := 3) (ft := 3) Try.underlying80 rfl sz3 rfl rfl) (fun _ _ => rfl) (Ent.sep enn) ?_)
                  first | (refine Hd.takeH 7 rfl (by kernel_rfl) (by kernel_rfl) (by kernel_rfl) (by kernel_rfl) (y_load1 ag3 rfl (Rd.pt1 pkk (by (first | exact encS_at hn2 | exact encS_at hk2 | exact encS_at hj2 | rfl)))) (fun _ _ => rfl) (Ent.sep enn) ?_) | (refine Hd.takeH 7 rfl (by kernel_rfl) (by kernel_rfl) (by kernel_rfl) (by kernel_rfl) (y_load1 ag3 rfl (Rd.seg1 pkk (by (first | exact encS_at hn2 | exact encS_at hk2 | exact encS_at hj2 | rfl)))) (fun _ _ => rfl) (Ent.sep enn) ?_) | (refine Hd.takeH 7 rfl (by kernel_rfl) (by kernel_rfl) (by kernel_rfl) (by kernel_rfl) (y_loadR1 ag3 rfl (by (first | exact RdS.own pkk | exact RdS.mono hR (Ent.sep enn) | exact RdS.mono hoo.rd (Ent.sep enn))) (by (first | exact encS_at hn2 | exact encS_at hk2 | exact encS_at hj2 | rfl))) (fun _ _ => rfl) (Ent.sep enn) ?_)
                  refine Hd.onlyH 8 rfl (by kernel_rfl) ?_
                  refine Hd.callE rfl fk40 (readA _ bp A n o.n hon) (Ent.sep enn) ?_
                  rintro ⟨a5, c5⟩
                  dsimp only
                  refine Hd.nil ?_
                  refine Hd.thenN ?_
                  refine Hd.heldK (J := (fun j => !([12].contains j))) (i := 8) (Ent.sep enn) ?_
                  refine Hd.onlyH 9 rfl (by kernel_rfl) ?_
                  refine Hd.yv (y_strOf (l := _) (by kernel_rfl) Try.underlying9 rfl (by (first | exact RdS.own pkk | exact RdS.mono hR (Ent.sep enn) | exact RdS.mono hoo.rd (Ent.sep enn)))) ?_
                  refine Hd.nil ?_
                  refine Hd.thenN ?_
                  refine Hd.heldK (J := (fun j => !([12].contains j))) (i := 9) (Ent.sep enn) ?_
                  refine Hd.takeH 10 rfl (by kernel_rfl) (by kernel_rfl) (by kernel_rfl) (by kernel_rfl) (y_addstr rfl rfl (by first | omega | (omega) | (rw [hV1]; omega) | (rw [hV2]; omega) | (rw [hV2, upd_same, List.length_append]; omega) | (simp; omega) | (simp only [List.length_append, List.length_take, List.length_drop, List.length_cons, List.length_nil]; omega))) (fun _ _ => rfl) (Ent.sep enn) ?_
                  refine Hd.takeH 11 rfl (by kernel_rfl) (by kernel_rfl) (by kernel_rfl) (by kernel_rfl) (y_idxA Try.underlying94 sz9 rfl rfl (by first | omega | decide)) (fun _ _ => rfl) (Ent.sep enn) ?_
                  refine Hd.onlyH 12 rfl (by kernel_rfl) ?_
                  first | (refine Hd.store1 sz9 rfl rfl rfl pkk (by first | decide | (simp; done) | (simp; omega)) ?_) | (refine Hd.storeG1 sz9 rfl rfl rfl pkk (by first | decide | (simp; done) | (simp; omega)) ?_) | (refine Hd.storeO1 sz9 rfl rfl rfl pkk (by first | omega | (simp; done) | (simp; omega)) ?_)
                  try simp only [List.set_cons_zero, List.set_cons_succ]
                  refine Hd.nil ?_
                  refine Hd.thenN ?_
                  refine Hd.heldN (J := (fun j => !([12].contains j))) (i := 12) rfl ?_
                  refine Hd.endH (by kernel_rfl) ?_
                  refine Hd.slots [(0, _), (3, _), (4, _), (5, _), (6, _), (7, _)] ⟨rfl, rfl, rfl, rfl, rfl, rfl, trivial⟩ ?_
                  refine Hd.inB ?_
                  refine Hd.inB ?_
                  clear hK1 hK2 hK3 hK4 hK6 hK7 hK8 hK9 hK10 hK11 hK12 hK13 hK14 hK15 hK16 hK17 hK18 hK19 hK22
                  refine Hd.thenN ?_
                  exact Hd.meet (aRead A n o.n, W, upd R n (R n ++ aReadV A n o.n)) (by repeat (first | exact trivial | refine ⟨rfl, ?_⟩)) (Ent.sep (.pure (by rw [aRead_at hn2, aReadV_at hn2]; exact ⟨hI.read hn2 _, bnd_up hW⟩) (.pick pkk (.pick pkk (.eq pkk (pt_eq (encS_set hn2 _)) enn)))))
                ·
                  try simp only [decide_eq_true_eq, decide_eq_false_iff_not, Bool.and_eq_true, Bool.or_eq_true, Bool.and_eq_false_iff, Bool.or_eq_false_iff, Bool.not_eq_true', Bool.not_eq_false', Bool.not_eq_true, Bool.not_eq_false, Int.not_lt, Int.not_le, Decidable.not_not, ne_eq] at hc7
                  refine Hd.seq (fun K23 hK23 => ?_)
                  refine Hd.region ?_
                  first | (refine Hd.yv (y_eqlT rfl rfl) ?_) | (refine Hd.yv (y_eql rfl rfl) ?_)
                  refine Hd.yv (y_assign rfl) ?_
                  refine Hd.nil ?_
                  refine Hd.slots [(0, _), (3, _), (4, _), (5, _), (6, _), (7, _), (9, _), (42, _), (100, _)] ⟨rfl, rfl, rfl, rfl, rfl, rfl, rfl, rfl, rfl, trivial⟩ ?_
                  refine Hd.toK hK23 ?_
                  refine Hd.cond rfl (fun hc8 => ?_) (fun hc8 => ?_)
                  ·
                    try simp only [decide_eq_true_eq, decide_eq_false_iff_not, Bool.and_eq_true, Bool.or_eq_true, Bool.and_eq_false_iff, Bool.or_eq_false_iff, Bool.not_eq_true', Bool.not_eq_false', Bool.not_eq_true, Bool.not_eq_false, Int.not_lt, Int.not_le, Decidable.not_not, ne_eq] at hc8
                    refine Hd.region ?_
                    refine Hd.yv (y_move rfl) ?_
                    refine Hd.yv (y_move rfl) ?_
                    refine Hd.callE rfl fk38 (finishA _ bp A n) (Ent.sep enn) ?_
                    intro _
                    refine Hd.nil ?_
                    refine Hd.slots [(0, _), (3, _), (4, _), (5, _), (6, _), (7, _)] ⟨rfl, rfl, rfl, rfl, rfl, rfl, trivial⟩ ?_
                    refine Hd.inB ?_
                    refine Hd.inB ?_
                    clear hK1 hK2 hK3 hK4 hK6 hK7 hK8 hK9 hK10 hK11 hK12 hK13 hK14 hK15 hK16 hK17 hK18 hK19 hK22 hK23
                    refine Hd.thenN ?_
                    exact Hd.meet (aFinish A n, W, R) (by repeat (first | exact trivial | refine ⟨rfl, ?_⟩)) (Ent.sep (.pure ⟨hI.same fun n _ => aFinish_iu n, bnd_up hW⟩ enn))
                  ·
                    try simp only [decide_eq_true_eq, decide_eq_false_iff_not, Bool.and_eq_true, Bool.or_eq_true, Bool.and_eq_false_iff, Bool.or_eq_false_iff, Bool.not_eq_true', Bool.not_eq_false', Bool.not_eq_true, Bool.not_eq_false, Int.not_lt, Int.not_le, Decidable.not_not, ne_eq] at hc8
                    refine Hd.seq (fun K24 hK24 => ?_)
                    refine Hd.region ?_
                    first | (refine Hd.yv (y_eqlT rfl rfl) ?_) | (refine Hd.yv (y_eql rfl rfl) ?_)
                    refine Hd.yv (y_assign rfl) ?_
                    refine Hd.nil ?_
                    refine Hd.slots [(0, _), (3, _), (4, _), (5, _), (6, _), (7, _), (9, _), (42, _), (105, _)] ⟨rfl, rfl, rfl, rfl, rfl, rfl, rfl, rfl, rfl, trivial⟩ ?_
                    refine Hd.toK hK24 ?_
                    refine Hd.cond rfl (fun hc9 => ?_) (fun hc9 => ?_)
                    ·
                      try simp only [decide_eq_true_eq, decide_eq_false_iff_not, Bool.and_eq_true, Bool.or_eq_true, Bool.and_eq_false_iff, Bool.or_eq_false_iff, Bool.not_eq_true', Bool.not_eq_false', Bool.not_eq_true, Bool.not_eq_false, Int.not_lt, Int.not_le, Decidable.not_not, ne_eq] at hc9
                      refine Hd.region ?_
                      refine Hd.yv (y_move rfl) ?_
                      refine Hd.callE rfl fk36 (step_ct _ bp A) (Ent.sep enn) ?_
                      intro _
                      refine Hd.nil ?_
                      refine Hd.slots [(0, _), (3, _), (4, _), (5, _), (6, _), (7, _)] ⟨rfl, rfl, rfl, rfl, rfl, rfl, trivial⟩ ?_
                      refine Hd.inB ?_
                      refine Hd.inB ?_
                      clear hK1 hK2 hK3 hK4 hK6 hK7 hK8 hK9 hK10 hK11 hK12 hK13 hK14 hK15 hK16 hK17 hK18 hK19 hK22 hK23 hK24
                      refine Hd.thenN ?_
                      exact Hd.meet ((aStep A).e, W, R) (by repeat (first | exact trivial | refine ⟨rfl, ?_⟩)) (Ent.sep (.pure ⟨hI.step, bnd_up hW⟩ enn))
                    ·
                      try simp only [decide_eq_true_eq, decide_eq_false_iff_not, Bool.and_eq_true, Bool.or_eq_true, Bool.and_eq_false_iff, Bool.or_eq_false_iff, Bool.not_eq_true', Bool.not_eq_false', Bool.not_eq_true, Bool.not_eq_false, Int.not_lt, Int.not_le, Decidable.not_not, ne_eq] at hc9
                      refine Hd.seq (fun K25 hK25 => ?_)
                      refine Hd.region ?_
                      first | (refine Hd.yv (y_eqlT rfl rfl) ?_) | (refine Hd.yv (y_eql rfl rfl) ?_)
                      refine Hd.yv (y_assign rfl) ?_
                      refine Hd.nil ?_
                      refine Hd.slots [(0, _), (3, _), (4, _), (5, _), (6, _), (7, _), (9, _), (109, _)] ⟨rfl, rfl, rfl, rfl, rfl, rfl, rfl, rfl, trivial⟩ ?_
                      refine Hd.toK hK25 ?_
                      refine Hd.cond rfl (fun hc10 => ?_) (fun hc10 => ?_)
                      ·
                        try simp only [decide_eq_true_eq, decide_eq_false_iff_not, Bool.and_eq_true, Bool.or_eq_true, Bool.and_eq_false_iff, Bool.or_eq_false_iff, Bool.not_eq_true', Bool.not_eq_false', Bool.not_eq_true, Bool.not_eq_false, Int.not_lt, Int.not_le, Decidable.not_not, ne_eq] at hc10
                        refine Hd.region ?_
                        refine Hd.yv (y_move rfl) ?_
                        refine Hd.yv (y_move rfl) ?_
                        refine Hd.callE rfl fk39 (flushA _ bp A n) (Ent.sep enn) ?_
                        intro _
                        refine Hd.nil ?_
                        refine Hd.slots [(0, _), (3, _), (4, _), (5, _), (6, _), (7, _)] ⟨rfl, rfl, rfl, rfl, rfl, rfl, trivial⟩ ?_
                        refine Hd.inB ?_
                        refine Hd.inB ?_
                        clear hK1 hK2 hK3 hK4 hK6 hK7 hK8 hK9 hK10 hK11 hK12 hK13 hK14 hK15 hK16 hK17 hK18 hK19 hK22 hK23 hK24 hK25
                        refine Hd.thenN ?_
                        exact Hd.meet ((aFlush A n).e, W, R) (by repeat (first | exact trivial | refine ⟨rfl, ?_⟩)) (Ent.sep (.pure ⟨hI.flush hn2, bnd_up hW⟩ enn))
                      ·
                        try simp only [decide_eq_true_eq, decide_eq_false_iff_not, Bool.and_eq_true, Bool.or_eq_true, Bool.and_eq_false_iff, Bool.or_eq_false_iff, Bool.not_eq_true', Bool.not_eq_false', Bool.not_eq_true, Bool.not_eq_false, Int.not_lt, Int.not_le, Decidable.not_not, ne_eq] at hc10
                        refine Hd.skip ?_
                        refine Hd.inB ?_
                        refine Hd.inB ?_
                        clear hK1 hK2 hK3 hK4 hK6 hK7 hK8 hK9 hK10 hK11 hK12 hK13 hK14 hK15 hK16 hK17 hK18 hK19 hK22 hK23 hK24 hK25
                        refine Hd.thenN ?_
                        exact Hd.meet (A, W, R) (by repeat (first | exact trivial | refine ⟨rfl, ?_⟩)) (Ent.sep (.pure ⟨hI, bnd_up hW⟩ enn))
      ·
        rintro ⟨A2, W2, R2⟩
        dsimp only
        refine Hd.pure (fun hj => ?_)
        refine Hd.region ?_
        refine Hd.yv (y_move rfl) ?_
        first | (refine Hd.yv (y_addn rfl rfl (by simp only [InK]; omega)) ?_) | (refine Hd.yv (y_add rfl rfl) ?_)
        refine Hd.yv (y_assign rfl) ?_
        refine Hd.nil ?_
        refine Hd.slots [(0, _), (3, _), (4, _), (5, _), (6, _), (7, _)] ⟨rfl, rfl, rfl, rfl, rfl, rfl, trivial⟩ ?_
        clear hK1 hK2 hK3 hK4 hK6 hK7 hK8 hK9 hK10 hK11 hK12
        refine Hd.thenN ?_
        exact Hd.again (i + 1, A2, W2, R2) (by first | omega | (simp only; omega) | (simp; omega)) (by repeat (first | exact trivial | refine ⟨rfl, ?_⟩)) (Ent.sep (.pure ⟨hi, hj.1, hj.2⟩ enn))
    ·
      try simp only [decide_eq_true_eq, decide_eq_false_iff_not, Bool.and_eq_true, Bool.or_eq_true, Bool.and_eq_false_iff, Bool.or_eq_false_iff, Bool.not_eq_true', Bool.not_eq_false', Bool.not_eq_true, Bool.not_eq_false, Int.not_lt, Int.not_le, Decidable.not_not, ne_eq] at hc1
      obtain ⟨hi0, hI, hW0⟩ := hp0
      have hW : ∀ n, n < 2 → (W n).length ≤ 30000 := fun n hn => by have := hW0 n hn; omega
      clear hW0
      refine Hd.exit ?_
      refine Hd.thenExit ?_
      refine Hd.thenExit ?_
      refine Hd.inBexit ?_
      refine Hd.toK hK9 ?_
      refine Hd.seq (fun K26 hK26 => ?_)
      refine Hd.seq (fun K27 hK27 => ?_)
      refine Hd.region ?_
      refine Hd.yv (y_assign rfl) ?_
      refine Hd.nil ?_
      refine Hd.slots [(3, _), (4, _), (5, _), (6, _), (11, _)] ⟨rfl, rfl, rfl, rfl, rfl, trivial⟩ ?_
      refine Hd.toK hK27 ?_
      refine Hd.block ?_
      refine Hd.loopK (ι := Nat × (Nat → AE) × Sts) [(3, _), (4, _), (5, _), (6, _)] (fun q_ => [(11, .int .i64 (q_.1 : Int))]) (fun q_ => pu (q_.1 ≤ 2 ∧ ∀ n, n < 2 → if n < q_.1 then q_.2.2 n = W (1 - n) else q_.2.2 n ++ (q_.2.1 n).i ++ (q_.2.1 (1 - n)).u = W (1 - n)) :: PrA bp q_.2.1 :: pt b5 (encS W) 94 :: pt b6 (encS q_.2.2) 94 :: L) (fun q_ => 2 - q_.1) (0, A, R) (by repeat (first | exact trivial | refine ⟨rfl, ?_⟩)) (by repeat (first | exact trivial | refine ⟨rfl, ?_⟩)) (Ent.sep (.pure ⟨Nat.zero_le _, fun n hn => by rw [if_neg (Nat.not_lt_zero _)]; exact hI n hn⟩ enn)) ?_
      rintro ⟨k, A2, R2⟩
      try dsimp only
      refine Hd.pure (fun hp1 => ?_)
      try dsimp only at hp1
      refine Hd.seq (fun K28 hK28 => ?_)
      refine Hd.seq (fun K29 hK29 => ?_)
      refine Hd.region ?_
      refine Hd.yv (y_move rfl) ?_
      refine Hd.yv (y_lss rfl rfl) ?_
      refine Hd.nil ?_
      refine Hd.slots [(3, _), (4, _), (5, _), (6, _), (11, _), (115, _)] ⟨rfl, rfl, rfl, rfl, rfl, rfl, trivial⟩ ?_
      refine Hd.toK hK29 ?_
      refine Hd.cond rfl (fun hc11 => ?_) (fun hc11 => ?_)
      ·
        try simp only [decide_eq_true_eq, decide_eq_false_iff_not, Bool.and_eq_true, Bool.or_eq_true, Bool.and_eq_false_iff, Bool.or_eq_false_iff, Bool.not_eq_true', Bool.not_eq_false', Bool.not_eq_true, Bool.not_eq_false, Int.not_lt, Int.not_le, Decidable.not_not, ne_eq] at hc11
        obtain ⟨_, hJ⟩ := hp1
        have hk2 : k < 2 := by omega
        have hj2 : 1 - k < 2 := by omega
        have hJk := hJ k hk2
        rw [if_neg (Nat.lt_irrefl _)] at hJk
        have hWk := hW (1 - k) hj2
        have hlen : (R2 k).length + (A2 k).i.length + (A2 (1 - k)).u.length = (W (1 - k)).length := by rw [← hJk]; simp [Nat.add_assoc]
        have hlr := last_round (A := A2) hk2 (by omega)
        have hV1 := hlr.1
        have hV2 := hlr.2.1
        have hul : (upd R2 k (R2 k ++ (A2 k).i) k).length = (R2 k).length + (A2 k).i.length := by rw [upd_same, List.length_append]
        have hJ2 : ∀ n, n < 2 → if n < k + 1 then upd R2 k (W (1 - k)) n = W (1 - n) else upd R2 k (W (1 - k)) n ++ (rd5 A2 k n).i ++ (rd5 A2 k (1 - n)).u = W (1 - n) := fun n hn => by
          have h0 := hJ n hn
          rcases two_cases hk2 hn with rfl | ⟨e1, e2, e3⟩
          · rw [if_pos (by omega), upd_same]
          · rw [upd_ne e3]
            by_cases hnk : n < k
            · rw [if_pos hnk] at h0; rw [if_pos (by omega)]; exact h0
            · rw [if_neg hnk] at h0; rw [if_neg (by omega)]
              subst e1
              have hkk : 1 - (1 - k) = k := by omega
              rw [hkk] at h0 ⊢
              rw [hlr.2.2.1, hlr.2.2.2]; exact h0
        refine Hd.skip ?_
        refine Hd.toK hK28 ?_
        refine Hd.seq (fun K30 hK30 => ?_)
        refine Hd.block ?_
        refine Hd.seq (fun K31 hK31 => ?_)
        refine Hd.region ?_
        refine Hd.yv (y_move rfl) ?_
        refine Hd.yv (y_move rfl) ?_
        refine Hd.callE rfl fk37 (lensA _ bp A2 k hk2) (Ent.sep enn) ?_
        intro _
        refine Hd.yv (y_move rfl) ?_
        refine Hd.yv (y_extract rfl rfl) ?_
        refine Hd.yv (y_extract rfl rfl) ?_
        refine Hd.yv (y_assign rfl) ?_
        refine Hd.yv (y_assign rfl) ?_
        refine Hd.nil ?_
        refine Hd.slots [(3, _), (4, _), (5, _), (6, _), (11, _), (12, _)] ⟨rfl, rfl, rfl, rfl, rfl, rfl, trivial⟩ ?_
        refine Hd.toK hK31 ?_
        refine Hd.seq (fun K32 hK32 => ?_)
        refine Hd.region ?_
        refine Hd.yv (y_move rfl) ?_
        refine Hd.yv (y_move rfl) ?_
        first | (refine Hd.yv (y_to (v' := .int .i64 ((1 - k : Nat) : Int)) (y_subn rfl rfl (by simp only [InK]; omega)) (by (congr 1; omega))) ?_) | (refine Hd.yv (y_to (v' := .int .i64 ((1 - k : Nat) : Int)) (y_sub rfl rfl) (by (congr 1; omega))) ?_)
        refine Hd.callE rfl fk37 (lensA _ bp A2 (1 - k) hj2) (Ent.sep enn) ?_
        intro _
        refine Hd.yv (y_move rfl) ?_
        refine Hd.yv (y_extract rfl rfl) ?_
        refine Hd.yv (y_extract rfl rfl) ?_
        refine Hd.yv (y_assign rfl) ?_
        refine Hd.yv (y_assign rfl) ?_
        refine Hd.nil ?_
        refine Hd.slots [(3, _), (4, _), (5, _), (6, _), (11, _), (12, _), (15, _)] ⟨rfl, rfl, rfl, rfl, rfl, rfl, rfl, trivial⟩ ?_
        refine Hd.toK hK32 ?_
        refine Hd.seq (fun K33 hK33 => ?_)
        refine Hd.drawsH ([pt b6 (encS R2) 94]) (fun j => !([11].contains j)) mixed ?_
        simp only [List.length, Nat.zero_add, Nat.reduceAdd]
        refine Hd.takeH 0 rfl (by kernel_rfl) (by kernel_rfl) (by kernel_rfl) (by kernel_rfl) (y_move rfl) (fun _ _ => rfl) (Ent.sep enn) ?_
        refine Hd.takeH 1 rfl (by kernel_rfl) (by kernel_rfl) (by kernel_rfl) (by kernel_rfl) (y_move rfl) (fun _ _ => rfl) (Ent.sep enn) ?_
        refine Hd.takeH 2 rfl (by kernel_rfl) (by kernel_rfl) (by kernel_rfl) (by kernel_rfl) (y_idxA Try.underlying94 sz9 rfl rfl (by first | omega | decide)) (fun _ _ => rfl) (Ent.sep enn) ?_
        first | (refine Hd.takeH 3 rfl (by kernel_rfl) (by kernel_rfl) (by kernel_rfl) (by kernel_rfl) (y_load1 ag9 rfl (Rd.pt1 pkk (by (first | exact encS_at hn2 | exact encS_at hk2 | exact encS_at hj2 | rfl)))) (fun _ _ => rfl) (Ent.sep enn) ?_) | (refine Hd.takeH 3 rfl (by kernel_rfl) (by kernel_rfl) (by kernel_rfl) (by kernel_rfl) (y_load1 ag9 rfl (Rd.seg1 pkk (by (first | exact encS_at hn2 | exact encS_at hk2 | exact encS_at hj2 | rfl)))) (fun _ _ => rfl) (Ent.sep enn) ?_) | (refine Hd.takeH 3 rfl (by kernel_rfl) (by kernel_rfl) (by kernel_rfl) (by kernel_rfl) (y_loadR1 ag9 rfl (by (first | exact RdS.own pkk | exact RdS.mono hR (Ent.sep enn) | exact RdS.mono hoo.rd (Ent.sep enn))) (by (first | exact encS_at hn2 | exact encS_at hk2 | exact encS_at hj2 | rfl))) (fun _ _ => rfl) (Ent.sep enn) ?_)
        refine Hd.takeH 4 rfl (by kernel_rfl) (by kernel_rfl) (by kernel_rfl) (by kernel_rfl) (y_move rfl) (fun _ _ => rfl) (Ent.sep enn) ?_
        refine Hd.takeH 5 rfl (by kernel_rfl) (by kernel_rfl) (by kernel_rfl) (by kernel_rfl) (y_move rfl) (fun _ _ => rfl) (Ent.sep enn) ?_
        refine Hd.takeH 6 rfl (by kernel_rfl) (by kernel_rfl) (by kernel_rfl) (by kernel_rfl) (y_move rfl) (fun _ _ => rfl) (Ent.sep enn) ?_
        refine Hd.onlyH 7 rfl (by kernel_rfl) ?_
        refine Hd.callE rfl fk40 (readA _ bp A2 k ((A2 k).i.length : Int) (by simp only [InK]; omega)) (Ent.sep enn) ?_
        rintro ⟨a5, c5⟩
        dsimp only
        refine Hd.nil ?_
        refine Hd.thenN ?_
        refine Hd.heldK (J := (fun j => !([11].contains j))) (i := 7) (Ent.sep enn) ?_
        refine Hd.onlyH 8 rfl (by kernel_rfl) ?_
        refine Hd.yv (y_strOf (l := _) (by kernel_rfl) Try.underlying9 rfl (by (first | exact RdS.own pkk | exact RdS.mono hR (Ent.sep enn) | exact RdS.mono hoo.rd (Ent.sep enn)))) ?_
        refine Hd.nil ?_
        refine Hd.thenN ?_
        refine Hd.heldK (J := (fun j => !([11].contains j))) (i := 8) (Ent.sep enn) ?_
        refine Hd.takeH 9 rfl (by kernel_rfl) (by kernel_rfl) (by kernel_rfl) (by kernel_rfl) (y_addstr rfl rfl (by first | omega | (omega) | (rw [hV1]; omega) | (rw [hV2]; omega) | (rw [hV2, upd_same, List.length_append]; omega) | (simp; omega) | (simp only [List.length_append, List.length_take, List.length_drop, List.length_cons, List.length_nil]; omega))) (fun _ _ => rfl) (Ent.sep enn) ?_
        refine Hd.takeH 10 rfl (by kernel_rfl) (by kernel_rfl) (by kernel_rfl) (by kernel_rfl) (y_idxA Try.underlying94 sz9 rfl rfl (by first | omega | decide)) (fun _ _ => rfl) (Ent.sep enn) ?_
        refine Hd.onlyH 11 rfl (by kernel_rfl) ?_
        first | (refine Hd.store1 sz9 rfl rfl rfl pkk (by first | decide | (simp; done) | (simp; omega)) ?_) | (refine Hd.storeG1 sz9 rfl rfl rfl pkk (by first | decide | (simp; done) | (simp; omega)) ?_) | (refine Hd.storeO1 sz9 rfl rfl rfl pkk (by first | omega | (simp; done) | (simp; omega)) ?_)
        try simp only [List.set_cons_zero, List.set_cons_succ]
        refine Hd.nil ?_
        refine Hd.thenN ?_
        refine Hd.heldN (J := (fun j => !([11].contains j))) (i := 11) rfl ?_
        refine Hd.endH (by kernel_rfl) ?_
        refine Hd.heap (PrA bp (rd1 A2 k) :: pt b5 (encS W) 94 :: pt b6 (encS (upd R2 k (R2 k ++ (A2 k).i))) 94 :: L) (fun k' s => Ent.sep (.pick pkk (.pick pkk (.eq pkk (pt_eq (by rw [hV1]; exact encS_set hk2 _)) enn))) k' s) ?_
        refine Hd.slots [(3, _), (4, _), (5, _), (6, _), (11, _), (15, _)] ⟨rfl, rfl, rfl, rfl, rfl, rfl, trivial⟩ ?_
        refine Hd.toK hK33 ?_
        refine Hd.seq (fun K34 hK34 => ?_)
        refine Hd.seq (fun K35 hK35 => ?_)
        refine Hd.drawsH ([pt b6 (encS (upd R2 k (R2 k ++ (A2 k).i))) 94, pt b5 (encS W) 94]) (fun _ => true) mixed ?_
        simp only [List.length, Nat.zero_add, Nat.reduceAdd]
        refine Hd.takeH 0 rfl (by kernel_rfl) (by kernel_rfl) (by kernel_rfl) (by kernel_rfl) (y_move rfl) (fun _ _ => rfl) (Ent.sep enn) ?_
        refine Hd.takeH 1 rfl (by kernel_rfl) (by kernel_rfl) (by kernel_rfl) (by kernel_rfl) (y_idxA Try.underlying94 sz9 rfl rfl (by first | omega | decide)) (fun _ _ => rfl) (Ent.sep enn) ?_
        first | (refine Hd.takeH 2 rfl (by kernel_rfl) (by kernel_rfl) (by kernel_rfl) (by kernel_rfl) (y_load1 ag9 rfl (Rd.pt1 pkk (by (first | exact encS_at hn2 | exact encS_at hk2 | exact encS_at hj2 | rfl)))) (fun _ _ => rfl) (Ent.sep enn) ?_) | (refine Hd.takeH 2 rfl (by kernel_rfl) (by kernel_rfl) (by kernel_rfl) (by kernel_rfl) (y_load1 ag9 rfl (Rd.seg1 pkk (by (first | exact encS_at hn2 | exact encS_at hk2 | exact encS_at hj2 | rfl)))) (fun _ _ => rfl) (Ent.sep enn) ?_) | (refine Hd.takeH 2 rfl (by kernel_rfl) (by kernel_rfl) (by kernel_rfl) (by kernel_rfl) (y_loadR1 ag9 rfl (by (first | exact RdS.own pkk | exact RdS.mono hR (Ent.sep enn) | exact RdS.mono hoo.rd (Ent.sep enn))) (by (first | exact encS_at hn2 | exact encS_at hk2 | exact encS_at hj2 | rfl))) (fun _ _ => rfl) (Ent.sep enn) ?_)
        first | (refine Hd.takeH 3 rfl (by kernel_rfl) (by kernel_rfl) (by kernel_rfl) (by kernel_rfl) (y_lenStr Try.underlying9 rfl) (fun _ _ => rfl) (Ent.sep enn) ?_) | (refine Hd.takeH 3 rfl (by kernel_rfl) (by kernel_rfl) (by kernel_rfl) (by kernel_rfl) (y_lenS Try.underlying9 rfl) (fun _ _ => rfl) (Ent.sep enn) ?_)
        refine Hd.takeH 4 rfl (by kernel_rfl) (by kernel_rfl) (by kernel_rfl) (by kernel_rfl) (y_move rfl) (fun _ _ => rfl) (Ent.sep enn) ?_
        first | (refine Hd.takeH 5 rfl (by kernel_rfl) (by kernel_rfl) (by kernel_rfl) (by kernel_rfl) (y_addn rfl rfl (by simp only [InK]; omega)) (fun _ _ => rfl) (Ent.sep enn) ?_) | (refine Hd.takeH 5 rfl (by kernel_rfl) (by kernel_rfl) (by kernel_rfl) (by kernel_rfl) (y_add rfl rfl) (fun _ _ => rfl) (Ent.sep enn) ?_)
        refine Hd.takeH 6 rfl (by kernel_rfl) (by kernel_rfl) (by kernel_rfl) (by kernel_rfl) (y_move rfl) (fun _ _ => rfl) (Ent.sep enn) ?_
        first | (refine Hd.takeH 7 rfl (by kernel_rfl) (by kernel_rfl) (by kernel_rfl) (by kernel_rfl) (y_to (v' := .int .i64 ((1 - k : Nat) : Int)) (y_subn rfl rfl (by simp only [InK]; omega)) (by (congr 1; omega))) (fun _ _ => rfl) (Ent.sep enn) ?_) | (refine Hd.takeH 7 rfl (by kernel_rfl) (by kernel_rfl) (by kernel_rfl) (by kernel_rfl) (y_to (v' := .int .i64 ((1 - k : Nat) : Int)) (y_sub rfl rfl) (by (congr 1; omega))) (fun _ _ => rfl) (Ent.sep enn) ?_)
        refine Hd.takeH 8 rfl (by kernel_rfl) (by kernel_rfl) (by kernel_rfl) (by kernel_rfl) (y_idxA Try.underlying94 sz9 rfl rfl (by first | omega | decide)) (fun _ _ => rfl) (Ent.sep enn) ?_
        first | (refine Hd.takeH 9 rfl (by kernel_rfl) (by kernel_rfl) (by kernel_rfl) (by kernel_rfl) (y_load1 ag9 rfl (Rd.pt1 pkk (by (first | exact encS_at hn2 | exact encS_at hk2 | exact encS_at hj2 | rfl)))) (fun _ _ => rfl) (Ent.sep enn) ?_) | (refine Hd.takeH 9 rfl (by kernel_rfl) (by kernel_rfl) (by kernel_rfl) (by kernel_rfl) (y_load1 ag9 rfl (Rd.seg1 pkk (by (first | exact encS_at hn2 | exact encS_at hk2 | exact encS_at hj2 | rfl)))) (fun _ _ => rfl) (Ent.sep enn) ?_) | (refine Hd.takeH 9 rfl (by kernel_rfl) (by kernel_rfl) (by kernel_rfl) (by kernel_rfl) (y_loadR1 ag9 rfl (by (first | exact RdS.own pkk | exact RdS.mono hR (Ent.sep enn) | exact RdS.mono hoo.rd (Ent.sep enn))) (by (first | exact encS_at hn2 | exact encS_at hk2 | exact encS_at hj2 | rfl))) (fun _ _ => rfl) (Ent.sep enn) ?_)
        first | (refine Hd.takeH 10 rfl (by kernel_rfl) (by kernel_rfl) (by kernel_rfl) (by kernel_rfl) (y_lenStr Try.underlying9 rfl) (fun _ _ => rfl) (Ent.sep enn) ?_) | (refine Hd.takeH 10 rfl (by kernel_rfl) (by kernel_rfl) (by kernel_rfl) (by kernel_rfl) (y_lenS Try.underlying9 rfl) (fun _ _ => rfl) (Ent.sep enn) ?_)
        refine Hd.takeH 11 rfl (by kernel_rfl) (by kernel_rfl) (by kernel_rfl) (by kernel_rfl) (y_to (y_neq rfl rfl) (congrArg Value.bool (decide_eq_false ((fun h => h (by omega)))))) (fun _ _ => rfl) (Ent.sep enn) ?_
        refine Hd.endH (by kernel_rfl) ?_
        refine Hd.slots [(3, _), (4, _), (5, _), (6, _), (11, _), (153, _)] ⟨rfl, rfl, rfl, rfl, rfl, rfl, trivial⟩ ?_
        refine Hd.toK hK35 ?_
        refine Hd.condF rfl ?_
        refine Hd.skip ?_
        refine Hd.toK hK34 ?_
        refine Hd.seq (fun K36 hK36 => ?_)
        refine Hd.region ?_
        refine Hd.yv (y_move rfl) ?_
        refine Hd.yv (y_move rfl) ?_
        refine Hd.callE rfl fk34 (enableA _ bp (rd1 A2 k) k 2 (by simp [InK])) (Ent.sep enn) ?_
        intro _
        refine Hd.nil ?_
        refine Hd.slots [(3, _), (4, _), (5, _), (6, _), (11, _)] ⟨rfl, rfl, rfl, rfl, rfl, trivial⟩ ?_
        refine Hd.toK hK36 ?_
        refine Hd.seq (fun K37 hK37 => ?_)
        refine Hd.region ?_
        refine Hd.yv (y_move rfl) ?_
        refine Hd.yv (y_move rfl) ?_
        first | (refine Hd.yv (y_to (v' := .int .i64 ((1 - k : Nat) : Int)) (y_subn rfl rfl (by simp only [InK]; omega)) (by (congr 1; omega))) ?_) | (refine Hd.yv (y_to (v' := .int .i64 ((1 - k : Nat) : Int)) (y_sub rfl rfl) (by (congr 1; omega))) ?_)
        refine Hd.callE rfl fk34 (enableA _ bp (rd2 A2 k) ((1 - k : Nat) : Int) 4 (by simp [InK])) (Ent.sep enn) ?_
        intro _
        refine Hd.nil ?_
        refine Hd.slots [(3, _), (4, _), (5, _), (6, _), (11, _)] ⟨rfl, rfl, rfl, rfl, rfl, trivial⟩ ?_
        refine Hd.toK hK37 ?_
        refine Hd.seq (fun K38 hK38 => ?_)
        refine Hd.region ?_
        refine Hd.yv (y_move rfl) ?_
        refine Hd.yv (y_move rfl) ?_
        first | (refine Hd.yv (y_to (v' := .int .i64 ((1 - k : Nat) : Int)) (y_subn rfl rfl (by simp only [InK]; omega)) (by (congr 1; omega))) ?_) | (refine Hd.yv (y_to (v' := .int .i64 ((1 - k : Nat) : Int)) (y_sub rfl rfl) (by (congr 1; omega))) ?_)
        refine Hd.callE rfl fk39 (flushA _ bp (rd3 A2 k) ((1 - k : Nat) : Int)) (Ent.sep enn) ?_
        intro _
        refine Hd.nil ?_
        refine Hd.slots [(3, _), (4, _), (5, _), (6, _), (11, _)] ⟨rfl, rfl, rfl, rfl, rfl, trivial⟩ ?_
        refine Hd.toK hK38 ?_
        refine Hd.drawsH ([pt b6 (encS (upd R2 k (R2 k ++ (A2 k).i))) 94]) (fun j => !([10].contains j)) mixed ?_
        simp only [List.length, Nat.zero_add, Nat.reduceAdd]
        refine Hd.takeH 0 rfl (by kernel_rfl) (by kernel_rfl) (by kernel_rfl) (by kernel_rfl) (y_move rfl) (fun _ _ => rfl) (Ent.sep enn) ?_
        refine Hd.takeH 1 rfl (by kernel_rfl) (by kernel_rfl) (by kernel_rfl) (by kernel_rfl) (y_move rfl) (fun _ _ => rfl) (Ent.sep enn) ?_
        refine Hd.takeH 2 rfl (by kernel_rfl) (by kernel_rfl) (by kernel_rfl) (by kernel_rfl) (y_idxA Try.underlying94 sz9 rfl rfl (by first | omega | decide)) (fun _ _ => rfl) (Ent.sep enn) ?_
        first | (refine Hd.takeH 3 rfl (by kernel_rfl) (by kernel_rfl) (by kernel_rfl) (by kernel_rfl) (y_load1 ag9 rfl (Rd.pt1 pkk (by (first | exact encS_at hn2 | exact encS_at hk2 | exact encS_at hj2 | rfl)))) (fun _ _ => rfl) (Ent.sep enn) ?_) | (refine Hd.takeH 3 rfl (by kernel_rfl) (by kernel_rfl) (by kernel_rfl) (by kernel_rfl) (y_load1 ag9 rfl (Rd.seg1 pkk (by (first | exact encS_at hn2 | exact encS_at hk2 | exact encS_at hj2 | rfl)))) (fun _ _ => rfl) (Ent.sep enn) ?_) | (refine Hd.takeH 3 rfl (by kernel_rfl) (by kernel_rfl) (by kernel_rfl) (by kernel_rfl) (y_loadR1 ag9 rfl (by (first | exact RdS.own pkk | exact RdS.mono hR (Ent.sep enn) | exact RdS.mono hoo.rd (Ent.sep enn))) (by (first | exact encS_at hn2 | exact encS_at hk2 | exact encS_at hj2 | rfl))) (fun _ _ => rfl) (Ent.sep enn) ?_)
        refine Hd.takeH 4 rfl (by kernel_rfl) (by kernel_rfl) (by kernel_rfl) (by kernel_rfl) (y_move rfl) (fun _ _ => rfl) (Ent.sep enn) ?_
        refine Hd.takeH 5 rfl (by kernel_rfl) (by kernel_rfl) (by kernel_rfl) (by kernel_rfl) (y_move rfl) (fun _ _ => rfl) (Ent.sep enn) ?_
        refine Hd.onlyH 6 rfl (by kernel_rfl) ?_
        refine Hd.callE rfl fk40 (readA _ bp (rd4 A2 k) k 1048576 (by simp [InK])) (Ent.sep enn) ?_
        rintro ⟨a6, c6⟩
        dsimp only
        refine Hd.nil ?_
        refine Hd.thenN ?_
        refine Hd.heldK (J := (fun j => !([10].contains j))) (i := 6) (Ent.sep enn) ?_
        refine Hd.onlyH 7 rfl (by kernel_rfl) ?_
        refine Hd.yv (y_strOf (l := _) (by kernel_rfl) Try.underlying9 rfl (by (first | exact RdS.own pkk | exact RdS.mono hR (Ent.sep enn) | exact RdS.mono hoo.rd (Ent.sep enn)))) ?_
        refine Hd.nil ?_
        refine Hd.thenN ?_
        refine Hd.heldK (J := (fun j => !([10].contains j))) (i := 7) (Ent.sep enn) ?_
        refine Hd.takeH 8 rfl (by kernel_rfl) (by kernel_rfl) (by kernel_rfl) (by kernel_rfl) (y_addstr rfl rfl (by first | omega | (omega) | (rw [hV1]; omega) | (rw [hV2]; omega) | (rw [hV2, upd_same, List.length_append]; omega) | (simp; omega) | (simp only [List.length_append, List.length_take, List.length_drop, List.length_cons, List.length_nil]; omega))) (fun _ _ => rfl) (Ent.sep enn) ?_
        refine Hd.takeH 9 rfl (by kernel_rfl) (by kernel_rfl) (by kernel_rfl) (by kernel_rfl) (y_idxA Try.underlying94 sz9 rfl rfl (by first | omega | decide)) (fun _ _ => rfl) (Ent.sep enn) ?_
        refine Hd.onlyH 10 rfl (by kernel_rfl) ?_
        first | (refine Hd.store1 sz9 rfl rfl rfl pkk (by first | decide | (simp; done) | (simp; omega)) ?_) | (refine Hd.storeG1 sz9 rfl rfl rfl pkk (by first | decide | (simp; done) | (simp; omega)) ?_) | (refine Hd.storeO1 sz9 rfl rfl rfl pkk (by first | omega | (simp; done) | (simp; omega)) ?_)
        try simp only [List.set_cons_zero, List.set_cons_succ]
        refine Hd.nil ?_
        refine Hd.thenN ?_
        refine Hd.heldN (J := (fun j => !([10].contains j))) (i := 10) rfl ?_
        refine Hd.endH (by kernel_rfl) ?_
        refine Hd.heap (PrA bp (rd5 A2 k) :: pt b5 (encS W) 94 :: pt b6 (encS (upd R2 k (W (1 - k)))) 94 :: L) (fun k' s => Ent.sep (.pick pkk (.pick pkk (.eq pkk (pt_eq (by rw [hV2, upd_same, hJk, encS_set hk2]; congr 1; funext j; unfold upd; split <;> rfl)) enn))) k' s) ?_
        refine Hd.slots [(3, _), (4, _), (5, _), (6, _), (11, _)] ⟨rfl, rfl, rfl, rfl, rfl, trivial⟩ ?_
        refine Hd.inB ?_
        refine Hd.toK hK30 ?_
        refine Hd.region ?_
        refine Hd.yv (y_move rfl) ?_
        first | (refine Hd.yv (y_addn rfl rfl (by simp only [InK]; omega)) ?_) | (refine Hd.yv (y_add rfl rfl) ?_)
        refine Hd.yv (y_assign rfl) ?_
        refine Hd.nil ?_
        refine Hd.slots [(3, _), (4, _), (5, _), (6, _), (11, _)] ⟨rfl, rfl, rfl, rfl, rfl, trivial⟩ ?_
        clear hK1 hK2 hK3 hK4 hK6 hK7 hK8 hK9 hK10 hK11 hK12 hK26 hK27 hK28 hK29 hK30 hK31 hK32 hK33 hK34 hK35 hK36 hK37 hK38
        refine Hd.thenN ?_
        exact Hd.again (k + 1, rd5 A2 k, upd R2 k (W (1 - k))) (by first | omega | (simp only; omega) | (simp; omega)) (by repeat (first | exact trivial | refine ⟨rfl, ?_⟩)) (Ent.sep (.pure ⟨hk2, hJ2⟩ enn))
      ·
        try simp only [decide_eq_true_eq, decide_eq_false_iff_not, Bool.and_eq_true, Bool.or_eq_true, Bool.and_eq_false_iff, Bool.or_eq_false_iff, Bool.not_eq_true', Bool.not_eq_false', Bool.not_eq_true, Bool.not_eq_false, Int.not_lt, Int.not_le, Decidable.not_not, ne_eq] at hc11
        obtain ⟨hk0, hJ⟩ := hp1
        obtain rfl : k = 2 := by omega
        have h0 : R2 0 = W 1 := by have := hJ 0 (by omega); rwa [if_pos (by omega)] at this
        have h1 : R2 1 = W 0 := by have := hJ 1 (by omega); rwa [if_pos (by omega)] at this
        refine Hd.exit ?_
        refine Hd.thenExit ?_
        refine Hd.thenExit ?_
        refine Hd.inBexit ?_
        refine Hd.toK hK26 ?_
        refine Hd.seq (fun K39 hK39 => ?_)
        refine Hd.region ?_
        refine Hd.yv (y_move rfl) ?_
        refine Hd.yv (y_move rfl) ?_
        refine Hd.yg rfl rfl (y_idxA Try.underlying94 sz9 rfl rfl (by first | omega | decide)) ?_
        first | (refine Hd.yg rfl rfl (y_load1 ag9 rfl (Rd.pt1 pkk (by (first | exact encS_at hn2 | exact encS_at hk2 | exact encS_at hj2 | rfl)))) ?_) | (refine Hd.yg rfl rfl (y_load1 ag9 rfl (Rd.seg1 pkk (by (first | exact encS_at hn2 | exact encS_at hk2 | exact encS_at hj2 | rfl)))) ?_) | (refine Hd.yg rfl rfl (y_loadR1 ag9 rfl (by (first | exact RdS.own pkk | exact RdS.mono hR (Ent.sep enn) | exact RdS.mono hoo.rd (Ent.sep enn))) (by (first | exact encS_at hn2 | exact encS_at hk2 | exact encS_at hj2 | rfl))) ?_)
        refine Hd.yg rfl rfl (y_idxA Try.underlying94 sz9 rfl rfl (by first | omega | decide)) ?_
        first | (refine Hd.yg rfl rfl (y_load1 ag9 rfl (Rd.pt1 pkk (by (first | exact encS_at hn2 | exact encS_at hk2 | exact encS_at hj2 | rfl)))) ?_) | (refine Hd.yg rfl rfl (y_load1 ag9 rfl (Rd.seg1 pkk (by (first | exact encS_at hn2 | exact encS_at hk2 | exact encS_at hj2 | rfl)))) ?_) | (refine Hd.yg rfl rfl (y_loadR1 ag9 rfl (by (first | exact RdS.own pkk | exact RdS.mono hR (Ent.sep enn) | exact RdS.mono hoo.rd (Ent.sep enn))) (by (first | exact encS_at hn2 | exact encS_at hk2 | exact encS_at hj2 | rfl))) ?_)
        refine Hd.yg rfl rfl (y_to (y_eqlstr rfl rfl) (congrArg Value.bool (decide_eq_true (h0)))) ?_
        first | (refine Hd.yv (y_pickT rfl rfl) ?_) | (refine Hd.yv (y_pickF rfl rfl) ?_) | (refine Hd.yv (y_pickb rfl rfl rfl) ?_) | (refine Hd.yv (y_pick rfl rfl rfl) ?_)
        refine Hd.yv (y_move rfl) ?_
        refine Hd.yg rfl rfl (y_idxA Try.underlying94 sz9 rfl rfl (by first | omega | decide)) ?_
        first | (refine Hd.yg rfl rfl (y_load1 ag9 rfl (Rd.pt1 pkk (by (first | exact encS_at hn2 | exact encS_at hk2 | exact encS_at hj2 | rfl)))) ?_) | (refine Hd.yg rfl rfl (y_load1 ag9 rfl (Rd.seg1 pkk (by (first | exact encS_at hn2 | exact encS_at hk2 | exact encS_at hj2 | rfl)))) ?_) | (refine Hd.yg rfl rfl (y_loadR1 ag9 rfl (by (first | exact RdS.own pkk | exact RdS.mono hR (Ent.sep enn) | exact RdS.mono hoo.rd (Ent.sep enn))) (by (first | exact encS_at hn2 | exact encS_at hk2 | exact encS_at hj2 | rfl))) ?_)
        refine Hd.yg rfl rfl (y_idxA Try.underlying94 sz9 rfl rfl (by first | omega | decide)) ?_
        first | (refine Hd.yg rfl rfl (y_load1 ag9 rfl (Rd.pt1 pkk (by (first | exact encS_at hn2 | exact encS_at hk2 | exact encS_at hj2 | rfl)))) ?_) | (refine Hd.yg rfl rfl (y_load1 ag9 rfl (Rd.seg1 pkk (by (first | exact encS_at hn2 | exact encS_at hk2 | exact encS_at hj2 | rfl)))) ?_) | (refine Hd.yg rfl rfl (y_loadR1 ag9 rfl (by (first | exact RdS.own pkk | exact RdS.mono hR (Ent.sep enn) | exact RdS.mono hoo.rd (Ent.sep enn))) (by (first | exact encS_at hn2 | exact encS_at hk2 | exact encS_at hj2 | rfl))) ?_)
        refine Hd.yg rfl rfl (y_to (y_eqlstr rfl rfl) (congrArg Value.bool (decide_eq_true (h1)))) ?_
        first | (refine Hd.yv (y_pickT rfl rfl) ?_) | (refine Hd.yv (y_pickF rfl rfl) ?_) | (refine Hd.yv (y_pickb rfl rfl rfl) ?_) | (refine Hd.yv (y_pick rfl rfl rfl) ?_)
        refine Hd.yv (y_assign rfl) ?_
        refine Hd.nil ?_
        refine Hd.slots [(2, _)] ⟨rfl, trivial⟩ ?_
        refine Hd.toK hK39 ?_
        refine Hd.ret ?_
        clear hK1 hK2 hK3 hK4 hK6 hK7 hK8 hK9 hK10 hK11 hK12 hK26 hK27 hK28 hK29 hK39
        exact Hd.ret1 rfl () (by first | rfl | (simp only [*]; done) | (simp [*]; done)) (Ent.sep enn)
end Pa
end Go.Proofs.Ytgifpkpkkgkfeaa
