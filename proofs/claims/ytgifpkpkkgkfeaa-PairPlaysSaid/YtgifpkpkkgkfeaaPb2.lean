/-
  The document's pair (roundhouseref28): pass.
-/
import Derived.Test.YtgifpkpkkgkfeaaPb1
namespace Go.Proofs.Ytgifpkpkkgkfeaa
set_option linter.unusedSimpArgs false
set_option linter.unusedVariables false
set_option linter.unnecessarySimpa false
open Go.RX Fx
namespace Pa
open Bc
set_option maxRecDepth 8000
abbrev encV (t : TV) : List Value := [.bool t.rd, .bool t.wr, .int .i64 t.ev, .int .i64 t.inn, .int .i64 t.out]
theorem encV_one (t : TV) : ∀ u ∈ encV t, u.oneCell' = true := by simp [Value.oneCell']
theorem rdTake {L L' : List SP} {ad : Option Addr} {l : List UInt8} {cap m : Nat} (p : Pick L (own 5 1 ad l.length cap (bsl l)) L') (h : m ≤ l.length) : RdS L 1 ad (l.take m).length (bsl (l.take m)) := by
  have h1 := RdS.head (l := m) (RdS.own p) h
  have h2 : (l.take m).length = m := by rw [List.length_take]; omega
  rw [h2]
  simpa [List.map_take] using h1
set_option maxHeartbeats 2000000 in
theorem rpass_ct (L : List SP) (br bE bt k : Nat) (hk : k < 2) (a c : AE) (fl : Bool) (ha : AOk a) (hc : AOk c) (x y : TV) : Ct Try.prog 74 #[.pointer (some ⟨br, 0, none⟩), .int .i64 (k : Int), .bool fl, .slice (some ⟨bt, 0, none⟩) 2 2] (RHd br bE :: REn bE k a :: REn bE (1 - k) c :: seg bt (k * 5) (encV x) :: seg bt ((1 - k) * 5) (encV y) :: L) (fun _ : Unit => .tuple #[]) (fun _ : Unit => RHd br bE :: REn bE k { a with u := a.u.drop (aMany a c fl) } :: REn bE (1 - k) { c with i := c.i ++ a.u.take (aMany a c fl), tol := c.tol || aEnd a c (aMany a c fl) } :: seg bt (k * 5) (encV (aTvF a (aMany a c fl) x)) :: seg bt ((1 - k) * 5) (encV { aTvT c (aMany a c fl) y with ev := if aEnd a c (aMany a c fl) = true then 17 else (aTvT c (aMany a c fl) y).ev }) :: L) := by
  refine Ct.of (vs := [.pointer (some ⟨br, 0, none⟩), .int .i64 (k : Int), .bool fl, .slice (some ⟨bt, 0, none⟩) 2 2]) Try.func74 rfl rfl [(0, .pointer (some ⟨br, 0, none⟩)), (1, .int .i64 (k : Int)), (2, .bool fl), (3, .slice (some ⟨bt, 0, none⟩) 2 2)] (by repeat (first | exact trivial | refine ⟨rfl, ?_⟩)) ?_
  intro E
  show Hd E 142 _ _ _ _
  have hau := ha.u
  have hci := hc.i
  have hch := hc.high
  have hml := aMany_le a c fl
  obtain ⟨m, hm⟩ : ∃ m, m = aMany a c fl := ⟨_, rfl⟩
  rw [← hm] at hml ⊢
  refine Hd.exs (.there .here) ?_
  intro xa
  simp only [List.cons_append, List.nil_append]
  refine Hd.exs (.there (.there (.there (.there .here)))) ?_
  intro xc
  simp only [List.cons_append, List.nil_append]
  refine Hd.seq (fun K1 hK1 => ?_)
  refine Hd.region ?_
  refine Hd.yv (y_move rfl) ?_
  refine Hd.yv (y_nilp rfl) ?_
  first | (refine Hd.yv (y_field' (q := 0) (ft := 90) Try.underlying92 rfl sz90 rfl rfl) ?_) | (refine Hd.yv (y_fieldR (q := 0) (ft := 90) Try.underlying92 rfl sz90 rfl rfl) ?_)
  first | (refine Hd.yv (y_load1 ag90 rfl (Rd.pt1 pkk (by (first | rfl)))) ?_) | (refine Hd.yv (y_load1 ag90 rfl (Rd.seg1 pkk (by (first | rfl)))) ?_) | (refine Hd.yv (y_loadR1 ag90 rfl (by (first | exact RdS.own pkk)) (by (first | rfl))) ?_)
  refine Hd.yv (y_move rfl) ?_
  first | (refine Hd.yv (y_to (v' := .pointer (some ⟨bE, k * 9, none⟩)) (y_idxS Try.underlying90 sz89 rfl rfl (by first | omega | decide)) (by rw [Nat.zero_add])) ?_) | (refine Hd.yv (y_to (v' := .pointer (some ⟨bE, k * 9, none⟩)) (y_idxR Try.underlying90 sz89 rfl rfl (by first | omega | decide) (by (first | exact RdS.own pkk))) (by rw [Nat.zero_add])) ?_)
  refine Hd.yv (y_loadn (us := encR a xa) ag89 rfl (Rd.seg0 pkk) (by exact sz89)) ?_
  refine Hd.alloc zr89 (fun b8 => ?_)
  refine Hd.storeA (us := encR a xa) sz89 rfl rfl rfl (encR_one _ _) pkk (by exact rfl) ?_
  refine Hd.nil ?_
  refine Hd.slots [(0, _), (1, _), (2, _), (3, _), (8, _)] ⟨rfl, rfl, rfl, rfl, rfl, trivial⟩ ?_
  refine Hd.toK hK1 ?_
  refine Hd.seq (fun K2 hK2 => ?_)
  refine Hd.region ?_
  refine Hd.yv (y_move rfl) ?_
  refine Hd.yv (y_nilp rfl) ?_
  first | (refine Hd.yv (y_field' (q := 0) (ft := 90) Try.underlying92 rfl sz90 rfl rfl) ?_) | (refine Hd.yv (y_fieldR (q := 0) (ft := 90) Try.underlying92 rfl sz90 rfl rfl) ?_)
  first | (refine Hd.yv (y_load1 ag90 rfl (Rd.pt1 pkk (by (first | rfl)))) ?_) | (refine Hd.yv (y_load1 ag90 rfl (Rd.seg1 pkk (by (first | rfl)))) ?_) | (refine Hd.yv (y_loadR1 ag90 rfl (by (first | exact RdS.own pkk)) (by (first | rfl))) ?_)
  refine Hd.yv (y_move rfl) ?_
  first | (refine Hd.yv (y_to (v' := .int .i64 ((1 - k : Nat) : Int)) (y_subn rfl rfl (by simp only [InK]; omega)) (by (congr 1; omega))) ?_) | (refine Hd.yv (y_to (v' := .int .i64 ((1 - k : Nat) : Int)) (y_sub rfl rfl) (by (congr 1; omega))) ?_)
  first | (refine Hd.yv (y_to (v' := .pointer (some ⟨bE, (1 - k) * 9, none⟩)) (y_idxS Try.underlying90 sz89 rfl rfl (by first | omega | decide)) (by rw [Nat.zero_add])) ?_) | (refine Hd.yv (y_to (v' := .pointer (some ⟨bE, (1 - k) * 9, none⟩)) (y_idxR Try.underlying90 sz89 rfl rfl (by first | omega | decide) (by (first | exact RdS.own pkk))) (by rw [Nat.zero_add])) ?_)
  refine Hd.yv (y_loadn (us := encR c xc) ag89 rfl (Rd.seg0 pkk) (by exact sz89)) ?_
  refine Hd.alloc zr89 (fun b9 => ?_)
  refine Hd.storeA (us := encR c xc) sz89 rfl rfl rfl (encR_one _ _) pkk (by exact rfl) ?_
  refine Hd.nil ?_
  refine Hd.slots [(0, _), (1, _), (2, _), (3, _), (8, _), (9, _)] ⟨rfl, rfl, rfl, rfl, rfl, rfl, trivial⟩ ?_
  refine Hd.toK hK2 ?_
  refine Hd.seq (fun K3 hK3 => ?_)
  refine Hd.region ?_
  refine Hd.yv (y_assign rfl) ?_
  refine Hd.nil ?_
  refine Hd.slots [(0, _), (1, _), (2, _), (3, _), (8, _), (9, _), (10, _)] ⟨rfl, rfl, rfl, rfl, rfl, rfl, rfl, trivial⟩ ?_
  refine Hd.toK hK3 ?_
  refine Hd.cutK (ι := Int) [(0, _), (1, _), (2, _), (3, _), (8, _), (9, _)] (fun z => [(10, .int .i64 z)]) (fun z => pu (z = (if a.w = false ∨ c.r = false then 0 else ((min a.u.length (1048576 - c.i.length) : Nat) : Int))) :: pt b8 (encR a xa) 89 :: pt b9 (encR c xc) 89 :: RHd br bE :: seg bE (k * 9) (encR a xa) :: seg bE ((1 - k) * 9) (encR c xc) :: own 5 1 xa.1.1 a.i.length xa.1.2 (bsl a.i) :: own 5 1 xa.2.1 a.u.length xa.2.2 (bsl a.u) :: own 5 1 xc.1.1 c.i.length xc.1.2 (bsl c.i) :: own 5 1 xc.2.1 c.u.length xc.2.2 (bsl c.u) :: seg bt (k * 5) (encV x) :: seg bt ((1 - k) * 5) (encV y) :: L) ?_ ?_ ⟨rfl, rfl, rfl, rfl, rfl, rfl, trivial⟩
  ·
    refine Hd.seq (fun K4 hK4 => ?_)
    refine Hd.region ?_
    first | (refine Hd.yv (y_field' (q := 3) (ft := 4) Try.underlying89 rfl sz4 rfl rfl) ?_) | (refine Hd.yv (y_fieldR (q := 3) (ft := 4) Try.underlying89 rfl sz4 rfl rfl) ?_)
    first | (refine Hd.yv (y_load1 ag4 rfl (Rd.pt1 pkk (by (first | rfl)))) ?_) | (refine Hd.yv (y_load1 ag4 rfl (Rd.seg1 pkk (by (first | rfl)))) ?_) | (refine Hd.yv (y_loadR1 ag4 rfl (by (first | exact RdS.own pkk)) (by (first | rfl))) ?_)
    refine Hd.yv (y_move rfl) ?_
    apply Hd.andg 3 30 33 [(0, _), (1, _), (2, _), (3, _), (8, _), (9, _), (10, _)] rfl ⟨rfl, rfl, rfl, rfl, rfl, rfl, rfl, trivial⟩
    · intro hg3_30
      try simp only [decide_eq_true_eq, decide_eq_false_iff_not, Bool.and_eq_true, Bool.or_eq_true, Bool.and_eq_false_iff, Bool.or_eq_false_iff, Bool.not_eq_true', Bool.not_eq_false', Bool.not_eq_true, Bool.not_eq_false, Int.not_lt, Int.not_le, Decidable.not_not, ne_eq] at hg3_30
      simp only [List.take]
      first | (refine Hd.yg rfl rfl (y_field' (q := 2) (ft := 4) Try.underlying89 rfl sz4 rfl rfl) ?_) | (refine Hd.yg rfl rfl (y_fieldR (q := 2) (ft := 4) Try.underlying89 rfl sz4 rfl rfl) ?_)
      first | (refine Hd.yg rfl rfl (y_load1 ag4 rfl (Rd.pt1 pkk (by (first | rfl)))) ?_) | (refine Hd.yg rfl rfl (y_load1 ag4 rfl (Rd.seg1 pkk (by (first | rfl)))) ?_) | (refine Hd.yg rfl rfl (y_loadR1 ag4 rfl (by (first | exact RdS.own pkk)) (by (first | rfl))) ?_)
      first | (refine Hd.yv (y_pickT rfl rfl) ?_) | (refine Hd.yv (y_pickF rfl rfl) ?_) | (refine Hd.yv (y_pickb rfl rfl rfl) ?_) | (refine Hd.yv (y_pick rfl rfl rfl) ?_)
      refine Hd.nil ?_
      exact Hd.mend (by repeat (first | exact trivial | refine ⟨rfl, ?_⟩)) (Ent.sep enn)
    · intro hg3_30
      try simp only [decide_eq_true_eq, decide_eq_false_iff_not, Bool.and_eq_true, Bool.or_eq_true, Bool.and_eq_false_iff, Bool.or_eq_false_iff, Bool.not_eq_true', Bool.not_eq_false', Bool.not_eq_true, Bool.not_eq_false, Int.not_lt, Int.not_le, Decidable.not_not, ne_eq] at hg3_30
      simp only [List.take]
      refine Hd.ng rfl rfl rfl ?_
      refine Hd.ng rfl rfl rfl ?_
      first | (refine Hd.yv (y_pickT rfl rfl) ?_) | (refine Hd.yv (y_pickF rfl rfl) ?_) | (refine Hd.yv (y_pickb rfl rfl rfl) ?_) | (refine Hd.yv (y_pick rfl rfl rfl) ?_)
      refine Hd.nil ?_
      exact Hd.mend (by repeat (first | exact trivial | refine ⟨rfl, ?_⟩)) (Ent.sep enn)
    simp only [List.drop]
    refine Hd.nil ?_
    refine Hd.slots [(0, _), (1, _), (2, _), (3, _), (8, _), (9, _), (10, _), (33, _)] ⟨rfl, rfl, rfl, rfl, rfl, rfl, rfl, rfl, trivial⟩ ?_
    refine Hd.toK hK4 ?_
    refine Hd.cond rfl (fun hc0 => ?_) (fun hc0 => ?_)
    ·
      try simp only [decide_eq_true_eq, decide_eq_false_iff_not, Bool.and_eq_true, Bool.or_eq_true, Bool.and_eq_false_iff, Bool.or_eq_false_iff, Bool.not_eq_true', Bool.not_eq_false', Bool.not_eq_true, Bool.not_eq_false, Int.not_lt, Int.not_le, Decidable.not_not, ne_eq] at hc0
      refine Hd.region ?_
      first | (refine Hd.yv (y_field' (q := 1) (ft := 22) Try.underlying89 rfl sz22 rfl rfl) ?_) | (refine Hd.yv (y_fieldR (q := 1) (ft := 22) Try.underlying89 rfl sz22 rfl rfl) ?_)
      first | (refine Hd.yv (y_load1 ag22 rfl (Rd.pt1 pkk (by (first | rfl)))) ?_) | (refine Hd.yv (y_load1 ag22 rfl (Rd.seg1 pkk (by (first | rfl)))) ?_) | (refine Hd.yv (y_loadR1 ag22 rfl (by (first | exact RdS.own pkk)) (by (first | rfl))) ?_)
      refine Hd.yv (y_len Try.underlying22 rfl) ?_
      first | (refine Hd.yv (y_field' (q := 0) (ft := 22) Try.underlying89 rfl sz22 rfl rfl) ?_) | (refine Hd.yv (y_fieldR (q := 0) (ft := 22) Try.underlying89 rfl sz22 rfl rfl) ?_)
      first | (refine Hd.yv (y_load1 ag22 rfl (Rd.pt1 pkk (by (first | rfl)))) ?_) | (refine Hd.yv (y_load1 ag22 rfl (Rd.seg1 pkk (by (first | rfl)))) ?_) | (refine Hd.yv (y_loadR1 ag22 rfl (by (first | exact RdS.own pkk)) (by (first | rfl))) ?_)
      refine Hd.yv (y_len Try.underlying22 rfl) ?_
      first | (refine Hd.yv (y_subn rfl rfl (by simp only [InK]; omega)) ?_) | (refine Hd.yv (y_sub rfl rfl) ?_)
      refine Hd.yv (y_min rfl rfl) ?_
      refine Hd.yv (y_assign rfl) ?_
      refine Hd.nil ?_
      refine Hd.slots [(0, _), (1, _), (2, _), (3, _), (8, _), (9, _), (10, _)] ⟨rfl, rfl, rfl, rfl, rfl, rfl, rfl, trivial⟩ ?_
      clear hK1 hK2 hK3 hK4
      refine Hd.thenN ?_
      exact Hd.meet _ (by repeat (first | exact trivial | refine ⟨rfl, ?_⟩)) (Ent.sep (.pure (by rw [if_neg (by simp [hc0])]; omega) enn))
    ·
      try simp only [decide_eq_true_eq, decide_eq_false_iff_not, Bool.and_eq_true, Bool.or_eq_true, Bool.and_eq_false_iff, Bool.or_eq_false_iff, Bool.not_eq_true', Bool.not_eq_false', Bool.not_eq_true, Bool.not_eq_false, Int.not_lt, Int.not_le, Decidable.not_not, ne_eq] at hc0
      refine Hd.skip ?_
      clear hK1 hK2 hK3 hK4
      refine Hd.thenN ?_
      exact Hd.meet _ (by repeat (first | exact trivial | refine ⟨rfl, ?_⟩)) (Ent.sep (.pure (by rw [if_pos hc0]) enn))
  ·
    intro z0
    refine Hd.pure (fun hz0 => ?_)
    have hz1 : -1048576 ≤ z0 ∧ z0 ≤ 1048576 := by rw [hz0]; split <;> omega
    refine Hd.cutK (ι := Int) [(0, _), (1, _), (3, _), (8, _), (9, _)] (fun z => [(10, .int .i64 z)]) (fun z => pu (z.toNat = m ∧ z ≤ 1048576) :: pt b8 (encR a xa) 89 :: pt b9 (encR c xc) 89 :: RHd br bE :: seg bE (k * 9) (encR a xa) :: seg bE ((1 - k) * 9) (encR c xc) :: own 5 1 xa.1.1 a.i.length xa.1.2 (bsl a.i) :: own 5 1 xa.2.1 a.u.length xa.2.2 (bsl a.u) :: own 5 1 xc.1.1 c.i.length xc.1.2 (bsl c.i) :: own 5 1 xc.2.1 c.u.length xc.2.2 (bsl c.u) :: seg bt (k * 5) (encV x) :: seg bt ((1 - k) * 5) (encV y) :: L) ?_ ?_ ⟨rfl, rfl, rfl, rfl, rfl, trivial⟩
    ·
      refine Hd.seq (fun K5 hK5 => ?_)
      refine Hd.region ?_
      refine Hd.yv (y_move rfl) ?_
      refine Hd.yv (y_not rfl) ?_
      refine Hd.yv (y_move rfl) ?_
      apply Hd.andg 4 44 48 [(0, _), (1, _), (3, _), (8, _), (9, _), (10, _)] rfl ⟨rfl, rfl, rfl, rfl, rfl, rfl, trivial⟩
      · intro hg5_44
        try simp only [decide_eq_true_eq, decide_eq_false_iff_not, Bool.and_eq_true, Bool.or_eq_true, Bool.and_eq_false_iff, Bool.or_eq_false_iff, Bool.not_eq_true', Bool.not_eq_false', Bool.not_eq_true, Bool.not_eq_false, Int.not_lt, Int.not_le, Decidable.not_not, ne_eq] at hg5_44
        simp only [List.take]
        first | (refine Hd.yg rfl rfl (y_field' (q := 5) (ft := 3) Try.underlying89 rfl sz3 rfl rfl) ?_) | (refine Hd.yg rfl rfl (y_fieldR (q := 5) (ft := 3) Try.underlying89 rfl sz3 rfl rfl) ?_)
        first | (refine Hd.yg rfl rfl (y_load1 ag3 rfl (Rd.pt1 pkk (by (first | rfl)))) ?_) | (refine Hd.yg rfl rfl (y_load1 ag3 rfl (Rd.seg1 pkk (by (first | rfl)))) ?_) | (refine Hd.yg rfl rfl (y_loadR1 ag3 rfl (by (first | exact RdS.own pkk)) (by (first | rfl))) ?_)
        refine Hd.yg rfl rfl (y_gtr rfl rfl) ?_
        first | (refine Hd.yv (y_pickT rfl rfl) ?_) | (refine Hd.yv (y_pickF rfl rfl) ?_) | (refine Hd.yv (y_pickb rfl rfl rfl) ?_) | (refine Hd.yv (y_pick rfl rfl rfl) ?_)
        refine Hd.nil ?_
        exact Hd.mend (by repeat (first | exact trivial | refine ⟨rfl, ?_⟩)) (Ent.sep enn)
      · intro hg5_44
        try simp only [decide_eq_true_eq, decide_eq_false_iff_not, Bool.and_eq_true, Bool.or_eq_true, Bool.and_eq_false_iff, Bool.or_eq_false_iff, Bool.not_eq_true', Bool.not_eq_false', Bool.not_eq_true, Bool.not_eq_false, Int.not_lt, Int.not_le, Decidable.not_not, ne_eq] at hg5_44
        simp only [List.take]
        refine Hd.ng rfl rfl rfl ?_
        refine Hd.ng rfl rfl rfl ?_
        refine Hd.ng rfl rfl rfl ?_
        first | (refine Hd.yv (y_pickT rfl rfl) ?_) | (refine Hd.yv (y_pickF rfl rfl) ?_) | (refine Hd.yv (y_pickb rfl rfl rfl) ?_) | (refine Hd.yv (y_pick rfl rfl rfl) ?_)
        refine Hd.nil ?_
        exact Hd.mend (by repeat (first | exact trivial | refine ⟨rfl, ?_⟩)) (Ent.sep enn)
      simp only [List.drop]
      refine Hd.nil ?_
      refine Hd.slots [(0, _), (1, _), (3, _), (8, _), (9, _), (10, _), (48, _)] ⟨rfl, rfl, rfl, rfl, rfl, rfl, rfl, trivial⟩ ?_
      refine Hd.toK hK5 ?_
      refine Hd.cond rfl (fun hc1 => ?_) (fun hc1 => ?_)
      ·
        try simp only [decide_eq_true_eq, decide_eq_false_iff_not, Bool.and_eq_true, Bool.or_eq_true, Bool.and_eq_false_iff, Bool.or_eq_false_iff, Bool.not_eq_true', Bool.not_eq_false', Bool.not_eq_true, Bool.not_eq_false, Int.not_lt, Int.not_le, Decidable.not_not, ne_eq] at hc1
        refine Hd.region ?_
        refine Hd.yv (y_move rfl) ?_
        first | (refine Hd.yv (y_field' (q := 5) (ft := 3) Try.underlying89 rfl sz3 rfl rfl) ?_) | (refine Hd.yv (y_fieldR (q := 5) (ft := 3) Try.underlying89 rfl sz3 rfl rfl) ?_)
        first | (refine Hd.yv (y_load1 ag3 rfl (Rd.pt1 pkk (by (first | rfl)))) ?_) | (refine Hd.yv (y_load1 ag3 rfl (Rd.seg1 pkk (by (first | rfl)))) ?_) | (refine Hd.yv (y_loadR1 ag3 rfl (by (first | exact RdS.own pkk)) (by (first | rfl))) ?_)
        first | (refine Hd.yv (y_field' (q := 0) (ft := 22) Try.underlying89 rfl sz22 rfl rfl) ?_) | (refine Hd.yv (y_fieldR (q := 0) (ft := 22) Try.underlying89 rfl sz22 rfl rfl) ?_)
        first | (refine Hd.yv (y_load1 ag22 rfl (Rd.pt1 pkk (by (first | rfl)))) ?_) | (refine Hd.yv (y_load1 ag22 rfl (Rd.seg1 pkk (by (first | rfl)))) ?_) | (refine Hd.yv (y_loadR1 ag22 rfl (by (first | exact RdS.own pkk)) (by (first | rfl))) ?_)
        refine Hd.yv (y_len Try.underlying22 rfl) ?_
        first | (refine Hd.yv (y_subn rfl rfl (by simp only [InK]; omega)) ?_) | (refine Hd.yv (y_sub rfl rfl) ?_)
        refine Hd.yv (y_min rfl rfl) ?_
        refine Hd.yv (y_assign rfl) ?_
        refine Hd.nil ?_
        refine Hd.slots [(0, _), (1, _), (3, _), (8, _), (9, _), (10, _)] ⟨rfl, rfl, rfl, rfl, rfl, rfl, trivial⟩ ?_
        clear hK1 hK2 hK3 hK5
        refine Hd.thenN ?_
        exact Hd.meet _ (by repeat (first | exact trivial | refine ⟨rfl, ?_⟩)) (Ent.sep (.pure (by rw [hm]; unfold aMany; rw [hz0]; obtain ⟨h1, h2⟩ := hc1; rw [h1]; split <;> simp [h2] <;> omega) enn))
      ·
        try simp only [decide_eq_true_eq, decide_eq_false_iff_not, Bool.and_eq_true, Bool.or_eq_true, Bool.and_eq_false_iff, Bool.or_eq_false_iff, Bool.not_eq_true', Bool.not_eq_false', Bool.not_eq_true, Bool.not_eq_false, Int.not_lt, Int.not_le, Decidable.not_not, ne_eq] at hc1
        refine Hd.skip ?_
        clear hK1 hK2 hK3 hK5
        refine Hd.thenN ?_
        exact Hd.meet _ (by repeat (first | exact trivial | refine ⟨rfl, ?_⟩)) (Ent.sep (.pure (by rw [hm]; unfold aMany; rw [if_neg (c := 0 < c.high ∧ fl = false) (by rcases hc1 with h | h <;> simp [h] <;> omega), hz0]; split <;> omega) enn))
    ·
      intro z
      refine Hd.pure (fun hz => ?_)
      refine Hd.seq (fun K6 hK6 => ?_)
      refine Hd.region ?_
      refine Hd.yv (y_move rfl) ?_
      refine Hd.yv (y_move rfl) ?_
      first | (refine Hd.yv (y_to (v' := .pointer (some ⟨bt, k * 5, none⟩)) (y_idxS Try.underlying85 sz125 rfl rfl (by first | omega | decide)) (by rw [Nat.zero_add])) ?_) | (refine Hd.yv (y_to (v' := .pointer (some ⟨bt, k * 5, none⟩)) (y_idxR Try.underlying85 sz125 rfl rfl (by first | omega | decide) (by (first | exact RdS.own pkk))) (by rw [Nat.zero_add])) ?_)
      refine Hd.yv (y_loadn (us := encV x) ag125 rfl (Rd.seg0 pkk) (by exact sz125)) ?_
      refine Hd.alloc zr125 (fun b11 => ?_)
      refine Hd.storeA (us := encV x) sz125 rfl rfl rfl (encV_one _) pkk (by exact rfl) ?_
      refine Hd.nil ?_
      refine Hd.slots [(0, _), (1, _), (3, _), (8, _), (9, _), (10, _), (11, _)] ⟨rfl, rfl, rfl, rfl, rfl, rfl, rfl, trivial⟩ ?_
      refine Hd.toK hK6 ?_
      refine Hd.seq (fun K7 hK7 => ?_)
      refine Hd.region ?_
      refine Hd.yv (y_move rfl) ?_
      refine Hd.yv (y_move rfl) ?_
      first | (refine Hd.yv (y_to (v' := .int .i64 ((1 - k : Nat) : Int)) (y_subn rfl rfl (by simp only [InK]; omega)) (by (congr 1; omega))) ?_) | (refine Hd.yv (y_to (v' := .int .i64 ((1 - k : Nat) : Int)) (y_sub rfl rfl) (by (congr 1; omega))) ?_)
      first | (refine Hd.yv (y_to (v' := .pointer (some ⟨bt, (1 - k) * 5, none⟩)) (y_idxS Try.underlying85 sz125 rfl rfl (by first | omega | decide)) (by rw [Nat.zero_add])) ?_) | (refine Hd.yv (y_to (v' := .pointer (some ⟨bt, (1 - k) * 5, none⟩)) (y_idxR Try.underlying85 sz125 rfl rfl (by first | omega | decide) (by (first | exact RdS.own pkk))) (by rw [Nat.zero_add])) ?_)
      refine Hd.yv (y_loadn (us := encV y) ag125 rfl (Rd.seg0 pkk) (by exact sz125)) ?_
      refine Hd.alloc zr125 (fun b12 => ?_)
      refine Hd.storeA (us := encV y) sz125 rfl rfl rfl (encV_one _) pkk (by exact rfl) ?_
      refine Hd.nil ?_
      refine Hd.slots [(0, _), (1, _), (3, _), (8, _), (9, _), (10, _), (11, _), (12, _)] ⟨rfl, rfl, rfl, rfl, rfl, rfl, rfl, rfl, trivial⟩ ?_
      refine Hd.toK hK7 ?_
      refine Hd.cutK (ι := XA × XA) [(0, _), (1, _), (3, _), (8, _), (9, _), (11, _), (12, _)] (fun _ => []) (fun j => pt b8 (encR { a with u := a.u.drop m } j.1) 89 :: pt b9 (encR { c with i := c.i ++ a.u.take m } j.2) 89 :: pt b11 (encV (aTvF a m x)) 125 :: pt b12 (encV (aTvT c m y)) 125 :: RHd br bE :: seg bE (k * 9) (encR a xa) :: seg bE ((1 - k) * 9) (encR c xc) :: own 5 1 j.1.1.1 a.i.length j.1.1.2 (bsl a.i) :: own 5 1 j.1.2.1 (a.u.drop m).length j.1.2.2 (bsl (a.u.drop m)) :: own 5 1 j.2.1.1 (c.i ++ a.u.take m).length j.2.1.2 (bsl (c.i ++ a.u.take m)) :: own 5 1 j.2.2.1 c.u.length j.2.2.2 (bsl c.u) :: seg bt (k * 5) (encV x) :: seg bt ((1 - k) * 5) (encV y) :: L) ?_ ?_ ⟨rfl, rfl, rfl, rfl, rfl, rfl, rfl, trivial⟩
      ·
        refine Hd.seq (fun K8 hK8 => ?_)
        refine Hd.region ?_
        refine Hd.yv (y_move rfl) ?_
        refine Hd.yv (y_gtr rfl rfl) ?_
        refine Hd.nil ?_
        refine Hd.slots [(0, _), (1, _), (3, _), (8, _), (9, _), (10, _), (11, _), (12, _), (67, _)] ⟨rfl, rfl, rfl, rfl, rfl, rfl, rfl, rfl, rfl, trivial⟩ ?_
        refine Hd.toK hK8 ?_
        refine Hd.cond rfl (fun hc2 => ?_) (fun hc2 => ?_)
        ·
          try simp only [decide_eq_true_eq, decide_eq_false_iff_not, Bool.and_eq_true, Bool.or_eq_true, Bool.and_eq_false_iff, Bool.or_eq_false_iff, Bool.not_eq_true', Bool.not_eq_false', Bool.not_eq_true, Bool.not_eq_false, Int.not_lt, Int.not_le, Decidable.not_not, ne_eq] at hc2
          have hz1 : z = (m : Int) := by omega
          subst hz1
          have hm0 : 0 < m := by omega
          have hlt : (a.u.take m).length = m := by rw [List.length_take]; omega
          have hld : (a.u.drop m).length = a.u.length - m := by rw [List.length_drop]
          refine Hd.seq (fun K9 hK9 => ?_)
          refine Hd.drawsH ([pt b9 (encR c xc) 89, pt b8 (encR a xa) 89]) (fun j => !([8].contains j)) mixed ?_
          simp only [List.length, Nat.zero_add, Nat.reduceAdd]
          first | (refine Hd.takeH 0 rfl (by kernel_rfl) (by kernel_rfl) (by kernel_rfl) (by kernel_rfl) (y_field' (q := 0) (ft := 22) Try.underlying89 rfl sz22 rfl rfl) (fun _ _ => rfl) (Ent.sep enn) ?_) | (refine Hd.takeH 0 rfl (by kernel_rfl) (by kernel_rfl) (by kernel_rfl) (by kernel_rfl) (y_fieldR (q := 0) (ft := 22) Try.underlying89 rfl sz22 rfl rfl) (fun _ _ => rfl) (Ent.sep enn) ?_)
          first | (refine Hd.takeH 1 rfl (by kernel_rfl) (by kernel_rfl) (by kernel_rfl) (by kernel_rfl) (y_load1 ag22 rfl (Rd.pt1 pkk (by (first | rfl)))) (fun _ _ => rfl) (Ent.sep enn) ?_) | (refine Hd.takeH 1 rfl (by kernel_rfl) (by kernel_rfl) (by kernel_rfl) (by kernel_rfl) (y_load1 ag22 rfl (Rd.seg1 pkk (by (first | rfl)))) (fun _ _ => rfl) (Ent.sep enn) ?_) | (refine Hd.takeH 1 rfl (by kernel_rfl) (by kernel_rfl) (by kernel_rfl) (by kernel_rfl) (y_loadR1 ag22 rfl (by (first | exact RdS.own pkk)) (by (first | rfl))) (fun _ _ => rfl) (Ent.sep enn) ?_)
          first | (refine Hd.takeH 2 rfl (by kernel_rfl) (by kernel_rfl) (by kernel_rfl) (by kernel_rfl) (y_field' (q := 1) (ft := 22) Try.underlying89 rfl sz22 rfl rfl) (fun _ _ => rfl) (Ent.sep enn) ?_) | (refine Hd.takeH 2 rfl (by kernel_rfl) (by kernel_rfl) (by kernel_rfl) (by kernel_rfl) (y_fieldR (q := 1) (ft := 22) Try.underlying89 rfl sz22 rfl rfl) (fun _ _ => rfl) (Ent.sep enn) ?_)
          first | (refine Hd.takeH 3 rfl (by kernel_rfl) (by kernel_rfl) (by kernel_rfl) (by kernel_rfl) (y_load1 ag22 rfl (Rd.pt1 pkk (by (first | rfl)))) (fun _ _ => rfl) (Ent.sep enn) ?_) | (refine Hd.takeH 3 rfl (by kernel_rfl) (by kernel_rfl) (by kernel_rfl) (by kernel_rfl) (y_load1 ag22 rfl (Rd.seg1 pkk (by (first | rfl)))) (fun _ _ => rfl) (Ent.sep enn) ?_) | (refine Hd.takeH 3 rfl (by kernel_rfl) (by kernel_rfl) (by kernel_rfl) (by kernel_rfl) (y_loadR1 ag22 rfl (by (first | exact RdS.own pkk)) (by (first | rfl))) (fun _ _ => rfl) (Ent.sep enn) ?_)
          refine Hd.takeH 4 rfl (by kernel_rfl) (by kernel_rfl) (by kernel_rfl) (by kernel_rfl) (y_move rfl) (fun _ _ => rfl) (Ent.sep enn) ?_
          refine Hd.ownCap (e := 5) (ad := xa.2.1) (m := a.u.length) (cap := xa.2.2) pkk (fun hcap => ?_)
          first | (refine Hd.takeH 5 rfl (by kernel_rfl) (by kernel_rfl) (by kernel_rfl) (by kernel_rfl) (y_to (v' := .slice xa.2.1 (a.u.take m).length xa.2.2) (y_slo_xoxN Try.underlying22 sz5 rfl rfl (by first | omega | (simp; done) | decide)) (by rw [hlt])) (fun _ _ => rfl) (Ent.sep enn) ?_) | (refine Hd.takeH 5 rfl (by kernel_rfl) (by kernel_rfl) (by kernel_rfl) (by kernel_rfl) (y_to (v' := .slice xa.2.1 (a.u.take m).length xa.2.2) (y_slo_xox Try.underlying22 sz5 rfl rfl (by first | omega | (simp; done) | decide) (by first | omega | (simp; done) | decide)) (by rw [hlt])) (fun _ _ => rfl) (Ent.sep enn) ?_)
          refine Hd.onlyH 6 rfl (by kernel_rfl) ?_
          refine Hd.call rfl fk73 (join8_ct _ xc.1.1 xc.1.2 c.i (RdS.own pkk) xa.2.1 xa.2.2 (a.u.take m) (rdTake (cap := xa.2.2) pkk hml.1) (by omega) (by omega)) ?_
          rintro ⟨q, w⟩
          dsimp only
          refine Hd.nil ?_
          refine Hd.thenN ?_
          refine Hd.heldK (J := (fun j => !([8].contains j))) (i := 6) (Ent.sep enn) ?_
          first | (refine Hd.takeH 7 rfl (by kernel_rfl) (by kernel_rfl) (by kernel_rfl) (by kernel_rfl) (y_field' (q := 0) (ft := 22) Try.underlying89 rfl sz22 rfl rfl) (fun _ _ => rfl) (Ent.sep enn) ?_) | (refine Hd.takeH 7 rfl (by kernel_rfl) (by kernel_rfl) (by kernel_rfl) (by kernel_rfl) (y_fieldR (q := 0) (ft := 22) Try.underlying89 rfl sz22 rfl rfl) (fun _ _ => rfl) (Ent.sep enn) ?_)
          refine Hd.onlyH 8 rfl (by kernel_rfl) ?_
          first | (refine Hd.store1 sz22 rfl rfl rfl pkk (by first | decide | (simp; done) | (simp; omega)) ?_) | (refine Hd.storeG1 sz22 rfl rfl rfl pkk (by first | decide | (simp; done) | (simp; omega)) ?_) | (refine Hd.storeO1 sz22 rfl rfl rfl pkk (by first | omega | (simp; done) | (simp; omega)) ?_)
          try simp only [List.set_cons_zero, List.set_cons_succ]
          refine Hd.nil ?_
          refine Hd.thenN ?_
          refine Hd.heldN (J := (fun j => !([8].contains j))) (i := 8) rfl ?_
          refine Hd.endH (by kernel_rfl) ?_
          simp only [Nat.zero_add, List.set_cons_zero]
          refine Hd.slots [(0, _), (1, _), (3, _), (8, _), (9, _), (10, _), (11, _), (12, _)] ⟨rfl, rfl, rfl, rfl, rfl, rfl, rfl, rfl, trivial⟩ ?_
          refine Hd.toK hK9 ?_
          refine Hd.seq (fun K10 hK10 => ?_)
          refine Hd.region ?_
          first | (refine Hd.yv (y_field' (q := 1) (ft := 22) Try.underlying89 rfl sz22 rfl rfl) ?_) | (refine Hd.yv (y_fieldR (q := 1) (ft := 22) Try.underlying89 rfl sz22 rfl rfl) ?_)
          first | (refine Hd.yv (y_load1 ag22 rfl (Rd.pt1 pkk (by (first | rfl)))) ?_) | (refine Hd.yv (y_load1 ag22 rfl (Rd.seg1 pkk (by (first | rfl)))) ?_) | (refine Hd.yv (y_loadR1 ag22 rfl (by (first | exact RdS.own pkk)) (by (first | rfl))) ?_)
          refine Hd.yv (y_move rfl) ?_
          first | (refine Hd.yv (y_to (v' := .slice (cutA xa.2.1 1 m xa.2.2) (a.u.drop m).length (xa.2.2 - m)) (y_slo_oxxN Try.underlying22 sz5 rfl rfl (by first | omega | (simp; done) | decide)) (by rw [hld])) ?_) | (refine Hd.yv (y_to (v' := .slice (cutA xa.2.1 1 m xa.2.2) (a.u.drop m).length (xa.2.2 - m)) (y_slo_oxx Try.underlying22 sz5 rfl rfl (by first | omega | (simp; done) | decide) (by first | omega | (simp; done) | decide)) (by rw [hld])) ?_)
          first | (refine Hd.yv (y_field' (q := 1) (ft := 22) Try.underlying89 rfl sz22 rfl rfl) ?_) | (refine Hd.yv (y_fieldR (q := 1) (ft := 22) Try.underlying89 rfl sz22 rfl rfl) ?_)
          first | (refine Hd.store1 sz22 rfl rfl rfl pkk (by first | decide | (simp; done) | (simp; omega)) ?_) | (refine Hd.storeG1 sz22 rfl rfl rfl pkk (by first | decide | (simp; done) | (simp; omega)) ?_) | (refine Hd.storeO1 sz22 rfl rfl rfl pkk (by first | omega | (simp; done) | (simp; omega)) ?_)
          try simp only [List.set_cons_zero, List.set_cons_succ]
          refine Hd.nil ?_
          refine Hd.slots [(0, _), (1, _), (3, _), (8, _), (9, _), (10, _), (11, _), (12, _)] ⟨rfl, rfl, rfl, rfl, rfl, rfl, rfl, rfl, trivial⟩ ?_
          refine Hd.toK hK10 ?_
          refine Hd.seq (fun K11 hK11 => ?_)
          refine Hd.ownDrop (e := 5) (ad := xa.2.1) (m := a.u.length) (cap := xa.2.2) pkk m (bsl (a.u.take m)) (bsl (a.u.drop m)) hml.1 (by rw [← List.map_append, List.take_append_drop]) (by rw [List.length_map, hlt, Nat.mul_one]) ?_
          refine Hd.region ?_
          refine Hd.yv (y_move rfl) ?_
          first | (refine Hd.yv (y_field' (q := 4) (ft := 3) Try.underlying125 rfl sz3 rfl rfl) ?_) | (refine Hd.yv (y_fieldR (q := 4) (ft := 3) Try.underlying125 rfl sz3 rfl rfl) ?_)
          first | (refine Hd.store1 sz3 rfl rfl rfl pkk (by first | decide | (simp; done) | (simp; omega)) ?_) | (refine Hd.storeG1 sz3 rfl rfl rfl pkk (by first | decide | (simp; done) | (simp; omega)) ?_) | (refine Hd.storeO1 sz3 rfl rfl rfl pkk (by first | omega | (simp; done) | (simp; omega)) ?_)
          try simp only [List.set_cons_zero, List.set_cons_succ]
          refine Hd.nil ?_
          refine Hd.slots [(0, _), (1, _), (3, _), (8, _), (9, _), (10, _), (11, _), (12, _)] ⟨rfl, rfl, rfl, rfl, rfl, rfl, rfl, rfl, trivial⟩ ?_
          refine Hd.toK hK11 ?_
          refine Hd.seq (fun K12 hK12 => ?_)
          refine Hd.region ?_
          refine Hd.yv (y_move rfl) ?_
          first | (refine Hd.yv (y_field' (q := 3) (ft := 3) Try.underlying125 rfl sz3 rfl rfl) ?_) | (refine Hd.yv (y_fieldR (q := 3) (ft := 3) Try.underlying125 rfl sz3 rfl rfl) ?_)
          first | (refine Hd.store1 sz3 rfl rfl rfl pkk (by first | decide | (simp; done) | (simp; omega)) ?_) | (refine Hd.storeG1 sz3 rfl rfl rfl pkk (by first | decide | (simp; done) | (simp; omega)) ?_) | (refine Hd.storeO1 sz3 rfl rfl rfl pkk (by first | omega | (simp; done) | (simp; omega)) ?_)
          try simp only [List.set_cons_zero, List.set_cons_succ]
          refine Hd.nil ?_
          refine Hd.slots [(0, _), (1, _), (3, _), (8, _), (9, _), (11, _), (12, _)] ⟨rfl, rfl, rfl, rfl, rfl, rfl, rfl, trivial⟩ ?_
          refine Hd.toK hK12 ?_
          refine Hd.seq (fun K13 hK13 => ?_)
          refine Hd.region ?_
          first | (refine Hd.yv (y_field' (q := 1) (ft := 22) Try.underlying89 rfl sz22 rfl rfl) ?_) | (refine Hd.yv (y_fieldR (q := 1) (ft := 22) Try.underlying89 rfl sz22 rfl rfl) ?_)
          first | (refine Hd.yv (y_load1 ag22 rfl (Rd.pt1 pkk (by (first | rfl)))) ?_) | (refine Hd.yv (y_load1 ag22 rfl (Rd.seg1 pkk (by (first | rfl)))) ?_) | (refine Hd.yv (y_loadR1 ag22 rfl (by (first | exact RdS.own pkk)) (by (first | rfl))) ?_)
          refine Hd.yv (y_len Try.underlying22 rfl) ?_
          first | (refine Hd.yv (y_field' (q := 6) (ft := 3) Try.underlying89 rfl sz3 rfl rfl) ?_) | (refine Hd.yv (y_fieldR (q := 6) (ft := 3) Try.underlying89 rfl sz3 rfl rfl) ?_)
          first | (refine Hd.yv (y_load1 ag3 rfl (Rd.pt1 pkk (by (first | rfl)))) ?_) | (refine Hd.yv (y_load1 ag3 rfl (Rd.seg1 pkk (by (first | rfl)))) ?_) | (refine Hd.yv (y_loadR1 ag3 rfl (by (first | exact RdS.own pkk)) (by (first | rfl))) ?_)
          refine Hd.yv (y_leq rfl rfl) ?_
          first | (refine Hd.yv (y_field' (q := 1) (ft := 4) Try.underlying125 rfl sz4 rfl rfl) ?_) | (refine Hd.yv (y_fieldR (q := 1) (ft := 4) Try.underlying125 rfl sz4 rfl rfl) ?_)
          first | (refine Hd.store1 sz4 rfl rfl rfl pkk (by first | decide | (simp; done) | (simp; omega)) ?_) | (refine Hd.storeG1 sz4 rfl rfl rfl pkk (by first | decide | (simp; done) | (simp; omega)) ?_) | (refine Hd.storeO1 sz4 rfl rfl rfl pkk (by first | omega | (simp; done) | (simp; omega)) ?_)
          try simp only [List.set_cons_zero, List.set_cons_succ]
          refine Hd.nil ?_
          refine Hd.slots [(0, _), (1, _), (3, _), (8, _), (9, _), (11, _), (12, _)] ⟨rfl, rfl, rfl, rfl, rfl, rfl, rfl, trivial⟩ ?_
          refine Hd.toK hK13 ?_
          refine Hd.region ?_
          first | (refine Hd.yv (y_field' (q := 0) (ft := 22) Try.underlying89 rfl sz22 rfl rfl) ?_) | (refine Hd.yv (y_fieldR (q := 0) (ft := 22) Try.underlying89 rfl sz22 rfl rfl) ?_)
          first | (refine Hd.yv (y_load1 ag22 rfl (Rd.pt1 pkk (by (first | rfl)))) ?_) | (refine Hd.yv (y_load1 ag22 rfl (Rd.seg1 pkk (by (first | rfl)))) ?_) | (refine Hd.yv (y_loadR1 ag22 rfl (by (first | exact RdS.own pkk)) (by (first | rfl))) ?_)
          refine Hd.yv (y_len Try.underlying22 rfl) ?_
          first | (refine Hd.yv (y_field' (q := 4) (ft := 3) Try.underlying89 rfl sz3 rfl rfl) ?_) | (refine Hd.yv (y_fieldR (q := 4) (ft := 3) Try.underlying89 rfl sz3 rfl rfl) ?_)
          first | (refine Hd.yv (y_load1 ag3 rfl (Rd.pt1 pkk (by (first | rfl)))) ?_) | (refine Hd.yv (y_load1 ag3 rfl (Rd.seg1 pkk (by (first | rfl)))) ?_) | (refine Hd.yv (y_loadR1 ag3 rfl (by (first | exact RdS.own pkk)) (by (first | rfl))) ?_)
          refine Hd.yv (y_geq rfl rfl) ?_
          first | (refine Hd.yv (y_field' (q := 0) (ft := 4) Try.underlying125 rfl sz4 rfl rfl) ?_) | (refine Hd.yv (y_fieldR (q := 0) (ft := 4) Try.underlying125 rfl sz4 rfl rfl) ?_)
          first | (refine Hd.store1 sz4 rfl rfl rfl pkk (by first | decide | (simp; done) | (simp; omega)) ?_) | (refine Hd.storeG1 sz4 rfl rfl rfl pkk (by first | decide | (simp; done) | (simp; omega)) ?_) | (refine Hd.storeO1 sz4 rfl rfl rfl pkk (by first | omega | (simp; done) | (simp; omega)) ?_)
          try simp only [List.set_cons_zero, List.set_cons_succ]
          refine Hd.nil ?_
          simp only [Nat.zero_add, List.set_cons_zero]
          refine Hd.slots [(0, _), (1, _), (3, _), (8, _), (9, _), (11, _), (12, _)] ⟨rfl, rfl, rfl, rfl, rfl, rfl, rfl, trivial⟩ ?_
          clear hK1 hK2 hK3 hK6 hK7 hK8 hK9 hK10 hK11 hK12 hK13
          refine Hd.thenN ?_
          have e1 : aTvF a m x = { x with out := (m : Int), wr := decide (((a.u.length - m : Nat) : Int) ≤ a.least) } := by unfold aTvF; rw [if_pos hm0]
          have e2 : aTvT c m y = { y with inn := (m : Int), rd := decide (c.low ≤ ((c.i.length + m : Nat) : Int)) } := by unfold aTvT; rw [if_pos hm0]
          have hl2 : (c.i ++ a.u.take m).length = c.i.length + m := by rw [List.length_append, hlt]
          rw [e1, e2]
          exact Hd.meet ((xa.1, (cutA xa.2.1 1 m xa.2.2, xa.2.2 - m)), ((q, w), xc.2)) (by repeat (first | exact trivial | refine ⟨rfl, ?_⟩)) (Ent.sep (.pick pkk (.pick pkk (.eq pkk (pt_eq (by rw [hld])) (.eq pkk (pt_eq (by rw [hl2])) (.pick pkk (.pick pkk (.pick pkk (.pick pkk (.eq pkk (own_eq3 hld.symm rfl rfl) enn))))))))))
        ·
          try simp only [decide_eq_true_eq, decide_eq_false_iff_not, Bool.and_eq_true, Bool.or_eq_true, Bool.and_eq_false_iff, Bool.or_eq_false_iff, Bool.not_eq_true', Bool.not_eq_false', Bool.not_eq_true, Bool.not_eq_false, Int.not_lt, Int.not_le, Decidable.not_not, ne_eq] at hc2
          refine Hd.skip ?_
          clear hK1 hK2 hK3 hK6 hK7 hK8
          refine Hd.thenN ?_
          obtain rfl : m = 0 := by omega
          have ea : ({ a with u := a.u.drop 0 } : AE) = a := by cases a; rfl
          have ec : ({ c with i := c.i ++ a.u.take 0 } : AE) = c := by cases c; simp
          have e1 : aTvF a 0 x = x := rfl
          have e2 : aTvT c 0 y = y := rfl
          exact Hd.meet (xa, xc) (by repeat (first | exact trivial | refine ⟨rfl, ?_⟩)) (Ent.sep (by rw [ea, ec, e1, e2, List.drop_zero, List.take_zero, List.append_nil]; exact enn))
      ·
        intro j
        have hld : (a.u.drop m).length = a.u.length - m := by rw [List.length_drop]
        refine Hd.seq (fun K14 hK14 => ?_)
        refine Hd.seq (fun K15 hK15 => ?_)
        refine Hd.region ?_
        first | (refine Hd.yv (y_field' (q := 7) (ft := 4) Try.underlying89 rfl sz4 rfl rfl) ?_) | (refine Hd.yv (y_fieldR (q := 7) (ft := 4) Try.underlying89 rfl sz4 rfl rfl) ?_)
        first | (refine Hd.yv (y_load1 ag4 rfl (Rd.pt1 pkk (by (first | rfl)))) ?_) | (refine Hd.yv (y_load1 ag4 rfl (Rd.seg1 pkk (by (first | rfl)))) ?_) | (refine Hd.yv (y_loadR1 ag4 rfl (by (first | exact RdS.own pkk)) (by (first | rfl))) ?_)
        refine Hd.yv (y_move rfl) ?_
        apply Hd.andg 5 101 106 [(0, _), (1, _), (3, _), (8, _), (9, _), (11, _), (12, _)] rfl ⟨rfl, rfl, rfl, rfl, rfl, rfl, rfl, trivial⟩
        · intro hg16_101
          try simp only [decide_eq_true_eq, decide_eq_false_iff_not, Bool.and_eq_true, Bool.or_eq_true, Bool.and_eq_false_iff, Bool.or_eq_false_iff, Bool.not_eq_true', Bool.not_eq_false', Bool.not_eq_true, Bool.not_eq_false, Int.not_lt, Int.not_le, Decidable.not_not, ne_eq] at hg16_101
          simp only [List.take]
          first | (refine Hd.yg rfl rfl (y_field' (q := 1) (ft := 22) Try.underlying89 rfl sz22 rfl rfl) ?_) | (refine Hd.yg rfl rfl (y_fieldR (q := 1) (ft := 22) Try.underlying89 rfl sz22 rfl rfl) ?_)
          first | (refine Hd.yg rfl rfl (y_load1 ag22 rfl (Rd.pt1 pkk (by (first | rfl)))) ?_) | (refine Hd.yg rfl rfl (y_load1 ag22 rfl (Rd.seg1 pkk (by (first | rfl)))) ?_) | (refine Hd.yg rfl rfl (y_loadR1 ag22 rfl (by (first | exact RdS.own pkk)) (by (first | rfl))) ?_)
          refine Hd.yg rfl rfl (y_len Try.underlying22 rfl) ?_
          first | (refine Hd.yg rfl rfl (y_eqlT rfl rfl) ?_) | (refine Hd.yg rfl rfl (y_eql rfl rfl) ?_)
          first | (refine Hd.yv (y_pickT rfl rfl) ?_) | (refine Hd.yv (y_pickF rfl rfl) ?_) | (refine Hd.yv (y_pickb rfl rfl rfl) ?_) | (refine Hd.yv (y_pick rfl rfl rfl) ?_)
          refine Hd.nil ?_
          exact Hd.mend (by repeat (first | exact trivial | refine ⟨rfl, ?_⟩)) (Ent.sep enn)
        · intro hg16_101
          try simp only [decide_eq_true_eq, decide_eq_false_iff_not, Bool.and_eq_true, Bool.or_eq_true, Bool.and_eq_false_iff, Bool.or_eq_false_iff, Bool.not_eq_true', Bool.not_eq_false', Bool.not_eq_true, Bool.not_eq_false, Int.not_lt, Int.not_le, Decidable.not_not, ne_eq] at hg16_101
          simp only [List.take]
          refine Hd.ng rfl rfl rfl ?_
          refine Hd.ng rfl rfl rfl ?_
          refine Hd.ng rfl rfl rfl ?_
          refine Hd.ng rfl rfl rfl ?_
          first | (refine Hd.yv (y_pickT rfl rfl) ?_) | (refine Hd.yv (y_pickF rfl rfl) ?_) | (refine Hd.yv (y_pickb rfl rfl rfl) ?_) | (refine Hd.yv (y_pick rfl rfl rfl) ?_)
          refine Hd.nil ?_
          exact Hd.mend (by repeat (first | exact trivial | refine ⟨rfl, ?_⟩)) (Ent.sep enn)
        simp only [List.drop]
        refine Hd.yv (y_move rfl) ?_
        apply Hd.andg 3 107 110 [(0, _), (1, _), (3, _), (8, _), (9, _), (11, _), (12, _)] rfl ⟨rfl, rfl, rfl, rfl, rfl, rfl, rfl, trivial⟩
        · intro hg16_107
          try simp only [decide_eq_true_eq, decide_eq_false_iff_not, Bool.and_eq_true, Bool.or_eq_true, Bool.and_eq_false_iff, Bool.or_eq_false_iff, Bool.not_eq_true', Bool.not_eq_false', Bool.not_eq_true, Bool.not_eq_false, Int.not_lt, Int.not_le, Decidable.not_not, ne_eq] at hg16_107
          simp only [List.take]
          first | (refine Hd.yg rfl rfl (y_field' (q := 2) (ft := 4) Try.underlying89 rfl sz4 rfl rfl) ?_) | (refine Hd.yg rfl rfl (y_fieldR (q := 2) (ft := 4) Try.underlying89 rfl sz4 rfl rfl) ?_)
          first | (refine Hd.yg rfl rfl (y_load1 ag4 rfl (Rd.pt1 pkk (by (first | rfl)))) ?_) | (refine Hd.yg rfl rfl (y_load1 ag4 rfl (Rd.seg1 pkk (by (first | rfl)))) ?_) | (refine Hd.yg rfl rfl (y_loadR1 ag4 rfl (by (first | exact RdS.own pkk)) (by (first | rfl))) ?_)
          first | (refine Hd.yv (y_pickT rfl rfl) ?_) | (refine Hd.yv (y_pickF rfl rfl) ?_) | (refine Hd.yv (y_pickb rfl rfl rfl) ?_) | (refine Hd.yv (y_pick rfl rfl rfl) ?_)
          refine Hd.nil ?_
          exact Hd.mend (by repeat (first | exact trivial | refine ⟨rfl, ?_⟩)) (Ent.sep enn)
        · intro hg16_107
          try simp only [decide_eq_true_eq, decide_eq_false_iff_not, Bool.and_eq_true, Bool.or_eq_true, Bool.and_eq_false_iff, Bool.or_eq_false_iff, Bool.not_eq_true', Bool.not_eq_false', Bool.not_eq_true, Bool.not_eq_false, Int.not_lt, Int.not_le, Decidable.not_not, ne_eq] at hg16_107
          simp only [List.take]
          refine Hd.ng rfl rfl rfl ?_
          refine Hd.ng rfl rfl rfl ?_
          first | (refine Hd.yv (y_pickT rfl rfl) ?_) | (refine Hd.yv (y_pickF rfl rfl) ?_) | (refine Hd.yv (y_pickb rfl rfl rfl) ?_) | (refine Hd.yv (y_pick rfl rfl rfl) ?_)
          refine Hd.nil ?_
          exact Hd.mend (by repeat (first | exact trivial | refine ⟨rfl, ?_⟩)) (Ent.sep enn)
        simp only [List.drop]
        refine Hd.yv (y_move rfl) ?_
        apply Hd.andg 4 111 115 [(0, _), (1, _), (3, _), (8, _), (9, _), (11, _), (12, _)] rfl ⟨rfl, rfl, rfl, rfl, rfl, rfl, rfl, trivial⟩
        · intro hg16_111
          try simp only [decide_eq_true_eq, decide_eq_false_iff_not, Bool.and_eq_true, Bool.or_eq_true, Bool.and_eq_false_iff, Bool.or_eq_false_iff, Bool.not_eq_true', Bool.not_eq_false', Bool.not_eq_true, Bool.not_eq_false, Int.not_lt, Int.not_le, Decidable.not_not, ne_eq] at hg16_111
          simp only [List.take]
          first | (refine Hd.yg rfl rfl (y_field' (q := 8) (ft := 4) Try.underlying89 rfl sz4 rfl rfl) ?_) | (refine Hd.yg rfl rfl (y_fieldR (q := 8) (ft := 4) Try.underlying89 rfl sz4 rfl rfl) ?_)
          first | (refine Hd.yg rfl rfl (y_load1 ag4 rfl (Rd.pt1 pkk (by (first | rfl)))) ?_) | (refine Hd.yg rfl rfl (y_load1 ag4 rfl (Rd.seg1 pkk (by (first | rfl)))) ?_) | (refine Hd.yg rfl rfl (y_loadR1 ag4 rfl (by (first | exact RdS.own pkk)) (by (first | rfl))) ?_)
          refine Hd.yg rfl rfl (y_not rfl) ?_
          first | (refine Hd.yv (y_pickT rfl rfl) ?_) | (refine Hd.yv (y_pickF rfl rfl) ?_) | (refine Hd.yv (y_pickb rfl rfl rfl) ?_) | (refine Hd.yv (y_pick rfl rfl rfl) ?_)
          refine Hd.nil ?_
          exact Hd.mend (by repeat (first | exact trivial | refine ⟨rfl, ?_⟩)) (Ent.sep enn)
        · intro hg16_111
          try simp only [decide_eq_true_eq, decide_eq_false_iff_not, Bool.and_eq_true, Bool.or_eq_true, Bool.and_eq_false_iff, Bool.or_eq_false_iff, Bool.not_eq_true', Bool.not_eq_false', Bool.not_eq_true, Bool.not_eq_false, Int.not_lt, Int.not_le, Decidable.not_not, ne_eq] at hg16_111
          simp only [List.take]
          refine Hd.ng rfl rfl rfl ?_
          refine Hd.ng rfl rfl rfl ?_
          refine Hd.ng rfl rfl rfl ?_
          first | (refine Hd.yv (y_pickT rfl rfl) ?_) | (refine Hd.yv (y_pickF rfl rfl) ?_) | (refine Hd.yv (y_pickb rfl rfl rfl) ?_) | (refine Hd.yv (y_pick rfl rfl rfl) ?_)
          refine Hd.nil ?_
          exact Hd.mend (by repeat (first | exact trivial | refine ⟨rfl, ?_⟩)) (Ent.sep enn)
        simp only [List.drop]
        refine Hd.nil ?_
        refine Hd.slots [(0, _), (1, _), (3, _), (8, _), (9, _), (11, _), (12, _), (115, _)] ⟨rfl, rfl, rfl, rfl, rfl, rfl, rfl, rfl, trivial⟩ ?_
        refine Hd.toK hK15 ?_
        refine Hd.cond rfl (fun hc3 => ?_) (fun hc3 => ?_)
        ·
          try simp only [decide_eq_true_eq, decide_eq_false_iff_not, Bool.and_eq_true, Bool.or_eq_true, Bool.and_eq_false_iff, Bool.or_eq_false_iff, Bool.not_eq_true', Bool.not_eq_false', Bool.not_eq_true, Bool.not_eq_false, Int.not_lt, Int.not_le, Decidable.not_not, ne_eq] at hc3
          refine Hd.seq (fun K16 hK16 => ?_)
          refine Hd.region ?_
          first | (refine Hd.yv (y_field' (q := 8) (ft := 4) Try.underlying89 rfl sz4 rfl rfl) ?_) | (refine Hd.yv (y_fieldR (q := 8) (ft := 4) Try.underlying89 rfl sz4 rfl rfl) ?_)
          first | (refine Hd.store1 sz4 rfl rfl rfl pkk (by first | decide | (simp; done) | (simp; omega)) ?_) | (refine Hd.storeG1 sz4 rfl rfl rfl pkk (by first | decide | (simp; done) | (simp; omega)) ?_) | (refine Hd.storeO1 sz4 rfl rfl rfl pkk (by first | omega | (simp; done) | (simp; omega)) ?_)
          try simp only [List.set_cons_zero, List.set_cons_succ]
          refine Hd.nil ?_
          refine Hd.slots [(0, _), (1, _), (3, _), (8, _), (9, _), (11, _), (12, _)] ⟨rfl, rfl, rfl, rfl, rfl, rfl, rfl, trivial⟩ ?_
          refine Hd.toK hK16 ?_
          refine Hd.region ?_
          first | (refine Hd.yv (y_field' (q := 2) (ft := 3) Try.underlying125 rfl sz3 rfl rfl) ?_) | (refine Hd.yv (y_fieldR (q := 2) (ft := 3) Try.underlying125 rfl sz3 rfl rfl) ?_)
          first | (refine Hd.store1 sz3 rfl rfl rfl pkk (by first | decide | (simp; done) | (simp; omega)) ?_) | (refine Hd.storeG1 sz3 rfl rfl rfl pkk (by first | decide | (simp; done) | (simp; omega)) ?_) | (refine Hd.storeO1 sz3 rfl rfl rfl pkk (by first | omega | (simp; done) | (simp; omega)) ?_)
          try simp only [List.set_cons_zero, List.set_cons_succ]
          refine Hd.nil ?_
          refine Hd.slots [(0, _), (1, _), (3, _), (8, _), (9, _), (11, _), (12, _)] ⟨rfl, rfl, rfl, rfl, rfl, rfl, rfl, trivial⟩ ?_
          refine Hd.toK hK14 ?_
          refine Hd.seq (fun K17 hK17 => ?_)
          refine Hd.region ?_
          refine Hd.yv (y_move rfl) ?_
          refine Hd.yv (y_move rfl) ?_
          first | (refine Hd.yv (y_loadn (us := [_, _, _, _, _]) ag125 rfl (Rd.pt pkk (by (first | (intro j v e; rcases j with _|_|_|_|_|_|_|_|_|_|_|_|j <;> first | exact e | exact absurd e (by simp))))) (by exact sz125)) ?_) | (refine Hd.yv (y_loadn (us := [_, _, _, _, _]) ag125 rfl (Rd.seg pkk (by (first | (intro j v e; rcases j with _|_|_|_|_|_|_|_|_|_|_|_|j <;> first | exact e | exact absurd e (by simp))))) (by exact sz125)) ?_) | (refine Hd.yv (y_loadRn ag125 rfl (by (first | exact RdS.own pkk)) (by (first | (intro j v e; rcases j with _|_|_|_|_|_|_|_|_|_|_|_|j <;> first | exact e | exact absurd e (by simp)))) (by exact sz125) (by simp)) ?_)
          first | (refine Hd.yv (y_to (v' := .pointer (some ⟨bt, k * 5, none⟩)) (y_idxS Try.underlying85 sz125 rfl rfl (by first | omega | decide)) (by rw [Nat.zero_add])) ?_) | (refine Hd.yv (y_to (v' := .pointer (some ⟨bt, k * 5, none⟩)) (y_idxR Try.underlying85 sz125 rfl rfl (by first | omega | decide) (by (first | exact RdS.own pkk))) (by rw [Nat.zero_add])) ?_)
          refine Hd.storeW (us := encV (aTvF a m x)) sz125 rfl rfl rfl (encV_one _) pkk (by exact rfl) (Nat.lt_of_sub_eq_succ rfl) ?_
          refine Hd.nil ?_
          refine Hd.slots [(0, _), (1, _), (3, _), (8, _), (9, _), (12, _)] ⟨rfl, rfl, rfl, rfl, rfl, rfl, trivial⟩ ?_
          refine Hd.toK hK17 ?_
          refine Hd.seq (fun K18 hK18 => ?_)
          refine Hd.region ?_
          refine Hd.yv (y_move rfl) ?_
          refine Hd.yv (y_move rfl) ?_
          first | (refine Hd.yv (y_to (v' := .int .i64 ((1 - k : Nat) : Int)) (y_subn rfl rfl (by simp only [InK]; omega)) (by (congr 1; omega))) ?_) | (refine Hd.yv (y_to (v' := .int .i64 ((1 - k : Nat) : Int)) (y_sub rfl rfl) (by (congr 1; omega))) ?_)
          first | (refine Hd.yv (y_loadn (us := [_, _, _, _, _]) ag125 rfl (Rd.pt pkk (by (first | (intro j v e; rcases j with _|_|_|_|_|_|_|_|_|_|_|_|j <;> first | exact e | exact absurd e (by simp))))) (by exact sz125)) ?_) | (refine Hd.yv (y_loadn (us := [_, _, _, _, _]) ag125 rfl (Rd.seg pkk (by (first | (intro j v e; rcases j with _|_|_|_|_|_|_|_|_|_|_|_|j <;> first | exact e | exact absurd e (by simp))))) (by exact sz125)) ?_) | (refine Hd.yv (y_loadRn ag125 rfl (by (first | exact RdS.own pkk)) (by (first | (intro j v e; rcases j with _|_|_|_|_|_|_|_|_|_|_|_|j <;> first | exact e | exact absurd e (by simp)))) (by exact sz125) (by simp)) ?_)
          first | (refine Hd.yv (y_to (v' := .pointer (some ⟨bt, (1 - k) * 5, none⟩)) (y_idxS Try.underlying85 sz125 rfl rfl (by first | omega | decide)) (by rw [Nat.zero_add])) ?_) | (refine Hd.yv (y_to (v' := .pointer (some ⟨bt, (1 - k) * 5, none⟩)) (y_idxR Try.underlying85 sz125 rfl rfl (by first | omega | decide) (by (first | exact RdS.own pkk))) (by rw [Nat.zero_add])) ?_)
          refine Hd.storeW (us := [_, _, _, _, _]) sz125 rfl rfl rfl (by simp [Value.oneCell']) pkk (by exact rfl) (Nat.lt_of_sub_eq_succ rfl) ?_
          refine Hd.nil ?_
          refine Hd.slots [(0, _), (1, _), (8, _), (9, _)] ⟨rfl, rfl, rfl, rfl, trivial⟩ ?_
          refine Hd.toK hK18 ?_
          refine Hd.seq (fun K19 hK19 => ?_)
          refine Hd.drawsH ([RHd br bE, pt b8 (encR { a with u := a.u.drop m } j.1) 89]) (fun j => !([7].contains j)) mixed ?_
          simp only [List.length, Nat.zero_add, Nat.reduceAdd]
          refine Hd.takeH 0 rfl (by kernel_rfl) (by kernel_rfl) (by kernel_rfl) (by kernel_rfl) (y_move rfl) (fun _ _ => rfl) (Ent.sep enn) ?_
          refine Hd.takeH 1 rfl (by kernel_rfl) (by kernel_rfl) (by kernel_rfl) (by kernel_rfl) (y_nilp rfl) (fun _ _ => rfl) (Ent.sep enn) ?_
          first | (refine Hd.takeH 2 rfl (by kernel_rfl) (by kernel_rfl) (by kernel_rfl) (by kernel_rfl) (y_field' (q := 0) (ft := 90) Try.underlying92 rfl sz90 rfl rfl) (fun _ _ => rfl) (Ent.sep enn) ?_) | (refine Hd.takeH 2 rfl (by kernel_rfl) (by kernel_rfl) (by kernel_rfl) (by kernel_rfl) (y_fieldR (q := 0) (ft := 90) Try.underlying92 rfl sz90 rfl rfl) (fun _ _ => rfl) (Ent.sep enn) ?_)
          first | (refine Hd.takeH 3 rfl (by kernel_rfl) (by kernel_rfl) (by kernel_rfl) (by kernel_rfl) (y_load1 ag90 rfl (Rd.pt1 pkk (by (first | rfl)))) (fun _ _ => rfl) (Ent.sep enn) ?_) | (refine Hd.takeH 3 rfl (by kernel_rfl) (by kernel_rfl) (by kernel_rfl) (by kernel_rfl) (y_load1 ag90 rfl (Rd.seg1 pkk (by (first | rfl)))) (fun _ _ => rfl) (Ent.sep enn) ?_) | (refine Hd.takeH 3 rfl (by kernel_rfl) (by kernel_rfl) (by kernel_rfl) (by kernel_rfl) (y_loadR1 ag90 rfl (by (first | exact RdS.own pkk)) (by (first | rfl))) (fun _ _ => rfl) (Ent.sep enn) ?_)
          refine Hd.takeH 4 rfl (by kernel_rfl) (by kernel_rfl) (by kernel_rfl) (by kernel_rfl) (y_move rfl) (fun _ _ => rfl) (Ent.sep enn) ?_
          first | (refine Hd.takeH 5 rfl (by kernel_rfl) (by kernel_rfl) (by kernel_rfl) (by kernel_rfl) (y_loadn (us := [_, _, _, _, _, _, _, _, _]) ag89 rfl (Rd.pt pkk (by (first | (intro j v e; rcases j with _|_|_|_|_|_|_|_|_|_|_|_|j <;> first | exact e | exact absurd e (by simp))))) (by exact sz89)) (fun _ _ => rfl) (Ent.sep enn) ?_) | (refine Hd.takeH 5 rfl (by kernel_rfl) (by kernel_rfl) (by kernel_rfl) (by kernel_rfl) (y_loadn (us := [_, _, _, _, _, _, _, _, _]) ag89 rfl (Rd.seg pkk (by (first | (intro j v e; rcases j with _|_|_|_|_|_|_|_|_|_|_|_|j <;> first | exact e | exact absurd e (by simp))))) (by exact sz89)) (fun _ _ => rfl) (Ent.sep enn) ?_) | (refine Hd.takeH 5 rfl (by kernel_rfl) (by kernel_rfl) (by kernel_rfl) (by kernel_rfl) (y_loadRn ag89 rfl (by (first | exact RdS.own pkk)) (by (first | (intro j v e; rcases j with _|_|_|_|_|_|_|_|_|_|_|_|j <;> first | exact e | exact absurd e (by simp)))) (by exact sz89) (by simp)) (fun _ _ => rfl) (Ent.sep enn) ?_)
          first | (refine Hd.takeH 6 rfl (by kernel_rfl) (by kernel_rfl) (by kernel_rfl) (by kernel_rfl) (y_to (v' := .pointer (some ⟨bE, k * 9, none⟩)) (y_idxS Try.underlying90 sz89 rfl rfl (by first | omega | decide)) (by rw [Nat.zero_add])) (fun _ _ => rfl) (Ent.sep enn) ?_) | (refine Hd.takeH 6 rfl (by kernel_rfl) (by kernel_rfl) (by kernel_rfl) (by kernel_rfl) (y_to (v' := .pointer (some ⟨bE, k * 9, none⟩)) (y_idxR Try.underlying90 sz89 rfl rfl (by first | omega | decide) (by (first | exact RdS.own pkk))) (by rw [Nat.zero_add])) (fun _ _ => rfl) (Ent.sep enn) ?_)
          refine Hd.onlyH 7 rfl (by kernel_rfl) ?_
          refine Hd.storeW (us := encR { a with u := a.u.drop m } j.1) sz89 rfl rfl rfl (encR_one _ _) pkk (by exact rfl) (Nat.lt_of_sub_eq_succ rfl) ?_
          refine Hd.nil ?_
          refine Hd.thenN ?_
          refine Hd.heldN (J := (fun j => !([7].contains j))) (i := 7) rfl ?_
          refine Hd.endH (by kernel_rfl) ?_
          refine Hd.slots [(0, _), (1, _), (9, _)] ⟨rfl, rfl, rfl, trivial⟩ ?_
          refine Hd.toK hK19 ?_
          refine Hd.tail 8 mixed (by kernel_rfl) ?_
          simp only [List.take, List.drop]
          refine Ht.yv (y_move rfl) ?_
          refine Ht.yv (y_nilp rfl) ?_
          first | (refine Ht.yv (y_field' (q := 0) (ft := 90) Try.underlying92 rfl sz90 rfl rfl) ?_) | (refine Ht.yv (y_fieldR (q := 0) (ft := 90) Try.underlying92 rfl sz90 rfl rfl) ?_)
          first | (refine Ht.yv (y_load1 ag90 rfl (Rd.pt1 pkk (by (first | rfl)))) ?_) | (refine Ht.yv (y_load1 ag90 rfl (Rd.seg1 pkk (by (first | rfl)))) ?_) | (refine Ht.yv (y_loadR1 ag90 rfl (by (first | exact RdS.own pkk)) (by (first | rfl))) ?_)
          refine Ht.yv (y_move rfl) ?_
          first | (refine Ht.yv (y_to (v' := .int .i64 ((1 - k : Nat) : Int)) (y_subn rfl rfl (by simp only [InK]; omega)) (by (congr 1; omega))) ?_) | (refine Ht.yv (y_to (v' := .int .i64 ((1 - k : Nat) : Int)) (y_sub rfl rfl) (by (congr 1; omega))) ?_)
          first | (refine Ht.yv (y_loadn (us := [_, _, _, _, _, _, _, _, _]) ag89 rfl (Rd.pt pkk (by (first | (intro j v e; rcases j with _|_|_|_|_|_|_|_|_|_|_|_|j <;> first | exact e | exact absurd e (by simp))))) (by exact sz89)) ?_) | (refine Ht.yv (y_loadn (us := [_, _, _, _, _, _, _, _, _]) ag89 rfl (Rd.seg pkk (by (first | (intro j v e; rcases j with _|_|_|_|_|_|_|_|_|_|_|_|j <;> first | exact e | exact absurd e (by simp))))) (by exact sz89)) ?_) | (refine Ht.yv (y_loadRn ag89 rfl (by (first | exact RdS.own pkk)) (by (first | (intro j v e; rcases j with _|_|_|_|_|_|_|_|_|_|_|_|j <;> first | exact e | exact absurd e (by simp)))) (by exact sz89) (by simp)) ?_)
          first | (refine Ht.yv (y_to (v' := .pointer (some ⟨bE, (1 - k) * 9, none⟩)) (y_idxS Try.underlying90 sz89 rfl rfl (by first | omega | decide)) (by rw [Nat.zero_add])) ?_) | (refine Ht.yv (y_to (v' := .pointer (some ⟨bE, (1 - k) * 9, none⟩)) (y_idxR Try.underlying90 sz89 rfl rfl (by first | omega | decide) (by (first | exact RdS.own pkk))) (by rw [Nat.zero_add])) ?_)
          refine Ht.nil ?_
          refine Hd.storeW (us := [_, _, _, _, _, _, _, _, _]) sz89 rfl rfl rfl (by simp [Value.oneCell']) pkk (by exact rfl) (Nat.lt_of_sub_eq_succ rfl) ?_
          refine Hd.nil ?_
          refine Hd.slots [] trivial ?_
          clear hK1 hK2 hK3 hK6 hK7 hK14 hK15 hK16 hK17 hK18 hK19
          first
          | (obtain ⟨⟨⟨h1, h2⟩, h3⟩, h4⟩ := hc3
             have h5 : a.u.length = m := by omega
             have hE : aEnd a c m = true := by unfold aEnd; rw [h1, h4]; simp [h5, h3]
             rw [hE, Bool.or_true, if_pos rfl]
             exact Hd.end0 rfl () rfl (Ent.sep (.pick pkk (.ex j.1 (.pick pkk (.pick pkk (.pick pkk (.ex j.2 enn))))))))
          | (have hE : aEnd a c m = false := by
               unfold aEnd
               rcases hc3 with ((h | h) | h) | h
               · rw [h]; rfl
               · have h5 : ¬ a.u.length = m := by omega
                 simp [h5]
               · simp [h]
               · simp [h]
             rw [hE, Bool.or_false, if_neg (by decide)]
             exact Hd.end0 rfl () rfl (Ent.sep (.pick pkk (.ex j.1 (.pick pkk (.pick pkk (.pick pkk (.ex j.2 enn))))))))
        ·
          try simp only [decide_eq_true_eq, decide_eq_false_iff_not, Bool.and_eq_true, Bool.or_eq_true, Bool.and_eq_false_iff, Bool.or_eq_false_iff, Bool.not_eq_true', Bool.not_eq_false', Bool.not_eq_true, Bool.not_eq_false, Int.not_lt, Int.not_le, Decidable.not_not, ne_eq] at hc3
          refine Hd.skip ?_
          refine Hd.toK hK14 ?_
          refine Hd.seq (fun K20 hK20 => ?_)
          refine Hd.region ?_
          refine Hd.yv (y_move rfl) ?_
          refine Hd.yv (y_move rfl) ?_
          first | (refine Hd.yv (y_loadn (us := [_, _, _, _, _]) ag125 rfl (Rd.pt pkk (by (first | (intro j v e; rcases j with _|_|_|_|_|_|_|_|_|_|_|_|j <;> first | exact e | exact absurd e (by simp))))) (by exact sz125)) ?_) | (refine Hd.yv (y_loadn (us := [_, _, _, _, _]) ag125 rfl (Rd.seg pkk (by (first | (intro j v e; rcases j with _|_|_|_|_|_|_|_|_|_|_|_|j <;> first | exact e | exact absurd e (by simp))))) (by exact sz125)) ?_) | (refine Hd.yv (y_loadRn ag125 rfl (by (first | exact RdS.own pkk)) (by (first | (intro j v e; rcases j with _|_|_|_|_|_|_|_|_|_|_|_|j <;> first | exact e | exact absurd e (by simp)))) (by exact sz125) (by simp)) ?_)
          first | (refine Hd.yv (y_to (v' := .pointer (some ⟨bt, k * 5, none⟩)) (y_idxS Try.underlying85 sz125 rfl rfl (by first | omega | decide)) (by rw [Nat.zero_add])) ?_) | (refine Hd.yv (y_to (v' := .pointer (some ⟨bt, k * 5, none⟩)) (y_idxR Try.underlying85 sz125 rfl rfl (by first | omega | decide) (by (first | exact RdS.own pkk))) (by rw [Nat.zero_add])) ?_)
          refine Hd.storeW (us := encV (aTvF a m x)) sz125 rfl rfl rfl (encV_one _) pkk (by exact rfl) (Nat.lt_of_sub_eq_succ rfl) ?_
          refine Hd.nil ?_
          refine Hd.slots [(0, _), (1, _), (3, _), (8, _), (9, _), (12, _)] ⟨rfl, rfl, rfl, rfl, rfl, rfl, trivial⟩ ?_
          refine Hd.toK hK20 ?_
          refine Hd.seq (fun K21 hK21 => ?_)
          refine Hd.region ?_
          refine Hd.yv (y_move rfl) ?_
          refine Hd.yv (y_move rfl) ?_
          first | (refine Hd.yv (y_to (v' := .int .i64 ((1 - k : Nat) : Int)) (y_subn rfl rfl (by simp only [InK]; omega)) (by (congr 1; omega))) ?_) | (refine Hd.yv (y_to (v' := .int .i64 ((1 - k : Nat) : Int)) (y_sub rfl rfl) (by (congr 1; omega))) ?_)
          first | (refine Hd.yv (y_loadn (us := [_, _, _, _, _]) ag125 rfl (Rd.pt pkk (by (first | (intro j v e; rcases j with _|_|_|_|_|_|_|_|_|_|_|_|j <;> first | exact e | exact absurd e (by simp))))) (by exact sz125)) ?_) | (refine Hd.yv (y_loadn (us := [_, _, _, _, _]) ag125 rfl (Rd.seg pkk (by (first | (intro j v e; rcases j with _|_|_|_|_|_|_|_|_|_|_|_|j <;> first | exact e | exact absurd e (by simp))))) (by exact sz125)) ?_) | (refine Hd.yv (y_loadRn ag125 rfl (by (first | exact RdS.own pkk)) (by (first | (intro j v e; rcases j with _|_|_|_|_|_|_|_|_|_|_|_|j <;> first | exact e | exact absurd e (by simp)))) (by exact sz125) (by simp)) ?_)
          first | (refine Hd.yv (y_to (v' := .pointer (some ⟨bt, (1 - k) * 5, none⟩)) (y_idxS Try.underlying85 sz125 rfl rfl (by first | omega | decide)) (by rw [Nat.zero_add])) ?_) | (refine Hd.yv (y_to (v' := .pointer (some ⟨bt, (1 - k) * 5, none⟩)) (y_idxR Try.underlying85 sz125 rfl rfl (by first | omega | decide) (by (first | exact RdS.own pkk))) (by rw [Nat.zero_add])) ?_)
          refine Hd.storeW (us := [_, _, _, _, _]) sz125 rfl rfl rfl (by simp [Value.oneCell']) pkk (by exact rfl) (Nat.lt_of_sub_eq_succ rfl) ?_
          refine Hd.nil ?_
          refine Hd.slots [(0, _), (1, _), (8, _), (9, _)] ⟨rfl, rfl, rfl, rfl, trivial⟩ ?_
          refine Hd.toK hK21 ?_
          refine Hd.seq (fun K22 hK22 => ?_)
          refine Hd.drawsH ([RHd br bE, pt b8 (encR { a with u := a.u.drop m } j.1) 89]) (fun j => !([7].contains j)) mixed ?_
          simp only [List.length, Nat.zero_add, Nat.reduceAdd]
          refine Hd.takeH 0 rfl (by kernel_rfl) (by kernel_rfl) (by kernel_rfl) (by kernel_rfl) (y_move rfl) (fun _ _ => rfl) (Ent.sep enn) ?_
          refine Hd.takeH 1 rfl (by kernel_rfl) (by kernel_rfl) (by kernel_rfl) (by kernel_rfl) (y_nilp rfl) (fun _ _ => rfl) (Ent.sep enn) ?_
          first | (refine Hd.takeH 2 rfl (by kernel_rfl) (by kernel_rfl) (by kernel_rfl) (by kernel_rfl) (y_field' (q := 0) (ft := 90) Try.underlying92 rfl sz90 rfl rfl) (fun _ _ => rfl) (Ent.sep enn) ?_) | (refine Hd.takeH 2 rfl (by kernel_rfl) (by kernel_rfl) (by kernel_rfl) (by kernel_rfl) (y_fieldR (q := 0) (ft := 90) Try.underlying92 rfl sz90 rfl rfl) (fun _ _ => rfl) (Ent.sep enn) ?_)
          first | (refine Hd.takeH 3 rfl (by kernel_rfl) (by kernel_rfl) (by kernel_rfl) (by kernel_rfl) (y_load1 ag90 rfl (Rd.pt1 pkk (by (first | rfl)))) (fun _ _ => rfl) (Ent.sep enn) ?_) | (refine Hd.takeH 3 rfl (by kernel_rfl) (by kernel_rfl) (by kernel_rfl) (by kernel_rfl) (y_load1 ag90 rfl (Rd.seg1 pkk (by (first | rfl)))) (fun _ _ => rfl) (Ent.sep enn) ?_) | (refine Hd.takeH 3 rfl (by kernel_rfl) (by kernel_rfl) (by kernel_rfl) (by kernel_rfl) (y_loadR1 ag90 rfl (by (first | exact RdS.own pkk)) (by (first | rfl))) (fun _ _ => rfl) (Ent.sep enn) ?_)
          refine Hd.takeH 4 rfl (by kernel_rfl) (by kernel_rfl) (by kernel_rfl) (by kernel_rfl) (y_move rfl) (fun _ _ => rfl) (Ent.sep enn) ?_
          first | (refine Hd.takeH 5 rfl (by kernel_rfl) (by kernel_rfl) (by kernel_rfl) (by kernel_rfl) (y_loadn (us := [_, _, _, _, _, _, _, _, _]) ag89 rfl (Rd.pt pkk (by (first | (intro j v e; rcases j with _|_|_|_|_|_|_|_|_|_|_|_|j <;> first | exact e | exact absurd e (by simp))))) (by exact sz89)) (fun _ _ => rfl) (Ent.sep enn) ?_) | (refine Hd.takeH 5 rfl (by kernel_rfl) (by kernel_rfl) (by kernel_rfl) (by kernel_rfl) (y_loadn (us := [_, _, _, _, _, _, _, _, _]) ag89 rfl (Rd.seg pkk (by (first | (intro j v e; rcases j with _|_|_|_|_|_|_|_|_|_|_|_|j <;> first | exact e | exact absurd e (by simp))))) (by exact sz89)) (fun _ _ => rfl) (Ent.sep enn) ?_) | (refine Hd.takeH 5 rfl (by kernel_rfl) (by kernel_rfl) (by kernel_rfl) (by kernel_rfl) (y_loadRn ag89 rfl (by (first | exact RdS.own pkk)) (by (first | (intro j v e; rcases j with _|_|_|_|_|_|_|_|_|_|_|_|j <;> first | exact e | exact absurd e (by simp)))) (by exact sz89) (by simp)) (fun _ _ => rfl) (Ent.sep enn) ?_)
          first | (refine Hd.takeH 6 rfl (by kernel_rfl) (by kernel_rfl) (by kernel_rfl) (by kernel_rfl) (y_to (v' := .pointer (some ⟨bE, k * 9, none⟩)) (y_idxS Try.underlying90 sz89 rfl rfl (by first | omega | decide)) (by rw [Nat.zero_add])) (fun _ _ => rfl) (Ent.sep enn) ?_) | (refine Hd.takeH 6 rfl (by kernel_rfl) (by kernel_rfl) (by kernel_rfl) (by kernel_rfl) (y_to (v' := .pointer (some ⟨bE, k * 9, none⟩)) (y_idxR Try.underlying90 sz89 rfl rfl (by first | omega | decide) (by (first | exact RdS.own pkk))) (by rw [Nat.zero_add])) (fun _ _ => rfl) (Ent.sep enn) ?_)
          refine Hd.onlyH 7 rfl (by kernel_rfl) ?_
          refine Hd.storeW (us := encR { a with u := a.u.drop m } j.1) sz89 rfl rfl rfl (encR_one _ _) pkk (by exact rfl) (Nat.lt_of_sub_eq_succ rfl) ?_
          refine Hd.nil ?_
          refine Hd.thenN ?_
          refine Hd.heldN (J := (fun j => !([7].contains j))) (i := 7) rfl ?_
          refine Hd.endH (by kernel_rfl) ?_
          refine Hd.slots [(0, _), (1, _), (9, _)] ⟨rfl, rfl, rfl, trivial⟩ ?_
          refine Hd.toK hK22 ?_
          refine Hd.tail 8 mixed (by kernel_rfl) ?_
          simp only [List.take, List.drop]
          refine Ht.yv (y_move rfl) ?_
          refine Ht.yv (y_nilp rfl) ?_
          first | (refine Ht.yv (y_field' (q := 0) (ft := 90) Try.underlying92 rfl sz90 rfl rfl) ?_) | (refine Ht.yv (y_fieldR (q := 0) (ft := 90) Try.underlying92 rfl sz90 rfl rfl) ?_)
          first | (refine Ht.yv (y_load1 ag90 rfl (Rd.pt1 pkk (by (first | rfl)))) ?_) | (refine Ht.yv (y_load1 ag90 rfl (Rd.seg1 pkk (by (first | rfl)))) ?_) | (refine Ht.yv (y_loadR1 ag90 rfl (by (first | exact RdS.own pkk)) (by (first | rfl))) ?_)
          refine Ht.yv (y_move rfl) ?_
          first | (refine Ht.yv (y_to (v' := .int .i64 ((1 - k : Nat) : Int)) (y_subn rfl rfl (by simp only [InK]; omega)) (by (congr 1; omega))) ?_) | (refine Ht.yv (y_to (v' := .int .i64 ((1 - k : Nat) : Int)) (y_sub rfl rfl) (by (congr 1; omega))) ?_)
          first | (refine Ht.yv (y_loadn (us := [_, _, _, _, _, _, _, _, _]) ag89 rfl (Rd.pt pkk (by (first | (intro j v e; rcases j with _|_|_|_|_|_|_|_|_|_|_|_|j <;> first | exact e | exact absurd e (by simp))))) (by exact sz89)) ?_) | (refine Ht.yv (y_loadn (us := [_, _, _, _, _, _, _, _, _]) ag89 rfl (Rd.seg pkk (by (first | (intro j v e; rcases j with _|_|_|_|_|_|_|_|_|_|_|_|j <;> first | exact e | exact absurd e (by simp))))) (by exact sz89)) ?_) | (refine Ht.yv (y_loadRn ag89 rfl (by (first | exact RdS.own pkk)) (by (first | (intro j v e; rcases j with _|_|_|_|_|_|_|_|_|_|_|_|j <;> first | exact e | exact absurd e (by simp)))) (by exact sz89) (by simp)) ?_)
          first | (refine Ht.yv (y_to (v' := .pointer (some ⟨bE, (1 - k) * 9, none⟩)) (y_idxS Try.underlying90 sz89 rfl rfl (by first | omega | decide)) (by rw [Nat.zero_add])) ?_) | (refine Ht.yv (y_to (v' := .pointer (some ⟨bE, (1 - k) * 9, none⟩)) (y_idxR Try.underlying90 sz89 rfl rfl (by first | omega | decide) (by (first | exact RdS.own pkk))) (by rw [Nat.zero_add])) ?_)
          refine Ht.nil ?_
          refine Hd.storeW (us := [_, _, _, _, _, _, _, _, _]) sz89 rfl rfl rfl (by simp [Value.oneCell']) pkk (by exact rfl) (Nat.lt_of_sub_eq_succ rfl) ?_
          refine Hd.nil ?_
          refine Hd.slots [] trivial ?_
          clear hK1 hK2 hK3 hK6 hK7 hK14 hK15 hK20 hK21 hK22
          first
          | (obtain ⟨⟨⟨h1, h2⟩, h3⟩, h4⟩ := hc3
             have h5 : a.u.length = m := by omega
             have hE : aEnd a c m = true := by unfold aEnd; rw [h1, h4]; simp [h5, h3]
             rw [hE, Bool.or_true, if_pos rfl]
             exact Hd.end0 rfl () rfl (Ent.sep (.pick pkk (.ex j.1 (.pick pkk (.pick pkk (.pick pkk (.ex j.2 enn))))))))
          | (have hE : aEnd a c m = false := by
               unfold aEnd
               rcases hc3 with ((h | h) | h) | h
               · rw [h]; rfl
               · have h5 : ¬ a.u.length = m := by omega
                 simp [h5]
               · simp [h]
               · simp [h]
             rw [hE, Bool.or_false, if_neg (by decide)]
             exact Hd.end0 rfl () rfl (Ent.sep (.pick pkk (.ex j.1 (.pick pkk (.pick pkk (.pick pkk (.ex j.2 enn))))))))
end Pa
end Go.Proofs.Ytgifpkpkkgkfeaa
