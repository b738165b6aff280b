/-
  Chains: Pull, Move.
-/
import Derived.Test.YtgifpkpkkgkfeaaBc8
namespace Go.Proofs.Ytgifpkpkkgkfeaa
set_option linter.unusedSimpArgs false
set_option linter.unusedVariables false
set_option linter.unnecessarySimpa false
open Go.RX Fx
namespace Bc
section
variable {E : World} {n : Nat} {ds : List Deferred} {st : List (Nat × Value)} {L L' L2 : List SP} {K : Act → World → Prop}
theorem Hd.ptOwn {b : Nat} {cs : List Value} {e : TypeId} (m' sz' : Nat) (p : Pick L (pt b cs e) L') (hl : cs.length = m' * sz') (hm : m' ≤ maxLen) (h : Hd E n ds st (own e sz' (some ⟨b, 0, none⟩) m' m' cs :: L') K) : Hd E n ds st L K :=
  Hd.heap _ (fun k s => sep_head (p.sep s) fun k x => own_pt (sp := []) hl (Nat.le_refl _) hm (by simp) (by simpa using x)) h
/-- a row ahead -/
theorem consRow_sep {rs : List Row} {ad : Option Addr} {m cap : Nat} {us : List Value} (l : List UInt8) (p1 : Pick L (rows rs) L') (p2 : Pick L' (own 5 1 ad m cap us) L2) (hl : l.length = m) (hu : us = bsl l) (k : PH) (s : sep L k) : sep (rows (⟨ad, cap, l⟩ :: rs) :: L2) k := by
  subst hl; subst hu
  have s1 := p1.sep s
  have s2 : sep (rows rs :: ow ⟨ad, cap, l⟩ :: L2) k := Ent.imp' .here (fun _ x => x) (fun k s => p2.sep s) s1
  have s3 := Ent.imp' .here (fun _ x => x) (fun k s => own_rows s) s2
  exact rows_join (a := [⟨ad, cap, l⟩]) ((Pick.there .here : Pick (rows rs :: rows [⟨ad, cap, l⟩] :: L2) (rows [⟨ad, cap, l⟩]) (rows rs :: L2)).sep s3)
theorem NeP.mono {P : Program} {M : List SP} {a1 a2 : Addr} (h : NeP P L a1 a2) (hm : ∀ k, sep M k → sep L k) : NeP P M a1 a2 := fun E w s => h E w (s.mp hm)
end
def row0 : Row := ⟨none, 0, []⟩
theorem hdr_hd {rs : List Row} (h : rs ≠ []) : (rs.map hdr)[0 * 1]? = some (hdr (rs.headD row0)) := by
  cases rs with
  | nil => exact absurd rfl h
  | cons r rs => rfl
abbrev pullOk (len : Nat) (n : Int) : Bool := decide (0 ≤ n) && decide (n ≤ (len : Int))
def pullB (all : List UInt8) (n : Int) : List UInt8 := if pullOk all.length n then all.take n.toNat else []
def pullE (len : Nat) (n : Int) : Int := if pullOk len n then 0 else 2
def FirstHas (rs : List Row) (n : Int) : Prop := 0 < n → ∃ r0 rest, rs = r0 :: rest ∧ n ≤ (r0.l.length : Int)
set_option maxHeartbeats 2000000 in
theorem pull_ct (L : List SP) (b o : Nat) (rs : List Row) (hg : Good rs) (n : Int) (hn : InK .i64 n) : Ct Try.prog 21 #[.pointer (some ⟨b, o, none⟩), .int .i64 n] (Ch b o rs :: L) (fun q_ : List Row × Option Addr × Nat => .tuple #[.slice q_.2.1 (pullB (flat rs) n).length q_.2.2, .int .i64 (pullE (flat rs).length n)]) (fun q_ : List Row × Option Addr × Nat => pu (Good q_.1 ∧ flat q_.1 = flat rs ∧ (pullOk (flat rs).length n = true → FirstHas q_.1 n)) :: own 5 1 q_.2.1 (pullB (flat rs) n).length q_.2.2 (bsl (pullB (flat rs) n)) :: Ch b o q_.1 :: L) := by
  refine Ct.of (vs := [.pointer (some ⟨b, o, none⟩), .int .i64 n]) Try.func21 rfl rfl [(0, .pointer (some ⟨b, o, none⟩)), (1, .int .i64 n)] (by repeat (first | exact trivial | refine ⟨rfl, ?_⟩)) ?_
  intro E
  show Hd E 59 _ _ _ _
  have hg0 := hg
  obtain ⟨hfull, hlen⟩ := hg
  have hrl := full_len hfull
  simp only [InK] at hn
  refine Hd.exs pkk ?_
  rintro ⟨ha, hcp⟩
  simp only [List.cons_append, List.nil_append]
  refine Hd.seq (fun K1 hK1 => ?_)
  refine Hd.region ?_
  refine Hd.yv (y_assign rfl) ?_
  refine Hd.yv (y_assign rfl) ?_
  refine Hd.nil ?_
  refine Hd.slots [(0, _), (1, _)] ⟨rfl, rfl, trivial⟩ ?_
  refine Hd.toK hK1 ?_
  refine Hd.cutK (ι := List Row) [(0, _), (1, _)] (fun _ => []) (fun rs' => pu ((Good rs' ∧ flat rs' = flat rs ∧ FirstHas rs' n) ∧ 0 ≤ n ∧ n ≤ ((flat rs).length : Int)) :: Ch b o rs' :: L) ?_ ?_ ⟨rfl, rfl, trivial⟩
  ·
    refine Hd.block ?_
    refine Hd.seq (fun K2 hK2 => ?_)
    refine Hd.region ?_
    refine Hd.yv (y_move rfl) ?_
    first | (refine Hd.yv (y_eql_pointer Try.underlying24 rfl rfl) ?_) | (refine Hd.yv (y_eql_one Try.underlying24 sz27 rfl rfl rfl) ?_)
    refine Hd.yv (y_assign rfl) ?_
    refine Hd.nil ?_
    refine Hd.slots [(0, _), (1, _), (7, _)] ⟨rfl, rfl, rfl, trivial⟩ ?_
    refine Hd.toK hK2 ?_
    refine Hd.condF rfl ?_
    refine Hd.seq (fun K3 hK3 => ?_)
    refine Hd.region ?_
    refine Hd.yv (y_move rfl) ?_
    refine Hd.yv (y_lss rfl rfl) ?_
    refine Hd.yv (y_move rfl) ?_
    apply Hd.org 7 13 20 [(0, _), (1, _)] rfl ⟨rfl, rfl, trivial⟩
    · intro hg3_13
      try simp only [decide_eq_true_eq, decide_eq_false_iff_not, Bool.and_eq_true, Bool.or_eq_true, Bool.and_eq_false_iff, Bool.or_eq_false_iff, Bool.not_eq_true', Bool.not_eq_false', Bool.not_eq_true, Bool.not_eq_false, Int.not_lt, Int.not_le, Decidable.not_not, ne_eq] at hg3_13
      simp only [List.take]
      refine Hd.ng rfl rfl rfl ?_
      refine Hd.ng rfl rfl rfl ?_
      refine Hd.ng rfl rfl rfl ?_
      refine Hd.ng rfl rfl rfl ?_
      refine Hd.ng rfl rfl rfl ?_
      refine Hd.ng rfl rfl rfl ?_
      first | (refine Hd.yv (y_pickT rfl rfl) ?_) | (refine Hd.yv (y_pickF rfl rfl) ?_) | (refine Hd.yv (y_pickb rfl rfl rfl) ?_) | (refine Hd.yv (y_pick rfl rfl rfl) ?_)
      refine Hd.nil ?_
      exact Hd.mend (by repeat (first | exact trivial | refine ⟨rfl, ?_⟩)) (Ent.sep enn)
    · intro hg3_13
      try simp only [decide_eq_true_eq, decide_eq_false_iff_not, Bool.and_eq_true, Bool.or_eq_true, Bool.and_eq_false_iff, Bool.or_eq_false_iff, Bool.not_eq_true', Bool.not_eq_false', Bool.not_eq_true, Bool.not_eq_false, Int.not_lt, Int.not_le, Decidable.not_not, ne_eq] at hg3_13
      simp only [List.take]
      refine Hd.yg rfl rfl (y_move rfl) ?_
      refine Hd.yg rfl rfl (y_move rfl) ?_
      refine Hd.yg rfl rfl (y_nilp rfl) ?_
      first | (refine Hd.yg rfl rfl (y_field' (q := 1) (ft := 3) Try.underlying27 rfl sz3 rfl rfl) ?_) | (refine Hd.yg rfl rfl (y_fieldR (q := 1) (ft := 3) Try.underlying27 rfl sz3 rfl rfl) ?_)
      first | (refine Hd.yg rfl rfl (y_load1 ag3 rfl (Rd.pt1 pkk (by (first | exact hdr_hd hne | rfl)))) ?_) | (refine Hd.yg rfl rfl (y_load1 ag3 rfl (Rd.seg1 pkk (by (first | exact hdr_hd hne | rfl)))) ?_) | (refine Hd.yg rfl rfl (y_loadR1 ag3 rfl (by (first | exact RdS.own pkk)) (by (first | exact hdr_hd hne | rfl))) ?_)
      refine Hd.yg rfl rfl (y_gtr rfl rfl) ?_
      first | (refine Hd.yv (y_pickT rfl rfl) ?_) | (refine Hd.yv (y_pickF rfl rfl) ?_) | (refine Hd.yv (y_pickb rfl rfl rfl) ?_) | (refine Hd.yv (y_pick rfl rfl rfl) ?_)
      refine Hd.nil ?_
      exact Hd.mend (by repeat (first | exact trivial | refine ⟨rfl, ?_⟩)) (Ent.sep enn)
    simp only [List.drop]
    refine Hd.yv (y_assign rfl) ?_
    refine Hd.nil ?_
    refine Hd.slots [(0, _), (1, _), (10, _)] ⟨rfl, rfl, rfl, trivial⟩ ?_
    refine Hd.toK hK3 ?_
    refine Hd.cond rfl (fun hc1 => ?_) (fun hc1 => ?_)
    ·
      try simp only [decide_eq_true_eq, decide_eq_false_iff_not, Bool.and_eq_true, Bool.or_eq_true, Bool.and_eq_false_iff, Bool.or_eq_false_iff, Bool.not_eq_true', Bool.not_eq_false', Bool.not_eq_true, Bool.not_eq_false, Int.not_lt, Int.not_le, Decidable.not_not, ne_eq] at hc1
      refine Hd.seq (fun K4 hK4 => ?_)
      refine Hd.region ?_
      refine Hd.yv (y_assign rfl) ?_
      refine Hd.yv (y_assign rfl) ?_
      refine Hd.nil ?_
      refine Hd.slots [(4, _), (5, _)] ⟨rfl, rfl, trivial⟩ ?_
      refine Hd.toK hK4 ?_
      refine Hd.ret ?_
      refine Hd.inBret ?_
      refine Hd.thenRet ?_
      clear hK1 hK2 hK3 hK4
      have hno : pullOk (flat rs).length n = false := by simp only [pullOk, Bool.and_eq_false_iff, decide_eq_false_iff_not]; omega
      have e1 : pullB (flat rs) n = [] := by unfold pullB; rw [if_neg (by rw [hno]; simp)]
      have e2 : pullE (flat rs).length n = 2 := by unfold pullE; rw [if_neg (by rw [hno]; simp)]
      exact Hd.ret2 rfl (rs, none, 0) rfl rfl (by simp only [e1, e2]; rfl) (Ent.sep (.pure ⟨hg0, rfl, fun h => by rw [hno] at h; cases h⟩ (own0 (by rw [e1]; rfl) (by rw [e1]; rfl) (.ex (ha, hcp) enn))))
    ·
      try simp only [decide_eq_true_eq, decide_eq_false_iff_not, Bool.and_eq_true, Bool.or_eq_true, Bool.and_eq_false_iff, Bool.or_eq_false_iff, Bool.not_eq_true', Bool.not_eq_false', Bool.not_eq_true, Bool.not_eq_false, Int.not_lt, Int.not_le, Decidable.not_not, ne_eq] at hc1
      obtain ⟨hn0, hn1⟩ : 0 ≤ n ∧ n ≤ ((flat rs).length : Int) := by omega
      have hok : pullOk (flat rs).length n = true := by simp only [pullOk, Bool.and_eq_true, decide_eq_true_eq]; omega
      have e1 : pullB (flat rs) n = (flat rs).take n.toNat := by unfold pullB; rw [if_pos hok]
      have e2 : pullE (flat rs).length n = 0 := by unfold pullE; rw [if_pos hok]
      refine Hd.seq (fun K5 hK5 => ?_)
      refine Hd.region ?_
      refine Hd.yv (y_move rfl) ?_
      refine Hd.yv (y_gtr rfl rfl) ?_
      refine Hd.yv (y_move rfl) ?_
      apply Hd.andg 10 24 34 [(0, _), (1, _)] rfl ⟨rfl, rfl, trivial⟩
      · intro hg5_24
        try simp only [decide_eq_true_eq, decide_eq_false_iff_not, Bool.and_eq_true, Bool.or_eq_true, Bool.and_eq_false_iff, Bool.or_eq_false_iff, Bool.not_eq_true', Bool.not_eq_false', Bool.not_eq_true, Bool.not_eq_false, Int.not_lt, Int.not_le, Decidable.not_not, ne_eq] at hg5_24
        simp only [List.take]
        refine Hd.yg rfl rfl (y_move rfl) ?_
        refine Hd.yg rfl rfl (y_nilp rfl) ?_
        first | (refine Hd.yg rfl rfl (y_field' (q := 0) (ft := 25) Try.underlying27 rfl sz25 rfl rfl) ?_) | (refine Hd.yg rfl rfl (y_fieldR (q := 0) (ft := 25) Try.underlying27 rfl sz25 rfl rfl) ?_)
        first | (refine Hd.yg rfl rfl (y_load1 ag25 rfl (Rd.pt1 pkk (by (first | exact hdr_hd hne | rfl)))) ?_) | (refine Hd.yg rfl rfl (y_load1 ag25 rfl (Rd.seg1 pkk (by (first | exact hdr_hd hne | rfl)))) ?_) | (refine Hd.yg rfl rfl (y_loadR1 ag25 rfl (by (first | exact RdS.own pkk)) (by (first | exact hdr_hd hne | rfl))) ?_)
        have hne : rs ≠ [] := by
          intro e; subst e; simp [flat] at hn1; omega
        have hlen1 : 0 < rs.length := by
          rcases Nat.eq_zero_or_pos rs.length with h | h
          · exact absurd (List.eq_nil_of_length_eq_zero h) hne
          · exact h
        first | (refine Hd.yg rfl rfl (y_idxS Try.underlying25 sz22 rfl rfl (by first | exact (show (0 : Nat) < _ by omega) | omega | decide)) ?_) | (refine Hd.yg rfl rfl (y_idxR Try.underlying25 sz22 rfl rfl (by first | exact (show (0 : Nat) < _ by omega) | omega | decide) (by (first | exact RdS.own pkk))) ?_)
        first | (refine Hd.yg rfl rfl (y_load1 ag22 rfl (Rd.pt1 pkk (by (first | exact hdr_hd hne | rfl)))) ?_) | (refine Hd.yg rfl rfl (y_load1 ag22 rfl (Rd.seg1 pkk (by (first | exact hdr_hd hne | rfl)))) ?_) | (refine Hd.yg rfl rfl (y_loadR1 ag22 rfl (by (first | exact RdS.own pkk)) (by (first | exact hdr_hd hne | rfl))) ?_)
        refine Hd.yg rfl rfl (y_len Try.underlying22 rfl) ?_
        refine Hd.yg rfl rfl (y_move rfl) ?_
        refine Hd.yg rfl rfl (y_lss rfl rfl) ?_
        first | (refine Hd.yv (y_pickT rfl rfl) ?_) | (refine Hd.yv (y_pickF rfl rfl) ?_) | (refine Hd.yv (y_pickb rfl rfl rfl) ?_) | (refine Hd.yv (y_pick rfl rfl rfl) ?_)
        refine Hd.nil ?_
        exact Hd.mend (by repeat (first | exact trivial | refine ⟨rfl, ?_⟩)) (Ent.sep enn)
      · intro hg5_24
        try simp only [decide_eq_true_eq, decide_eq_false_iff_not, Bool.and_eq_true, Bool.or_eq_true, Bool.and_eq_false_iff, Bool.or_eq_false_iff, Bool.not_eq_true', Bool.not_eq_false', Bool.not_eq_true, Bool.not_eq_false, Int.not_lt, Int.not_le, Decidable.not_not, ne_eq] at hg5_24
        simp only [List.take]
        refine Hd.ng rfl rfl rfl ?_
        refine Hd.ng rfl rfl rfl ?_
        refine Hd.ng rfl rfl rfl ?_
        refine Hd.ng rfl rfl rfl ?_
        refine Hd.ng rfl rfl rfl ?_
        refine Hd.ng rfl rfl rfl ?_
        refine Hd.ng rfl rfl rfl ?_
        refine Hd.ng rfl rfl rfl ?_
        refine Hd.ng rfl rfl rfl ?_
        first | (refine Hd.yv (y_pickT rfl rfl) ?_) | (refine Hd.yv (y_pickF rfl rfl) ?_) | (refine Hd.yv (y_pickb rfl rfl rfl) ?_) | (refine Hd.yv (y_pick rfl rfl rfl) ?_)
        refine Hd.nil ?_
        exact Hd.mend (by repeat (first | exact trivial | refine ⟨rfl, ?_⟩)) (Ent.sep enn)
      simp only [List.drop]
      refine Hd.yv (y_assign rfl) ?_
      refine Hd.nil ?_
      refine Hd.slots [(0, _), (1, _), (21, _)] ⟨rfl, rfl, rfl, trivial⟩ ?_
      refine Hd.toK hK5 ?_
      refine Hd.cond rfl (fun hc2 => ?_) (fun hc2 => ?_)
      ·
        try simp only [decide_eq_true_eq, decide_eq_false_iff_not, Bool.and_eq_true, Bool.or_eq_true, Bool.and_eq_false_iff, Bool.or_eq_false_iff, Bool.not_eq_true', Bool.not_eq_false', Bool.not_eq_true, Bool.not_eq_false, Int.not_lt, Int.not_le, Decidable.not_not, ne_eq] at hc2
        refine Hd.seq (fun K6 hK6 => ?_)
        refine Hd.heap (Ch b o rs :: L) (Ent.sep (.ex (ha, hcp) enn)) ?_
        refine Hd.region ?_
        refine Hd.yv (y_move rfl) ?_
        refine Hd.yv (y_move rfl) ?_
        refine Hd.callE rfl fk18 (take_ct _ b o rs hg0 n (by omega)) (Ent.sep enn) ?_
        rintro ⟨rest, a2, c2⟩
        dsimp only
        refine Hd.pure (fun hrest => ?_)
        have hfr := full_len hrest.2
        have hlr : (flat rest).length = (flat rs).length - n.toNat := by rw [hrest.1, List.length_drop]
        have hlt : ((flat rs).take n.toNat).length = n.toNat := by rw [List.length_take]; omega
        refine Hd.yv (y_assign rfl) ?_
        refine Hd.nil ?_
        refine Hd.slots [(0, _), (1, _), (6, _)] ⟨rfl, rfl, rfl, trivial⟩ ?_
        refine Hd.toK hK6 ?_
        refine Hd.seq (fun K7 hK7 => ?_)
        refine Hd.exs pkk ?_
        rintro ⟨ha2, hc2'⟩
        simp only [List.cons_append, List.nil_append]
        refine Hd.region ?_
        refine Hd.yv (y_move rfl) ?_
        refine Hd.yv (y_nilp rfl) ?_
        first | (refine Hd.yv (y_field' (q := 1) (ft := 3) Try.underlying27 rfl sz3 rfl rfl) ?_) | (refine Hd.yv (y_fieldR (q := 1) (ft := 3) Try.underlying27 rfl sz3 rfl rfl) ?_)
        first | (refine Hd.yv (y_load1 ag3 rfl (Rd.pt1 pkk (by (first | exact hdr_hd hne | rfl)))) ?_) | (refine Hd.yv (y_load1 ag3 rfl (Rd.seg1 pkk (by (first | exact hdr_hd hne | rfl)))) ?_) | (refine Hd.yv (y_loadR1 ag3 rfl (by (first | exact RdS.own pkk)) (by (first | exact hdr_hd hne | rfl))) ?_)
        refine Hd.yv (y_move rfl) ?_
        first | (refine Hd.yv (y_addn rfl rfl (by simp only [InK]; omega)) ?_) | (refine Hd.yv (y_add rfl rfl) ?_)
        refine Hd.yv (y_nilp rfl) ?_
        first | (refine Hd.yv (y_field' (q := 1) (ft := 3) Try.underlying27 rfl sz3 rfl rfl) ?_) | (refine Hd.yv (y_fieldR (q := 1) (ft := 3) Try.underlying27 rfl sz3 rfl rfl) ?_)
        first | (refine Hd.store1 sz3 rfl rfl rfl pkk (by first | decide | (simp; done) | (simp; omega)) ?_) | (refine Hd.storeG1 sz3 rfl rfl rfl pkk (by first | decide | (simp; done) | (simp; omega)) ?_) | (refine Hd.storeO1 sz3 rfl rfl rfl pkk (by first | omega | (simp; done) | (simp; omega)) ?_)
        try simp only [List.set_cons_zero, List.set_cons_succ]
        refine Hd.nil ?_
        refine Hd.slots [(0, _), (1, _), (6, _)] ⟨rfl, rfl, rfl, trivial⟩ ?_
        refine Hd.toK hK7 ?_
        refine Hd.region ?_
        refine Hd.yv (y_move rfl) ?_
        refine Hd.yv (y_move rfl) ?_
        refine Hd.bslice (vs := [(0, _)]) rfl (by first | exact bs21_48 .. | kernel_rfl) (fun b48 => ?_)
        refine Hd.yv (y_move rfl) ?_
        refine Hd.yv (y_nilp rfl) ?_
        first | (refine Hd.yv (y_field' (q := 0) (ft := 25) Try.underlying27 rfl sz25 rfl rfl) ?_) | (refine Hd.yv (y_fieldR (q := 0) (ft := 25) Try.underlying27 rfl sz25 rfl rfl) ?_)
        first | (refine Hd.yv (y_load1 ag25 rfl (Rd.pt1 pkk (by (first | exact hdr_hd hne | rfl)))) ?_) | (refine Hd.yv (y_load1 ag25 rfl (Rd.seg1 pkk (by (first | exact hdr_hd hne | rfl)))) ?_) | (refine Hd.yv (y_loadR1 ag25 rfl (by (first | exact RdS.own pkk)) (by (first | exact hdr_hd hne | rfl))) ?_)
        refine Hd.ptOwn 1 1 pkk rfl (by simp [maxLen]) ?_
        refine Hd.append Try.underlying25 ty22 rfl rfl rfl pkk (by first | exact RdS.rd (Rd.pt pkk (fun j v e => by simpa using e)) rfl | (first | exact RdS.own pkk)) (by first | (simp [Value.oneCell']; done) | assumption) (by first | (simp only [maxLen]; omega) | assumption) (by omega) (fun ad53 cap53 => ?_)
        refine Hd.yv (y_nilp rfl) ?_
        first | (refine Hd.yv (y_field' (q := 0) (ft := 25) Try.underlying27 rfl sz25 rfl rfl) ?_) | (refine Hd.yv (y_fieldR (q := 0) (ft := 25) Try.underlying27 rfl sz25 rfl rfl) ?_)
        first | (refine Hd.store1 sz25 rfl rfl rfl pkk (by first | decide | (simp; done) | (simp; omega)) ?_) | (refine Hd.storeG1 sz25 rfl rfl rfl pkk (by first | decide | (simp; done) | (simp; omega)) ?_) | (refine Hd.storeO1 sz25 rfl rfl rfl pkk (by first | omega | (simp; done) | (simp; omega)) ?_)
        try simp only [List.set_cons_zero, List.set_cons_succ]
        refine Hd.nil ?_
        refine Hd.slots [(0, _), (1, _)] ⟨rfl, rfl, trivial⟩ ?_
        refine Hd.inB ?_
        clear hK1 hK2 hK3 hK5 hK6 hK7
        refine Hd.thenN ?_
        refine Hd.toK0 (fun _ _ h => h) ?_
        refine Hd.heap _ (fun k s => consRow_sep (rs := rest) ((flat rs).take n.toNat) pkk pkk rfl rfl k s) ?_
        have e3 : flat (⟨a2, c2, (flat rs).take n.toNat⟩ :: rest) = flat rs := by
          simp only [flat, List.flatMap_cons]
          have := hrest.1
          simp only [flat] at this
          rw [this, List.take_append_drop]
        refine Hd.meet (⟨a2, c2, (flat rs).take n.toNat⟩ :: rest) (by repeat (first | exact trivial | refine ⟨rfl, ?_⟩)) (Ent.sep (.pure ⟨⟨⟨?_, by rw [e3]; exact hlen⟩, e3, fun _ => ⟨_, _, rfl, by dsimp only; omega⟩⟩, hn0, hn1⟩ (.ex (ad53, cap53) (.eq pkk (seg_eq ?_) (.eq pkk (own_eq ?_ ?_) (.pick pkk enn))))))
        · intro r hr
          rcases List.mem_cons.1 hr with rfl | hr
          · dsimp only; omega
          · exact hrest.2 r hr
        · rw [e3, hlr]
          simp only [List.length_cons, List.cons.injEq, Value.slice.injEq, Value.int.injEq, true_and, and_true]
          omega
        · simp; omega
        · simp
      ·
        try simp only [decide_eq_true_eq, decide_eq_false_iff_not, Bool.and_eq_true, Bool.or_eq_true, Bool.and_eq_false_iff, Bool.or_eq_false_iff, Bool.not_eq_true', Bool.not_eq_false', Bool.not_eq_true, Bool.not_eq_false, Int.not_lt, Int.not_le, Decidable.not_not, ne_eq] at hc2
        refine Hd.skip ?_
        refine Hd.inB ?_
        clear hK1 hK2 hK3 hK5
        refine Hd.thenN ?_
        refine Hd.meet rs (by repeat (first | exact trivial | refine ⟨rfl, ?_⟩)) (Ent.sep (.pure ⟨⟨hg0, rfl, fun h0 => ?_⟩, hn0, hn1⟩ (.ex (ha, hcp) enn)))
        have hne : rs ≠ [] := by
          intro e; subst e; simp [flat] at hn1; omega
        obtain ⟨r0, rest, rfl⟩ := List.exists_cons_of_ne_nil hne
        refine ⟨r0, rest, rfl, ?_⟩
        rcases hc2 with h | h
        · omega
        · simpa using h
  ·
    rintro rs'
    refine Hd.pure (fun hrs2 => ?_)
    obtain ⟨hrs', hn0, hn1⟩ := hrs2
    have hok : pullOk (flat rs).length n = true := by simp only [pullOk, Bool.and_eq_true, decide_eq_true_eq]; omega
    have e1 : pullB (flat rs) n = (flat rs).take n.toNat := by unfold pullB; rw [if_pos hok]
    have e2 : pullE (flat rs).length n = 0 := by unfold pullE; rw [if_pos hok]
    refine Hd.seq (fun K8 hK8 => ?_)
    refine Hd.region ?_
    refine Hd.yv (y_move rfl) ?_
    refine Hd.yv (y_move rfl) ?_
    refine Hd.callE rfl fk22 (copy_ct _ b o rs' hrs'.1 0 n (by simp [InK]) (by simp only [InK]; omega)) (Ent.sep enn) ?_
    rintro ⟨a5, c5⟩
    dsimp only
    have e5 : cpy (flat rs') 0 n = (flat rs).take n.toNat := by rw [hrs'.2.1]; unfold cpy; rw [if_neg (by omega)]; simp
    rw [e5]
    refine Hd.yv (y_assign rfl) ?_
    refine Hd.yv (y_assign rfl) ?_
    refine Hd.nil ?_
    refine Hd.slots [(4, _), (5, _)] ⟨rfl, rfl, trivial⟩ ?_
    refine Hd.toK hK8 ?_
    refine Hd.ret ?_
    clear hK1 hK8
    exact Hd.ret2 rfl (rs', a5, c5) rfl rfl (by simp only [e1, e2]) (Ent.sep (.pure ⟨hrs'.1, hrs'.2.1, fun _ => hrs'.2.2⟩ (.eq pkk (own_eq (by rw [e1]) (by rw [e1])) enn)))
/-- what a Move says, and how many are moved -/
def mvE (l1 l2 : Nat) (n : Int) : Int := if n < 0 then 2 else mayE l2 (min n.toNat l1)
def mvK (l1 l2 : Nat) (n : Int) : Nat := if mvE l1 l2 n = 0 then min n.toNat l1 else 0
theorem mayE_zero {a m : Nat} : mayE a m = 0 ↔ m ≤ 1048576 - a := by
  unfold mayE; split
  · simp; assumption
  · simp; omega
set_option maxHeartbeats 2000000 in
theorem move_ct (L : List SP) (b1 o1 b2 o2 : Nat) (rs1 rs2 : List Row) (hg1 : Good rs1) (hg2 : Good rs2) (n : Int) (hn : InK .i64 n) (hne : NeP Try.prog L ⟨b1, o1, none⟩ ⟨b2, o2, none⟩) : Ct Try.prog 24 #[.pointer (some ⟨b1, o1, none⟩), .pointer (some ⟨b2, o2, none⟩), .int .i64 n] (Ch b1 o1 rs1 :: Ch b2 o2 rs2 :: L) (fun q_ : List Row × List Row => .tuple #[.int .i64 ((mvK (flat rs1).length (flat rs2).length n : Nat) : Int), .int .i64 (mvE (flat rs1).length (flat rs2).length n)]) (fun q_ : List Row × List Row => pu (Good q_.1 ∧ Good q_.2 ∧ flat q_.1 = (flat rs1).drop (mvK (flat rs1).length (flat rs2).length n) ∧ flat q_.2 = flat rs2 ++ (flat rs1).take (mvK (flat rs1).length (flat rs2).length n)) :: Ch b1 o1 q_.1 :: Ch b2 o2 q_.2 :: L) := by
  refine Ct.of (vs := [.pointer (some ⟨b1, o1, none⟩), .pointer (some ⟨b2, o2, none⟩), .int .i64 n]) Try.func24 rfl rfl [(0, .pointer (some ⟨b1, o1, none⟩)), (1, .pointer (some ⟨b2, o2, none⟩)), (2, .int .i64 n)] (by repeat (first | exact trivial | refine ⟨rfl, ?_⟩)) ?_
  intro E
  show Hd E 57 _ _ _ _
  have hg1' := hg1
  have hg2' := hg2
  obtain ⟨hf1, hl1⟩ := hg1
  obtain ⟨hf2, hl2⟩ := hg2
  have hrl2 := full_len hf2
  simp only [InK] at hn
  refine Hd.seq (fun K1 hK1 => ?_)
  refine Hd.region ?_
  refine Hd.yv (y_assign rfl) ?_
  refine Hd.yv (y_assign rfl) ?_
  refine Hd.nil ?_
  refine Hd.slots [(0, _), (1, _), (2, _)] ⟨rfl, rfl, rfl, trivial⟩ ?_
  refine Hd.toK hK1 ?_
  refine Hd.seq (fun K2 hK2 => ?_)
  refine Hd.block ?_
  refine Hd.seq (fun K3 hK3 => ?_)
  refine Hd.region ?_
  refine Hd.yv (y_move rfl) ?_
  first | (refine Hd.yv (y_eql_pointer Try.underlying24 rfl rfl) ?_) | (refine Hd.yv (y_eql_ne Try.underlying24 sz27 rfl rfl rfl (NeP.mono hne (Ent.sep enn))) ?_) | (refine Hd.yv (y_eql_one Try.underlying24 sz27 rfl rfl rfl) ?_)
  refine Hd.yv (y_move rfl) ?_
  refine Hd.yg rfl rfl (y_move rfl) ?_
  first | (refine Hd.yg rfl rfl (y_eql_pointer Try.underlying24 rfl rfl) ?_) | (refine Hd.yg rfl rfl (y_eql_ne Try.underlying24 sz27 rfl rfl rfl (NeP.mono hne (Ent.sep enn))) ?_) | (refine Hd.yg rfl rfl (y_eql_one Try.underlying24 sz27 rfl rfl rfl) ?_)
  first | (refine Hd.yv (y_pickT rfl rfl) ?_) | (refine Hd.yv (y_pickF rfl rfl) ?_) | (refine Hd.yv (y_pickb rfl rfl rfl) ?_) | (refine Hd.yv (y_pick rfl rfl rfl) ?_)
  refine Hd.yv (y_assign rfl) ?_
  refine Hd.nil ?_
  refine Hd.slots [(0, _), (1, _), (2, _), (9, _)] ⟨rfl, rfl, rfl, rfl, trivial⟩ ?_
  refine Hd.toK hK3 ?_
  refine Hd.condF rfl ?_
  refine Hd.seq (fun K4 hK4 => ?_)
  refine Hd.region ?_
  refine Hd.yv (y_move rfl) ?_
  refine Hd.yv (y_move rfl) ?_
  first | (refine Hd.yv (y_eql_pointer Try.underlying24 rfl rfl) ?_) | (refine Hd.yv (y_eql_ne Try.underlying24 sz27 rfl rfl rfl (NeP.mono hne (Ent.sep enn))) ?_) | (refine Hd.yv (y_eql_one Try.underlying24 sz27 rfl rfl rfl) ?_)
  refine Hd.yv (y_move rfl) ?_
  refine Hd.yg rfl rfl (y_move rfl) ?_
  refine Hd.yg rfl rfl (y_lss rfl rfl) ?_
  first | (refine Hd.yv (y_pickT rfl rfl) ?_) | (refine Hd.yv (y_pickF rfl rfl) ?_) | (refine Hd.yv (y_pickb rfl rfl rfl) ?_) | (refine Hd.yv (y_pick rfl rfl rfl) ?_)
  refine Hd.yv (y_assign rfl) ?_
  refine Hd.nil ?_
  refine Hd.slots [(0, _), (1, _), (2, _), (16, _)] ⟨rfl, rfl, rfl, rfl, trivial⟩ ?_
  refine Hd.toK hK4 ?_
  refine Hd.cond rfl (fun hc1 => ?_) (fun hc1 => ?_)
  ·
    try simp only [decide_eq_true_eq, decide_eq_false_iff_not, Bool.and_eq_true, Bool.or_eq_true, Bool.and_eq_false_iff, Bool.or_eq_false_iff, Bool.not_eq_true', Bool.not_eq_false', Bool.not_eq_true, Bool.not_eq_false, Int.not_lt, Int.not_le, Decidable.not_not, ne_eq] at hc1
    refine Hd.seq (fun K5 hK5 => ?_)
    refine Hd.region ?_
    refine Hd.yv (y_assign rfl) ?_
    refine Hd.yv (y_assign rfl) ?_
    refine Hd.nil ?_
    refine Hd.slots [(6, _), (7, _)] ⟨rfl, rfl, trivial⟩ ?_
    refine Hd.toK hK5 ?_
    refine Hd.ret ?_
    refine Hd.inBret ?_
    refine Hd.thenRet ?_
    clear hK1 hK2 hK3 hK4 hK5
    have e1 : mvE (flat rs1).length (flat rs2).length n = 2 := by unfold mvE; rw [if_pos hc1]
    have e2 : mvK (flat rs1).length (flat rs2).length n = 0 := by unfold mvK; rw [e1]; rfl
    exact Hd.ret2 rfl (rs1, rs2) rfl rfl (by simp only [e1, e2]; rfl) (Ent.sep (.pure ⟨hg1', hg2', by rw [e2]; rfl, by rw [e2]; simp⟩ enn))
  ·
    try simp only [decide_eq_true_eq, decide_eq_false_iff_not, Bool.and_eq_true, Bool.or_eq_true, Bool.and_eq_false_iff, Bool.or_eq_false_iff, Bool.not_eq_true', Bool.not_eq_false', Bool.not_eq_true, Bool.not_eq_false, Int.not_lt, Int.not_le, Decidable.not_not, ne_eq] at hc1
    have hn0 : 0 ≤ n := by omega
    have e0 : mvE (flat rs1).length (flat rs2).length n = mayE (flat rs2).length (min n.toNat (flat rs1).length) := by unfold mvE; rw [if_neg (by omega)]
    refine Hd.exs pkk ?_
    rintro ⟨ha, hcp⟩
    simp only [List.cons_append, List.nil_append]
    refine Hd.skip ?_
    refine Hd.inB ?_
    refine Hd.toK hK2 ?_
    refine Hd.seq (fun K6 hK6 => ?_)
    refine Hd.region ?_
    refine Hd.yv (y_move rfl) ?_
    refine Hd.yv (y_move rfl) ?_
    refine Hd.yv (y_nilp rfl) ?_
    first | (refine Hd.yv (y_field' (q := 1) (ft := 3) Try.underlying27 rfl sz3 rfl rfl) ?_) | (refine Hd.yv (y_fieldR (q := 1) (ft := 3) Try.underlying27 rfl sz3 rfl rfl) ?_)
    first | (refine Hd.yv (y_load1 ag3 rfl (Rd.pt1 pkk (by (first | rfl)))) ?_) | (refine Hd.yv (y_load1 ag3 rfl (Rd.seg1 pkk (by (first | rfl)))) ?_) | (refine Hd.yv (y_loadR1 ag3 rfl (by (first | exact RdS.own pkk)) (by (first | rfl))) ?_)
    refine Hd.yv (y_min rfl rfl) ?_
    refine Hd.yv (y_assign rfl) ?_
    refine Hd.nil ?_
    refine Hd.name (b := ((min n.toNat (flat rs1).length : Nat) : Int)) 2 rfl (by omega) ?_
    refine Hd.slots [(0, _), (1, _), (2, _)] ⟨rfl, rfl, rfl, trivial⟩ ?_
    refine Hd.toK hK6 ?_
    refine Hd.seq (fun K7 hK7 => ?_)
    refine Hd.seq (fun K8 hK8 => ?_)
    refine Hd.heap (Ch b1 o1 rs1 :: Ch b2 o2 rs2 :: L) (Ent.sep (.ex (ha, hcp) enn)) ?_
    refine Hd.exs (Pick.there .here) ?_
    rintro ⟨ha2, hcp2⟩
    simp only [List.cons_append, List.nil_append]
    refine Hd.region ?_
    refine Hd.yv (y_move rfl) ?_
    refine Hd.yv (y_move rfl) ?_
    refine Hd.callE rfl fk53 (may_ct _ b2 o2 _ (flat rs2).length (min n.toNat (flat rs1).length) hl2) (Ent.sep enn) ?_
    intro _
    refine Hd.yv (y_assign rfl) ?_
    refine Hd.nil ?_
    refine Hd.slots [(0, _), (1, _), (2, _), (8, _)] ⟨rfl, rfl, rfl, rfl, trivial⟩ ?_
    refine Hd.toK hK8 ?_
    refine Hd.seq (fun K9 hK9 => ?_)
    refine Hd.region ?_
    refine Hd.yv (y_move rfl) ?_
    refine Hd.yv (y_neq rfl rfl) ?_
    refine Hd.nil ?_
    refine Hd.slots [(0, _), (1, _), (2, _), (8, _), (34, _)] ⟨rfl, rfl, rfl, rfl, rfl, trivial⟩ ?_
    refine Hd.toK hK9 ?_
    refine Hd.cond rfl (fun hc2 => ?_) (fun hc2 => ?_)
    ·
      try simp only [decide_eq_true_eq, decide_eq_false_iff_not, Bool.and_eq_true, Bool.or_eq_true, Bool.and_eq_false_iff, Bool.or_eq_false_iff, Bool.not_eq_true', Bool.not_eq_false', Bool.not_eq_true, Bool.not_eq_false, Int.not_lt, Int.not_le, Decidable.not_not, ne_eq] at hc2
      refine Hd.seq (fun K10 hK10 => ?_)
      refine Hd.region ?_
      refine Hd.yv (y_move rfl) ?_
      refine Hd.yv (y_assign rfl) ?_
      refine Hd.yv (y_assign rfl) ?_
      refine Hd.nil ?_
      refine Hd.slots [(6, _), (7, _)] ⟨rfl, rfl, trivial⟩ ?_
      refine Hd.toK hK10 ?_
      refine Hd.ret ?_
      refine Hd.thenRet ?_
      clear hK1 hK2 hK3 hK4 hK6 hK7 hK8 hK9 hK10
      have e2 : mvK (flat rs1).length (flat rs2).length n = 0 := by unfold mvK; rw [e0, if_neg hc2]
      exact Hd.ret2 rfl (rs1, rs2) rfl rfl (by simp only [e0, e2]; rfl) (Ent.sep (.pure ⟨hg1', hg2', by rw [e2]; rfl, by rw [e2]; simp⟩ (.pick pkk (.ex (ha2, hcp2) enn))))
    ·
      try simp only [decide_eq_true_eq, decide_eq_false_iff_not, Bool.and_eq_true, Bool.or_eq_true, Bool.and_eq_false_iff, Bool.or_eq_false_iff, Bool.not_eq_true', Bool.not_eq_false', Bool.not_eq_true, Bool.not_eq_false, Int.not_lt, Int.not_le, Decidable.not_not, ne_eq] at hc2
      have e2 : mvK (flat rs1).length (flat rs2).length n = min n.toNat (flat rs1).length := by unfold mvK; rw [e0, if_pos hc2]
      have hmay := mayE_zero.1 hc2
      refine Hd.skip ?_
      refine Hd.toK hK7 ?_
      refine Hd.seq (fun K11 hK11 => ?_)
      refine Hd.region ?_
      refine Hd.yv (y_move rfl) ?_
      refine Hd.yv (y_move rfl) ?_
      refine Hd.yv (y_nilp rfl) ?_
      first | (refine Hd.yv (y_field' (q := 0) (ft := 25) Try.underlying27 rfl sz25 rfl rfl) ?_) | (refine Hd.yv (y_fieldR (q := 0) (ft := 25) Try.underlying27 rfl sz25 rfl rfl) ?_)
      first | (refine Hd.yv (y_load1 ag25 rfl (Rd.pt1 pkk (by (first | rfl)))) ?_) | (refine Hd.yv (y_load1 ag25 rfl (Rd.seg1 pkk (by (first | rfl)))) ?_) | (refine Hd.yv (y_loadR1 ag25 rfl (by (first | exact RdS.own pkk)) (by (first | rfl))) ?_)
      refine Hd.call rfl fk60 (clone2_ct _ _ _ _ _ hdr_one (RdS.own pkk) (by omega)) ?_
      rintro ⟨a3, c3⟩
      dsimp only
      refine Hd.yv (y_move rfl) ?_
      refine Hd.yv (y_move rfl) ?_
      refine Hd.callE rfl fk57 (cut_ct _ b1 o1 rs1 hg1' ((min n.toNat (flat rs1).length : Nat) : Int) (by omega)) (Ent.sep enn) ?_
      rintro ⟨outs, rest, a4, c4⟩
      dsimp only
      refine Hd.pure (fun hcut => ?_)
      obtain ⟨ho, hr, hfo, hfr⟩ := hcut
      have hol := full_len hfo
      have hol2 : (flat outs).length = min n.toNat (flat rs1).length := by rw [ho, List.length_take, Int.toNat_natCast]; omega
      refine Hd.append Try.underlying25 ty22 rfl rfl rfl pkk (by first | exact RdS.rd (Rd.pt pkk (fun j v e => by simpa using e)) rfl | (first | exact RdS.own pkk)) (by first | (simp [Value.oneCell']; done) | assumption) (by first | (simp only [maxLen]; omega) | assumption) (by omega) (fun ad45 cap45 => ?_)
      refine Hd.yv (y_nilp rfl) ?_
      first | (refine Hd.yv (y_field' (q := 0) (ft := 25) Try.underlying27 rfl sz25 rfl rfl) ?_) | (refine Hd.yv (y_fieldR (q := 0) (ft := 25) Try.underlying27 rfl sz25 rfl rfl) ?_)
      first | (refine Hd.store1 sz25 rfl rfl rfl pkk (by first | decide | (simp; done) | (simp; omega)) ?_) | (refine Hd.storeG1 sz25 rfl rfl rfl pkk (by first | decide | (simp; done) | (simp; omega)) ?_) | (refine Hd.storeO1 sz25 rfl rfl rfl pkk (by first | omega | (simp; done) | (simp; omega)) ?_)
      try simp only [List.set_cons_zero, List.set_cons_succ]
      refine Hd.nil ?_
      refine Hd.slots [(1, _), (2, _)] ⟨rfl, rfl, trivial⟩ ?_
      refine Hd.toK hK11 ?_
      refine Hd.seq (fun K12 hK12 => ?_)
      refine Hd.region ?_
      refine Hd.yv (y_move rfl) ?_
      refine Hd.yv (y_nilp rfl) ?_
      first | (refine Hd.yv (y_field' (q := 1) (ft := 3) Try.underlying27 rfl sz3 rfl rfl) ?_) | (refine Hd.yv (y_fieldR (q := 1) (ft := 3) Try.underlying27 rfl sz3 rfl rfl) ?_)
      first | (refine Hd.yv (y_load1 ag3 rfl (Rd.pt1 pkk (by (first | rfl)))) ?_) | (refine Hd.yv (y_load1 ag3 rfl (Rd.seg1 pkk (by (first | rfl)))) ?_) | (refine Hd.yv (y_loadR1 ag3 rfl (by (first | exact RdS.own pkk)) (by (first | rfl))) ?_)
      refine Hd.yv (y_move rfl) ?_
      first | (refine Hd.yv (y_addn rfl rfl (by simp only [InK]; omega)) ?_) | (refine Hd.yv (y_add rfl rfl) ?_)
      refine Hd.yv (y_nilp rfl) ?_
      first | (refine Hd.yv (y_field' (q := 1) (ft := 3) Try.underlying27 rfl sz3 rfl rfl) ?_) | (refine Hd.yv (y_fieldR (q := 1) (ft := 3) Try.underlying27 rfl sz3 rfl rfl) ?_)
      first | (refine Hd.store1 sz3 rfl rfl rfl pkk (by first | decide | (simp; done) | (simp; omega)) ?_) | (refine Hd.storeG1 sz3 rfl rfl rfl pkk (by first | decide | (simp; done) | (simp; omega)) ?_) | (refine Hd.storeO1 sz3 rfl rfl rfl pkk (by first | omega | (simp; done) | (simp; omega)) ?_)
      try simp only [List.set_cons_zero, List.set_cons_succ]
      refine Hd.nil ?_
      refine Hd.slots [(2, _)] ⟨rfl, trivial⟩ ?_
      refine Hd.toK hK12 ?_
      refine Hd.seq (fun K13 hK13 => ?_)
      refine Hd.region ?_
      refine Hd.yv (y_move rfl) ?_
      refine Hd.yv (y_assign rfl) ?_
      refine Hd.yv (y_assign rfl) ?_
      refine Hd.nil ?_
      refine Hd.slots [(6, _), (7, _)] ⟨rfl, rfl, trivial⟩ ?_
      refine Hd.toK hK13 ?_
      refine Hd.ret ?_
      clear hK1 hK2 hK3 hK4 hK6 hK7 hK8 hK9 hK11 hK12 hK13
      have e3 : flat (rs2 ++ outs) = flat rs2 ++ (flat rs1).take (min n.toNat (flat rs1).length) := by rw [flat_app, ho, Int.toNat_natCast]
      refine Hd.heap _ (fun k s => joinRows_sep (a := rs2) (b := outs) pkk pkk k s) ?_
      refine Hd.ret2 rfl (rest, rs2 ++ outs) rfl rfl (by simp only [e0, e2, hc2]) (Ent.sep (.pure ⟨good_drop hg1' hr hfr, ⟨full_app hf2 hfo, ?_⟩, ?_, ?_⟩ (.pick pkk (.ex (ad45, cap45) (.eq pkk (seg_eq ?_) (.eq pkk (own_eq ?_ ?_) (.pick pkk enn)))))))
      · rw [e3]; simp; omega
      · rw [hr, e2, Int.toNat_natCast]
      · rw [e3, e2]
      · rw [e3]; simp
      · simp
      · simp
end Bc
end Go.Proofs.Ytgifpkpkkgkfeaa
