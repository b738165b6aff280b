/-
  Chains: Copy, Find, Line.
-/
import Derived.Test.YtmpemhbfgbochaaBc6
namespace Go.Proofs.Ytmpemhbfgbochaa
set_option linter.unusedSimpArgs false
set_option linter.unusedVariables false
set_option linter.unnecessarySimpa false
open Go.RX Fx
namespace Bc
theorem own0 {L M : List SP} {e sz m : Nat} {ad : Option Addr} {us : List Value} (h1 : m = 0) (h2 : us = []) (q : Ent L M) : Ent L (own e sz ad m 0 us :: M) := by subst h1; subst h2; exact .ownNil q
/-- bytes from a place on -/
def cpy (all : List UInt8) (f n : Int) : List UInt8 := if f < 0 ∨ n < 0 then [] else (all.drop f.toNat).take n.toNat
theorem take_drop_app (A R : List UInt8) (f n : Nat) (h : ((A.drop f).take n).length ≠ n) : ((A ++ R).drop f).take n = (A.drop f).take n ++ (R.drop (f - A.length)).take (n - ((A.drop f).take n).length) := by
  have hl : (A.drop f).length < n := by
    rw [List.length_take] at h
    rcases Nat.lt_or_ge (A.drop f).length n with h1 | h1
    · exact h1
    · exact absurd (Nat.min_eq_left h1) h
  rw [List.drop_append, List.take_append, List.take_of_length_le (Nat.le_of_lt hl)]
theorem take_full (A R : List UInt8) (f n : Nat) (h : ((A.drop f).take n).length = n) : ((A ++ R).drop f).take n = (A.drop f).take n := by
  have hl : n ≤ (A.drop f).length := by rw [List.length_take] at h; omega
  rw [List.drop_append, List.take_append_of_le_length hl]
theorem flat_pre {rs : List Row} (i : Nat) : flat rs = flat (rs.take i) ++ flat (rs.drop i) := by unfold flat; rw [← List.flatMap_append, List.take_append_drop]
set_option maxHeartbeats 2000000 in
theorem copy_ct (L : List SP) (b o : Nat) (rs : List Row) (hg : Good rs) (f n : Int) (hf : InK .i64 f) (hn : InK .i64 n) : Ct Try.prog 63 #[.pointer (some ⟨b, o, none⟩), .int .i64 f, .int .i64 n] (Ch b o rs :: L) (fun q_ : Option Addr × Nat => .slice q_.1 (cpy (flat rs) f n).length q_.2) (fun q_ : Option Addr × Nat => own 5 1 q_.1 (cpy (flat rs) f n).length q_.2 (bsl (cpy (flat rs) f n)) :: Ch b o rs :: L) := by
  refine Ct.ofM (vs := [.pointer (some ⟨b, o, none⟩), .int .i64 f, .int .i64 n]) Try.func63 rfl rfl [(0, .pointer (some ⟨b, o, none⟩)), (1, .int .i64 f), (2, .int .i64 n)] (by repeat (first | exact trivial | refine ⟨rfl, ?_⟩)) ?_
  intro E
  show Hd E 48 _ _ _ _
  obtain ⟨hfull, hlen⟩ := hg
  have hrl := full_len hfull
  simp only [InK] at hf hn
  refine Hd.seq (fun K1 hK1 => ?_)
  refine Hd.region ?_
  refine Hd.box rfl rfl (fun b4 => ?_)
  refine Hd.box rfl rfl (fun b5 => ?_)
  refine Hd.yv (y_assign rfl) ?_
  refine Hd.nil ?_
  refine Hd.slots [(0, _), (4, _), (5, _)] ⟨rfl, rfl, rfl, trivial⟩ ?_
  refine Hd.toK hK1 ?_
  refine Hd.scope ?_
  refine Hd.seq (fun K2 hK2 => ?_)
  refine Hd.seq (fun K3 hK3 => ?_)
  refine Hd.region ?_
  first | (refine Hd.yv (y_load1 ag3 rfl (Rd.pt1 pkk (by (first | rfl)))) ?_) | (refine Hd.yv (y_load1 ag3 rfl (Rd.seg1 pkk (by (first | rfl)))) ?_) | (refine Hd.yv (y_loadR1 ag3 rfl (by (first | exact RdS.own pkk | exact RdS.head (RdS.tail (rows_rd pkk (List.getElem_mem hi)) (by omega) (by omega)) (by omega))) (by (first | rfl))) ?_)
  refine Hd.yv (y_lss rfl rfl) ?_
  refine Hd.yv (y_move rfl) ?_
  apply Hd.org 3 12 15 [(0, _), (4, _), (5, _)] rfl ⟨rfl, rfl, rfl, trivial⟩
  · intro hg1_12
    try simp only [decide_eq_true_eq, decide_eq_false_iff_not, Bool.and_eq_true, Bool.or_eq_true, Bool.and_eq_false_iff, Bool.or_eq_false_iff, Bool.not_eq_true', Bool.not_eq_false', Bool.not_eq_true, Bool.not_eq_false, Int.not_lt, Int.not_le, Decidable.not_not, ne_eq] at hg1_12
    simp only [List.take]
    refine Hd.ng rfl rfl rfl ?_
    refine Hd.ng rfl rfl rfl ?_
    first | (refine Hd.yv (y_pickT rfl rfl) ?_) | (refine Hd.yv (y_pickF rfl rfl) ?_) | (refine Hd.yv (y_pickb rfl rfl rfl) ?_) | (refine Hd.yv (y_pick rfl rfl rfl) ?_)
    refine Hd.nil ?_
    exact Hd.mend (by repeat (first | exact trivial | refine ⟨rfl, ?_⟩)) (Ent.sep enn)
  · intro hg1_12
    try simp only [decide_eq_true_eq, decide_eq_false_iff_not, Bool.and_eq_true, Bool.or_eq_true, Bool.and_eq_false_iff, Bool.or_eq_false_iff, Bool.not_eq_true', Bool.not_eq_false', Bool.not_eq_true, Bool.not_eq_false, Int.not_lt, Int.not_le, Decidable.not_not, ne_eq] at hg1_12
    simp only [List.take]
    first | (refine Hd.yg rfl rfl (y_load1 ag3 rfl (Rd.pt1 pkk (by (first | rfl)))) ?_) | (refine Hd.yg rfl rfl (y_load1 ag3 rfl (Rd.seg1 pkk (by (first | rfl)))) ?_) | (refine Hd.yg rfl rfl (y_loadR1 ag3 rfl (by (first | exact RdS.own pkk | exact RdS.head (RdS.tail (rows_rd pkk (List.getElem_mem hi)) (by omega) (by omega)) (by omega))) (by (first | rfl))) ?_)
    refine Hd.yg rfl rfl (y_lss rfl rfl) ?_
    first | (refine Hd.yv (y_pickT rfl rfl) ?_) | (refine Hd.yv (y_pickF rfl rfl) ?_) | (refine Hd.yv (y_pickb rfl rfl rfl) ?_) | (refine Hd.yv (y_pick rfl rfl rfl) ?_)
    refine Hd.nil ?_
    exact Hd.mend (by repeat (first | exact trivial | refine ⟨rfl, ?_⟩)) (Ent.sep enn)
  simp only [List.drop]
  refine Hd.nil ?_
  refine Hd.slots [(0, _), (4, _), (5, _), (15, _)] ⟨rfl, rfl, rfl, rfl, trivial⟩ ?_
  refine Hd.toK hK3 ?_
  refine Hd.cond rfl (fun hc0 => ?_) (fun hc0 => ?_)
  ·
    try simp only [decide_eq_true_eq, decide_eq_false_iff_not, Bool.and_eq_true, Bool.or_eq_true, Bool.and_eq_false_iff, Bool.or_eq_false_iff, Bool.not_eq_true', Bool.not_eq_false', Bool.not_eq_true, Bool.not_eq_false, Int.not_lt, Int.not_le, Decidable.not_not, ne_eq] at hc0
    refine Hd.seq (fun K4 hK4 => ?_)
    refine Hd.region ?_
    refine Hd.yv (y_assign rfl) ?_
    refine Hd.nil ?_
    refine Hd.slots [(6, _)] ⟨rfl, trivial⟩ ?_
    refine Hd.toK hK4 ?_
    refine Hd.ret ?_
    refine Hd.thenRet ?_
    refine Hd.scRet ?_
    clear hK1 hK2 hK3 hK4
    have e : cpy (flat rs) f n = [] := by unfold cpy; rw [if_pos hc0]
    exact Hd.retM (fun a fr => Lv.end1 fr rfl (none, 0) (by rw [e]; rfl) (by rw [e]; exact Ent.sep (.ownNil enn)))
  ·
    try simp only [decide_eq_true_eq, decide_eq_false_iff_not, Bool.and_eq_true, Bool.or_eq_true, Bool.and_eq_false_iff, Bool.or_eq_false_iff, Bool.not_eq_true', Bool.not_eq_false', Bool.not_eq_true, Bool.not_eq_false, Int.not_lt, Int.not_le, Decidable.not_not, ne_eq] at hc0
    obtain ⟨hf0, hn0⟩ : 0 ≤ f ∧ 0 ≤ n := by omega
    have e : cpy (flat rs) f n = ((flat rs).drop f.toNat).take n.toNat := by unfold cpy; rw [if_neg (by omega)]
    refine Hd.exs pkk ?_
    rintro ⟨ha, hcp⟩
    simp only [List.cons_append, List.nil_append]
    refine Hd.skip ?_
    refine Hd.toK hK2 ?_
    refine Hd.seq (fun K5 hK5 => ?_)
    refine Hd.region ?_
    refine Hd.alloc zr39 (fun b7 => ?_)
    refine Hd.nil ?_
    refine Hd.slots [(0, _), (4, _), (5, _), (7, _)] ⟨rfl, rfl, rfl, rfl, trivial⟩ ?_
    refine Hd.toK hK5 ?_
    refine Hd.seq (fun K6 hK6 => ?_)
    refine Hd.label ?_
    refine Hd.toK hK6 ?_
    refine Hd.seq (fun K7 hK7 => ?_)
    refine Hd.seq (fun K8 hK8 => ?_)
    refine Hd.region ?_
    refine Hd.yv (y_move rfl) ?_
    refine Hd.callE rfl fk75 (chunks_ct _ _) (Ent.sep enn) ?_
    intro bc
    refine Hd.nil ?_
    refine Hd.slots [(4, _), (5, _), (7, _), (17, _)] ⟨rfl, rfl, rfl, rfl, trivial⟩ ?_
    refine Hd.toK hK8 ?_
    refine Hd.block ?_
    refine Hd.rangeF (enc := encA) (S := fun xs => xs = ats rs 0) (Sp := SpA rs)
      (fun pre => (RX.ex fun i : Option Addr × Nat => [pt b7 [.slice i.1 (((flat (rs.take pre.length)).drop f.toNat).take n.toNat).length i.2] 39, own 5 1 i.1 (((flat (rs.take pre.length)).drop f.toNat).take n.toNat).length i.2 (bsl (((flat (rs.take pre.length)).drop f.toNat).take n.toNat))]) :: pt b4 [.int .i64 f] 3 :: pt b5 [.int .i64 n] 3 :: rows rs :: L)
      (fun j pre => [pu (j = some 0), RX.ex fun i : Option Addr × Nat => [pt b7 [.slice i.1 (cpy (flat rs) f n).length i.2] 39, own 5 1 i.1 (cpy (flat rs) f n).length i.2 (bsl (cpy (flat rs) f n))]] ++ (rows rs :: L))
      rfl (by kernel_rfl) (fun _ => rfl) rfl (chunks_it bc b o rs ha hcp _ hlen (by omega)) (Ent.sep (.ex (none, 0) (.eq pkk (pt_eq (by simp [flat])) (own0 (by simp [flat]) (by simp [flat]) (.pick pkk (.pick pkk (.pick pkk ent3))))))) ?_ ?_ ?_
    ·
      intro E l' R pre c N hR hG
      obtain ⟨i, hi, hpre, rfl, hpl⟩ := spA_last hG
      unfold Rnd
      simp only [List.cons_append, List.nil_append, pz, encA]
      refine Hd.seq (fun K9 hK9 => ?_)
      refine Hd.region ?_
      refine Hd.yv (y_assign rfl) ?_
      refine Hd.nil ?_
      refine Hd.slots [(4, _), (5, _), (7, _), (8, _), (19, _)] ⟨rfl, rfl, rfl, rfl, rfl, trivial⟩ ?_
      refine Hd.toK hK9 ?_
      refine Hd.region ?_
      refine Hd.yv (y_assign rfl) ?_
      refine Hd.nil ?_
      refine Hd.slots [(4, _), (5, _), (7, _), (8, _), (9, _)] ⟨rfl, rfl, rfl, rfl, rfl, trivial⟩ ?_
      refine Hd.thenN ?_
      refine Hd.begin hR pkk ?_
      refine Hd.block ?_
      refine Hd.seq (fun K10 hK10 => ?_)
      refine Hd.seq (fun K11 hK11 => ?_)
      rw [hpl]
      have e1 := flat_take_succ hi
      have e2 := flat_take_le (rs := rs) (i + 1)
      rw [e1, List.length_append] at e2
      have hout : (((flat (rs.take i)).drop f.toNat).take n.toNat).length ≤ n.toNat := by rw [List.length_take]; omega
      have hout2 : (((flat (rs.take i)).drop f.toNat).take n.toNat).length ≤ 1048576 := by rw [List.length_take, List.length_drop]; omega
      refine Hd.exs pkk ?_
      rintro ⟨a4, c4⟩
      simp only [List.cons_append, List.nil_append]
      refine Hd.rowsCap (rs := rs) pkk (fun hcaps => ?_)
      have hcap0 := hcaps _ (List.getElem_mem hi)
      refine Hd.region ?_
      first | (refine Hd.yv (y_load1 ag39 rfl (Rd.pt1 pkk (by (first | rfl)))) ?_) | (refine Hd.yv (y_load1 ag39 rfl (Rd.seg1 pkk (by (first | rfl)))) ?_) | (refine Hd.yv (y_loadR1 ag39 rfl (by (first | exact RdS.own pkk | exact RdS.head (RdS.tail (rows_rd pkk (List.getElem_mem hi)) (by omega) (by omega)) (by omega))) (by (first | rfl))) ?_)
      refine Hd.yv (y_len Try.underlying39 rfl) ?_
      first | (refine Hd.yv (y_load1 ag3 rfl (Rd.pt1 pkk (by (first | rfl)))) ?_) | (refine Hd.yv (y_load1 ag3 rfl (Rd.seg1 pkk (by (first | rfl)))) ?_) | (refine Hd.yv (y_loadR1 ag3 rfl (by (first | exact RdS.own pkk | exact RdS.head (RdS.tail (rows_rd pkk (List.getElem_mem hi)) (by omega) (by omega)) (by omega))) (by (first | rfl))) ?_)
      first | (refine Hd.yv (y_eqlT rfl rfl) ?_) | (refine Hd.yv (y_eql rfl rfl) ?_)
      refine Hd.nil ?_
      refine Hd.slots [(4, _), (5, _), (7, _), (8, _), (9, _), (23, _)] ⟨rfl, rfl, rfl, rfl, rfl, rfl, trivial⟩ ?_
      refine Hd.toK hK11 ?_
      refine Hd.cond rfl (fun hc1 => ?_) (fun hc1 => ?_)
      ·
        try simp only [decide_eq_true_eq, decide_eq_false_iff_not, Bool.and_eq_true, Bool.or_eq_true, Bool.and_eq_false_iff, Bool.or_eq_false_iff, Bool.not_eq_true', Bool.not_eq_false', Bool.not_eq_true, Bool.not_eq_false, Int.not_lt, Int.not_le, Decidable.not_not, ne_eq] at hc1
        refine Hd.exit ?_
        refine Hd.thenExit ?_
        refine Hd.inBexit' rfl ?_
        clear hK1 hK2 hK3 hK5 hK6 hK7 hK8 hK9 hK10 hK11
        refine Hd.reX ?_
        simp only [List.cons_append, List.nil_append]
        have hc1' : (((flat (rs.take i)).drop f.toNat).take n.toNat).length = n.toNat := by omega
        have e3 : cpy (flat rs) f n = ((flat (rs.take i)).drop f.toNat).take n.toNat := by rw [e, flat_pre i, take_full _ _ _ _ hc1']
        exact Ent.sep (.pick pkk (.pure (by first | trivial | rfl) (.ex (a4, c4) (.eq pkk (pt_eq (by rw [e3])) (.eq pkk (own_eq (by rw [e3]) (by rw [e3])) enn)))))
      ·
        try simp only [decide_eq_true_eq, decide_eq_false_iff_not, Bool.and_eq_true, Bool.or_eq_true, Bool.and_eq_false_iff, Bool.or_eq_false_iff, Bool.not_eq_true', Bool.not_eq_false', Bool.not_eq_true, Bool.not_eq_false, Int.not_lt, Int.not_le, Decidable.not_not, ne_eq] at hc1
        have hc1' : (((flat (rs.take i)).drop f.toNat).take n.toNat).length ≠ n.toNat := by omega
        refine Hd.skip ?_
        refine Hd.toK hK10 ?_
        refine Hd.seq (fun K12 hK12 => ?_)
        refine Hd.region ?_
        refine Hd.yv (y_move rfl) ?_
        refine Hd.yv (y_move rfl) ?_
        refine Hd.yv (y_len Try.underlying39 rfl) ?_
        first | (refine Hd.yv (y_addn rfl rfl (by simp only [InK]; omega)) ?_) | (refine Hd.yv (y_add rfl rfl) ?_)
        first | (refine Hd.yv (y_load1 ag3 rfl (Rd.pt1 pkk (by (first | rfl)))) ?_) | (refine Hd.yv (y_load1 ag3 rfl (Rd.seg1 pkk (by (first | rfl)))) ?_) | (refine Hd.yv (y_loadR1 ag3 rfl (by (first | exact RdS.own pkk | exact RdS.head (RdS.tail (rows_rd pkk (List.getElem_mem hi)) (by omega) (by omega)) (by omega))) (by (first | rfl))) ?_)
        refine Hd.yv (y_gtr rfl rfl) ?_
        refine Hd.nil ?_
        refine Hd.slots [(4, _), (5, _), (7, _), (8, _), (9, _), (29, _)] ⟨rfl, rfl, rfl, rfl, rfl, rfl, trivial⟩ ?_
        refine Hd.toK hK12 ?_
        refine Hd.cond rfl (fun hc2 => ?_) (fun hc2 => ?_)
        ·
          try simp only [decide_eq_true_eq, decide_eq_false_iff_not, Bool.and_eq_true, Bool.or_eq_true, Bool.and_eq_false_iff, Bool.or_eq_false_iff, Bool.not_eq_true', Bool.not_eq_false', Bool.not_eq_true, Bool.not_eq_false, Int.not_lt, Int.not_le, Decidable.not_not, ne_eq] at hc2
          refine Hd.seq (fun K13 hK13 => ?_)
          refine Hd.region ?_
          refine Hd.yv (y_move rfl) ?_
          first | (refine Hd.yv (y_load1 ag3 rfl (Rd.pt1 pkk (by (first | rfl)))) ?_) | (refine Hd.yv (y_load1 ag3 rfl (Rd.seg1 pkk (by (first | rfl)))) ?_) | (refine Hd.yv (y_loadR1 ag3 rfl (by (first | exact RdS.own pkk | exact RdS.head (RdS.tail (rows_rd pkk (List.getElem_mem hi)) (by omega) (by omega)) (by omega))) (by (first | rfl))) ?_)
          refine Hd.yv (y_move rfl) ?_
          first | (refine Hd.yv (y_subn rfl rfl (by simp only [InK]; omega)) ?_) | (refine Hd.yv (y_sub rfl rfl) ?_)
          refine Hd.yv (y_max rfl rfl) ?_
          refine Hd.name (b := ((f.toNat - (flat (rs.take i)).length : Nat) : Int)) 34 rfl (by omega) ?_
          first | (refine Hd.yv (y_slo_oxxN Try.underlying39 sz5 rfl rfl (by first | omega | (simp; done) | decide)) ?_) | (refine Hd.yv (y_slo_oxx Try.underlying39 sz5 rfl rfl (by first | omega | (simp; done) | decide) (by first | omega | (simp; done) | decide)) ?_)
          refine Hd.yv (y_assign rfl) ?_
          refine Hd.nil ?_
          refine Hd.slots [(5, _), (7, _), (9, _)] ⟨rfl, rfl, rfl, trivial⟩ ?_
          refine Hd.toK hK13 ?_
          refine Hd.drawsH ([pt b7 [.slice a4 (((flat (rs.take i)).drop f.toNat).take n.toNat).length c4] 39, pt b5 [.int .i64 n] 3]) (fun j => !([11].contains j)) mixed ?_
          simp only [List.length, Nat.zero_add, Nat.reduceAdd]
          first | (refine Hd.takeH 0 rfl (by kernel_rfl) (by kernel_rfl) (by kernel_rfl) (by kernel_rfl) (y_load1 ag39 rfl (Rd.pt1 pkk (by (first | rfl)))) (fun _ _ => rfl) (Ent.sep enn) ?_) | (refine Hd.takeH 0 rfl (by kernel_rfl) (by kernel_rfl) (by kernel_rfl) (by kernel_rfl) (y_load1 ag39 rfl (Rd.seg1 pkk (by (first | rfl)))) (fun _ _ => rfl) (Ent.sep enn) ?_) | (refine Hd.takeH 0 rfl (by kernel_rfl) (by kernel_rfl) (by kernel_rfl) (by kernel_rfl) (y_loadR1 ag39 rfl (by (first | exact RdS.own pkk | exact RdS.head (RdS.tail (rows_rd pkk (List.getElem_mem hi)) (by omega) (by omega)) (by omega))) (by (first | rfl))) (fun _ _ => rfl) (Ent.sep enn) ?_)
          refine Hd.takeH 1 rfl (by kernel_rfl) (by kernel_rfl) (by kernel_rfl) (by kernel_rfl) (y_move rfl) (fun _ _ => rfl) (Ent.sep enn) ?_
          refine Hd.takeH 2 rfl (by kernel_rfl) (by kernel_rfl) (by kernel_rfl) (by kernel_rfl) (y_move rfl) (fun _ _ => rfl) (Ent.sep enn) ?_
          refine Hd.takeH 3 rfl (by kernel_rfl) (by kernel_rfl) (by kernel_rfl) (by kernel_rfl) (y_len Try.underlying39 rfl) (fun _ _ => rfl) (Ent.sep enn) ?_
          first | (refine Hd.takeH 4 rfl (by kernel_rfl) (by kernel_rfl) (by kernel_rfl) (by kernel_rfl) (y_load1 ag3 rfl (Rd.pt1 pkk (by (first | rfl)))) (fun _ _ => rfl) (Ent.sep enn) ?_) | (refine Hd.takeH 4 rfl (by kernel_rfl) (by kernel_rfl) (by kernel_rfl) (by kernel_rfl) (y_load1 ag3 rfl (Rd.seg1 pkk (by (first | rfl)))) (fun _ _ => rfl) (Ent.sep enn) ?_) | (refine Hd.takeH 4 rfl (by kernel_rfl) (by kernel_rfl) (by kernel_rfl) (by kernel_rfl) (y_loadR1 ag3 rfl (by (first | exact RdS.own pkk | exact RdS.head (RdS.tail (rows_rd pkk (List.getElem_mem hi)) (by omega) (by omega)) (by omega))) (by (first | rfl))) (fun _ _ => rfl) (Ent.sep enn) ?_)
          first | (refine Hd.takeH 5 rfl (by kernel_rfl) (by kernel_rfl) (by kernel_rfl) (by kernel_rfl) (y_load1 ag39 rfl (Rd.pt1 pkk (by (first | rfl)))) (fun _ _ => rfl) (Ent.sep enn) ?_) | (refine Hd.takeH 5 rfl (by kernel_rfl) (by kernel_rfl) (by kernel_rfl) (by kernel_rfl) (y_load1 ag39 rfl (Rd.seg1 pkk (by (first | rfl)))) (fun _ _ => rfl) (Ent.sep enn) ?_) | (refine Hd.takeH 5 rfl (by kernel_rfl) (by kernel_rfl) (by kernel_rfl) (by kernel_rfl) (y_loadR1 ag39 rfl (by (first | exact RdS.own pkk | exact RdS.head (RdS.tail (rows_rd pkk (List.getElem_mem hi)) (by omega) (by omega)) (by omega))) (by (first | rfl))) (fun _ _ => rfl) (Ent.sep enn) ?_)
          refine Hd.takeH 6 rfl (by kernel_rfl) (by kernel_rfl) (by kernel_rfl) (by kernel_rfl) (y_len Try.underlying39 rfl) (fun _ _ => rfl) (Ent.sep enn) ?_
          first | (refine Hd.takeH 7 rfl (by kernel_rfl) (by kernel_rfl) (by kernel_rfl) (by kernel_rfl) (y_subn rfl rfl (by simp only [InK]; omega)) (fun _ _ => rfl) (Ent.sep enn) ?_) | (refine Hd.takeH 7 rfl (by kernel_rfl) (by kernel_rfl) (by kernel_rfl) (by kernel_rfl) (y_sub rfl rfl) (fun _ _ => rfl) (Ent.sep enn) ?_)
          refine Hd.takeH 8 rfl (by kernel_rfl) (by kernel_rfl) (by kernel_rfl) (by kernel_rfl) (y_min rfl rfl) (fun _ _ => rfl) (Ent.sep enn) ?_
          refine Hd.name (b := ((min (rs[i].l.length - (f.toNat - (flat (rs.take i)).length)) (n.toNat - (((flat (rs.take i)).drop f.toNat).take n.toNat).length) : Nat) : Int)) 44 rfl (by omega) ?_
          first | (refine Hd.takeH 9 rfl (by kernel_rfl) (by kernel_rfl) (by kernel_rfl) (by kernel_rfl) (y_slo_xoxN Try.underlying39 sz5 rfl rfl (by first | omega | (simp; done) | decide)) (fun _ _ => rfl) (Ent.sep enn) ?_) | (refine Hd.takeH 9 rfl (by kernel_rfl) (by kernel_rfl) (by kernel_rfl) (by kernel_rfl) (y_slo_xox Try.underlying39 sz5 rfl rfl (by first | omega | (simp; done) | decide) (by first | omega | (simp; done) | decide)) (fun _ _ => rfl) (Ent.sep enn) ?_)
          refine Hd.onlyH 10 rfl (by kernel_rfl) ?_
          refine Hd.append Try.underlying39 ty5 rfl rfl rfl pkk (by first | exact RdS.rd (Rd.pt pkk (fun j v e => by simpa using e)) rfl | (first | exact RdS.own pkk | exact RdS.head (RdS.tail (rows_rd pkk (List.getElem_mem hi)) (by omega) (by omega)) (by omega))) (by first | (simp [Value.oneCell']; done) | assumption | exact fun u hu => B_one (l := rs[i].l) u (List.mem_of_mem_drop (List.mem_of_mem_take hu))) (by first | (simp only [maxLen]; omega) | assumption) (by omega) (fun ad46 cap46 => ?_)
          refine Hd.nil ?_
          refine Hd.thenN ?_
          refine Hd.heldK (J := (fun j => !([11].contains j))) (i := 10) (Ent.sep enn) ?_
          refine Hd.onlyH 11 rfl (by kernel_rfl) ?_
          first | (refine Hd.store1 sz39 rfl rfl rfl pkk (by first | decide | (simp; done) | (simp; omega)) ?_) | (refine Hd.storeG1 sz39 rfl rfl rfl pkk (by first | decide | (simp; done) | (simp; omega)) ?_) | (refine Hd.storeO1 sz39 rfl rfl rfl pkk (by first | omega | (simp; done) | (simp; omega)) ?_)
          try simp only [List.set_cons_zero, List.set_cons_succ]
          refine Hd.nil ?_
          refine Hd.thenN ?_
          refine Hd.heldN (J := (fun j => !([11].contains j))) (i := 11) rfl ?_
          refine Hd.endH (by kernel_rfl) ?_
          refine Hd.slots [(7, _)] ⟨rfl, trivial⟩ ?_
          refine Hd.inB ?_
          clear hK1 hK2 hK3 hK5 hK6 hK7 hK8 hK9 hK10 hK11 hK12 hK13
          refine Hd.reN ?_
          simp only [List.cons_append, List.nil_append]
          have e4 := take_drop_app (flat (rs.take i)) rs[i].l f.toNat n.toNat hc1'
          rw [← e1] at e4
          refine Ent.sep (.pick pkk (.ex (ad46, cap46) (.eq pkk (pt_eq ?_) (.eq pkk (own_eq ?_ ?_) enn))))
          · simp only [List.length_append, List.length_cons, List.length_nil, hpl, Nat.zero_add]
            rw [e4, List.length_append]
            simp only [List.length_take, List.length_drop]
            congr 2; omega
          · simp only [List.length_append, List.length_cons, List.length_nil, hpl, Nat.zero_add]
            rw [e4, List.length_append]
            simp only [List.length_take, List.length_drop]
            omega
          · simp only [List.length_append, List.length_cons, List.length_nil, hpl, Nat.zero_add]
            rw [e4]
            simp [List.map_take, List.map_drop]
            omega
        ·
          try simp only [decide_eq_true_eq, decide_eq_false_iff_not, Bool.and_eq_true, Bool.or_eq_true, Bool.and_eq_false_iff, Bool.or_eq_false_iff, Bool.not_eq_true', Bool.not_eq_false', Bool.not_eq_true, Bool.not_eq_false, Int.not_lt, Int.not_le, Decidable.not_not, ne_eq] at hc2
          refine Hd.skip ?_
          refine Hd.inB ?_
          clear hK1 hK2 hK3 hK5 hK6 hK7 hK8 hK9 hK10 hK11 hK12
          refine Hd.reN ?_
          simp only [List.cons_append, List.nil_append]
          have e4 : ((flat (rs.take (i + 1))).drop f.toNat).take n.toNat = ((flat (rs.take i)).drop f.toNat).take n.toNat := by
            rw [e1, List.drop_append, List.drop_of_length_le (show rs[i].l.length ≤ f.toNat - (flat (rs.take i)).length by omega), List.append_nil]
          refine Ent.sep (.pick pkk (.ex (a4, c4) (.eq pkk (pt_eq ?_) (.eq pkk (own_eq ?_ ?_) enn))))
          all_goals simp only [List.length_append, List.length_cons, List.length_nil, hpl, Nat.zero_add, e4]
    ·
      intro r0 xs hxs
      have hxs' : xs = ats rs 0 := hxs
      subst hxs'
      rw [ats_len, List.take_length, ← e]
      try simp only [List.cons_append, List.nil_append]
      refine Hd.inB ?_
      refine Hd.toK hK7 ?_
      refine Hd.seq (fun K14 hK14 => ?_)
      refine Hd.exs pkk ?_
      rintro ⟨a4, c4⟩
      simp only [List.cons_append, List.nil_append]
      refine Hd.region ?_
      first | (refine Hd.yv (y_load1 ag39 rfl (Rd.pt1 pkk (by (first | rfl)))) ?_) | (refine Hd.yv (y_load1 ag39 rfl (Rd.seg1 pkk (by (first | rfl)))) ?_) | (refine Hd.yv (y_loadR1 ag39 rfl (by (first | exact RdS.own pkk | exact RdS.head (RdS.tail (rows_rd pkk (List.getElem_mem hi)) (by omega) (by omega)) (by omega))) (by (first | rfl))) ?_)
      refine Hd.yv (y_assign rfl) ?_
      refine Hd.nil ?_
      refine Hd.slots [(6, _)] ⟨rfl, trivial⟩ ?_
      refine Hd.toK hK14 ?_
      refine Hd.ret ?_
      refine Hd.scRet ?_
      clear hK1 hK2 hK3 hK5 hK6 hK7 hK8 hK14
      exact Hd.retM (fun a fr => Lv.mark pkk (Lv.end1 fr rfl (a4, c4) rfl (Ent.sep (.pick pkk (.ex (ha, hcp) enn)))))
    ·
      rintro r0_0 (_ | id0) pre0 hG0
      ·
        exact Hd.absurd (by first | exact id | simp)
      ·
        by_cases hid0 : id0 = 0
        · subst hid0
          simp only [List.cons_append, List.nil_append]
          refine Hd.pure (fun _ => ?_)
          try simp only [List.cons_append, List.nil_append]
          refine Hd.exit ?_
          refine Hd.inBexit ?_
          refine Hd.toK hK7 ?_
          refine Hd.seq (fun K15 hK15 => ?_)
          refine Hd.exs pkk ?_
          rintro ⟨a4, c4⟩
          simp only [List.cons_append, List.nil_append]
          refine Hd.region ?_
          first | (refine Hd.yv (y_load1 ag39 rfl (Rd.pt1 pkk (by (first | rfl)))) ?_) | (refine Hd.yv (y_load1 ag39 rfl (Rd.seg1 pkk (by (first | rfl)))) ?_) | (refine Hd.yv (y_loadR1 ag39 rfl (by (first | exact RdS.own pkk | exact RdS.head (RdS.tail (rows_rd pkk (List.getElem_mem hi)) (by omega) (by omega)) (by omega))) (by (first | rfl))) ?_)
          refine Hd.yv (y_assign rfl) ?_
          refine Hd.nil ?_
          refine Hd.slots [(6, _)] ⟨rfl, trivial⟩ ?_
          refine Hd.toK hK15 ?_
          refine Hd.ret ?_
          refine Hd.scRet ?_
          clear hK1 hK2 hK3 hK5 hK6 hK7 hK8 hK15
          exact Hd.retM (fun a fr => Lv.mark pkk (Lv.end1 fr rfl (a4, c4) rfl (Ent.sep (.pick pkk (.ex (ha, hcp) enn)))))
        · exact Hd.absurd (by first | exact hid0 | (simpa using hid0))
end Bc
end Go.Proofs.Ytmpemhbfgbochaa
