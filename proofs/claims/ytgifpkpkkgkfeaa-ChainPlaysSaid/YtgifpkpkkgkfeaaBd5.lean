/-
  That the law ChainPlays answers true.
-/
import Derived.Test.YtgifpkpkkgkfeaaBd4
namespace Go.Proofs.Ytgifpkpkkgkfeaa
set_option linter.unusedSimpArgs false
set_option linter.unusedVariables false
set_option linter.unnecessarySimpa false
open Go.RX Fx
namespace Bc
section
variable {E : World} {n : Nat} {ds : List Deferred} {st : List (Nat × Value)} {L L' L2 : List SP} {K : Act → World → Prop}
theorem mkRf_sep {b : Nat} (p : Pick L (pt b [.slice none 0 0] 55) L') (k : PH) (s : sep L k) : sep (Rf b 0 (flat ([] : List Row)) :: L') k := by
  have s1 := pt_open (p.sep s)
  exact Ent.sep (.ex (none, 0) (.pick .here (.ownNil (.skip .same)))) k s1
theorem Hd.mkRf {b : Nat} (p : Pick L (pt b [.slice none 0 0] 55) L') (h : Hd E n ds st (Rf b 0 (flat ([] : List Row)) :: L') K) : Hd E n ds st L K := Hd.heap _ (fun k s => mkRf_sep p k s) h
end
set_option maxHeartbeats 2000000 in
theorem playsLaw_ct (L : List SP) (ad : Option Addr) (c : Nat) (xs : List Opv) (hR : RdS L 6 ad xs.length (xs.flatMap encO)) (hok : ∀ o ∈ xs, OpOk L o) : Ct Try.prog 8 #[.slice ad xs.length c] (L) (fun _ : Unit => .bool true) (fun _ : Unit => L) := by
  refine Ct.of (vs := [.slice ad xs.length c]) Try.func8 rfl rfl [(0, .slice ad xs.length c)] (by repeat (first | exact trivial | refine ⟨rfl, ?_⟩)) ?_
  intro E
  show Hd E 86 _ _ _ _
  refine Hd.seq (fun K1 hK1 => ?_)
  refine Hd.region ?_
  refine Hd.yv (y_assign rfl) ?_
  refine Hd.nil ?_
  refine Hd.slots [(0, _)] ⟨rfl, trivial⟩ ?_
  refine Hd.toK hK1 ?_
  refine Hd.seq (fun K2 hK2 => ?_)
  refine Hd.seq (fun K3 hK3 => ?_)
  refine Hd.region ?_
  refine Hd.yv (y_move rfl) ?_
  refine Hd.callE rfl fk26 (great_ct _ ad c xs hR) (Ent.sep enn) ?_
  intro g
  refine Hd.pure (fun hgr => ?_)
  refine Hd.nil ?_
  refine Hd.slots [(0, _), (10, _)] ⟨rfl, rfl, trivial⟩ ?_
  refine Hd.toK hK3 ?_
  refine Hd.cond rfl (fun hc0 => ?_) (fun hc0 => ?_)
  ·
    try simp only [decide_eq_true_eq, decide_eq_false_iff_not, Bool.and_eq_true, Bool.or_eq_true, Bool.and_eq_false_iff, Bool.or_eq_false_iff, Bool.not_eq_true', Bool.not_eq_false', Bool.not_eq_true, Bool.not_eq_false, Int.not_lt, Int.not_le, Decidable.not_not, ne_eq] at hc0
    refine Hd.seq (fun K4 hK4 => ?_)
    refine Hd.region ?_
    refine Hd.yv (y_assign rfl) ?_
    refine Hd.nil ?_
    refine Hd.slots [(2, _)] ⟨rfl, trivial⟩ ?_
    refine Hd.toK hK4 ?_
    refine Hd.ret ?_
    refine Hd.thenRet ?_
    clear hK1 hK2 hK3 hK4
    exact Hd.ret1 rfl () (by first | rfl | (simp only [*]; done) | (simp [*]; done)) (Ent.sep enn)
  ·
    try simp only [decide_eq_true_eq, decide_eq_false_iff_not, Bool.and_eq_true, Bool.or_eq_true, Bool.and_eq_false_iff, Bool.or_eq_false_iff, Bool.not_eq_true', Bool.not_eq_false', Bool.not_eq_true, Bool.not_eq_false, Int.not_lt, Int.not_le, Decidable.not_not, ne_eq] at hc0
    obtain rfl : g = false := by simpa using hc0
    obtain ⟨hx, hws⟩ := hgr rfl
    refine Hd.skip ?_
    refine Hd.toK hK2 ?_
    refine Hd.seq (fun K5 hK5 => ?_)
    refine Hd.region ?_
    refine Hd.yv (y_build (vs := []) rfl (by first | exact bd8_11 .. | kernel_rfl)) ?_
    refine Hd.box rfl rfl (fun b12 => ?_)
    refine Hd.yv (y_build (vs := []) rfl (by first | exact bd8_13 .. | kernel_rfl)) ?_
    refine Hd.box rfl rfl (fun b14 => ?_)
    refine Hd.yv (y_assign rfl) ?_
    refine Hd.yv (y_assign rfl) ?_
    refine Hd.nil ?_
    refine Hd.mkCh (b := b12) pkk ?_
    refine Hd.mkCh (b := b14) pkk ?_
    refine Hd.slots [(0, _), (3, _), (4, _)] ⟨rfl, rfl, rfl, trivial⟩ ?_
    refine Hd.toK hK5 ?_
    refine Hd.seq (fun K6 hK6 => ?_)
    refine Hd.region ?_
    refine Hd.yv (y_build (vs := []) rfl (by first | exact bd8_15 .. | kernel_rfl)) ?_
    refine Hd.box rfl rfl (fun b16 => ?_)
    refine Hd.yv (y_build (vs := []) rfl (by first | exact bd8_17 .. | kernel_rfl)) ?_
    refine Hd.box rfl rfl (fun b18 => ?_)
    refine Hd.yv (y_assign rfl) ?_
    refine Hd.yv (y_assign rfl) ?_
    refine Hd.nil ?_
    refine Hd.mkRf (b := b16) pkk ?_
    refine Hd.mkRf (b := b18) pkk ?_
    refine Hd.slots [(0, _), (3, _), (4, _), (5, _), (6, _)] ⟨rfl, rfl, rfl, rfl, rfl, trivial⟩ ?_
    refine Hd.toK hK6 ?_
    refine Hd.seq (fun K7 hK7 => ?_)
    refine Hd.seq (fun K8 hK8 => ?_)
    refine Hd.region ?_
    refine Hd.yv (y_move rfl) ?_
    refine Hd.yv (y_len Try.underlying51 rfl) ?_
    refine Hd.yv (y_move rfl) ?_
    refine Hd.nil ?_
    refine Hd.slots [(0, _), (3, _), (4, _), (5, _), (6, _), (20, _), (21, _)] ⟨rfl, rfl, rfl, rfl, rfl, rfl, rfl, trivial⟩ ?_
    refine Hd.toK hK8 ?_
    refine Hd.block ?_
    refine Hd.loopK (ι := Nat × List Row × List Row) [(0, _), (3, _), (4, _), (5, _), (6, _), (20, _)] (fun q_ => [(21, .int .i64 (q_.1 : Int))]) (fun q_ => pu (q_.1 ≤ xs.length ∧ Good q_.2.1 ∧ Good q_.2.2) :: Ch b12 0 q_.2.1 :: Ch b14 0 q_.2.2 :: Rf b16 0 (flat q_.2.1) :: Rf b18 0 (flat q_.2.2) :: KdC b12 :: KdC b14 :: L) (fun q_ => xs.length - q_.1) (0, [], []) (by repeat (first | exact trivial | refine ⟨rfl, ?_⟩)) (by repeat (first | exact trivial | refine ⟨rfl, ?_⟩)) (Ent.sep (.pure ⟨Nat.zero_le _, good_nil, good_nil⟩ enn)) ?_
    rintro ⟨i, rs1, rs2⟩
    try dsimp only
    refine Hd.pure (fun hp0 => ?_)
    try dsimp only at hp0
    refine Hd.seq (fun K9 hK9 => ?_)
    refine Hd.region ?_
    refine Hd.yv (y_lss rfl rfl) ?_
    refine Hd.nil ?_
    refine Hd.slots [(0, _), (3, _), (4, _), (5, _), (6, _), (20, _), (21, _), (22, _)] ⟨rfl, rfl, rfl, rfl, rfl, rfl, rfl, rfl, trivial⟩ ?_
    refine Hd.toK hK9 ?_
    refine Hd.seq (fun K10 hK10 => ?_)
    refine Hd.cond rfl (fun hc1 => ?_) (fun hc1 => ?_)
    ·
      try simp only [decide_eq_true_eq, decide_eq_false_iff_not, Bool.and_eq_true, Bool.or_eq_true, Bool.and_eq_false_iff, Bool.or_eq_false_iff, Bool.not_eq_true', Bool.not_eq_false', Bool.not_eq_true, Bool.not_eq_false, Int.not_lt, Int.not_le, Decidable.not_not, ne_eq] at hc1
      obtain ⟨_, hg1, hg2⟩ := hp0
      have hi : i < xs.length := by omega
      obtain ⟨o, ho⟩ : ∃ o, xs[i]? = some o := ⟨_, List.getElem?_eq_getElem hi⟩
      have hoo := hok o (List.mem_of_getElem? ho)
      have hwo := hws o (List.mem_of_getElem? ho)
      have hwh := hoo.wh
      simp only [InK] at hwh
      refine Hd.skip ?_
      refine Hd.toK hK10 ?_
      refine Hd.seq (fun K11 hK11 => ?_)
      refine Hd.block ?_
      refine Hd.seq (fun K12 hK12 => ?_)
      refine Hd.region ?_
      refine Hd.yv (y_move rfl) ?_
      refine Hd.yv (y_assign rfl) ?_
      refine Hd.nil ?_
      refine Hd.slots [(0, _), (3, _), (4, _), (5, _), (6, _), (7, _), (20, _), (21, _)] ⟨rfl, rfl, rfl, rfl, rfl, rfl, rfl, rfl, trivial⟩ ?_
      refine Hd.toK hK12 ?_
      refine Hd.seq (fun K13 hK13 => ?_)
      refine Hd.region ?_
      refine Hd.yv (y_assign rfl) ?_
      refine Hd.nil ?_
      refine Hd.slots [(0, _), (3, _), (4, _), (5, _), (6, _), (7, _), (20, _), (21, _)] ⟨rfl, rfl, rfl, rfl, rfl, rfl, rfl, rfl, trivial⟩ ?_
      refine Hd.toK hK13 ?_
      refine Hd.cutK (ι := List Row × List Row) [(0, _), (3, _), (4, _), (5, _), (6, _), (20, _), (21, _)] (fun _ => [(8, .bool true)]) (fun j => pu (Good j.1 ∧ Good j.2) :: Ch b12 0 j.1 :: Ch b14 0 j.2 :: Rf b16 0 (flat j.1) :: Rf b18 0 (flat j.2) :: KdC b12 :: KdC b14 :: L) ?_ ?_ ⟨rfl, rfl, rfl, rfl, rfl, rfl, rfl, trivial⟩
      ·
        refine Hd.seq (fun K14 hK14 => ?_)
        refine Hd.region ?_
        refine Hd.yv (y_move rfl) ?_
        refine Hd.yv (y_move rfl) ?_
        first | (refine Hd.yv (y_idxS Try.underlying51 sz36 rfl rfl (by first | omega | decide)) ?_) | (refine Hd.yv (y_idxR Try.underlying51 sz36 rfl rfl (by first | omega | decide) (by (first | exact RdS.own pkk | exact RdS.mono hR (Ent.sep enn)))) ?_)
        first | (refine Hd.yv (y_field' (q := 1) (ft := 5) Try.underlying36 rfl sz5 rfl rfl) ?_) | (refine Hd.yv (y_fieldR (q := 1) (ft := 5) Try.underlying36 rfl sz5 rfl rfl) ?_)
        refine Hd.yv (y_loadR1 ag5 rfl (RdS.mono hR (Ent.sep enn)) (flat_cells encO 6 (fun _ => rfl) ho 1 _ rfl)) ?_
        first | (refine Hd.yv (y_remN rfl rfl (by omega)) ?_) | (refine Hd.yv (y_remn rfl rfl (by omega) (by omega)) ?_) | (refine Hd.yv (y_rem rfl rfl (by omega)) ?_)
        first | (refine Hd.yv (y_eqlT rfl rfl) ?_) | (refine Hd.yv (y_eql rfl rfl) ?_)
        refine Hd.nil ?_
        refine Hd.slots [(0, _), (3, _), (4, _), (5, _), (6, _), (7, _), (20, _), (21, _), (30, _)] ⟨rfl, rfl, rfl, rfl, rfl, rfl, rfl, rfl, rfl, trivial⟩ ?_
        refine Hd.toK hK14 ?_
        refine Hd.cond rfl (fun hc2 => ?_) (fun hc2 => ?_)
        ·
          try simp only [decide_eq_true_eq, decide_eq_false_iff_not, Bool.and_eq_true, Bool.or_eq_true, Bool.and_eq_false_iff, Bool.or_eq_false_iff, Bool.not_eq_true', Bool.not_eq_false', Bool.not_eq_true, Bool.not_eq_false, Int.not_lt, Int.not_le, Decidable.not_not, ne_eq] at hc2
          refine Hd.region ?_
          refine Hd.yv (y_move rfl) ?_
          refine Hd.yv (y_move rfl) ?_
          refine Hd.yv (y_move rfl) ?_
          refine Hd.yv (y_move rfl) ?_
          refine Hd.yv (y_move rfl) ?_
          refine Hd.yv (y_move rfl) ?_
          first | (refine Hd.yv (y_idxS Try.underlying51 sz36 rfl rfl (by first | omega | decide)) ?_) | (refine Hd.yv (y_idxR Try.underlying51 sz36 rfl rfl (by first | omega | decide) (by (first | exact RdS.own pkk | exact RdS.mono hR (Ent.sep enn)))) ?_)
          refine Hd.yv (y_loadRn (vs := [_, _, _, _, _, _]) ag36 rfl (RdS.mono hR (Ent.sep enn)) (flat_cells encO 6 (fun _ => rfl) ho) (by exact sz36) (by simp)) ?_
          refine Hd.callE rfl fk27 (do_ct (KdC b12 :: KdC b14 :: L) b12 b14 b16 b18 rs1 rs2 hg1 hg2 (NeP.kds .here .here) o (hoo.mono (Ent.sep enn)) hwo) (Ent.sep enn) ?_
          rintro ⟨r1, r2⟩
          dsimp only
          refine Hd.pure (fun hj => ?_)
          refine Hd.yv (y_assign rfl) ?_
          refine Hd.nil ?_
          refine Hd.slots [(0, _), (3, _), (4, _), (5, _), (6, _), (8, _), (20, _), (21, _)] ⟨rfl, rfl, rfl, rfl, rfl, rfl, rfl, rfl, trivial⟩ ?_
          clear hK1 hK2 hK3 hK5 hK6 hK7 hK8 hK9 hK10 hK11 hK12 hK13 hK14
          refine Hd.thenN ?_
          exact Hd.meet (r1, r2) (by repeat (first | exact trivial | refine ⟨rfl, ?_⟩)) (Ent.sep (.pure ⟨hj.1, hj.2⟩ enn))
        ·
          try simp only [decide_eq_true_eq, decide_eq_false_iff_not, Bool.and_eq_true, Bool.or_eq_true, Bool.and_eq_false_iff, Bool.or_eq_false_iff, Bool.not_eq_true', Bool.not_eq_false', Bool.not_eq_true, Bool.not_eq_false, Int.not_lt, Int.not_le, Decidable.not_not, ne_eq] at hc2
          refine Hd.region ?_
          refine Hd.yv (y_move rfl) ?_
          refine Hd.yv (y_move rfl) ?_
          refine Hd.yv (y_move rfl) ?_
          refine Hd.yv (y_move rfl) ?_
          refine Hd.yv (y_move rfl) ?_
          refine Hd.yv (y_move rfl) ?_
          first | (refine Hd.yv (y_idxS Try.underlying51 sz36 rfl rfl (by first | omega | decide)) ?_) | (refine Hd.yv (y_idxR Try.underlying51 sz36 rfl rfl (by first | omega | decide) (by (first | exact RdS.own pkk | exact RdS.mono hR (Ent.sep enn)))) ?_)
          refine Hd.yv (y_loadRn (vs := [_, _, _, _, _, _]) ag36 rfl (RdS.mono hR (Ent.sep enn)) (flat_cells encO 6 (fun _ => rfl) ho) (by exact sz36) (by simp)) ?_
          refine Hd.callE rfl fk27 (do_ct (KdC b12 :: KdC b14 :: L) b14 b12 b18 b16 rs2 rs1 hg2 hg1 (NeP.kds (.there .here) .here) o (hoo.mono (Ent.sep enn)) hwo) (Ent.sep enn) ?_
          rintro ⟨r2, r1⟩
          dsimp only
          refine Hd.pure (fun hj => ?_)
          refine Hd.yv (y_assign rfl) ?_
          refine Hd.nil ?_
          refine Hd.slots [(0, _), (3, _), (4, _), (5, _), (6, _), (8, _), (20, _), (21, _)] ⟨rfl, rfl, rfl, rfl, rfl, rfl, rfl, rfl, trivial⟩ ?_
          clear hK1 hK2 hK3 hK5 hK6 hK7 hK8 hK9 hK10 hK11 hK12 hK13 hK14
          refine Hd.thenN ?_
          exact Hd.meet (r1, r2) (by repeat (first | exact trivial | refine ⟨rfl, ?_⟩)) (Ent.sep (.pure ⟨hj.2, hj.1⟩ enn))
      ·
        rintro ⟨r1, r2⟩
        dsimp only
        refine Hd.pure (fun hj => ?_)
        refine Hd.exs (.there (.there .here)) ?_
        rintro ⟨a5, c5⟩
        simp only [List.cons_append, List.nil_append]
        refine Hd.exs (.there (.there (.there (.there .here)))) ?_
        rintro ⟨a6, c6⟩
        simp only [List.cons_append, List.nil_append]
        refine Hd.seq (fun K15 hK15 => ?_)
        refine Hd.drawsH ([seg b16 0 [.slice a5 (flat r1).length c5], seg b18 0 [.slice a6 (flat r2).length c6]]) (fun _ => true) mixed ?_
        simp only [List.length, Nat.zero_add, Nat.reduceAdd]
        refine Hd.takeH 0 rfl (by kernel_rfl) (by kernel_rfl) (by kernel_rfl) (by kernel_rfl) (y_move rfl) (fun _ _ => rfl) (Ent.sep enn) ?_
        refine Hd.takeH 1 rfl (by kernel_rfl) (by kernel_rfl) (by kernel_rfl) (by kernel_rfl) (y_not rfl) (fun _ _ => rfl) (Ent.sep enn) ?_
        refine Hd.takeH 2 rfl (by kernel_rfl) (by kernel_rfl) (by kernel_rfl) (by kernel_rfl) (y_move rfl) (fun _ _ => rfl) (Ent.sep enn) ?_
        refine Hd.takegH 3 rfl (by kernel_rfl) (by kernel_rfl) (by kernel_rfl) (by kernel_rfl) rfl rfl (y_move rfl) (fun _ _ => rfl) (Ent.sep enn) ?_
        refine Hd.takegH 5 rfl (by kernel_rfl) (by kernel_rfl) (by kernel_rfl) (by kernel_rfl) rfl rfl (y_move rfl) (fun _ _ => rfl) (Ent.sep enn) ?_
        refine Hd.takegH 6 rfl (by kernel_rfl) (by kernel_rfl) (by kernel_rfl) (by kernel_rfl) rfl rfl (y_nilp rfl) (fun _ _ => rfl) (Ent.sep enn) ?_
        first | (refine Hd.takegH 7 rfl (by kernel_rfl) (by kernel_rfl) (by kernel_rfl) (by kernel_rfl) rfl rfl (y_field' (q := 0) (ft := 22) Try.underlying55 rfl sz22 rfl rfl) (fun _ _ => rfl) (Ent.sep enn) ?_) | (refine Hd.takegH 7 rfl (by kernel_rfl) (by kernel_rfl) (by kernel_rfl) (by kernel_rfl) rfl rfl (y_fieldR (q := 0) (ft := 22) Try.underlying55 rfl sz22 rfl rfl) (fun _ _ => rfl) (Ent.sep enn) ?_)
        first | (refine Hd.takegH 8 rfl (by kernel_rfl) (by kernel_rfl) (by kernel_rfl) (by kernel_rfl) rfl rfl (y_load1 ag22 rfl (Rd.pt1 pkk (by (first | rfl)))) (fun _ _ => rfl) (Ent.sep enn) ?_) | (refine Hd.takegH 8 rfl (by kernel_rfl) (by kernel_rfl) (by kernel_rfl) (by kernel_rfl) rfl rfl (y_load1 ag22 rfl (Rd.seg1 pkk (by (first | rfl)))) (fun _ _ => rfl) (Ent.sep enn) ?_) | (refine Hd.takegH 8 rfl (by kernel_rfl) (by kernel_rfl) (by kernel_rfl) (by kernel_rfl) rfl rfl (y_loadR1 ag22 rfl (by (first | exact RdS.own pkk | exact RdS.mono hR (Ent.sep enn))) (by (first | rfl))) (fun _ _ => rfl) (Ent.sep enn) ?_)
        refine Hd.takegH 9 rfl (by kernel_rfl) (by kernel_rfl) (by kernel_rfl) (by kernel_rfl) rfl rfl (y_len Try.underlying22 rfl) (fun _ _ => rfl) (Ent.sep enn) ?_
        refine Hd.onlyH 4 rfl (by kernel_rfl) ?_
        refine Hd.unguard rfl rfl ?_
        refine Hd.callE rfl fk23 (lenC_ct _ b12 0 r1) (Ent.sep enn) ?_
        intro _
        refine Hd.nil ?_
        refine Hd.thenN ?_
        refine Hd.heldK (J := (fun _ => true)) (i := 4) (Ent.sep enn) ?_
        refine Hd.takegH 10 rfl (by kernel_rfl) (by kernel_rfl) (by kernel_rfl) (by kernel_rfl) rfl rfl (y_to (y_neq rfl rfl) (congrArg Value.bool (decide_eq_false ((fun h => h rfl))))) (fun _ _ => rfl) (Ent.sep enn) ?_
        first | (refine Hd.takeH 11 rfl (by kernel_rfl) (by kernel_rfl) (by kernel_rfl) (by kernel_rfl) (y_pickT rfl rfl) (fun _ _ => rfl) (Ent.sep enn) ?_) | (refine Hd.takeH 11 rfl (by kernel_rfl) (by kernel_rfl) (by kernel_rfl) (by kernel_rfl) (y_pickF rfl rfl) (fun _ _ => rfl) (Ent.sep enn) ?_) | (refine Hd.takeH 11 rfl (by kernel_rfl) (by kernel_rfl) (by kernel_rfl) (by kernel_rfl) (y_pickb rfl rfl rfl) (fun _ _ => rfl) (Ent.sep enn) ?_) | (refine Hd.takeH 11 rfl (by kernel_rfl) (by kernel_rfl) (by kernel_rfl) (by kernel_rfl) (y_pick rfl rfl rfl) (fun _ _ => rfl) (Ent.sep enn) ?_)
        refine Hd.takeH 12 rfl (by kernel_rfl) (by kernel_rfl) (by kernel_rfl) (by kernel_rfl) (y_move rfl) (fun _ _ => rfl) (Ent.sep enn) ?_
        refine Hd.takegH 13 rfl (by kernel_rfl) (by kernel_rfl) (by kernel_rfl) (by kernel_rfl) rfl rfl (y_move rfl) (fun _ _ => rfl) (Ent.sep enn) ?_
        refine Hd.takegH 15 rfl (by kernel_rfl) (by kernel_rfl) (by kernel_rfl) (by kernel_rfl) rfl rfl (y_move rfl) (fun _ _ => rfl) (Ent.sep enn) ?_
        refine Hd.takegH 16 rfl (by kernel_rfl) (by kernel_rfl) (by kernel_rfl) (by kernel_rfl) rfl rfl (y_nilp rfl) (fun _ _ => rfl) (Ent.sep enn) ?_
        first | (refine Hd.takegH 17 rfl (by kernel_rfl) (by kernel_rfl) (by kernel_rfl) (by kernel_rfl) rfl rfl (y_field' (q := 0) (ft := 22) Try.underlying55 rfl sz22 rfl rfl) (fun _ _ => rfl) (Ent.sep enn) ?_) | (refine Hd.takegH 17 rfl (by kernel_rfl) (by kernel_rfl) (by kernel_rfl) (by kernel_rfl) rfl rfl (y_fieldR (q := 0) (ft := 22) Try.underlying55 rfl sz22 rfl rfl) (fun _ _ => rfl) (Ent.sep enn) ?_)
        first | (refine Hd.takegH 18 rfl (by kernel_rfl) (by kernel_rfl) (by kernel_rfl) (by kernel_rfl) rfl rfl (y_load1 ag22 rfl (Rd.pt1 pkk (by (first | rfl)))) (fun _ _ => rfl) (Ent.sep enn) ?_) | (refine Hd.takegH 18 rfl (by kernel_rfl) (by kernel_rfl) (by kernel_rfl) (by kernel_rfl) rfl rfl (y_load1 ag22 rfl (Rd.seg1 pkk (by (first | rfl)))) (fun _ _ => rfl) (Ent.sep enn) ?_) | (refine Hd.takegH 18 rfl (by kernel_rfl) (by kernel_rfl) (by kernel_rfl) (by kernel_rfl) rfl rfl (y_loadR1 ag22 rfl (by (first | exact RdS.own pkk | exact RdS.mono hR (Ent.sep enn))) (by (first | rfl))) (fun _ _ => rfl) (Ent.sep enn) ?_)
        refine Hd.takegH 19 rfl (by kernel_rfl) (by kernel_rfl) (by kernel_rfl) (by kernel_rfl) rfl rfl (y_len Try.underlying22 rfl) (fun _ _ => rfl) (Ent.sep enn) ?_
        refine Hd.onlyH 14 rfl (by kernel_rfl) ?_
        refine Hd.unguard rfl rfl ?_
        refine Hd.callE rfl fk23 (lenC_ct _ b14 0 r2) (Ent.sep enn) ?_
        intro _
        refine Hd.nil ?_
        refine Hd.thenN ?_
        refine Hd.heldK (J := (fun _ => true)) (i := 14) (Ent.sep enn) ?_
        refine Hd.takegH 20 rfl (by kernel_rfl) (by kernel_rfl) (by kernel_rfl) (by kernel_rfl) rfl rfl (y_to (y_neq rfl rfl) (congrArg Value.bool (decide_eq_false ((fun h => h rfl))))) (fun _ _ => rfl) (Ent.sep enn) ?_
        first | (refine Hd.takeH 21 rfl (by kernel_rfl) (by kernel_rfl) (by kernel_rfl) (by kernel_rfl) (y_pickT rfl rfl) (fun _ _ => rfl) (Ent.sep enn) ?_) | (refine Hd.takeH 21 rfl (by kernel_rfl) (by kernel_rfl) (by kernel_rfl) (by kernel_rfl) (y_pickF rfl rfl) (fun _ _ => rfl) (Ent.sep enn) ?_) | (refine Hd.takeH 21 rfl (by kernel_rfl) (by kernel_rfl) (by kernel_rfl) (by kernel_rfl) (y_pickb rfl rfl rfl) (fun _ _ => rfl) (Ent.sep enn) ?_) | (refine Hd.takeH 21 rfl (by kernel_rfl) (by kernel_rfl) (by kernel_rfl) (by kernel_rfl) (y_pick rfl rfl rfl) (fun _ _ => rfl) (Ent.sep enn) ?_)
        refine Hd.endH (by kernel_rfl) ?_
        refine Hd.slots [(0, _), (3, _), (4, _), (5, _), (6, _), (20, _), (21, _), (70, _)] ⟨rfl, rfl, rfl, rfl, rfl, rfl, rfl, rfl, trivial⟩ ?_
        refine Hd.toK hK15 ?_
        refine Hd.condF rfl ?_
        refine Hd.skip ?_
        refine Hd.inB ?_
        refine Hd.toK hK11 ?_
        refine Hd.region ?_
        first | (refine Hd.yv (y_addn rfl rfl (by simp only [InK]; omega)) ?_) | (refine Hd.yv (y_add rfl rfl) ?_)
        refine Hd.yv (y_move rfl) ?_
        refine Hd.nil ?_
        refine Hd.slots [(0, _), (3, _), (4, _), (5, _), (6, _), (20, _), (21, _)] ⟨rfl, rfl, rfl, rfl, rfl, rfl, rfl, trivial⟩ ?_
        clear hK1 hK2 hK3 hK5 hK6 hK7 hK8 hK9 hK10 hK11 hK12 hK13 hK15
        refine Hd.thenN ?_
        exact Hd.again (i + 1, r1, r2) (by first | omega | (simp only; omega) | (simp; omega)) (by repeat (first | exact trivial | refine ⟨rfl, ?_⟩)) (Ent.sep (.pure ⟨hi, hj.1, hj.2⟩ (.pick pkk (.pick pkk (.ex (a5, c5) (.pick pkk (.pick pkk (.ex (a6, c6) enn))))))))
    ·
      try simp only [decide_eq_true_eq, decide_eq_false_iff_not, Bool.and_eq_true, Bool.or_eq_true, Bool.and_eq_false_iff, Bool.or_eq_false_iff, Bool.not_eq_true', Bool.not_eq_false', Bool.not_eq_true, Bool.not_eq_false, Int.not_lt, Int.not_le, Decidable.not_not, ne_eq] at hc1
      obtain ⟨_, hg1, hg2⟩ := hp0
      refine Hd.exs (.there (.there .here)) ?_
      rintro ⟨a5, c5⟩
      simp only [List.cons_append, List.nil_append]
      refine Hd.exs (.there (.there (.there (.there .here)))) ?_
      rintro ⟨a6, c6⟩
      simp only [List.cons_append, List.nil_append]
      refine Hd.exit ?_
      refine Hd.thenExit ?_
      refine Hd.thenExit ?_
      refine Hd.inBexit ?_
      refine Hd.toK hK7 ?_
      refine Hd.seq (fun K16 hK16 => ?_)
      refine Hd.region ?_
      refine Hd.yv (y_move rfl) ?_
      refine Hd.yv (y_move rfl) ?_
      refine Hd.yv (y_nilp rfl) ?_
      first | (refine Hd.yv (y_field' (q := 0) (ft := 22) Try.underlying55 rfl sz22 rfl rfl) ?_) | (refine Hd.yv (y_fieldR (q := 0) (ft := 22) Try.underlying55 rfl sz22 rfl rfl) ?_)
      first | (refine Hd.yv (y_load1 ag22 rfl (Rd.pt1 pkk (by (first | rfl)))) ?_) | (refine Hd.yv (y_load1 ag22 rfl (Rd.seg1 pkk (by (first | rfl)))) ?_) | (refine Hd.yv (y_loadR1 ag22 rfl (by (first | exact RdS.own pkk | exact RdS.mono hR (Ent.sep enn))) (by (first | rfl))) ?_)
      refine Hd.callE rfl fk17 (whole_ct (own 5 1 a5 (flat rs1).length c5 (bsl (flat rs1)) :: Ch b14 0 rs2 :: seg b18 0 [.slice a6 (flat rs2).length c6] :: own 5 1 a6 (flat rs2).length c6 (bsl (flat rs2)) :: L) b12 0 rs1 hg1 a5 (flat rs1).length c5 (flat rs1) (RdS.own .here) rfl) (Ent.sep enn) ?_
      intro _
      refine Hd.yv (y_move rfl) ?_
      refine Hd.yg rfl rfl (y_move rfl) ?_
      refine Hd.yg rfl rfl (y_move rfl) ?_
      refine Hd.yg rfl rfl (y_nilp rfl) ?_
      first | (refine Hd.yg rfl rfl (y_field' (q := 0) (ft := 22) Try.underlying55 rfl sz22 rfl rfl) ?_) | (refine Hd.yg rfl rfl (y_fieldR (q := 0) (ft := 22) Try.underlying55 rfl sz22 rfl rfl) ?_)
      first | (refine Hd.yg rfl rfl (y_load1 ag22 rfl (Rd.pt1 pkk (by (first | rfl)))) ?_) | (refine Hd.yg rfl rfl (y_load1 ag22 rfl (Rd.seg1 pkk (by (first | rfl)))) ?_) | (refine Hd.yg rfl rfl (y_loadR1 ag22 rfl (by (first | exact RdS.own pkk | exact RdS.mono hR (Ent.sep enn))) (by (first | rfl))) ?_)
      refine Hd.unguard rfl rfl ?_
      refine Hd.callE rfl fk17 (whole_ct (own 5 1 a6 (flat rs2).length c6 (bsl (flat rs2)) :: L) b14 0 rs2 hg2 a6 (flat rs2).length c6 (flat rs2) (RdS.own .here) rfl) (Ent.sep enn) ?_
      intro _
      first | (refine Hd.yv (y_pickT rfl rfl) ?_) | (refine Hd.yv (y_pickF rfl rfl) ?_) | (refine Hd.yv (y_pickb rfl rfl rfl) ?_) | (refine Hd.yv (y_pick rfl rfl rfl) ?_)
      refine Hd.yv (y_assign rfl) ?_
      refine Hd.nil ?_
      refine Hd.slots [(2, _)] ⟨rfl, trivial⟩ ?_
      refine Hd.toK hK16 ?_
      refine Hd.ret ?_
      clear hK1 hK2 hK3 hK5 hK6 hK7 hK8 hK9 hK10 hK16
      exact Hd.ret1 rfl () (by first | rfl | (simp only [*]; done) | (simp [*]; done)) (Ent.sep enn)
end Bc
end Go.Proofs.Ytgifpkpkkgkfeaa
