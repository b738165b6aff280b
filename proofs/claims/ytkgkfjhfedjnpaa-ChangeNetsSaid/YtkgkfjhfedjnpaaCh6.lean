/-
  That the law ChangeNets answers true.
-/
import Derived.Test.YtkgkfjhfedjnpaaCh4
namespace Go.Proofs.Ytkgkfjhfedjnpaa
set_option linter.unusedSimpArgs false
set_option linter.unusedVariables false
set_option linter.unnecessarySimpa false
open Go.RX
namespace Cl6
open Cl Cl4
theorem ag3 : agk Try.prog 3 = some false := by kernel_rfl
theorem sz3 : szk Try.prog 3 = some 1 := by kernel_rfl
theorem zr3 : zrk Try.prog 3 = some ([.int .i64 0]) := by kernel_rfl
theorem ty3 : tyr Try.prog 3 = some (1, 8, 1) := by kernel_rfl
theorem ag4 : agk Try.prog 4 = some false := by kernel_rfl
theorem sz4 : szk Try.prog 4 = some 1 := by kernel_rfl
theorem zr4 : zrk Try.prog 4 = some ([.bool false]) := by kernel_rfl
theorem ty4 : tyr Try.prog 4 = some (1, 1, 1) := by kernel_rfl
theorem ag27 : agk Try.prog 27 = some true := by kernel_rfl
theorem sz27 : szk Try.prog 27 = some 3 := by kernel_rfl
theorem zr27 : zrk Try.prog 27 = some ([.int .i64 0, .int .i64 0, .int .i64 0]) := by kernel_rfl
theorem ty27 : tyr Try.prog 27 = some (3, 24, 3) := by kernel_rfl
theorem ag34 : agk Try.prog 34 = some false := by kernel_rfl
theorem sz34 : szk Try.prog 34 = some 1 := by kernel_rfl
theorem zr34 : zrk Try.prog 34 = some ([.slice none 0 0]) := by kernel_rfl
theorem ty34 : tyr Try.prog 34 = some (1, 24, 1) := by kernel_rfl
theorem ag36 : agk Try.prog 36 = some false := by kernel_rfl
theorem sz36 : szk Try.prog 36 = some 1 := by kernel_rfl
theorem zr36 : zrk Try.prog 36 = some ([.pointer none]) := by kernel_rfl
theorem ty36 : tyr Try.prog 36 = some (1, 8, 1) := by kernel_rfl
theorem ag41 : agk Try.prog 41 = some true := by kernel_rfl
theorem sz41 : szk Try.prog 41 = some 3 := by kernel_rfl
theorem zr41 : zrk Try.prog 41 = some ([.int .i64 0, .int .i64 0, .int .i64 0]) := by kernel_rfl
theorem ty41 : tyr Try.prog 41 = some (3, 24, 3) := by kernel_rfl
theorem ag42 : agk Try.prog 42 = some false := by kernel_rfl
theorem sz42 : szk Try.prog 42 = some 1 := by kernel_rfl
theorem zr42 : zrk Try.prog 42 = some ([.slice none 0 0]) := by kernel_rfl
theorem ty42 : tyr Try.prog 42 = some (1, 24, 1) := by kernel_rfl
theorem ag47 : agk Try.prog 47 = some true := by kernel_rfl
theorem sz47 : szk Try.prog 47 = some 96 := by kernel_rfl
theorem zr47 : zrk Try.prog 47 = some (List.replicate 96 (.int .i64 0)) := by kernel_rfl
theorem ty47 : tyr Try.prog 47 = some (96, 768, 96) := by kernel_rfl
theorem eqt27 : EqT Try.prog 27 [.int .i64, .int .i64, .int .i64] 3 := ⟨by kernel_rfl, by kernel_rfl, by kernel_rfl, by kernel_rfl, by kernel_rfl⟩
theorem fk17 : fnk Try.prog 17 = true := by kernel_rfl
theorem fk18 : fnk Try.prog 18 = true := by kernel_rfl
theorem fk19 : fnk Try.prog 19 = true := by kernel_rfl
theorem fk20 : fnk Try.prog 20 = true := by kernel_rfl
theorem fk22 : fnk Try.prog 22 = true := by kernel_rfl
theorem fk23 : fnk Try.prog 23 = true := by kernel_rfl
theorem fk24 : fnk Try.prog 24 = true := by kernel_rfl
theorem mixed : Try.prog.follows .mixedOrders = true := by kernel_rfl
theorem bd6_123 (x1 : Int) (x2 : Int) (x3 : Int) : Try.prog.built 27 [(0, .int .i64 x1), (1, .int .i64 x2), (2, .int .i64 x3)] = some #[.int .i64 x1, .int .i64 x2, .int .i64 x3] := by kernel_rfl
/-- the first k of a list, noughts behind -/
def arT (w : List Int) (k : Nat) : List Value := (w.take k).map V ++ List.replicate (96 - k) (V 0)
theorem arT_len {w : List Int} (hw : w.length = 96) {k : Nat} (hk : k ≤ 96) : (arT w k).length = 96 := by simp [arT, hw]; omega
theorem arT_0 (w : List Int) : arT w 0 = List.replicate 96 (V 0) := by simp [arT]
theorem arT_96 {w : List Int} (hw : w.length = 96) : arT w 96 = w.map V := by simp [arT, List.take_of_length_le (show w.length ≤ 96 by omega)]
theorem arT_set {w : List Int} (hw : w.length = 96) {k : Nat} (hk : k < 96) : (arT w k).set (0 + k * 1) (V (w.getD k 0)) = arT w (k + 1) := by
  unfold arT
  have hl : ((w.take k).map V).length = k := by simp; omega
  rw [List.set_append_right _ _ (by omega)]
  have e1 : 0 + k * 1 - ((w.take k).map V).length = 0 := by omega
  have e2 : w.take (k + 1) = w.take k ++ [w.getD k 0] := by
    rw [List.take_add_one, List.getElem?_eq_getElem (show k < w.length by omega)]
    simp [List.getD, List.getElem?_eq_getElem (show k < w.length by omega)]
  rw [e1, show 96 - k = (96 - (k + 1)) + 1 by omega, List.replicate_succ, List.set_cons_zero, e2, List.map_append, List.append_assoc]
  rfl
theorem arT_at {w : List Int} (hw : w.length = 96) {k j : Nat} (hj : j < k) (hk : k ≤ 96) : (arT w k)[0 + j * 1]? = some (V (w.getD j 0)) := by
  unfold arT
  rw [List.getElem?_append_left (by simp; omega)]
  simp [List.getElem?_take_of_lt hj, List.getD, List.getElem?_eq_getElem (show j < w.length by omega), show 0 + j * 1 = j by omega, hj]
theorem map_at {w : List Int} (hw : w.length = 96) {j : Nat} (hj : j < 96) : (w.map V)[0 + j * 1]? = some (V (w.getD j 0)) := by
  simp [List.getD, List.getElem?_eq_getElem (show j < w.length by omega)]
theorem inB_of {k : Nat} (h : k < 96) : inB (k : Int) = true := by simp [inB]; omega
theorem wants_nat (s : LS) {k : Nat} (h : k < 96) : s.wants (k : Int) = s.w.getD k 0 := by simp [LS.wants, inB_of h]
theorem held_nat (s : LS) {k : Nat} (h : k < 96) : s.held (k : Int) = s.h.getD k 0 := by simp [LS.held, inB_of h]
theorem want_h (s : LS) (fd x : Int) : (s.want fd x).h = s.h := by unfold LS.want; split <;> rfl
theorem chs_get (s : LS) {k : Nat} (hk : k < 96) (hne : s.h.getD k 0 ≠ s.w.getD k 0) : (s.chs 96)[(s.chs k).length]? = some ((k : Int), s.h.getD k 0, s.w.getD k 0) := by
  obtain ⟨t, ht⟩ := chs_pre s (show k + 1 ≤ 96 by omega)
  rw [← ht]
  simp only [LS.chs, LS.chg, if_neg hne]
  rw [List.getElem?_append_left (by simp), List.getElem?_append_right (by omega)]
  simp
theorem nets_ct (L : List SP) (ad ad2 : Option Addr) (c c2 : Nat) (xs ys : List (Int × Int × Int)) (hR : RdS L 3 ad xs.length (xs.flatMap encO)) (hR2 : RdS L 3 ad2 ys.length (ys.flatMap encO)) :
    Ct Try.prog 6 #[.slice ad xs.length c, .slice ad2 ys.length c2] L (fun _ : Unit => .bool true) (fun _ => L) := by
  refine Ct.of (vs := [.slice ad xs.length c, .slice ad2 ys.length c2]) Try.func6 rfl rfl [(0, .slice ad xs.length c), (1, .slice ad2 ys.length c2)] ⟨rfl, rfl, trivial⟩ ?_
  intro E
  show Hd E 153 _ _ _ _
  refine Hd.seq (fun K1 hK1 => ?_)
  refine Hd.region ?_
  refine Hd.yv (y_assign rfl) ?_
  refine Hd.nil ?_
  refine Hd.slots [(0, _), (1, _)] ⟨rfl, rfl, trivial⟩ ?_
  refine Hd.toK hK1 ?_
  refine Hd.seq (fun K2 hK2 => ?_)
  refine Hd.region ?_
  refine Hd.callE rfl fk17 (alive_ct _) (Ent.sep (by repeat (first | exact Ent.same | exact Ent.nil | (apply Ent.pick; focus ((repeat (first | with_reducible exact Pick.here | apply Pick.there)); done)) | refine Ent.pure (by assumption) ?_ | apply Ent.ownNil | refine Ent.skip ?_))) ?_
  intro _
  refine Hd.yv (y_assign rfl) ?_
  refine Hd.nil ?_
  refine Hd.slots [(0, _), (1, _), (5, _)] ⟨rfl, rfl, rfl, trivial⟩ ?_
  refine Hd.toK hK2 ?_
  refine Hd.seq (fun K3 hK3 => ?_)
  refine Hd.seq (fun K4 hK4 => ?_)
  refine Hd.region ?_
  refine Hd.yv (y_move rfl) ?_
  refine Hd.yv (y_len Try.underlying34 rfl) ?_
  refine Hd.yv (y_gtr rfl rfl) ?_
  refine Hd.yv (y_move rfl) ?_
  apply Hd.org 4 21 25 [(0, _), (1, _), (5, _)] rfl ⟨rfl, rfl, rfl, trivial⟩
  · intro hg2_21
    try simp only [decide_eq_true_eq, decide_eq_false_iff_not, Bool.and_eq_true, Bool.or_eq_true, Bool.and_eq_false_iff, Bool.or_eq_false_iff, Bool.not_eq_true', Bool.not_eq_false', Bool.not_eq_true, Bool.not_eq_false, Int.not_lt, Int.not_le, Decidable.not_not, ne_eq] at hg2_21
    simp only [List.take]
    refine Hd.ng rfl rfl rfl ?_
    refine Hd.ng rfl rfl rfl ?_
    refine Hd.ng rfl rfl rfl ?_
    first | (refine Hd.yv (y_pickT rfl rfl) ?_) | (refine Hd.yv (y_pickF rfl rfl) ?_) | (refine Hd.yv (y_pickb rfl rfl rfl) ?_) | (refine Hd.yv (y_pick rfl rfl rfl) ?_)
    refine Hd.nil ?_
    exact Hd.mend (by repeat (first | exact trivial | refine ⟨rfl, ?_⟩)) (Ent.sep (by repeat (first | exact Ent.same | exact Ent.nil | (apply Ent.pick; focus ((repeat (first | with_reducible exact Pick.here | apply Pick.there)); done)) | refine Ent.pure (by assumption) ?_ | apply Ent.ownNil | refine Ent.skip ?_)))
  · intro hg2_21
    try simp only [decide_eq_true_eq, decide_eq_false_iff_not, Bool.and_eq_true, Bool.or_eq_true, Bool.and_eq_false_iff, Bool.or_eq_false_iff, Bool.not_eq_true', Bool.not_eq_false', Bool.not_eq_true, Bool.not_eq_false, Int.not_lt, Int.not_le, Decidable.not_not, ne_eq] at hg2_21
    simp only [List.take]
    refine Hd.yg rfl rfl (y_move rfl) ?_
    refine Hd.yg rfl rfl (y_len Try.underlying34 rfl) ?_
    refine Hd.yg rfl rfl (y_gtr rfl rfl) ?_
    first | (refine Hd.yv (y_pickT rfl rfl) ?_) | (refine Hd.yv (y_pickF rfl rfl) ?_) | (refine Hd.yv (y_pickb rfl rfl rfl) ?_) | (refine Hd.yv (y_pick rfl rfl rfl) ?_)
    refine Hd.nil ?_
    exact Hd.mend (by repeat (first | exact trivial | refine ⟨rfl, ?_⟩)) (Ent.sep (by repeat (first | exact Ent.same | exact Ent.nil | (apply Ent.pick; focus ((repeat (first | with_reducible exact Pick.here | apply Pick.there)); done)) | refine Ent.pure (by assumption) ?_ | apply Ent.ownNil | refine Ent.skip ?_)))
  simp only [List.drop]
  refine Hd.yv (y_move rfl) ?_
  apply Hd.org 3 26 29 [(0, _), (1, _), (5, _)] rfl ⟨rfl, rfl, rfl, trivial⟩
  · intro hg2_26
    try simp only [decide_eq_true_eq, decide_eq_false_iff_not, Bool.and_eq_true, Bool.or_eq_true, Bool.and_eq_false_iff, Bool.or_eq_false_iff, Bool.not_eq_true', Bool.not_eq_false', Bool.not_eq_true, Bool.not_eq_false, Int.not_lt, Int.not_le, Decidable.not_not, ne_eq] at hg2_26
    simp only [List.take]
    refine Hd.ng rfl rfl rfl ?_
    refine Hd.ng rfl rfl rfl ?_
    first | (refine Hd.yv (y_pickT rfl rfl) ?_) | (refine Hd.yv (y_pickF rfl rfl) ?_) | (refine Hd.yv (y_pickb rfl rfl rfl) ?_) | (refine Hd.yv (y_pick rfl rfl rfl) ?_)
    refine Hd.nil ?_
    exact Hd.mend (by repeat (first | exact trivial | refine ⟨rfl, ?_⟩)) (Ent.sep (by repeat (first | exact Ent.same | exact Ent.nil | (apply Ent.pick; focus ((repeat (first | with_reducible exact Pick.here | apply Pick.there)); done)) | refine Ent.pure (by assumption) ?_ | apply Ent.ownNil | refine Ent.skip ?_)))
  · intro hg2_26
    try simp only [decide_eq_true_eq, decide_eq_false_iff_not, Bool.and_eq_true, Bool.or_eq_true, Bool.and_eq_false_iff, Bool.or_eq_false_iff, Bool.not_eq_true', Bool.not_eq_false', Bool.not_eq_true, Bool.not_eq_false, Int.not_lt, Int.not_le, Decidable.not_not, ne_eq] at hg2_26
    simp only [List.take]
    refine Hd.yg rfl rfl (y_move rfl) ?_
    refine Hd.yg rfl rfl (y_not rfl) ?_
    first | (refine Hd.yv (y_pickT rfl rfl) ?_) | (refine Hd.yv (y_pickF rfl rfl) ?_) | (refine Hd.yv (y_pickb rfl rfl rfl) ?_) | (refine Hd.yv (y_pick rfl rfl rfl) ?_)
    refine Hd.nil ?_
    exact Hd.mend (by repeat (first | exact trivial | refine ⟨rfl, ?_⟩)) (Ent.sep (by repeat (first | exact Ent.same | exact Ent.nil | (apply Ent.pick; focus ((repeat (first | with_reducible exact Pick.here | apply Pick.there)); done)) | refine Ent.pure (by assumption) ?_ | apply Ent.ownNil | refine Ent.skip ?_)))
  simp only [List.drop]
  refine Hd.nil ?_
  refine Hd.slots [(0, _), (1, _), (5, _), (29, _)] ⟨rfl, rfl, rfl, rfl, trivial⟩ ?_
  refine Hd.toK hK4 ?_
  refine Hd.cond rfl (fun hc0 => ?_) (fun hc0 => ?_)
  ·
    try simp only [decide_eq_true_eq, decide_eq_false_iff_not, Bool.and_eq_true, Bool.or_eq_true, Bool.and_eq_false_iff, Bool.or_eq_false_iff, Bool.not_eq_true', Bool.not_eq_false', Bool.not_eq_true, Bool.not_eq_false, Int.not_lt, Int.not_le, Decidable.not_not, ne_eq] at hc0
    refine Hd.seq (fun K5 hK5 => ?_)
    refine Hd.region ?_
    refine Hd.yv (y_move rfl) ?_
    refine Hd.yv (y_assign rfl) ?_
    refine Hd.nil ?_
    refine Hd.slots [(4, _)] ⟨rfl, trivial⟩ ?_
    refine Hd.toK hK5 ?_
    refine Hd.ret ?_
    refine Hd.thenRet ?_
    clear hK1 hK2 hK3 hK4 hK5
    exact Hd.ret1 rfl () rfl (Ent.sep (by repeat (first | exact Ent.same | exact Ent.nil | (apply Ent.pick; focus ((repeat (first | with_reducible exact Pick.here | apply Pick.there)); done)) | refine Ent.pure (by assumption) ?_ | apply Ent.ownNil | refine Ent.skip ?_)))
  ·
    try simp only [decide_eq_true_eq, decide_eq_false_iff_not, Bool.and_eq_true, Bool.or_eq_true, Bool.and_eq_false_iff, Bool.or_eq_false_iff, Bool.not_eq_true', Bool.not_eq_false', Bool.not_eq_true, Bool.not_eq_false, Int.not_lt, Int.not_le, Decidable.not_not, ne_eq] at hc0
    refine Hd.skip ?_
    refine Hd.toK hK3 ?_
    refine Hd.seq (fun K6 hK6 => ?_)
    refine Hd.region ?_
    refine Hd.callE rfl fk18 (new_ct _) (Ent.sep (by repeat (first | exact Ent.same | exact Ent.nil | (apply Ent.pick; focus ((repeat (first | with_reducible exact Pick.here | apply Pick.there)); done)) | refine Ent.pure (by assumption) ?_ | apply Ent.ownNil | refine Ent.skip ?_))) ?_
    intro b
    refine Hd.yv (y_assign rfl) ?_
    refine Hd.nil ?_
    refine Hd.slots [(0, _), (1, _), (5, _), (6, _)] ⟨rfl, rfl, rfl, rfl, trivial⟩ ?_
    refine Hd.toK hK6 ?_
    refine Hd.seq (fun K7 hK7 => ?_)
    refine Hd.seq (fun K8 hK8 => ?_)
    refine Hd.region ?_
    refine Hd.yv (y_move rfl) ?_
    refine Hd.yv (y_len Try.underlying34 rfl) ?_
    refine Hd.yv (y_move rfl) ?_
    refine Hd.nil ?_
    refine Hd.slots [(0, _), (1, _), (5, _), (6, _), (33, _), (34, _)] ⟨rfl, rfl, rfl, rfl, rfl, rfl, trivial⟩ ?_
    refine Hd.toK hK8 ?_
    refine Hd.block ?_
    refine Hd.loop (ι := Nat × LS) (fun i => [(0, .slice ad xs.length c), (1, .slice ad2 ys.length c2), (5, .bool true), (6, .pointer (some ⟨b, 0, none⟩)), (33, .int .i64 (xs.length : Int)), (34, .int .i64 (i.1 : Int))])
      (fun i => pu (i.1 ≤ xs.length) :: CLs b i.2 true :: L) (fun i => xs.length - i.1) (0, LS.zero) ⟨rfl, rfl, rfl, rfl, rfl, rfl, trivial⟩ (Ent.sep (.pure (by simp) (by repeat (first | exact Ent.same | exact Ent.nil | (apply Ent.pick; focus ((repeat (first | with_reducible exact Pick.here | apply Pick.there)); done)) | refine Ent.pure (by assumption) ?_ | apply Ent.ownNil | refine Ent.skip ?_)))) ?_
    rintro ⟨i, s⟩
    dsimp only
    refine Hd.pure (fun hi => ?_)
    refine Hd.seq (fun K9 hK9 => ?_)
    refine Hd.region ?_
    refine Hd.yv (y_lss rfl rfl) ?_
    refine Hd.nil ?_
    refine Hd.slots [(0, _), (1, _), (5, _), (6, _), (33, _), (34, _), (35, _)] ⟨rfl, rfl, rfl, rfl, rfl, rfl, rfl, trivial⟩ ?_
    refine Hd.toK hK9 ?_
    refine Hd.seq (fun K10 hK10 => ?_)
    refine Hd.cond rfl (fun hc1 => ?_) (fun hc1 => ?_)
    ·
      try simp only [decide_eq_true_eq, decide_eq_false_iff_not, Bool.and_eq_true, Bool.or_eq_true, Bool.and_eq_false_iff, Bool.or_eq_false_iff, Bool.not_eq_true', Bool.not_eq_false', Bool.not_eq_true, Bool.not_eq_false, Int.not_lt, Int.not_le, Decidable.not_not, ne_eq] at hc1
      have hi' : i < xs.length := by omega
      obtain ⟨o, ho⟩ : ∃ o, xs[i]? = some o := ⟨_, List.getElem?_eq_getElem hi'⟩
      obtain ⟨ho0, ho1, ho2⟩ := op_at ho
      refine Hd.skip ?_
      refine Hd.toK hK10 ?_
      refine Hd.seq (fun K11 hK11 => ?_)
      refine Hd.block ?_
      refine Hd.seq (fun K12 hK12 => ?_)
      refine Hd.region ?_
      refine Hd.yv (y_move rfl) ?_
      refine Hd.yv (y_assign rfl) ?_
      refine Hd.nil ?_
      refine Hd.slots [(0, _), (1, _), (5, _), (6, _), (7, _), (33, _), (34, _)] ⟨rfl, rfl, rfl, rfl, rfl, rfl, rfl, trivial⟩ ?_
      refine Hd.toK hK12 ?_
      refine Hd.tail 11 mixed (by kernel_rfl) ?_
      simp only [List.take, List.drop]
      refine Ht.yv (y_move rfl) ?_
      refine Ht.yv (y_move rfl) ?_
      refine Ht.yv (y_move rfl) ?_
      first | (refine Ht.yv (y_idxS Try.underlying34 sz41 rfl rfl (by first | omega | decide)) ?_) | (refine Ht.yv (y_idxR Try.underlying34 sz41 rfl rfl (by first | omega | decide) (by (first | exact RdS.own (by repeat (first | with_reducible exact Pick.here | apply Pick.there)) | exact RdS.mono hR (Ent.sep (by repeat (first | exact Ent.same | exact Ent.nil | (apply Ent.pick; focus ((repeat (first | with_reducible exact Pick.here | apply Pick.there)); done)) | refine Ent.pure (by assumption) ?_ | apply Ent.ownNil | refine Ent.skip ?_))) | exact RdS.mono hR2 (Ent.sep (by repeat (first | exact Ent.same | exact Ent.nil | (apply Ent.pick; focus ((repeat (first | with_reducible exact Pick.here | apply Pick.there)); done)) | refine Ent.pure (by assumption) ?_ | apply Ent.ownNil | refine Ent.skip ?_)))))) ?_)
      first | (refine Ht.yv (y_field' (q := 1) (ft := 3) Try.underlying41 rfl sz3 rfl rfl) ?_) | (refine Ht.yv (y_fieldR (q := 1) (ft := 3) Try.underlying41 rfl sz3 rfl rfl) ?_)
      first | (refine Ht.yv (y_load1 ag3 rfl (Rd.pt1 (by repeat (first | with_reducible exact Pick.here | apply Pick.there)) (by (first | exact ho1 | exact ho2 | exact arT_at hw hk4' (by omega) | exact arT_at hw2 hk4' (by omega) | exact arT_at hw2 hk5' (by omega) | rfl)))) ?_) | (refine Ht.yv (y_loadR1 ag3 rfl (by (first | exact RdS.own (by repeat (first | with_reducible exact Pick.here | apply Pick.there)) | exact RdS.mono hR (Ent.sep (by repeat (first | exact Ent.same | exact Ent.nil | (apply Ent.pick; focus ((repeat (first | with_reducible exact Pick.here | apply Pick.there)); done)) | refine Ent.pure (by assumption) ?_ | apply Ent.ownNil | refine Ent.skip ?_))) | exact RdS.mono hR2 (Ent.sep (by repeat (first | exact Ent.same | exact Ent.nil | (apply Ent.pick; focus ((repeat (first | with_reducible exact Pick.here | apply Pick.there)); done)) | refine Ent.pure (by assumption) ?_ | apply Ent.ownNil | refine Ent.skip ?_))))) (by (first | exact ho1 | exact ho2 | exact arT_at hw hk4' (by omega) | exact arT_at hw2 hk4' (by omega) | exact arT_at hw2 hk5' (by omega) | rfl))) ?_)
      refine Ht.yv (y_move rfl) ?_
      refine Ht.yv (y_move rfl) ?_
      first | (refine Ht.yv (y_idxS Try.underlying34 sz41 rfl rfl (by first | omega | decide)) ?_) | (refine Ht.yv (y_idxR Try.underlying34 sz41 rfl rfl (by first | omega | decide) (by (first | exact RdS.own (by repeat (first | with_reducible exact Pick.here | apply Pick.there)) | exact RdS.mono hR (Ent.sep (by repeat (first | exact Ent.same | exact Ent.nil | (apply Ent.pick; focus ((repeat (first | with_reducible exact Pick.here | apply Pick.there)); done)) | refine Ent.pure (by assumption) ?_ | apply Ent.ownNil | refine Ent.skip ?_))) | exact RdS.mono hR2 (Ent.sep (by repeat (first | exact Ent.same | exact Ent.nil | (apply Ent.pick; focus ((repeat (first | with_reducible exact Pick.here | apply Pick.there)); done)) | refine Ent.pure (by assumption) ?_ | apply Ent.ownNil | refine Ent.skip ?_)))))) ?_)
      first | (refine Ht.yv (y_field' (q := 2) (ft := 3) Try.underlying41 rfl sz3 rfl rfl) ?_) | (refine Ht.yv (y_fieldR (q := 2) (ft := 3) Try.underlying41 rfl sz3 rfl rfl) ?_)
      first | (refine Ht.yv (y_load1 ag3 rfl (Rd.pt1 (by repeat (first | with_reducible exact Pick.here | apply Pick.there)) (by (first | exact ho1 | exact ho2 | exact arT_at hw hk4' (by omega) | exact arT_at hw2 hk4' (by omega) | exact arT_at hw2 hk5' (by omega) | rfl)))) ?_) | (refine Ht.yv (y_loadR1 ag3 rfl (by (first | exact RdS.own (by repeat (first | with_reducible exact Pick.here | apply Pick.there)) | exact RdS.mono hR (Ent.sep (by repeat (first | exact Ent.same | exact Ent.nil | (apply Ent.pick; focus ((repeat (first | with_reducible exact Pick.here | apply Pick.there)); done)) | refine Ent.pure (by assumption) ?_ | apply Ent.ownNil | refine Ent.skip ?_))) | exact RdS.mono hR2 (Ent.sep (by repeat (first | exact Ent.same | exact Ent.nil | (apply Ent.pick; focus ((repeat (first | with_reducible exact Pick.here | apply Pick.there)); done)) | refine Ent.pure (by assumption) ?_ | apply Ent.ownNil | refine Ent.skip ?_))))) (by (first | exact ho1 | exact ho2 | exact arT_at hw hk4' (by omega) | exact arT_at hw2 hk4' (by omega) | exact arT_at hw2 hk5' (by omega) | rfl))) ?_)
      refine Ht.nil ?_
      refine Hd.callE rfl fk19 (want_ct _ b s o.2.1 o.2.2) (Ent.sep (by repeat (first | exact Ent.same | exact Ent.nil | (apply Ent.pick; focus ((repeat (first | with_reducible exact Pick.here | apply Pick.there)); done)) | refine Ent.pure (by assumption) ?_ | apply Ent.ownNil | refine Ent.skip ?_))) ?_
      intro _
      refine Hd.nil ?_
      refine Hd.slots [(0, _), (1, _), (5, _), (6, _), (33, _), (34, _)] ⟨rfl, rfl, rfl, rfl, rfl, rfl, trivial⟩ ?_
      refine Hd.inB ?_
      refine Hd.toK hK11 ?_
      refine Hd.region ?_
      first | (refine Hd.yv (y_addn rfl rfl (by simp only [InK]; omega)) ?_) | (refine Hd.yv (y_add rfl rfl) ?_)
      refine Hd.yv (y_move rfl) ?_
      refine Hd.nil ?_
      refine Hd.slots [(0, _), (1, _), (5, _), (6, _), (33, _), (34, _)] ⟨rfl, rfl, rfl, rfl, rfl, rfl, trivial⟩ ?_
      clear hK1 hK2 hK3 hK4 hK6 hK7 hK8 hK9 hK10 hK11 hK12
      refine Hd.thenN ?_
      exact Hd.again (i + 1, s.want o.2.1 o.2.2) (by simp only; omega) ⟨rfl, rfl, rfl, rfl, rfl, rfl, trivial⟩ (Ent.sep (.pure (by simp only; omega) (by repeat (first | exact Ent.same | exact Ent.nil | (apply Ent.pick; focus ((repeat (first | with_reducible exact Pick.here | apply Pick.there)); done)) | refine Ent.pure (by assumption) ?_ | apply Ent.ownNil | refine Ent.skip ?_))))
    ·
      try simp only [decide_eq_true_eq, decide_eq_false_iff_not, Bool.and_eq_true, Bool.or_eq_true, Bool.and_eq_false_iff, Bool.or_eq_false_iff, Bool.not_eq_true', Bool.not_eq_false', Bool.not_eq_true, Bool.not_eq_false, Int.not_lt, Int.not_le, Decidable.not_not, ne_eq] at hc1
      refine Hd.exit ?_
      refine Hd.thenExit ?_
      refine Hd.thenExit ?_
      refine Hd.inBexit ?_
      refine Hd.toK hK7 ?_
      refine Hd.seq (fun K13 hK13 => ?_)
      refine Hd.region ?_
      refine Hd.yv (y_move rfl) ?_
      refine Hd.callE rfl fk20 (flush_ct _ b s) (Ent.sep (by repeat (first | exact Ent.same | exact Ent.nil | (apply Ent.pick; focus ((repeat (first | with_reducible exact Pick.here | apply Pick.there)); done)) | refine Ent.pure (by assumption) ?_ | apply Ent.ownNil | refine Ent.skip ?_))) ?_
      rintro ⟨a5, c5⟩
      refine Hd.nil ?_
      refine Hd.slots [(1, _), (5, _), (6, _)] ⟨rfl, rfl, rfl, trivial⟩ ?_
      refine Hd.toK hK13 ?_
      refine Hd.seq (fun K14 hK14 => ?_)
      refine Hd.region ?_
      refine Hd.alloc zr47 (fun b8 => ?_)
      refine Hd.alloc zr47 (fun b9 => ?_)
      refine Hd.nil ?_
      refine Hd.slots [(1, _), (5, _), (6, _), (8, _), (9, _)] ⟨rfl, rfl, rfl, rfl, rfl, trivial⟩ ?_
      refine Hd.toK hK14 ?_
      refine Hd.seq (fun K15 hK15 => ?_)
      refine Hd.seq (fun K16 hK16 => ?_)
      refine Hd.region ?_
      refine Hd.yv (y_move rfl) ?_
      refine Hd.nil ?_
      refine Hd.slots [(1, _), (5, _), (6, _), (8, _), (9, _), (52, _)] ⟨rfl, rfl, rfl, rfl, rfl, rfl, trivial⟩ ?_
      refine Hd.toK hK16 ?_
      refine Hd.block ?_
      have hw := s.hw
      refine Hd.loop (ι := Nat) (fun k => [(1, .slice ad2 ys.length c2), (5, .bool true), (6, .pointer (some ⟨b, 0, none⟩)), (8, .pointer (some ⟨b8, 0, none⟩)), (9, .pointer (some ⟨b9, 0, none⟩)), (52, .int .i64 (k : Int))])
        (fun k => pu (k ≤ 96) :: CLs b s.flush true :: pt b8 (arT s.w k) 47 :: pt b9 (arT s.w 0) 47 :: L) (fun k => 96 - k) 0 ⟨rfl, rfl, rfl, rfl, rfl, rfl, trivial⟩ (by rw [arT_0]; exact (Ent.sep (.pure (by omega) (by repeat (first | exact Ent.same | exact Ent.nil | (apply Ent.pick; focus ((repeat (first | with_reducible exact Pick.here | apply Pick.there)); done)) | refine Ent.pure (by assumption) ?_ | apply Ent.ownNil | refine Ent.skip ?_))))) ?_
      intro k
      refine Hd.pure (fun hk => ?_)
      refine Hd.seq (fun K17 hK17 => ?_)
      refine Hd.region ?_
      refine Hd.yv (y_lss rfl rfl) ?_
      refine Hd.nil ?_
      refine Hd.slots [(1, _), (5, _), (6, _), (8, _), (9, _), (52, _), (53, _)] ⟨rfl, rfl, rfl, rfl, rfl, rfl, rfl, trivial⟩ ?_
      refine Hd.toK hK17 ?_
      refine Hd.seq (fun K18 hK18 => ?_)
      refine Hd.cond rfl (fun hc2 => ?_) (fun hc2 => ?_)
      ·
        try simp only [decide_eq_true_eq, decide_eq_false_iff_not, Bool.and_eq_true, Bool.or_eq_true, Bool.and_eq_false_iff, Bool.or_eq_false_iff, Bool.not_eq_true', Bool.not_eq_false', Bool.not_eq_true, Bool.not_eq_false, Int.not_lt, Int.not_le, Decidable.not_not, ne_eq] at hc2
        have hk' : k < 96 := by omega
        refine Hd.skip ?_
        refine Hd.toK hK18 ?_
        refine Hd.seq (fun K19 hK19 => ?_)
        refine Hd.block ?_
        refine Hd.seq (fun K20 hK20 => ?_)
        refine Hd.region ?_
        refine Hd.yv (y_move rfl) ?_
        refine Hd.yv (y_assign rfl) ?_
        refine Hd.nil ?_
        refine Hd.slots [(1, _), (5, _), (6, _), (8, _), (9, _), (10, _), (52, _)] ⟨rfl, rfl, rfl, rfl, rfl, rfl, rfl, trivial⟩ ?_
        refine Hd.toK hK20 ?_
        refine Hd.seq (fun K21 hK21 => ?_)
        refine Hd.region ?_
        refine Hd.yv (y_move rfl) ?_
        refine Hd.yv (y_move rfl) ?_
        refine Hd.yv (y_move rfl) ?_
        refine Hd.callE rfl fk23 (held_ct _ b s.flush _) (Ent.sep (by repeat (first | exact Ent.same | exact Ent.nil | (apply Ent.pick; focus ((repeat (first | with_reducible exact Pick.here | apply Pick.there)); done)) | refine Ent.pure (by assumption) ?_ | apply Ent.ownNil | refine Ent.skip ?_))) ?_
        intro _
        rw [held_nat s.flush hk', show s.flush.h.getD k 0 = s.w.getD k 0 from rfl]
        refine Hd.yv (y_idxA Try.underlying47 sz3 rfl rfl (by first | omega | decide)) ?_
        first | (refine Hd.store1 sz3 rfl rfl rfl (by repeat (first | with_reducible exact Pick.here | apply Pick.there)) (by first | (rw [arT_len hw (by omega)]; omega) | (rw [arT_len hw2 (by omega)]; omega) | decide | (simp; done) | (simp; omega)) ?_) | (refine Hd.storeO1 sz3 rfl rfl rfl (by repeat (first | with_reducible exact Pick.here | apply Pick.there)) (by first | (rw [arT_len hw (by omega)]; omega) | (rw [arT_len hw2 (by omega)]; omega) | omega | (simp; done) | (simp; omega)) ?_)
        try simp only [List.set_cons_zero, List.set_cons_succ]
        refine Hd.nil ?_
        refine Hd.slots [(1, _), (5, _), (6, _), (8, _), (9, _), (10, _), (52, _)] ⟨rfl, rfl, rfl, rfl, rfl, rfl, rfl, trivial⟩ ?_
        refine Hd.toK hK21 ?_
        refine Hd.seq (fun K22 hK22 => ?_)
        rw [arT_set hw hk']
        refine Hd.heap (CLs b s.flush true :: pt b8 (arT s.w (k + 1)) 47 :: pt b9 (arT s.w 0) 47 :: L) (Ent.sep (by repeat (first | exact Ent.same | exact Ent.nil | (apply Ent.pick; focus ((repeat (first | with_reducible exact Pick.here | apply Pick.there)); done)) | refine Ent.pure (by assumption) ?_ | apply Ent.ownNil | refine Ent.skip ?_))) ?_
        refine Hd.quiet mixed (by kernel_rfl) ?_
        refine Hq.yv (y_move rfl) ?_
        refine Hq.yv (y_idxA Try.underlying47 sz3 rfl rfl (by first | omega | decide)) ?_
        refine Hq.yv (y_load1 ag3 rfl (Rd.pt1 (by repeat (first | with_reducible exact Pick.here | apply Pick.there)) (arT_at hw (show k < k + 1 by omega) (by omega)))) ?_
        refine Hq.yv (y_move rfl) ?_
        refine Hq.yv (y_move rfl) ?_
        refine Hq.call rfl fk24 (wants_ct _ b s.flush _) ?_
        rw [wants_nat s.flush hk', show s.flush.w.getD k 0 = s.w.getD k 0 from rfl]
        refine Hq.yv (y_neq rfl rfl) ?_
        refine Hq.nil ?_
        refine Hd.slots [(1, _), (5, _), (6, _), (8, _), (9, _), (52, _), (66, _)] ⟨rfl, rfl, rfl, rfl, rfl, rfl, rfl, trivial⟩ ?_
        refine Hd.toK hK22 ?_
        refine Hd.cond rfl (fun hc3 => ?_) (fun hc3 => ?_)
        ·
          try simp only [decide_eq_true_eq, decide_eq_false_iff_not, Bool.and_eq_true, Bool.or_eq_true, Bool.and_eq_false_iff, Bool.or_eq_false_iff, Bool.not_eq_true', Bool.not_eq_false', Bool.not_eq_true, Bool.not_eq_false, Int.not_lt, Int.not_le, Decidable.not_not, ne_eq] at hc3
          exact absurd trivial hc3
        ·
          try simp only [decide_eq_true_eq, decide_eq_false_iff_not, Bool.and_eq_true, Bool.or_eq_true, Bool.and_eq_false_iff, Bool.or_eq_false_iff, Bool.not_eq_true', Bool.not_eq_false', Bool.not_eq_true, Bool.not_eq_false, Int.not_lt, Int.not_le, Decidable.not_not, ne_eq] at hc3
          refine Hd.skip ?_
          refine Hd.inB ?_
          refine Hd.toK hK19 ?_
          refine Hd.region ?_
          first | (refine Hd.yv (y_addn rfl rfl (by simp only [InK]; omega)) ?_) | (refine Hd.yv (y_add rfl rfl) ?_)
          refine Hd.yv (y_move rfl) ?_
          refine Hd.nil ?_
          refine Hd.slots [(1, _), (5, _), (6, _), (8, _), (9, _), (52, _)] ⟨rfl, rfl, rfl, rfl, rfl, rfl, trivial⟩ ?_
          clear hK1 hK2 hK3 hK4 hK6 hK7 hK8 hK9 hK10 hK13 hK14 hK15 hK16 hK17 hK18 hK19 hK20 hK21 hK22
          refine Hd.thenN ?_
          exact Hd.again (k + 1) (by omega) ⟨rfl, rfl, rfl, rfl, rfl, rfl, trivial⟩ (Ent.sep (.pure (by omega) (by repeat (first | exact Ent.same | exact Ent.nil | (apply Ent.pick; focus ((repeat (first | with_reducible exact Pick.here | apply Pick.there)); done)) | refine Ent.pure (by assumption) ?_ | apply Ent.ownNil | refine Ent.skip ?_))))
      ·
        try simp only [decide_eq_true_eq, decide_eq_false_iff_not, Bool.and_eq_true, Bool.or_eq_true, Bool.and_eq_false_iff, Bool.or_eq_false_iff, Bool.not_eq_true', Bool.not_eq_false', Bool.not_eq_true, Bool.not_eq_false, Int.not_lt, Int.not_le, Decidable.not_not, ne_eq] at hc2
        refine Hd.exit ?_
        refine Hd.thenExit ?_
        refine Hd.thenExit ?_
        refine Hd.inBexit ?_
        refine Hd.toK hK15 ?_
        refine Hd.seq (fun K23 hK23 => ?_)
        refine Hd.seq (fun K24 hK24 => ?_)
        refine Hd.region ?_
        refine Hd.yv (y_move rfl) ?_
        refine Hd.yv (y_len Try.underlying34 rfl) ?_
        refine Hd.yv (y_move rfl) ?_
        refine Hd.nil ?_
        refine Hd.slots [(1, _), (5, _), (6, _), (8, _), (9, _), (69, _), (70, _)] ⟨rfl, rfl, rfl, rfl, rfl, rfl, rfl, trivial⟩ ?_
        refine Hd.toK hK24 ?_
        refine Hd.block ?_
        obtain rfl : k = 96 := by omega
        refine Hd.loop (ι := Nat × LS) (fun i => [(1, .slice ad2 ys.length c2), (5, .bool true), (6, .pointer (some ⟨b, 0, none⟩)), (8, .pointer (some ⟨b8, 0, none⟩)), (9, .pointer (some ⟨b9, 0, none⟩)), (69, .int .i64 (ys.length : Int)), (70, .int .i64 (i.1 : Int))])
          (fun i => pu (i.1 ≤ ys.length ∧ i.2.h = s.w) :: CLs b i.2 true :: pt b8 (arT s.w 96) 47 :: pt b9 (arT s.w 0) 47 :: L) (fun i => ys.length - i.1) (0, s.flush) ⟨rfl, rfl, rfl, rfl, rfl, rfl, rfl, trivial⟩ (Ent.sep (.pure ⟨by simp, rfl⟩ (by repeat (first | exact Ent.same | exact Ent.nil | (apply Ent.pick; focus ((repeat (first | with_reducible exact Pick.here | apply Pick.there)); done)) | refine Ent.pure (by assumption) ?_ | apply Ent.ownNil | refine Ent.skip ?_)))) ?_
        rintro ⟨i2, s2⟩
        dsimp only
        refine Hd.pure (fun hi2 => ?_)
        obtain ⟨hi2l, hi2h⟩ := hi2
        refine Hd.seq (fun K25 hK25 => ?_)
        refine Hd.region ?_
        refine Hd.yv (y_lss rfl rfl) ?_
        refine Hd.nil ?_
        refine Hd.slots [(1, _), (5, _), (6, _), (8, _), (9, _), (69, _), (70, _), (71, _)] ⟨rfl, rfl, rfl, rfl, rfl, rfl, rfl, rfl, trivial⟩ ?_
        refine Hd.toK hK25 ?_
        refine Hd.seq (fun K26 hK26 => ?_)
        refine Hd.cond rfl (fun hc4 => ?_) (fun hc4 => ?_)
        ·
          try simp only [decide_eq_true_eq, decide_eq_false_iff_not, Bool.and_eq_true, Bool.or_eq_true, Bool.and_eq_false_iff, Bool.or_eq_false_iff, Bool.not_eq_true', Bool.not_eq_false', Bool.not_eq_true, Bool.not_eq_false, Int.not_lt, Int.not_le, Decidable.not_not, ne_eq] at hc4
          have hi' : i2 < ys.length := by omega
          obtain ⟨o, ho⟩ : ∃ o, ys[i2]? = some o := ⟨_, List.getElem?_eq_getElem hi'⟩
          obtain ⟨ho0, ho1, ho2⟩ := op_at ho
          refine Hd.skip ?_
          refine Hd.toK hK26 ?_
          refine Hd.seq (fun K27 hK27 => ?_)
          refine Hd.block ?_
          refine Hd.seq (fun K28 hK28 => ?_)
          refine Hd.region ?_
          refine Hd.yv (y_move rfl) ?_
          refine Hd.yv (y_assign rfl) ?_
          refine Hd.nil ?_
          refine Hd.slots [(1, _), (5, _), (6, _), (8, _), (9, _), (11, _), (69, _), (70, _)] ⟨rfl, rfl, rfl, rfl, rfl, rfl, rfl, rfl, trivial⟩ ?_
          refine Hd.toK hK28 ?_
          refine Hd.tail 11 mixed (by kernel_rfl) ?_
          simp only [List.take, List.drop]
          refine Ht.yv (y_move rfl) ?_
          refine Ht.yv (y_move rfl) ?_
          refine Ht.yv (y_move rfl) ?_
          first | (refine Ht.yv (y_idxS Try.underlying34 sz41 rfl rfl (by first | omega | decide)) ?_) | (refine Ht.yv (y_idxR Try.underlying34 sz41 rfl rfl (by first | omega | decide) (by (first | exact RdS.own (by repeat (first | with_reducible exact Pick.here | apply Pick.there)) | exact RdS.mono hR (Ent.sep (by repeat (first | exact Ent.same | exact Ent.nil | (apply Ent.pick; focus ((repeat (first | with_reducible exact Pick.here | apply Pick.there)); done)) | refine Ent.pure (by assumption) ?_ | apply Ent.ownNil | refine Ent.skip ?_))) | exact RdS.mono hR2 (Ent.sep (by repeat (first | exact Ent.same | exact Ent.nil | (apply Ent.pick; focus ((repeat (first | with_reducible exact Pick.here | apply Pick.there)); done)) | refine Ent.pure (by assumption) ?_ | apply Ent.ownNil | refine Ent.skip ?_)))))) ?_)
          first | (refine Ht.yv (y_field' (q := 1) (ft := 3) Try.underlying41 rfl sz3 rfl rfl) ?_) | (refine Ht.yv (y_fieldR (q := 1) (ft := 3) Try.underlying41 rfl sz3 rfl rfl) ?_)
          first | (refine Ht.yv (y_load1 ag3 rfl (Rd.pt1 (by repeat (first | with_reducible exact Pick.here | apply Pick.there)) (by (first | exact ho1 | exact ho2 | exact arT_at hw hk4' (by omega) | exact arT_at hw2 hk4' (by omega) | exact arT_at hw2 hk5' (by omega) | rfl)))) ?_) | (refine Ht.yv (y_loadR1 ag3 rfl (by (first | exact RdS.own (by repeat (first | with_reducible exact Pick.here | apply Pick.there)) | exact RdS.mono hR (Ent.sep (by repeat (first | exact Ent.same | exact Ent.nil | (apply Ent.pick; focus ((repeat (first | with_reducible exact Pick.here | apply Pick.there)); done)) | refine Ent.pure (by assumption) ?_ | apply Ent.ownNil | refine Ent.skip ?_))) | exact RdS.mono hR2 (Ent.sep (by repeat (first | exact Ent.same | exact Ent.nil | (apply Ent.pick; focus ((repeat (first | with_reducible exact Pick.here | apply Pick.there)); done)) | refine Ent.pure (by assumption) ?_ | apply Ent.ownNil | refine Ent.skip ?_))))) (by (first | exact ho1 | exact ho2 | exact arT_at hw hk4' (by omega) | exact arT_at hw2 hk4' (by omega) | exact arT_at hw2 hk5' (by omega) | rfl))) ?_)
          refine Ht.yv (y_move rfl) ?_
          refine Ht.yv (y_move rfl) ?_
          first | (refine Ht.yv (y_idxS Try.underlying34 sz41 rfl rfl (by first | omega | decide)) ?_) | (refine Ht.yv (y_idxR Try.underlying34 sz41 rfl rfl (by first | omega | decide) (by (first | exact RdS.own (by repeat (first | with_reducible exact Pick.here | apply Pick.there)) | exact RdS.mono hR (Ent.sep (by repeat (first | exact Ent.same | exact Ent.nil | (apply Ent.pick; focus ((repeat (first | with_reducible exact Pick.here | apply Pick.there)); done)) | refine Ent.pure (by assumption) ?_ | apply Ent.ownNil | refine Ent.skip ?_))) | exact RdS.mono hR2 (Ent.sep (by repeat (first | exact Ent.same | exact Ent.nil | (apply Ent.pick; focus ((repeat (first | with_reducible exact Pick.here | apply Pick.there)); done)) | refine Ent.pure (by assumption) ?_ | apply Ent.ownNil | refine Ent.skip ?_)))))) ?_)
          first | (refine Ht.yv (y_field' (q := 2) (ft := 3) Try.underlying41 rfl sz3 rfl rfl) ?_) | (refine Ht.yv (y_fieldR (q := 2) (ft := 3) Try.underlying41 rfl sz3 rfl rfl) ?_)
          first | (refine Ht.yv (y_load1 ag3 rfl (Rd.pt1 (by repeat (first | with_reducible exact Pick.here | apply Pick.there)) (by (first | exact ho1 | exact ho2 | exact arT_at hw hk4' (by omega) | exact arT_at hw2 hk4' (by omega) | exact arT_at hw2 hk5' (by omega) | rfl)))) ?_) | (refine Ht.yv (y_loadR1 ag3 rfl (by (first | exact RdS.own (by repeat (first | with_reducible exact Pick.here | apply Pick.there)) | exact RdS.mono hR (Ent.sep (by repeat (first | exact Ent.same | exact Ent.nil | (apply Ent.pick; focus ((repeat (first | with_reducible exact Pick.here | apply Pick.there)); done)) | refine Ent.pure (by assumption) ?_ | apply Ent.ownNil | refine Ent.skip ?_))) | exact RdS.mono hR2 (Ent.sep (by repeat (first | exact Ent.same | exact Ent.nil | (apply Ent.pick; focus ((repeat (first | with_reducible exact Pick.here | apply Pick.there)); done)) | refine Ent.pure (by assumption) ?_ | apply Ent.ownNil | refine Ent.skip ?_))))) (by (first | exact ho1 | exact ho2 | exact arT_at hw hk4' (by omega) | exact arT_at hw2 hk4' (by omega) | exact arT_at hw2 hk5' (by omega) | rfl))) ?_)
          refine Ht.nil ?_
          refine Hd.callE rfl fk19 (want_ct _ b s2 o.2.1 o.2.2) (Ent.sep (by repeat (first | exact Ent.same | exact Ent.nil | (apply Ent.pick; focus ((repeat (first | with_reducible exact Pick.here | apply Pick.there)); done)) | refine Ent.pure (by assumption) ?_ | apply Ent.ownNil | refine Ent.skip ?_))) ?_
          intro _
          refine Hd.nil ?_
          refine Hd.slots [(1, _), (5, _), (6, _), (8, _), (9, _), (69, _), (70, _)] ⟨rfl, rfl, rfl, rfl, rfl, rfl, rfl, trivial⟩ ?_
          refine Hd.inB ?_
          refine Hd.toK hK27 ?_
          refine Hd.region ?_
          first | (refine Hd.yv (y_addn rfl rfl (by simp only [InK]; omega)) ?_) | (refine Hd.yv (y_add rfl rfl) ?_)
          refine Hd.yv (y_move rfl) ?_
          refine Hd.nil ?_
          refine Hd.slots [(1, _), (5, _), (6, _), (8, _), (9, _), (69, _), (70, _)] ⟨rfl, rfl, rfl, rfl, rfl, rfl, rfl, trivial⟩ ?_
          clear hK1 hK2 hK3 hK4 hK6 hK7 hK8 hK9 hK10 hK13 hK14 hK15 hK16 hK17 hK18 hK23 hK24 hK25 hK26 hK27 hK28
          refine Hd.thenN ?_
          exact Hd.again (i2 + 1, s2.want o.2.1 o.2.2) (by simp only; omega) ⟨rfl, rfl, rfl, rfl, rfl, rfl, rfl, trivial⟩ (Ent.sep (.pure ⟨by simp only; omega, by simp only; rw [want_h]; exact hi2h⟩ (by repeat (first | exact Ent.same | exact Ent.nil | (apply Ent.pick; focus ((repeat (first | with_reducible exact Pick.here | apply Pick.there)); done)) | refine Ent.pure (by assumption) ?_ | apply Ent.ownNil | refine Ent.skip ?_))))
        ·
          try simp only [decide_eq_true_eq, decide_eq_false_iff_not, Bool.and_eq_true, Bool.or_eq_true, Bool.and_eq_false_iff, Bool.or_eq_false_iff, Bool.not_eq_true', Bool.not_eq_false', Bool.not_eq_true, Bool.not_eq_false, Int.not_lt, Int.not_le, Decidable.not_not, ne_eq] at hc4
          refine Hd.exit ?_
          refine Hd.thenExit ?_
          refine Hd.thenExit ?_
          refine Hd.inBexit ?_
          refine Hd.toK hK23 ?_
          refine Hd.seq (fun K29 hK29 => ?_)
          refine Hd.seq (fun K30 hK30 => ?_)
          refine Hd.region ?_
          refine Hd.yv (y_move rfl) ?_
          refine Hd.nil ?_
          refine Hd.slots [(5, _), (6, _), (8, _), (9, _), (86, _)] ⟨rfl, rfl, rfl, rfl, rfl, trivial⟩ ?_
          refine Hd.toK hK30 ?_
          refine Hd.block ?_
          have hw2 := s2.hw
          refine Hd.loop (ι := Nat) (fun k => [(5, .bool true), (6, .pointer (some ⟨b, 0, none⟩)), (8, .pointer (some ⟨b8, 0, none⟩)), (9, .pointer (some ⟨b9, 0, none⟩)), (86, .int .i64 (k : Int))])
            (fun k => pu (k ≤ 96) :: CLs b s2 true :: pt b8 (arT s.w 96) 47 :: pt b9 (arT s2.w k) 47 :: L) (fun k => 96 - k) 0 ⟨rfl, rfl, rfl, rfl, rfl, trivial⟩ (by rw [arT_0 s2.w, ← arT_0 s.w]; exact (Ent.sep (.pure (by omega) (by repeat (first | exact Ent.same | exact Ent.nil | (apply Ent.pick; focus ((repeat (first | with_reducible exact Pick.here | apply Pick.there)); done)) | refine Ent.pure (by assumption) ?_ | apply Ent.ownNil | refine Ent.skip ?_))))) ?_
          intro k3
          refine Hd.pure (fun hk3 => ?_)
          refine Hd.seq (fun K31 hK31 => ?_)
          refine Hd.region ?_
          refine Hd.yv (y_lss rfl rfl) ?_
          refine Hd.nil ?_
          refine Hd.slots [(5, _), (6, _), (8, _), (9, _), (86, _), (87, _)] ⟨rfl, rfl, rfl, rfl, rfl, rfl, trivial⟩ ?_
          refine Hd.toK hK31 ?_
          refine Hd.seq (fun K32 hK32 => ?_)
          refine Hd.cond rfl (fun hc5 => ?_) (fun hc5 => ?_)
          ·
            try simp only [decide_eq_true_eq, decide_eq_false_iff_not, Bool.and_eq_true, Bool.or_eq_true, Bool.and_eq_false_iff, Bool.or_eq_false_iff, Bool.not_eq_true', Bool.not_eq_false', Bool.not_eq_true, Bool.not_eq_false, Int.not_lt, Int.not_le, Decidable.not_not, ne_eq] at hc5
            have hk3' : k3 < 96 := by omega
            refine Hd.skip ?_
            refine Hd.toK hK32 ?_
            refine Hd.seq (fun K33 hK33 => ?_)
            refine Hd.block ?_
            refine Hd.seq (fun K34 hK34 => ?_)
            refine Hd.region ?_
            refine Hd.yv (y_move rfl) ?_
            refine Hd.yv (y_assign rfl) ?_
            refine Hd.nil ?_
            refine Hd.slots [(5, _), (6, _), (8, _), (9, _), (12, _), (86, _)] ⟨rfl, rfl, rfl, rfl, rfl, rfl, trivial⟩ ?_
            refine Hd.toK hK34 ?_
            refine Hd.region ?_
            refine Hd.yv (y_move rfl) ?_
            refine Hd.yv (y_move rfl) ?_
            refine Hd.yv (y_move rfl) ?_
            refine Hd.callE rfl fk24 (wants_ct _ b s2 _) (Ent.sep (by repeat (first | exact Ent.same | exact Ent.nil | (apply Ent.pick; focus ((repeat (first | with_reducible exact Pick.here | apply Pick.there)); done)) | refine Ent.pure (by assumption) ?_ | apply Ent.ownNil | refine Ent.skip ?_))) ?_
            intro _
            rw [wants_nat s2 hk3']
            refine Hd.yv (y_idxA Try.underlying47 sz3 rfl rfl (by first | omega | decide)) ?_
            first | (refine Hd.store1 sz3 rfl rfl rfl (by repeat (first | with_reducible exact Pick.here | apply Pick.there)) (by first | (rw [arT_len hw (by omega)]; omega) | (rw [arT_len hw2 (by omega)]; omega) | decide | (simp; done) | (simp; omega)) ?_) | (refine Hd.storeO1 sz3 rfl rfl rfl (by repeat (first | with_reducible exact Pick.here | apply Pick.there)) (by first | (rw [arT_len hw (by omega)]; omega) | (rw [arT_len hw2 (by omega)]; omega) | omega | (simp; done) | (simp; omega)) ?_)
            try simp only [List.set_cons_zero, List.set_cons_succ]
            rw [arT_set hw2 hk3']
            refine Hd.nil ?_
            refine Hd.slots [(5, _), (6, _), (8, _), (9, _), (86, _)] ⟨rfl, rfl, rfl, rfl, rfl, trivial⟩ ?_
            refine Hd.inB ?_
            refine Hd.toK hK33 ?_
            refine Hd.region ?_
            first | (refine Hd.yv (y_addn rfl rfl (by simp only [InK]; omega)) ?_) | (refine Hd.yv (y_add rfl rfl) ?_)
            refine Hd.yv (y_move rfl) ?_
            refine Hd.nil ?_
            refine Hd.slots [(5, _), (6, _), (8, _), (9, _), (86, _)] ⟨rfl, rfl, rfl, rfl, rfl, trivial⟩ ?_
            clear hK1 hK2 hK3 hK4 hK6 hK7 hK8 hK9 hK10 hK13 hK14 hK15 hK16 hK17 hK18 hK23 hK24 hK25 hK26 hK29 hK30 hK31 hK32 hK33 hK34
            refine Hd.thenN ?_
            exact Hd.again (k3 + 1) (by omega) ⟨rfl, rfl, rfl, rfl, rfl, trivial⟩ (Ent.sep (.pure (by omega) (by repeat (first | exact Ent.same | exact Ent.nil | (apply Ent.pick; focus ((repeat (first | with_reducible exact Pick.here | apply Pick.there)); done)) | refine Ent.pure (by assumption) ?_ | apply Ent.ownNil | refine Ent.skip ?_))))
          ·
            try simp only [decide_eq_true_eq, decide_eq_false_iff_not, Bool.and_eq_true, Bool.or_eq_true, Bool.and_eq_false_iff, Bool.or_eq_false_iff, Bool.not_eq_true', Bool.not_eq_false', Bool.not_eq_true, Bool.not_eq_false, Int.not_lt, Int.not_le, Decidable.not_not, ne_eq] at hc5
            refine Hd.exit ?_
            refine Hd.thenExit ?_
            refine Hd.thenExit ?_
            refine Hd.inBexit ?_
            refine Hd.toK hK29 ?_
            refine Hd.seq (fun K35 hK35 => ?_)
            refine Hd.region ?_
            refine Hd.yv (y_move rfl) ?_
            refine Hd.callE rfl fk20 (flush_ct _ b s2) (Ent.sep (by repeat (first | exact Ent.same | exact Ent.nil | (apply Ent.pick; focus ((repeat (first | with_reducible exact Pick.here | apply Pick.there)); done)) | refine Ent.pure (by assumption) ?_ | apply Ent.ownNil | refine Ent.skip ?_))) ?_
            rintro ⟨a6, c6⟩
            dsimp only
            refine Hd.yv (y_assign rfl) ?_
            refine Hd.nil ?_
            refine Hd.slots [(5, _), (6, _), (8, _), (9, _), (13, _)] ⟨rfl, rfl, rfl, rfl, rfl, trivial⟩ ?_
            refine Hd.toK hK35 ?_
            refine Hd.seq (fun K36 hK36 => ?_)
            refine Hd.region ?_
            refine Hd.yv (y_assign rfl) ?_
            refine Hd.nil ?_
            refine Hd.slots [(5, _), (6, _), (8, _), (9, _), (13, _), (14, _)] ⟨rfl, rfl, rfl, rfl, rfl, rfl, trivial⟩ ?_
            refine Hd.toK hK36 ?_
            refine Hd.seq (fun K37 hK37 => ?_)
            refine Hd.seq (fun K38 hK38 => ?_)
            refine Hd.region ?_
            refine Hd.yv (y_move rfl) ?_
            refine Hd.nil ?_
            refine Hd.slots [(5, _), (6, _), (8, _), (9, _), (13, _), (14, _), (97, _)] ⟨rfl, rfl, rfl, rfl, rfl, rfl, rfl, trivial⟩ ?_
            refine Hd.toK hK38 ?_
            refine Hd.block ?_
            obtain rfl : k3 = 96 := by omega
            have hcl := chs_le s2 96
            have hcg : ∀ k, k < 96 → s.w.getD k 0 ≠ s2.w.getD k 0 → (s2.chs 96)[(s2.chs k).length]? = some ((k : Int), s.w.getD k 0, s2.w.getD k 0) := fun k hk hne => by
              have := chs_get s2 hk (by rw [hi2h]; exact hne)
              rwa [hi2h] at this
            have hc96 : (s2.chs 96).length = (s2.chs 96).length := rfl
            revert hcl hcg hc96
            generalize hch : s2.chs 96 = ch
            intro hcl hcg _
            refine Hd.loop (ι := Nat) (fun k => [(5, .bool true), (6, .pointer (some ⟨b, 0, none⟩)), (8, .pointer (some ⟨b8, 0, none⟩)), (9, .pointer (some ⟨b9, 0, none⟩)), (13, .slice a6 ch.length c6), (14, .int .i64 ((s2.chs k).length : Int)), (97, .int .i64 (k : Int))])
              (fun k => pu (k ≤ 96) :: CLs b s2.flush true :: pt b8 (arT s.w 96) 47 :: pt b9 (arT s2.w 96) 47 :: own 27 3 a6 ch.length c6 (ch.flatMap encC) :: L) (fun k => 96 - k) 0 ⟨rfl, rfl, rfl, rfl, rfl, rfl, rfl, trivial⟩ (Ent.sep (.pure (by omega) (by repeat (first | exact Ent.same | exact Ent.nil | (apply Ent.pick; focus ((repeat (first | with_reducible exact Pick.here | apply Pick.there)); done)) | refine Ent.pure (by assumption) ?_ | apply Ent.ownNil | refine Ent.skip ?_)))) ?_
            intro k4
            refine Hd.pure (fun hk4 => ?_)
            have hcl4 := chs_le s2 k4
            refine Hd.seq (fun K39 hK39 => ?_)
            refine Hd.region ?_
            refine Hd.yv (y_lss rfl rfl) ?_
            refine Hd.nil ?_
            refine Hd.slots [(5, _), (6, _), (8, _), (9, _), (13, _), (14, _), (97, _), (98, _)] ⟨rfl, rfl, rfl, rfl, rfl, rfl, rfl, rfl, trivial⟩ ?_
            refine Hd.toK hK39 ?_
            refine Hd.seq (fun K40 hK40 => ?_)
            refine Hd.cond rfl (fun hc6 => ?_) (fun hc6 => ?_)
            ·
              try simp only [decide_eq_true_eq, decide_eq_false_iff_not, Bool.and_eq_true, Bool.or_eq_true, Bool.and_eq_false_iff, Bool.or_eq_false_iff, Bool.not_eq_true', Bool.not_eq_false', Bool.not_eq_true, Bool.not_eq_false, Int.not_lt, Int.not_le, Decidable.not_not, ne_eq] at hc6
              have hk4' : k4 < 96 := by omega
              refine Hd.skip ?_
              refine Hd.toK hK40 ?_
              refine Hd.seq (fun K41 hK41 => ?_)
              refine Hd.block ?_
              refine Hd.seq (fun K42 hK42 => ?_)
              refine Hd.region ?_
              refine Hd.yv (y_move rfl) ?_
              refine Hd.yv (y_assign rfl) ?_
              refine Hd.nil ?_
              refine Hd.slots [(5, _), (6, _), (8, _), (9, _), (13, _), (14, _), (15, _), (97, _)] ⟨rfl, rfl, rfl, rfl, rfl, rfl, rfl, rfl, trivial⟩ ?_
              refine Hd.toK hK42 ?_
              refine Hd.seq (fun K43 hK43 => ?_)
              refine Hd.seq (fun K44 hK44 => ?_)
              refine Hd.quiet mixed (by kernel_rfl) ?_
              refine Hq.yv (y_move rfl) ?_
              refine Hq.yv (y_idxA Try.underlying47 sz3 rfl rfl (by first | omega | decide)) ?_
              refine Hq.yv (y_load1 ag3 rfl (Rd.pt1 (by repeat (first | with_reducible exact Pick.here | apply Pick.there)) (arT_at hw hk4' (by omega)))) ?_
              refine Hq.yv (y_move rfl) ?_
              refine Hq.yv (y_idxA Try.underlying47 sz3 rfl rfl (by first | omega | decide)) ?_
              refine Hq.yv (y_load1 ag3 rfl (Rd.pt1 (.there (.there .here)) (arT_at hw2 hk4' (by omega)))) ?_
              first | (refine Hq.yv (y_eqlT rfl rfl) ?_) | (refine Hq.yv (y_eql rfl rfl) ?_)
              refine Hq.nil ?_
              refine Hd.slots [(5, _), (6, _), (8, _), (9, _), (13, _), (14, _), (15, _), (97, _), (106, _)] ⟨rfl, rfl, rfl, rfl, rfl, rfl, rfl, rfl, rfl, trivial⟩ ?_
              refine Hd.toK hK44 ?_
              refine Hd.cond rfl (fun hc7 => ?_) (fun hc7 => ?_)
              ·
                try simp only [decide_eq_true_eq, decide_eq_false_iff_not, Bool.and_eq_true, Bool.or_eq_true, Bool.and_eq_false_iff, Bool.or_eq_false_iff, Bool.not_eq_true', Bool.not_eq_false', Bool.not_eq_true, Bool.not_eq_false, Int.not_lt, Int.not_le, Decidable.not_not, ne_eq] at hc7
                have e : s2.chs (k4 + 1) = s2.chs k4 := by simp only [LS.chs, LS.chg]; rw [hi2h, if_pos hc7, List.append_nil]
                refine Hd.exit ?_
                refine Hd.thenExit ?_
                refine Hd.inBexit ?_
                refine Hd.toK hK41 ?_
                refine Hd.region ?_
                first | (refine Hd.yv (y_addn rfl rfl (by simp only [InK]; omega)) ?_) | (refine Hd.yv (y_add rfl rfl) ?_)
                refine Hd.yv (y_move rfl) ?_
                refine Hd.nil ?_
                refine Hd.slots [(5, _), (6, _), (8, _), (9, _), (13, _), (14, _), (97, _)] ⟨rfl, rfl, rfl, rfl, rfl, rfl, rfl, trivial⟩ ?_
                clear hK1 hK2 hK3 hK4 hK6 hK7 hK8 hK9 hK10 hK13 hK14 hK15 hK16 hK17 hK18 hK23 hK24 hK25 hK26 hK29 hK30 hK31 hK32 hK35 hK36 hK37 hK38 hK39 hK40 hK41 hK42 hK43 hK44
                refine Hd.thenN ?_
                exact Hd.again (k4 + 1) (by omega) ⟨rfl, rfl, rfl, rfl, rfl, by rw [e]; rfl, rfl, trivial⟩ (Ent.sep (.pure (by omega) (by repeat (first | exact Ent.same | exact Ent.nil | (apply Ent.pick; focus ((repeat (first | with_reducible exact Pick.here | apply Pick.there)); done)) | refine Ent.pure (by assumption) ?_ | apply Ent.ownNil | refine Ent.skip ?_))))
              ·
                try simp only [decide_eq_true_eq, decide_eq_false_iff_not, Bool.and_eq_true, Bool.or_eq_true, Bool.and_eq_false_iff, Bool.or_eq_false_iff, Bool.not_eq_true', Bool.not_eq_false', Bool.not_eq_true, Bool.not_eq_false, Int.not_lt, Int.not_le, Decidable.not_not, ne_eq] at hc7
                have hget := hcg k4 hk4' hc7
                have hlt : (s2.chs k4).length < ch.length := (List.getElem?_eq_some_iff.1 hget).1
                have e : s2.chs (k4 + 1) = s2.chs k4 ++ [((k4 : Int), s2.h.getD k4 0, s2.w.getD k4 0)] := by simp only [LS.chs, LS.chg]; rw [if_neg (by rw [hi2h]; exact hc7)]
                refine Hd.skip ?_
                refine Hd.toK hK43 ?_
                refine Hd.seq (fun K45 hK45 => ?_)
                refine Hd.seq (fun K46 hK46 => ?_)
                refine Hd.quiet mixed (by kernel_rfl) ?_
                refine Hq.yv (y_move rfl) ?_
                refine Hq.yv (y_move rfl) ?_
                refine Hq.yv (y_len Try.underlying42 rfl) ?_
                refine Hq.yv (y_geq rfl rfl) ?_
                rw [decide_eq_false (by omega)]
                refine Hq.yv (y_move rfl) ?_
                refine Hq.yg rfl rfl (y_move rfl) ?_
                refine Hq.yg rfl rfl (y_move rfl) ?_
                first | (refine Hq.yg rfl rfl (y_idxS Try.underlying42 sz27 rfl rfl (by first | omega | decide)) ?_) | (refine Hq.yg rfl rfl (y_idxR Try.underlying42 sz27 rfl rfl (by first | omega | decide) (by (first | exact RdS.own (by repeat (first | with_reducible exact Pick.here | apply Pick.there)) | exact RdS.mono hR (Ent.sep (by repeat (first | exact Ent.same | exact Ent.nil | (apply Ent.pick; focus ((repeat (first | with_reducible exact Pick.here | apply Pick.there)); done)) | refine Ent.pure (by assumption) ?_ | apply Ent.ownNil | refine Ent.skip ?_))) | exact RdS.mono hR2 (Ent.sep (by repeat (first | exact Ent.same | exact Ent.nil | (apply Ent.pick; focus ((repeat (first | with_reducible exact Pick.here | apply Pick.there)); done)) | refine Ent.pure (by assumption) ?_ | apply Ent.ownNil | refine Ent.skip ?_)))))) ?_)
                refine Hq.yg rfl rfl (y_loadRn (vs := [_, _, _]) ag27 rfl (RdS.own (by repeat (first | with_reducible exact Pick.here | apply Pick.there))) (flat_cells encC 3 (fun _ => rfl) hget) (by exact sz27) (by simp)) ?_
                refine Hq.yg rfl rfl (y_move rfl) ?_
                refine Hq.yg rfl rfl (y_move rfl) ?_
                refine Hq.yg rfl rfl (y_idxA Try.underlying47 sz3 rfl rfl (by first | omega | decide)) ?_
                refine Hq.yg rfl rfl (y_load1 ag3 rfl (Rd.pt1 (by repeat (first | with_reducible exact Pick.here | apply Pick.there)) (arT_at hw hk4' (by omega)))) ?_
                refine Hq.yg rfl rfl (y_move rfl) ?_
                refine Hq.yg rfl rfl (y_idxA Try.underlying47 sz3 rfl rfl (by first | omega | decide)) ?_
                refine Hq.yg rfl rfl (y_load1 ag3 rfl (Rd.pt1 (.there (.there .here)) (arT_at hw2 hk4' (by omega)))) ?_
                refine Hq.yg rfl rfl (y_build (vs := [(0, _), (1, _), (2, _)]) rfl (by first | exact bd6_123 .. | kernel_rfl)) ?_
                refine Hq.yg rfl rfl (y_neq_agg rfl rfl eqt27 rfl ⟨rfl, rfl⟩) ?_
                first | (refine Hq.yv (y_pickT rfl rfl) ?_) | (refine Hq.yv (y_pickF rfl rfl) ?_) | (refine Hq.yv (y_pickb rfl rfl rfl) ?_) | (refine Hq.yv (y_pick rfl rfl rfl) ?_)
                refine Hq.nil ?_
                refine Hd.slots [(5, _), (6, _), (8, _), (9, _), (13, _), (14, _), (97, _), (125, _)] ⟨rfl, rfl, rfl, rfl, rfl, rfl, rfl, rfl, trivial⟩ ?_
                refine Hd.toK hK46 ?_
                refine Hd.cond rfl (fun hc8 => ?_) (fun hc8 => ?_)
                ·
                  try simp only [decide_eq_true_eq, decide_eq_false_iff_not, Bool.and_eq_true, Bool.or_eq_true, Bool.and_eq_false_iff, Bool.or_eq_false_iff, Bool.not_eq_true', Bool.not_eq_false', Bool.not_eq_true, Bool.not_eq_false, Int.not_lt, Int.not_le, Decidable.not_not, ne_eq] at hc8
                  simp [allEq, eqv] at hc8
                ·
                  try simp only [decide_eq_true_eq, decide_eq_false_iff_not, Bool.and_eq_true, Bool.or_eq_true, Bool.and_eq_false_iff, Bool.or_eq_false_iff, Bool.not_eq_true', Bool.not_eq_false', Bool.not_eq_true, Bool.not_eq_false, Int.not_lt, Int.not_le, Decidable.not_not, ne_eq] at hc8
                  refine Hd.skip ?_
                  refine Hd.toK hK45 ?_
                  refine Hd.region ?_
                  refine Hd.yv (y_move rfl) ?_
                  first | (refine Hd.yv (y_addn rfl rfl (by simp only [InK]; omega)) ?_) | (refine Hd.yv (y_add rfl rfl) ?_)
                  refine Hd.yv (y_assign rfl) ?_
                  refine Hd.nil ?_
                  refine Hd.slots [(5, _), (6, _), (8, _), (9, _), (13, _), (14, _), (97, _)] ⟨rfl, rfl, rfl, rfl, rfl, rfl, rfl, trivial⟩ ?_
                  refine Hd.inB ?_
                  refine Hd.toK hK41 ?_
                  refine Hd.region ?_
                  first | (refine Hd.yv (y_addn rfl rfl (by simp only [InK]; omega)) ?_) | (refine Hd.yv (y_add rfl rfl) ?_)
                  refine Hd.yv (y_move rfl) ?_
                  refine Hd.nil ?_
                  refine Hd.slots [(5, _), (6, _), (8, _), (9, _), (13, _), (14, _), (97, _)] ⟨rfl, rfl, rfl, rfl, rfl, rfl, rfl, trivial⟩ ?_
                  clear hK1 hK2 hK3 hK4 hK6 hK7 hK8 hK9 hK10 hK13 hK14 hK15 hK16 hK17 hK18 hK23 hK24 hK25 hK26 hK29 hK30 hK31 hK32 hK35 hK36 hK37 hK38 hK39 hK40 hK41 hK42 hK43 hK44 hK45 hK46
                  refine Hd.thenN ?_
                  exact Hd.again (k4 + 1) (by omega) ⟨rfl, rfl, rfl, rfl, rfl, by rw [e]; simp; rfl, rfl, trivial⟩ (Ent.sep (.pure (by omega) (by repeat (first | exact Ent.same | exact Ent.nil | (apply Ent.pick; focus ((repeat (first | with_reducible exact Pick.here | apply Pick.there)); done)) | refine Ent.pure (by assumption) ?_ | apply Ent.ownNil | refine Ent.skip ?_))))
            ·
              try simp only [decide_eq_true_eq, decide_eq_false_iff_not, Bool.and_eq_true, Bool.or_eq_true, Bool.and_eq_false_iff, Bool.or_eq_false_iff, Bool.not_eq_true', Bool.not_eq_false', Bool.not_eq_true, Bool.not_eq_false, Int.not_lt, Int.not_le, Decidable.not_not, ne_eq] at hc6
              refine Hd.exit ?_
              refine Hd.thenExit ?_
              refine Hd.thenExit ?_
              refine Hd.inBexit ?_
              refine Hd.toK hK37 ?_
              refine Hd.seq (fun K47 hK47 => ?_)
              refine Hd.seq (fun K48 hK48 => ?_)
              refine Hd.region ?_
              refine Hd.yv (y_move rfl) ?_
              refine Hd.nil ?_
              refine Hd.slots [(5, _), (6, _), (9, _), (13, _), (14, _), (129, _)] ⟨rfl, rfl, rfl, rfl, rfl, rfl, trivial⟩ ?_
              refine Hd.toK hK48 ?_
              refine Hd.block ?_
              obtain rfl : k4 = 96 := by omega
              rw [hch]
              refine Hd.loop (ι := Nat) (fun k => [(5, .bool true), (6, .pointer (some ⟨b, 0, none⟩)), (9, .pointer (some ⟨b9, 0, none⟩)), (13, .slice a6 ch.length c6), (14, .int .i64 (ch.length : Int)), (129, .int .i64 (k : Int))])
                (fun k => pu (k ≤ 96) :: CLs b s2.flush true :: pt b9 (arT s2.w 96) 47 :: L) (fun k => 96 - k) 0 ⟨rfl, rfl, rfl, rfl, rfl, rfl, trivial⟩ (Ent.sep (.pure (by omega) (by repeat (first | exact Ent.same | exact Ent.nil | (apply Ent.pick; focus ((repeat (first | with_reducible exact Pick.here | apply Pick.there)); done)) | refine Ent.pure (by assumption) ?_ | apply Ent.ownNil | refine Ent.skip ?_)))) ?_
              intro k5
              refine Hd.pure (fun hk5 => ?_)
              refine Hd.seq (fun K49 hK49 => ?_)
              refine Hd.region ?_
              refine Hd.yv (y_lss rfl rfl) ?_
              refine Hd.nil ?_
              refine Hd.slots [(5, _), (6, _), (9, _), (13, _), (14, _), (129, _), (130, _)] ⟨rfl, rfl, rfl, rfl, rfl, rfl, rfl, trivial⟩ ?_
              refine Hd.toK hK49 ?_
              refine Hd.seq (fun K50 hK50 => ?_)
              refine Hd.cond rfl (fun hc9 => ?_) (fun hc9 => ?_)
              ·
                try simp only [decide_eq_true_eq, decide_eq_false_iff_not, Bool.and_eq_true, Bool.or_eq_true, Bool.and_eq_false_iff, Bool.or_eq_false_iff, Bool.not_eq_true', Bool.not_eq_false', Bool.not_eq_true, Bool.not_eq_false, Int.not_lt, Int.not_le, Decidable.not_not, ne_eq] at hc9
                have hk5' : k5 < 96 := by omega
                refine Hd.skip ?_
                refine Hd.toK hK50 ?_
                refine Hd.seq (fun K51 hK51 => ?_)
                refine Hd.block ?_
                refine Hd.seq (fun K52 hK52 => ?_)
                refine Hd.region ?_
                refine Hd.yv (y_move rfl) ?_
                refine Hd.yv (y_assign rfl) ?_
                refine Hd.nil ?_
                refine Hd.slots [(5, _), (6, _), (9, _), (13, _), (14, _), (16, _), (129, _)] ⟨rfl, rfl, rfl, rfl, rfl, rfl, rfl, trivial⟩ ?_
                refine Hd.toK hK52 ?_
                refine Hd.seq (fun K53 hK53 => ?_)
                refine Hd.quiet mixed (by kernel_rfl) ?_
                refine Hq.yv (y_move rfl) ?_
                refine Hq.yv (y_move rfl) ?_
                refine Hq.call rfl fk23 (held_ct _ b s2.flush _) ?_
                rw [held_nat s2.flush hk5', show s2.flush.h.getD k5 0 = s2.w.getD k5 0 from rfl]
                refine Hq.yv (y_move rfl) ?_
                refine Hq.yv (y_idxA Try.underlying47 sz3 rfl rfl (by first | omega | decide)) ?_
                refine Hq.yv (y_load1 ag3 rfl (Rd.pt1 (by repeat (first | with_reducible exact Pick.here | apply Pick.there)) (arT_at hw2 hk5' (by omega)))) ?_
                refine Hq.yv (y_neq rfl rfl) ?_
                refine Hq.nil ?_
                refine Hd.slots [(5, _), (6, _), (9, _), (13, _), (14, _), (129, _), (138, _)] ⟨rfl, rfl, rfl, rfl, rfl, rfl, rfl, trivial⟩ ?_
                refine Hd.toK hK53 ?_
                refine Hd.cond rfl (fun hc10 => ?_) (fun hc10 => ?_)
                ·
                  try simp only [decide_eq_true_eq, decide_eq_false_iff_not, Bool.and_eq_true, Bool.or_eq_true, Bool.and_eq_false_iff, Bool.or_eq_false_iff, Bool.not_eq_true', Bool.not_eq_false', Bool.not_eq_true, Bool.not_eq_false, Int.not_lt, Int.not_le, Decidable.not_not, ne_eq] at hc10
                  exact absurd trivial hc10
                ·
                  try simp only [decide_eq_true_eq, decide_eq_false_iff_not, Bool.and_eq_true, Bool.or_eq_true, Bool.and_eq_false_iff, Bool.or_eq_false_iff, Bool.not_eq_true', Bool.not_eq_false', Bool.not_eq_true, Bool.not_eq_false, Int.not_lt, Int.not_le, Decidable.not_not, ne_eq] at hc10
                  refine Hd.skip ?_
                  refine Hd.inB ?_
                  refine Hd.toK hK51 ?_
                  refine Hd.region ?_
                  first | (refine Hd.yv (y_addn rfl rfl (by simp only [InK]; omega)) ?_) | (refine Hd.yv (y_add rfl rfl) ?_)
                  refine Hd.yv (y_move rfl) ?_
                  refine Hd.nil ?_
                  refine Hd.slots [(5, _), (6, _), (9, _), (13, _), (14, _), (129, _)] ⟨rfl, rfl, rfl, rfl, rfl, rfl, trivial⟩ ?_
                  clear hK1 hK2 hK3 hK4 hK6 hK7 hK8 hK9 hK10 hK13 hK14 hK15 hK16 hK17 hK18 hK23 hK24 hK25 hK26 hK29 hK30 hK31 hK32 hK35 hK36 hK37 hK38 hK39 hK40 hK47 hK48 hK49 hK50 hK51 hK52 hK53
                  refine Hd.thenN ?_
                  exact Hd.again (k5 + 1) (by omega) ⟨rfl, rfl, rfl, rfl, rfl, rfl, trivial⟩ (Ent.sep (.pure (by omega) (by repeat (first | exact Ent.same | exact Ent.nil | (apply Ent.pick; focus ((repeat (first | with_reducible exact Pick.here | apply Pick.there)); done)) | refine Ent.pure (by assumption) ?_ | apply Ent.ownNil | refine Ent.skip ?_))))
              ·
                try simp only [decide_eq_true_eq, decide_eq_false_iff_not, Bool.and_eq_true, Bool.or_eq_true, Bool.and_eq_false_iff, Bool.or_eq_false_iff, Bool.not_eq_true', Bool.not_eq_false', Bool.not_eq_true, Bool.not_eq_false, Int.not_lt, Int.not_le, Decidable.not_not, ne_eq] at hc9
                refine Hd.exit ?_
                refine Hd.thenExit ?_
                refine Hd.thenExit ?_
                refine Hd.inBexit ?_
                refine Hd.toK hK47 ?_
                refine Hd.seq (fun K54 hK54 => ?_)
                refine Hd.region ?_
                refine Hd.yv (y_move rfl) ?_
                refine Hd.yv (y_move rfl) ?_
                refine Hd.yg rfl rfl (y_move rfl) ?_
                refine Hd.yg rfl rfl (y_move rfl) ?_
                refine Hd.yg rfl rfl (y_len Try.underlying42 rfl) ?_
                first | (refine Hd.yg rfl rfl (y_eqlT rfl rfl) ?_) | (refine Hd.yg rfl rfl (y_eql rfl rfl) ?_)
                first | (refine Hd.yv (y_pickT rfl rfl) ?_) | (refine Hd.yv (y_pickF rfl rfl) ?_) | (refine Hd.yv (y_pickb rfl rfl rfl) ?_) | (refine Hd.yv (y_pick rfl rfl rfl) ?_)
                refine Hd.yv (y_move rfl) ?_
                refine Hd.yg rfl rfl (y_move rfl) ?_
                refine Hd.unguard rfl rfl ?_
                refine Hd.callE rfl fk22 (changes_ct _ b s2.flush) (Ent.sep (by repeat (first | exact Ent.same | exact Ent.nil | (apply Ent.pick; focus ((repeat (first | with_reducible exact Pick.here | apply Pick.there)); done)) | refine Ent.pure (by assumption) ?_ | apply Ent.ownNil | refine Ent.skip ?_))) ?_
                rintro ⟨a9, c9⟩
                dsimp only
                rw [flush_chs]
                refine Hd.yg rfl rfl (y_len Try.underlying42 rfl) ?_
                first | (refine Hd.yg rfl rfl (y_eqlT rfl rfl) ?_) | (refine Hd.yg rfl rfl (y_eql rfl rfl) ?_)
                first | (refine Hd.yv (y_pickT rfl rfl) ?_) | (refine Hd.yv (y_pickF rfl rfl) ?_) | (refine Hd.yv (y_pickb rfl rfl rfl) ?_) | (refine Hd.yv (y_pick rfl rfl rfl) ?_)
                refine Hd.yv (y_assign rfl) ?_
                refine Hd.nil ?_
                refine Hd.slots [(4, _)] ⟨rfl, trivial⟩ ?_
                refine Hd.toK hK54 ?_
                refine Hd.ret ?_
                clear hK1 hK2 hK3 hK4 hK6 hK7 hK8 hK9 hK10 hK13 hK14 hK15 hK16 hK17 hK18 hK23 hK24 hK25 hK26 hK29 hK30 hK31 hK32 hK35 hK36 hK37 hK38 hK39 hK40 hK47 hK48 hK49 hK50 hK54
                exact Hd.ret1 rfl () rfl (Ent.sep (by repeat (first | exact Ent.same | exact Ent.nil | (apply Ent.pick; focus ((repeat (first | with_reducible exact Pick.here | apply Pick.there)); done)) | refine Ent.pure (by assumption) ?_ | apply Ent.ownNil | refine Ent.skip ?_)))
end Cl6
end Go.Proofs.Ytkgkfjhfedjnpaa
