/-
  That the law ChangePlays answers true.
-/
import Derived.Test.YtkgkfjhfedjnpaaCh4
namespace Go.Proofs.Ytkgkfjhfedjnpaa
set_option linter.unusedSimpArgs false
set_option linter.unusedVariables false
set_option linter.unnecessarySimpa false
open Go.RX
namespace Cl5
open Cl Cl4
theorem ag3 : agk Try.prog 3 = some false := by kernel_rfl
theorem sz3 : szk Try.prog 3 = some 1 := by kernel_rfl
theorem zr3 : zrk Try.prog 3 = some ([.int .i64 0]) := by kernel_rfl
theorem ty3 : tyr Try.prog 3 = some (1, 8, 1) := by kernel_rfl
theorem ag4 : agk Try.prog 4 = some false := by kernel_rfl
theorem sz4 : szk Try.prog 4 = some 1 := by kernel_rfl
theorem zr4 : zrk Try.prog 4 = some ([.bool false]) := by kernel_rfl
theorem ty4 : tyr Try.prog 4 = some (1, 1, 1) := by kernel_rfl
theorem ag27 : agk Try.prog 27 = some true := by kernel_rfl
theorem sz27 : szk Try.prog 27 = some 3 := by kernel_rfl
theorem zr27 : zrk Try.prog 27 = some ([.int .i64 0, .int .i64 0, .int .i64 0]) := by kernel_rfl
theorem ty27 : tyr Try.prog 27 = some (3, 24, 3) := by kernel_rfl
theorem ag34 : agk Try.prog 34 = some false := by kernel_rfl
theorem sz34 : szk Try.prog 34 = some 1 := by kernel_rfl
theorem zr34 : zrk Try.prog 34 = some ([.slice none 0 0]) := by kernel_rfl
theorem ty34 : tyr Try.prog 34 = some (1, 24, 1) := by kernel_rfl
theorem ag36 : agk Try.prog 36 = some false := by kernel_rfl
theorem sz36 : szk Try.prog 36 = some 1 := by kernel_rfl
theorem zr36 : zrk Try.prog 36 = some ([.pointer none]) := by kernel_rfl
theorem ty36 : tyr Try.prog 36 = some (1, 8, 1) := by kernel_rfl
theorem ag41 : agk Try.prog 41 = some true := by kernel_rfl
theorem sz41 : szk Try.prog 41 = some 3 := by kernel_rfl
theorem zr41 : zrk Try.prog 41 = some ([.int .i64 0, .int .i64 0, .int .i64 0]) := by kernel_rfl
theorem ty41 : tyr Try.prog 41 = some (3, 24, 3) := by kernel_rfl
theorem ag42 : agk Try.prog 42 = some false := by kernel_rfl
theorem sz42 : szk Try.prog 42 = some 1 := by kernel_rfl
theorem zr42 : zrk Try.prog 42 = some ([.slice none 0 0]) := by kernel_rfl
theorem ty42 : tyr Try.prog 42 = some (1, 24, 1) := by kernel_rfl
theorem ag47 : agk Try.prog 47 = some true := by kernel_rfl
theorem sz47 : szk Try.prog 47 = some 96 := by kernel_rfl
theorem zr47 : zrk Try.prog 47 = some (List.replicate 96 (.int .i64 0)) := by kernel_rfl
theorem ty47 : tyr Try.prog 47 = some (96, 768, 96) := by kernel_rfl
theorem ag49 : agk Try.prog 49 = some false := by kernel_rfl
theorem sz49 : szk Try.prog 49 = some 1 := by kernel_rfl
theorem zr49 : zrk Try.prog 49 = some ([.pointer none]) := by kernel_rfl
theorem ty49 : tyr Try.prog 49 = some (1, 8, 1) := by kernel_rfl
theorem ag51 : agk Try.prog 51 = some true := by kernel_rfl
theorem sz51 : szk Try.prog 51 = some 192 := by kernel_rfl
theorem zr51 : zrk Try.prog 51 = some (List.replicate 96 (.int .i64 0) ++ List.replicate 96 (.int .i64 0)) := by kernel_rfl
theorem ty51 : tyr Try.prog 51 = some (192, 1536, 192) := by kernel_rfl
theorem fk18 : fnk Try.prog 18 = true := by kernel_rfl
theorem fk19 : fnk Try.prog 19 = true := by kernel_rfl
theorem fk20 : fnk Try.prog 20 = true := by kernel_rfl
theorem fk21 : fnk Try.prog 21 = true := by kernel_rfl
theorem fk22 : fnk Try.prog 22 = true := by kernel_rfl
theorem fk23 : fnk Try.prog 23 = true := by kernel_rfl
theorem fk24 : fnk Try.prog 24 = true := by kernel_rfl
theorem fk25 : fnk Try.prog 25 = true := by kernel_rfl
theorem fk26 : fnk Try.prog 26 = true := by kernel_rfl
theorem fk27 : fnk Try.prog 27 = true := by kernel_rfl
theorem fk28 : fnk Try.prog 28 = true := by kernel_rfl
theorem fk29 : fnk Try.prog 29 = true := by kernel_rfl
theorem fk30 : fnk Try.prog 30 = true := by kernel_rfl
theorem fk31 : fnk Try.prog 31 = true := by kernel_rfl
theorem mixed : Try.prog.follows .mixedOrders = true := by kernel_rfl
theorem bd7_72  : Try.prog.built 27 [] = some #[.int .i64 0, .int .i64 0, .int .i64 0] := by kernel_rfl
abbrev PF (b1 b2 : Nat) (s : LS) (L : List SP) : List SP := CLs b1 s true :: RLs b2 s :: L
theorem heldOf (s : LS) (fd : Int) : s.held fd = if 0 ≤ fd ∧ fd ≤ 95 then s.h.getD fd.toNat 0 else 0 := by
  unfold LS.held inB
  by_cases h : 0 ≤ fd ∧ fd ≤ 95
  · simp [h]
  · rw [if_neg h]; have : (decide (0 ≤ fd) && decide (fd ≤ 95)) = false := by simp; omega
    rw [this]; rfl
theorem plays_ct (L : List SP) (ad : Option Addr) (c : Nat) (xs : List (Int × Int × Int)) (hR : RdS L 3 ad xs.length (xs.flatMap encO)) (hk : ∀ o ∈ xs, InK .i64 o.2.2) :
    Ct Try.prog 7 #[.slice ad xs.length c] L (fun _ : Unit => .bool true) (fun _ => L) := by
  refine Ct.of (vs := [.slice ad xs.length c]) Try.func7 rfl rfl [(0, .slice ad xs.length c)] ⟨rfl, trivial⟩ ?_
  intro E
  show Hd E 134 _ _ _ _
  refine Hd.seq (fun K1 hK1 => ?_)
  refine Hd.region ?_
  refine Hd.yv (y_assign rfl) ?_
  refine Hd.nil ?_
  refine Hd.slots [(0, _)] ⟨rfl, trivial⟩ ?_
  refine Hd.toK hK1 ?_
  refine Hd.seq (fun K2 hK2 => ?_)
  refine Hd.seq (fun K3 hK3 => ?_)
  refine Hd.region ?_
  refine Hd.yv (y_move rfl) ?_
  refine Hd.yv (y_len Try.underlying34 rfl) ?_
  refine Hd.yv (y_gtr rfl rfl) ?_
  refine Hd.nil ?_
  refine Hd.slots [(0, _), (16, _)] ⟨rfl, rfl, trivial⟩ ?_
  refine Hd.toK hK3 ?_
  refine Hd.cond rfl (fun hc0 => ?_) (fun hc0 => ?_)
  ·
    try simp only [decide_eq_true_eq, decide_eq_false_iff_not, Bool.and_eq_true, Bool.or_eq_true, Bool.and_eq_false_iff, Bool.or_eq_false_iff, Bool.not_eq_true', Bool.not_eq_false', Bool.not_eq_true, Bool.not_eq_false, Int.not_lt, Int.not_le, Decidable.not_not, ne_eq] at hc0
    refine Hd.seq (fun K4 hK4 => ?_)
    refine Hd.region ?_
    refine Hd.yv (y_assign rfl) ?_
    refine Hd.nil ?_
    refine Hd.slots [(2, _)] ⟨rfl, trivial⟩ ?_
    refine Hd.toK hK4 ?_
    refine Hd.ret ?_
    refine Hd.thenRet ?_
    clear hK1 hK2 hK3 hK4
    exact Hd.ret1 rfl () rfl (Ent.sep (by repeat (first | exact Ent.same | exact Ent.nil | (apply Ent.pick; focus ((repeat (first | with_reducible exact Pick.here | apply Pick.there)); done)) | refine Ent.pure (by assumption) ?_ | apply Ent.ownNil | refine Ent.skip ?_)))
  ·
    try simp only [decide_eq_true_eq, decide_eq_false_iff_not, Bool.and_eq_true, Bool.or_eq_true, Bool.and_eq_false_iff, Bool.or_eq_false_iff, Bool.not_eq_true', Bool.not_eq_false', Bool.not_eq_true, Bool.not_eq_false, Int.not_lt, Int.not_le, Decidable.not_not, ne_eq] at hc0
    refine Hd.skip ?_
    refine Hd.toK hK2 ?_
    refine Hd.seq (fun K5 hK5 => ?_)
    refine Hd.region ?_
    refine Hd.callE rfl fk18 (new_ct _) (Ent.sep (by repeat (first | exact Ent.same | exact Ent.nil | (apply Ent.pick; focus ((repeat (first | with_reducible exact Pick.here | apply Pick.there)); done)) | refine Ent.pure (by assumption) ?_ | apply Ent.ownNil | refine Ent.skip ?_))) ?_
    intro b1
    refine Hd.yv (y_assign rfl) ?_
    refine Hd.nil ?_
    refine Hd.slots [(0, _), (3, _)] ⟨rfl, rfl, trivial⟩ ?_
    refine Hd.toK hK5 ?_
    refine Hd.seq (fun K6 hK6 => ?_)
    refine Hd.region ?_
    refine Hd.yv (y_build (vs := []) (cs := (LS.zero.cs []).toArray) rfl (by kernel_rfl)) ?_
    refine Hd.box rfl rfl (fun b19 => ?_)
    refine Hd.yv (y_assign rfl) ?_
    refine Hd.nil ?_
    refine Hd.slots [(0, _), (3, _), (4, _)] ⟨rfl, rfl, rfl, trivial⟩ ?_
    refine Hd.toK hK6 ?_
    refine Hd.seq (fun K7 hK7 => ?_)
    refine Hd.seq (fun K8 hK8 => ?_)
    refine Hd.region ?_
    refine Hd.yv (y_move rfl) ?_
    refine Hd.yv (y_len Try.underlying34 rfl) ?_
    refine Hd.yv (y_move rfl) ?_
    refine Hd.nil ?_
    refine Hd.slots [(0, _), (3, _), (4, _), (21, _), (22, _)] ⟨rfl, rfl, rfl, rfl, rfl, trivial⟩ ?_
    refine Hd.toK hK8 ?_
    refine Hd.block ?_
    refine Hd.loop (ι := Nat × LS) (fun i => [(0, .slice ad xs.length c), (3, .pointer (some ⟨b1, 0, none⟩)), (4, .pointer (some ⟨b19, 0, none⟩)), (21, .int .i64 (xs.length : Int)), (22, .int .i64 (i.1 : Int))])
      (fun i => pu (i.1 ≤ xs.length) :: CLs b1 i.2 true :: RLs b19 i.2 :: L) (fun i => xs.length - i.1) (0, LS.zero) ⟨rfl, rfl, rfl, rfl, rfl, trivial⟩ (Ent.sep (.pure (by simp) (by repeat (first | exact Ent.same | exact Ent.nil | (apply Ent.pick; focus ((repeat (first | with_reducible exact Pick.here | apply Pick.there)); done)) | refine Ent.pure (by assumption) ?_ | apply Ent.ownNil | refine Ent.skip ?_)))) ?_
    rintro ⟨i, s⟩
    dsimp only
    refine Hd.pure (fun hi => ?_)
    refine Hd.seq (fun K9 hK9 => ?_)
    refine Hd.region ?_
    refine Hd.yv (y_lss rfl rfl) ?_
    refine Hd.nil ?_
    refine Hd.slots [(0, _), (3, _), (4, _), (21, _), (22, _), (23, _)] ⟨rfl, rfl, rfl, rfl, rfl, rfl, trivial⟩ ?_
    refine Hd.toK hK9 ?_
    refine Hd.seq (fun K10 hK10 => ?_)
    refine Hd.cond rfl (fun hc1 => ?_) (fun hc1 => ?_)
    ·
      try simp only [decide_eq_true_eq, decide_eq_false_iff_not, Bool.and_eq_true, Bool.or_eq_true, Bool.and_eq_false_iff, Bool.or_eq_false_iff, Bool.not_eq_true', Bool.not_eq_false', Bool.not_eq_true, Bool.not_eq_false, Int.not_lt, Int.not_le, Decidable.not_not, ne_eq] at hc1
      have hi' : i < xs.length := by omega
      obtain ⟨o, ho⟩ : ∃ o, xs[i]? = some o := ⟨_, List.getElem?_eq_getElem hi'⟩
      have hko := hk o (List.mem_of_getElem? ho)
      obtain ⟨o0, o1, o2⟩ := o
      refine Hd.skip ?_
      refine Hd.toK hK10 ?_
      refine Hd.seq (fun K11 hK11 => ?_)
      refine Hd.block ?_
      refine Hd.seq (fun K12 hK12 => ?_)
      refine Hd.region ?_
      refine Hd.yv (y_move rfl) ?_
      refine Hd.yv (y_assign rfl) ?_
      refine Hd.nil ?_
      refine Hd.slots [(0, _), (3, _), (4, _), (5, _), (21, _), (22, _)] ⟨rfl, rfl, rfl, rfl, rfl, rfl, trivial⟩ ?_
      refine Hd.toK hK12 ?_
      refine Hd.seq (fun K13 hK13 => ?_)
      refine Hd.region ?_
      refine Hd.yv (y_move rfl) ?_
      refine Hd.yv (y_move rfl) ?_
      first | (refine Hd.yv (y_idxS Try.underlying34 sz41 rfl rfl (by first | omega | decide)) ?_) | (refine Hd.yv (y_idxR Try.underlying34 sz41 rfl rfl (by first | omega | decide) (by (first | exact RdS.own (by repeat (first | with_reducible exact Pick.here | apply Pick.there)) | exact RdS.mono hR (Ent.sep (by repeat (first | exact Ent.same | exact Ent.nil | (apply Ent.pick; focus ((repeat (first | with_reducible exact Pick.here | apply Pick.there)); done)) | refine Ent.pure (by assumption) ?_ | apply Ent.ownNil | refine Ent.skip ?_)))))) ?_)
      refine Hd.yv (y_loadRn (vs := [_, _, _]) ag41 rfl (RdS.mono hR (Ent.sep (by repeat (first | exact Ent.same | exact Ent.nil | (apply Ent.pick; focus ((repeat (first | with_reducible exact Pick.here | apply Pick.there)); done)) | refine Ent.pure (by assumption) ?_ | apply Ent.ownNil | refine Ent.skip ?_)))) (flat_cells encO 3 (fun _ => rfl) ho) (by exact sz41) (by simp)) ?_
      refine Hd.alloc zr41 (fun b6 => ?_)
      first | (refine Hd.storeA (us := [_, _, _]) sz41 rfl rfl rfl (by simp [Value.oneCell']) (by repeat (first | with_reducible exact Pick.here | apply Pick.there)) rfl ?_) | (refine Hd.store (us := [_, _, _]) sz41 rfl rfl rfl (by simp [Value.oneCell']) (by repeat (first | with_reducible exact Pick.here | apply Pick.there)) (by simp) ?_)
      try simp only [List.set_cons_zero, List.set_cons_succ]
      refine Hd.nil ?_
      refine Hd.slots [(0, _), (3, _), (4, _), (6, _), (21, _), (22, _)] ⟨rfl, rfl, rfl, rfl, rfl, rfl, trivial⟩ ?_
      refine Hd.toK hK13 ?_
      refine Hd.seq (fun K14 hK14 => ?_)
      refine Hd.region ?_
      refine Hd.yv (y_assign rfl) ?_
      refine Hd.nil ?_
      refine Hd.slots [(0, _), (3, _), (4, _), (6, _), (7, _), (21, _), (22, _)] ⟨rfl, rfl, rfl, rfl, rfl, rfl, rfl, trivial⟩ ?_
      refine Hd.toK hK14 ?_
      refine Hd.cut (ι := LS) (fun _ => [(0, .slice ad xs.length c), (3, .pointer (some ⟨b1, 0, none⟩)), (4, .pointer (some ⟨b19, 0, none⟩)), (6, .pointer (some ⟨b6, 0, none⟩)), (7, .bool true), (21, .int .i64 (xs.length : Int)), (22, .int .i64 (i : Int))])
        (fun s2 => CLs b1 s2 true :: RLs b19 s2 :: pt b6 [.int .i64 o0, .int .i64 o1, .int .i64 o2] 41 :: L) ?_ ?_
      ·
        refine Hd.seq (fun K15 hK15 => ?_)
        refine Hd.region ?_
        first | (refine Hd.yv (y_field' (q := 0) (ft := 3) Try.underlying41 rfl sz3 rfl rfl) ?_) | (refine Hd.yv (y_fieldR (q := 0) (ft := 3) Try.underlying41 rfl sz3 rfl rfl) ?_)
        first | (refine Hd.yv (y_load1 ag3 rfl (Rd.pt1 (by repeat (first | with_reducible exact Pick.here | apply Pick.there)) (by (first | exact s2.at_h _ hj | exact s2.at_w _ hj | rfl)))) ?_) | (refine Hd.yv (y_loadR1 ag3 rfl (by (first | exact RdS.own (by repeat (first | with_reducible exact Pick.here | apply Pick.there)) | exact RdS.mono hR (Ent.sep (by repeat (first | exact Ent.same | exact Ent.nil | (apply Ent.pick; focus ((repeat (first | with_reducible exact Pick.here | apply Pick.there)); done)) | refine Ent.pure (by assumption) ?_ | apply Ent.ownNil | refine Ent.skip ?_))))) (by (first | exact s2.at_h _ hj | exact s2.at_w _ hj | rfl))) ?_)
        refine Hd.nil ?_
        refine Hd.slots [(0, _), (3, _), (4, _), (6, _), (7, _), (21, _), (22, _), (30, _)] ⟨rfl, rfl, rfl, rfl, rfl, rfl, rfl, rfl, trivial⟩ ?_
        refine Hd.toK hK15 ?_
        refine Hd.block ?_
        refine Hd.seq (fun K16 hK16 => ?_)
        refine Hd.region ?_
        first | (refine Hd.yv (y_eqlT rfl rfl) ?_) | (refine Hd.yv (y_eql rfl rfl) ?_)
        refine Hd.yv (y_assign rfl) ?_
        refine Hd.nil ?_
        refine Hd.slots [(0, _), (3, _), (4, _), (6, _), (7, _), (21, _), (22, _), (30, _), (31, _)] ⟨rfl, rfl, rfl, rfl, rfl, rfl, rfl, rfl, rfl, trivial⟩ ?_
        refine Hd.toK hK16 ?_
        refine Hd.cond rfl (fun hc2 => ?_) (fun hc2 => ?_)
        ·
          try simp only [decide_eq_true_eq, decide_eq_false_iff_not, Bool.and_eq_true, Bool.or_eq_true, Bool.and_eq_false_iff, Bool.or_eq_false_iff, Bool.not_eq_true', Bool.not_eq_false', Bool.not_eq_true, Bool.not_eq_false, Int.not_lt, Int.not_le, Decidable.not_not, ne_eq] at hc2
          refine Hd.seq (fun K17 hK17 => ?_)
          refine Hd.region ?_
          refine Hd.yv (y_move rfl) ?_
          first | (refine Hd.yv (y_field' (q := 1) (ft := 3) Try.underlying41 rfl sz3 rfl rfl) ?_) | (refine Hd.yv (y_fieldR (q := 1) (ft := 3) Try.underlying41 rfl sz3 rfl rfl) ?_)
          first | (refine Hd.yv (y_load1 ag3 rfl (Rd.pt1 (by repeat (first | with_reducible exact Pick.here | apply Pick.there)) (by (first | exact s2.at_h _ hj | exact s2.at_w _ hj | rfl)))) ?_) | (refine Hd.yv (y_loadR1 ag3 rfl (by (first | exact RdS.own (by repeat (first | with_reducible exact Pick.here | apply Pick.there)) | exact RdS.mono hR (Ent.sep (by repeat (first | exact Ent.same | exact Ent.nil | (apply Ent.pick; focus ((repeat (first | with_reducible exact Pick.here | apply Pick.there)); done)) | refine Ent.pure (by assumption) ?_ | apply Ent.ownNil | refine Ent.skip ?_))))) (by (first | exact s2.at_h _ hj | exact s2.at_w _ hj | rfl))) ?_)
          first | (refine Hd.yv (y_field' (q := 2) (ft := 3) Try.underlying41 rfl sz3 rfl rfl) ?_) | (refine Hd.yv (y_fieldR (q := 2) (ft := 3) Try.underlying41 rfl sz3 rfl rfl) ?_)
          first | (refine Hd.yv (y_load1 ag3 rfl (Rd.pt1 (by repeat (first | with_reducible exact Pick.here | apply Pick.there)) (by (first | exact s2.at_h _ hj | exact s2.at_w _ hj | rfl)))) ?_) | (refine Hd.yv (y_loadR1 ag3 rfl (by (first | exact RdS.own (by repeat (first | with_reducible exact Pick.here | apply Pick.there)) | exact RdS.mono hR (Ent.sep (by repeat (first | exact Ent.same | exact Ent.nil | (apply Ent.pick; focus ((repeat (first | with_reducible exact Pick.here | apply Pick.there)); done)) | refine Ent.pure (by assumption) ?_ | apply Ent.ownNil | refine Ent.skip ?_))))) (by (first | exact s2.at_h _ hj | exact s2.at_w _ hj | rfl))) ?_)
          refine Hd.callE rfl fk19 (want_ct _ b1 s o1 o2) (Ent.sep (by repeat (first | exact Ent.same | exact Ent.nil | (apply Ent.pick; focus ((repeat (first | with_reducible exact Pick.here | apply Pick.there)); done)) | refine Ent.pure (by assumption) ?_ | apply Ent.ownNil | refine Ent.skip ?_))) ?_
          intro _
          refine Hd.yv (y_assign rfl) ?_
          refine Hd.nil ?_
          refine Hd.slots [(0, _), (3, _), (4, _), (6, _), (8, _), (21, _), (22, _)] ⟨rfl, rfl, rfl, rfl, rfl, rfl, rfl, trivial⟩ ?_
          refine Hd.toK hK17 ?_
          refine Hd.region ?_
          refine Hd.yv (y_move rfl) ?_
          refine Hd.yv (y_move rfl) ?_
          first | (refine Hd.yv (y_field' (q := 1) (ft := 3) Try.underlying41 rfl sz3 rfl rfl) ?_) | (refine Hd.yv (y_fieldR (q := 1) (ft := 3) Try.underlying41 rfl sz3 rfl rfl) ?_)
          first | (refine Hd.yv (y_load1 ag3 rfl (Rd.pt1 (by repeat (first | with_reducible exact Pick.here | apply Pick.there)) (by (first | exact s2.at_h _ hj | exact s2.at_w _ hj | rfl)))) ?_) | (refine Hd.yv (y_loadR1 ag3 rfl (by (first | exact RdS.own (by repeat (first | with_reducible exact Pick.here | apply Pick.there)) | exact RdS.mono hR (Ent.sep (by repeat (first | exact Ent.same | exact Ent.nil | (apply Ent.pick; focus ((repeat (first | with_reducible exact Pick.here | apply Pick.there)); done)) | refine Ent.pure (by assumption) ?_ | apply Ent.ownNil | refine Ent.skip ?_))))) (by (first | exact s2.at_h _ hj | exact s2.at_w _ hj | rfl))) ?_)
          first | (refine Hd.yv (y_field' (q := 2) (ft := 3) Try.underlying41 rfl sz3 rfl rfl) ?_) | (refine Hd.yv (y_fieldR (q := 2) (ft := 3) Try.underlying41 rfl sz3 rfl rfl) ?_)
          first | (refine Hd.yv (y_load1 ag3 rfl (Rd.pt1 (by repeat (first | with_reducible exact Pick.here | apply Pick.there)) (by (first | exact s2.at_h _ hj | exact s2.at_w _ hj | rfl)))) ?_) | (refine Hd.yv (y_loadR1 ag3 rfl (by (first | exact RdS.own (by repeat (first | with_reducible exact Pick.here | apply Pick.there)) | exact RdS.mono hR (Ent.sep (by repeat (first | exact Ent.same | exact Ent.nil | (apply Ent.pick; focus ((repeat (first | with_reducible exact Pick.here | apply Pick.there)); done)) | refine Ent.pure (by assumption) ?_ | apply Ent.ownNil | refine Ent.skip ?_))))) (by (first | exact s2.at_h _ hj | exact s2.at_w _ hj | rfl))) ?_)
          refine Hd.callE rfl fk25 (rwant_ct _ b19 s o1 o2 hko) (Ent.sep (by repeat (first | exact Ent.same | exact Ent.nil | (apply Ent.pick; focus ((repeat (first | with_reducible exact Pick.here | apply Pick.there)); done)) | refine Ent.pure (by assumption) ?_ | apply Ent.ownNil | refine Ent.skip ?_))) ?_
          intro _
          first | (refine Hd.yv (y_eqlT rfl rfl) ?_) | (refine Hd.yv (y_eql rfl rfl) ?_)
          refine Hd.yv (y_assign rfl) ?_
          refine Hd.nil ?_
          refine Hd.slots [(0, _), (3, _), (4, _), (6, _), (7, _), (21, _), (22, _)] ⟨rfl, rfl, rfl, rfl, rfl, rfl, rfl, trivial⟩ ?_
          refine Hd.inB ?_
          clear hK1 hK2 hK3 hK5 hK6 hK7 hK8 hK9 hK10 hK11 hK12 hK13 hK14 hK15 hK16 hK17
          refine Hd.thenN ?_
          exact Hd.meet (s.want o1 o2) ⟨rfl, rfl, rfl, rfl, rfl, rfl, rfl, trivial⟩ (Ent.sep (by repeat (first | exact Ent.same | exact Ent.nil | (apply Ent.pick; focus ((repeat (first | with_reducible exact Pick.here | apply Pick.there)); done)) | refine Ent.pure (by assumption) ?_ | apply Ent.ownNil | refine Ent.skip ?_)))
        ·
          try simp only [decide_eq_true_eq, decide_eq_false_iff_not, Bool.and_eq_true, Bool.or_eq_true, Bool.and_eq_false_iff, Bool.or_eq_false_iff, Bool.not_eq_true', Bool.not_eq_false', Bool.not_eq_true, Bool.not_eq_false, Int.not_lt, Int.not_le, Decidable.not_not, ne_eq] at hc2
          refine Hd.seq (fun K18 hK18 => ?_)
          refine Hd.region ?_
          first | (refine Hd.yv (y_eqlT rfl rfl) ?_) | (refine Hd.yv (y_eql rfl rfl) ?_)
          refine Hd.yv (y_assign rfl) ?_
          refine Hd.nil ?_
          refine Hd.slots [(0, _), (3, _), (4, _), (6, _), (7, _), (21, _), (22, _), (30, _), (47, _)] ⟨rfl, rfl, rfl, rfl, rfl, rfl, rfl, rfl, rfl, trivial⟩ ?_
          refine Hd.toK hK18 ?_
          refine Hd.cond rfl (fun hc3 => ?_) (fun hc3 => ?_)
          ·
            try simp only [decide_eq_true_eq, decide_eq_false_iff_not, Bool.and_eq_true, Bool.or_eq_true, Bool.and_eq_false_iff, Bool.or_eq_false_iff, Bool.not_eq_true', Bool.not_eq_false', Bool.not_eq_true, Bool.not_eq_false, Int.not_lt, Int.not_le, Decidable.not_not, ne_eq] at hc3
            refine Hd.seq (fun K19 hK19 => ?_)
            refine Hd.region ?_
            refine Hd.yv (y_move rfl) ?_
            first | (refine Hd.yv (y_field' (q := 1) (ft := 3) Try.underlying41 rfl sz3 rfl rfl) ?_) | (refine Hd.yv (y_fieldR (q := 1) (ft := 3) Try.underlying41 rfl sz3 rfl rfl) ?_)
            first | (refine Hd.yv (y_load1 ag3 rfl (Rd.pt1 (by repeat (first | with_reducible exact Pick.here | apply Pick.there)) (by (first | exact s2.at_h _ hj | exact s2.at_w _ hj | rfl)))) ?_) | (refine Hd.yv (y_loadR1 ag3 rfl (by (first | exact RdS.own (by repeat (first | with_reducible exact Pick.here | apply Pick.there)) | exact RdS.mono hR (Ent.sep (by repeat (first | exact Ent.same | exact Ent.nil | (apply Ent.pick; focus ((repeat (first | with_reducible exact Pick.here | apply Pick.there)); done)) | refine Ent.pure (by assumption) ?_ | apply Ent.ownNil | refine Ent.skip ?_))))) (by (first | exact s2.at_h _ hj | exact s2.at_w _ hj | rfl))) ?_)
            refine Hd.callE rfl fk26 (forget_ct _ b1 s o1) (Ent.sep (by repeat (first | exact Ent.same | exact Ent.nil | (apply Ent.pick; focus ((repeat (first | with_reducible exact Pick.here | apply Pick.there)); done)) | refine Ent.pure (by assumption) ?_ | apply Ent.ownNil | refine Ent.skip ?_))) ?_
            intro _
            refine Hd.nil ?_
            refine Hd.slots [(0, _), (3, _), (4, _), (6, _), (7, _), (21, _), (22, _)] ⟨rfl, rfl, rfl, rfl, rfl, rfl, rfl, trivial⟩ ?_
            refine Hd.toK hK19 ?_
            refine Hd.region ?_
            refine Hd.yv (y_move rfl) ?_
            first | (refine Hd.yv (y_field' (q := 1) (ft := 3) Try.underlying41 rfl sz3 rfl rfl) ?_) | (refine Hd.yv (y_fieldR (q := 1) (ft := 3) Try.underlying41 rfl sz3 rfl rfl) ?_)
            first | (refine Hd.yv (y_load1 ag3 rfl (Rd.pt1 (by repeat (first | with_reducible exact Pick.here | apply Pick.there)) (by (first | exact s2.at_h _ hj | exact s2.at_w _ hj | rfl)))) ?_) | (refine Hd.yv (y_loadR1 ag3 rfl (by (first | exact RdS.own (by repeat (first | with_reducible exact Pick.here | apply Pick.there)) | exact RdS.mono hR (Ent.sep (by repeat (first | exact Ent.same | exact Ent.nil | (apply Ent.pick; focus ((repeat (first | with_reducible exact Pick.here | apply Pick.there)); done)) | refine Ent.pure (by assumption) ?_ | apply Ent.ownNil | refine Ent.skip ?_))))) (by (first | exact s2.at_h _ hj | exact s2.at_w _ hj | rfl))) ?_)
            refine Hd.callE rfl fk27 (rforget_ct _ b19 s o1) (Ent.sep (by repeat (first | exact Ent.same | exact Ent.nil | (apply Ent.pick; focus ((repeat (first | with_reducible exact Pick.here | apply Pick.there)); done)) | refine Ent.pure (by assumption) ?_ | apply Ent.ownNil | refine Ent.skip ?_))) ?_
            intro _
            refine Hd.nil ?_
            refine Hd.slots [(0, _), (3, _), (4, _), (6, _), (7, _), (21, _), (22, _)] ⟨rfl, rfl, rfl, rfl, rfl, rfl, rfl, trivial⟩ ?_
            refine Hd.inB ?_
            clear hK1 hK2 hK3 hK5 hK6 hK7 hK8 hK9 hK10 hK11 hK12 hK13 hK14 hK15 hK16 hK18 hK19
            refine Hd.thenN ?_
            exact Hd.meet (s.forget o1) ⟨rfl, rfl, rfl, rfl, rfl, rfl, rfl, trivial⟩ (Ent.sep (by repeat (first | exact Ent.same | exact Ent.nil | (apply Ent.pick; focus ((repeat (first | with_reducible exact Pick.here | apply Pick.there)); done)) | refine Ent.pure (by assumption) ?_ | apply Ent.ownNil | refine Ent.skip ?_)))
          ·
            try simp only [decide_eq_true_eq, decide_eq_false_iff_not, Bool.and_eq_true, Bool.or_eq_true, Bool.and_eq_false_iff, Bool.or_eq_false_iff, Bool.not_eq_true', Bool.not_eq_false', Bool.not_eq_true, Bool.not_eq_false, Int.not_lt, Int.not_le, Decidable.not_not, ne_eq] at hc3
            refine Hd.seq (fun K20 hK20 => ?_)
            refine Hd.region ?_
            first | (refine Hd.yv (y_eqlT rfl rfl) ?_) | (refine Hd.yv (y_eql rfl rfl) ?_)
            refine Hd.yv (y_assign rfl) ?_
            refine Hd.nil ?_
            refine Hd.slots [(0, _), (3, _), (4, _), (6, _), (7, _), (21, _), (22, _), (57, _)] ⟨rfl, rfl, rfl, rfl, rfl, rfl, rfl, rfl, trivial⟩ ?_
            refine Hd.toK hK20 ?_
            refine Hd.cond rfl (fun hc4 => ?_) (fun hc4 => ?_)
            ·
              try simp only [decide_eq_true_eq, decide_eq_false_iff_not, Bool.and_eq_true, Bool.or_eq_true, Bool.and_eq_false_iff, Bool.or_eq_false_iff, Bool.not_eq_true', Bool.not_eq_false', Bool.not_eq_true, Bool.not_eq_false, Int.not_lt, Int.not_le, Decidable.not_not, ne_eq] at hc4
              refine Hd.seq (fun K21 hK21 => ?_)
              refine Hd.region ?_
              refine Hd.yv (y_move rfl) ?_
              refine Hd.callE rfl fk20 (flush_ct _ b1 s) (Ent.sep (by repeat (first | exact Ent.same | exact Ent.nil | (apply Ent.pick; focus ((repeat (first | with_reducible exact Pick.here | apply Pick.there)); done)) | refine Ent.pure (by assumption) ?_ | apply Ent.ownNil | refine Ent.skip ?_))) ?_
              rintro ⟨a5, c5⟩
              refine Hd.yv (y_assign rfl) ?_
              refine Hd.nil ?_
              refine Hd.slots [(0, _), (3, _), (4, _), (6, _), (9, _), (21, _), (22, _)] ⟨rfl, rfl, rfl, rfl, rfl, rfl, rfl, trivial⟩ ?_
              refine Hd.toK hK21 ?_
              refine Hd.seq (fun K22 hK22 => ?_)
              refine Hd.region ?_
              refine Hd.yv (y_move rfl) ?_
              refine Hd.yv (y_move rfl) ?_
              refine Hd.callE rfl fk28 (rflush_ct _ b19 s) (Ent.sep (by repeat (first | exact Ent.same | exact Ent.nil | (apply Ent.pick; focus ((repeat (first | with_reducible exact Pick.here | apply Pick.there)); done)) | refine Ent.pure (by assumption) ?_ | apply Ent.ownNil | refine Ent.skip ?_))) ?_
              rintro ⟨a6, c6⟩
              dsimp only
              refine Hd.call rfl fk21 (sameC_ct _ a5 a6 c5 c6 _ _ (RdS.own (by repeat (first | with_reducible exact Pick.here | apply Pick.there))) (RdS.own (by repeat (first | with_reducible exact Pick.here | apply Pick.there))) (by have := chs_le s 96; omega)) ?_
              intro _
              rw [decide_eq_true rfl]
              refine Hd.yv (y_assign rfl) ?_
              refine Hd.nil ?_
              refine Hd.slots [(0, _), (3, _), (4, _), (6, _), (7, _), (9, _), (21, _), (22, _)] ⟨rfl, rfl, rfl, rfl, rfl, rfl, rfl, rfl, trivial⟩ ?_
              refine Hd.toK hK22 ?_
              refine Hd.seq (fun K23 hK23 => ?_)
              refine Hd.region ?_
              refine Hd.yv (y_move rfl) ?_
              refine Hd.yv (y_len Try.underlying42 rfl) ?_
              refine Hd.yv (y_move rfl) ?_
              refine Hd.nil ?_
              refine Hd.slots [(0, _), (3, _), (4, _), (6, _), (7, _), (9, _), (21, _), (22, _), (66, _), (67, _)] ⟨rfl, rfl, rfl, rfl, rfl, rfl, rfl, rfl, rfl, rfl, trivial⟩ ?_
              refine Hd.toK hK23 ?_
              refine Hd.block ?_
              have hcl := chs_le s 96
              revert hcl
              generalize s.chs 96 = ch
              intro hcl
              refine Hd.loop (ι := {q : Nat × List Value // q.1 ≤ ch.length ∧ q.2.length = ch.length * 3}) (fun q => [(0, .slice ad xs.length c), (3, .pointer (some ⟨b1, 0, none⟩)), (4, .pointer (some ⟨b19, 0, none⟩)), (6, .pointer (some ⟨b6, 0, none⟩)), (7, .bool true), (9, .slice a5 ch.length c5), (21, .int .i64 (xs.length : Int)), (22, .int .i64 (i : Int)), (66, .int .i64 (ch.length : Int)), (67, .int .i64 (q.1.1 : Int))])
                (fun q => own 27 3 a5 ch.length c5 q.1.2 :: CLs b1 s.flush true :: RLs b19 s.flush :: pt b6 [.int .i64 o0, .int .i64 o1, .int .i64 o2] 41 :: L) (fun q => ch.length - q.1.1)
                ⟨(0, ch.flatMap encC), by simp, by rw [flat_len encC 3 (fun _ => rfl)]⟩ ⟨rfl, rfl, rfl, rfl, rfl, rfl, rfl, rfl, rfl, rfl, trivial⟩ (Ent.sep (by repeat (first | exact Ent.same | exact Ent.nil | (apply Ent.pick; focus ((repeat (first | with_reducible exact Pick.here | apply Pick.there)); done)) | refine Ent.pure (by assumption) ?_ | apply Ent.ownNil | refine Ent.skip ?_))) ?_
              rintro ⟨⟨k, us⟩, hkl, hus⟩
              have hkl' : k ≤ ch.length := hkl
              have hus' : us.length = ch.length * 3 := hus
              dsimp only
              refine Hd.seq (fun K24 hK24 => ?_)
              refine Hd.region ?_
              refine Hd.yv (y_lss rfl rfl) ?_
              refine Hd.nil ?_
              refine Hd.slots [(0, _), (3, _), (4, _), (6, _), (7, _), (9, _), (21, _), (22, _), (66, _), (67, _), (68, _)] ⟨rfl, rfl, rfl, rfl, rfl, rfl, rfl, rfl, rfl, rfl, rfl, trivial⟩ ?_
              refine Hd.toK hK24 ?_
              refine Hd.seq (fun K25 hK25 => ?_)
              refine Hd.cond rfl (fun hc5 => ?_) (fun hc5 => ?_)
              ·
                try simp only [decide_eq_true_eq, decide_eq_false_iff_not, Bool.and_eq_true, Bool.or_eq_true, Bool.and_eq_false_iff, Bool.or_eq_false_iff, Bool.not_eq_true', Bool.not_eq_false', Bool.not_eq_true, Bool.not_eq_false, Int.not_lt, Int.not_le, Decidable.not_not, ne_eq] at hc5
                refine Hd.skip ?_
                refine Hd.toK hK25 ?_
                refine Hd.seq (fun K26 hK26 => ?_)
                refine Hd.block ?_
                refine Hd.seq (fun K27 hK27 => ?_)
                refine Hd.region ?_
                refine Hd.yv (y_move rfl) ?_
                refine Hd.yv (y_assign rfl) ?_
                refine Hd.nil ?_
                refine Hd.slots [(0, _), (3, _), (4, _), (6, _), (7, _), (9, _), (10, _), (21, _), (22, _), (66, _), (67, _)] ⟨rfl, rfl, rfl, rfl, rfl, rfl, rfl, rfl, rfl, rfl, rfl, trivial⟩ ?_
                refine Hd.toK hK27 ?_
                refine Hd.region ?_
                refine Hd.yv (y_move rfl) ?_
                refine Hd.yv (y_move rfl) ?_
                refine Hd.yv (y_build (vs := []) rfl (by first | exact bd7_72 .. | kernel_rfl)) ?_
                first | (refine Hd.yv (y_idxS Try.underlying42 sz27 rfl rfl (by first | omega | decide)) ?_) | (refine Hd.yv (y_idxR Try.underlying42 sz27 rfl rfl (by first | omega | decide) (by (first | exact RdS.own (by repeat (first | with_reducible exact Pick.here | apply Pick.there)) | exact RdS.mono hR (Ent.sep (by repeat (first | exact Ent.same | exact Ent.nil | (apply Ent.pick; focus ((repeat (first | with_reducible exact Pick.here | apply Pick.there)); done)) | refine Ent.pure (by assumption) ?_ | apply Ent.ownNil | refine Ent.skip ?_)))))) ?_)
                refine Hd.storeO (vs := [_, _, _]) (us := us) sz27 rfl rfl rfl (by simp [Value.oneCell']) (by repeat (first | with_reducible exact Pick.here | apply Pick.there)) (by simp only [List.length_cons, List.length_nil]; omega) (by simp) ?_
                refine Hd.nil ?_
                refine Hd.slots [(0, _), (3, _), (4, _), (6, _), (7, _), (9, _), (21, _), (22, _), (66, _), (67, _)] ⟨rfl, rfl, rfl, rfl, rfl, rfl, rfl, rfl, rfl, rfl, trivial⟩ ?_
                refine Hd.inB ?_
                refine Hd.toK hK26 ?_
                refine Hd.region ?_
                first | (refine Hd.yv (y_addn rfl rfl (by simp only [InK]; omega)) ?_) | (refine Hd.yv (y_add rfl rfl) ?_)
                refine Hd.yv (y_move rfl) ?_
                refine Hd.nil ?_
                refine Hd.slots [(0, _), (3, _), (4, _), (6, _), (7, _), (9, _), (21, _), (22, _), (66, _), (67, _)] ⟨rfl, rfl, rfl, rfl, rfl, rfl, rfl, rfl, rfl, rfl, trivial⟩ ?_
                clear hK1 hK2 hK3 hK5 hK6 hK7 hK8 hK9 hK10 hK11 hK12 hK13 hK14 hK15 hK16 hK18 hK20 hK21 hK22 hK23 hK24 hK25 hK26 hK27
                refine Hd.thenN ?_
                exact Hd.again ⟨(k + 1, us.take (k * 3) ++ [.int .i64 0, .int .i64 0, .int .i64 0] ++ us.drop (k * 3 + 3)), by simp only; omega, by simp; omega⟩ (by simp only; omega) ⟨rfl, rfl, rfl, rfl, rfl, rfl, rfl, rfl, rfl, rfl, trivial⟩ (Ent.sep (by repeat (first | exact Ent.same | exact Ent.nil | (apply Ent.pick; focus ((repeat (first | with_reducible exact Pick.here | apply Pick.there)); done)) | refine Ent.pure (by assumption) ?_ | apply Ent.ownNil | refine Ent.skip ?_)))
              ·
                try simp only [decide_eq_true_eq, decide_eq_false_iff_not, Bool.and_eq_true, Bool.or_eq_true, Bool.and_eq_false_iff, Bool.or_eq_false_iff, Bool.not_eq_true', Bool.not_eq_false', Bool.not_eq_true, Bool.not_eq_false, Int.not_lt, Int.not_le, Decidable.not_not, ne_eq] at hc5
                refine Hd.exit ?_
                refine Hd.thenExit ?_
                refine Hd.thenExit ?_
                refine Hd.inBexit ?_
                refine Hd.inB ?_
                clear hK1 hK2 hK3 hK5 hK6 hK7 hK8 hK9 hK10 hK11 hK12 hK13 hK14 hK15 hK16 hK18 hK20 hK21 hK22 hK23 hK24 hK25
                refine Hd.thenN ?_
                exact Hd.meet s.flush ⟨rfl, rfl, rfl, rfl, rfl, rfl, rfl, trivial⟩ (Ent.sep (by repeat (first | exact Ent.same | exact Ent.nil | (apply Ent.pick; focus ((repeat (first | with_reducible exact Pick.here | apply Pick.there)); done)) | refine Ent.pure (by assumption) ?_ | apply Ent.ownNil | refine Ent.skip ?_)))
            ·
              try simp only [decide_eq_true_eq, decide_eq_false_iff_not, Bool.and_eq_true, Bool.or_eq_true, Bool.and_eq_false_iff, Bool.or_eq_false_iff, Bool.not_eq_true', Bool.not_eq_false', Bool.not_eq_true, Bool.not_eq_false, Int.not_lt, Int.not_le, Decidable.not_not, ne_eq] at hc4
              refine Hd.skip ?_
              refine Hd.inB ?_
              clear hK1 hK2 hK3 hK5 hK6 hK7 hK8 hK9 hK10 hK11 hK12 hK13 hK14 hK15 hK16 hK18 hK20
              refine Hd.thenN ?_
              exact Hd.meet s ⟨rfl, rfl, rfl, rfl, rfl, rfl, rfl, trivial⟩ (Ent.sep (by repeat (first | exact Ent.same | exact Ent.nil | (apply Ent.pick; focus ((repeat (first | with_reducible exact Pick.here | apply Pick.there)); done)) | refine Ent.pure (by assumption) ?_ | apply Ent.ownNil | refine Ent.skip ?_)))
      ·
        intro s2
        refine Hd.seq (fun K28 hK28 => ?_)
        refine Hd.region ?_
        refine Hd.yv (y_move rfl) ?_
        refine Hd.callE rfl fk22 (changes_ct _ b1 s2) (Ent.sep (by repeat (first | exact Ent.same | exact Ent.nil | (apply Ent.pick; focus ((repeat (first | with_reducible exact Pick.here | apply Pick.there)); done)) | refine Ent.pure (by assumption) ?_ | apply Ent.ownNil | refine Ent.skip ?_))) ?_
        rintro ⟨a7, c7⟩
        dsimp only
        refine Hd.yv (y_assign rfl) ?_
        refine Hd.nil ?_
        refine Hd.slots [(0, _), (3, _), (4, _), (6, _), (7, _), (11, _), (21, _), (22, _)] ⟨rfl, rfl, rfl, rfl, rfl, rfl, rfl, rfl, trivial⟩ ?_
        refine Hd.toK hK28 ?_
        refine Hd.seq (fun K29 hK29 => ?_)
        refine Hd.region ?_
        refine Hd.yv (y_assign rfl) ?_
        refine Hd.yv (y_assign rfl) ?_
        refine Hd.nil ?_
        refine Hd.slots [(0, _), (3, _), (4, _), (6, _), (7, _), (11, _), (12, _), (13, _), (21, _), (22, _)] ⟨rfl, rfl, rfl, rfl, rfl, rfl, rfl, rfl, rfl, rfl, trivial⟩ ?_
        refine Hd.toK hK29 ?_
        refine Hd.cut (ι := Unit) (fun _ => [(0, .slice ad xs.length c), (3, .pointer (some ⟨b1, 0, none⟩)), (4, .pointer (some ⟨b19, 0, none⟩)), (6, .pointer (some ⟨b6, 0, none⟩)), (7, .bool true), (11, .slice a7 (s2.chs 96).length c7), (12, .int .i64 (s2.held o1)), (13, .int .i64 (s2.wants o1)), (21, .int .i64 (xs.length : Int)), (22, .int .i64 (i : Int))])
          (fun _ => own 27 3 a7 (s2.chs 96).length c7 ((s2.chs 96).flatMap encC) :: CLs b1 s2 true :: RLs b19 s2 :: pt b6 [.int .i64 o0, .int .i64 o1, .int .i64 o2] 41 :: L) ?_ ?_
        ·
          refine Hd.seq (fun K30 hK30 => ?_)
          refine Hd.region ?_
          first | (refine Hd.yv (y_field' (q := 1) (ft := 3) Try.underlying41 rfl sz3 rfl rfl) ?_) | (refine Hd.yv (y_fieldR (q := 1) (ft := 3) Try.underlying41 rfl sz3 rfl rfl) ?_)
          first | (refine Hd.yv (y_load1 ag3 rfl (Rd.pt1 (by repeat (first | with_reducible exact Pick.here | apply Pick.there)) (by (first | exact s2.at_h _ hj | exact s2.at_w _ hj | rfl)))) ?_) | (refine Hd.yv (y_loadR1 ag3 rfl (by (first | exact RdS.own (by repeat (first | with_reducible exact Pick.here | apply Pick.there)) | exact RdS.mono hR (Ent.sep (by repeat (first | exact Ent.same | exact Ent.nil | (apply Ent.pick; focus ((repeat (first | with_reducible exact Pick.here | apply Pick.there)); done)) | refine Ent.pure (by assumption) ?_ | apply Ent.ownNil | refine Ent.skip ?_))))) (by (first | exact s2.at_h _ hj | exact s2.at_w _ hj | rfl))) ?_)
          refine Hd.yv (y_geq rfl rfl) ?_
          refine Hd.yv (y_move rfl) ?_
          apply Hd.andg 4 80 84 [(0, _), (3, _), (4, _), (6, _), (7, _), (11, _), (12, _), (13, _), (21, _), (22, _)] rfl ⟨rfl, rfl, rfl, rfl, rfl, rfl, rfl, rfl, rfl, rfl, trivial⟩
          · intro hg27_80
            try simp only [decide_eq_true_eq, decide_eq_false_iff_not, Bool.and_eq_true, Bool.or_eq_true, Bool.and_eq_false_iff, Bool.or_eq_false_iff, Bool.not_eq_true', Bool.not_eq_false', Bool.not_eq_true, Bool.not_eq_false, Int.not_lt, Int.not_le, Decidable.not_not, ne_eq] at hg27_80
            simp only [List.take]
            first | (refine Hd.yg rfl rfl (y_field' (q := 1) (ft := 3) Try.underlying41 rfl sz3 rfl rfl) ?_) | (refine Hd.yg rfl rfl (y_fieldR (q := 1) (ft := 3) Try.underlying41 rfl sz3 rfl rfl) ?_)
            first | (refine Hd.yg rfl rfl (y_load1 ag3 rfl (Rd.pt1 (by repeat (first | with_reducible exact Pick.here | apply Pick.there)) (by (first | exact s2.at_h _ hj | exact s2.at_w _ hj | rfl)))) ?_) | (refine Hd.yg rfl rfl (y_loadR1 ag3 rfl (by (first | exact RdS.own (by repeat (first | with_reducible exact Pick.here | apply Pick.there)) | exact RdS.mono hR (Ent.sep (by repeat (first | exact Ent.same | exact Ent.nil | (apply Ent.pick; focus ((repeat (first | with_reducible exact Pick.here | apply Pick.there)); done)) | refine Ent.pure (by assumption) ?_ | apply Ent.ownNil | refine Ent.skip ?_))))) (by (first | exact s2.at_h _ hj | exact s2.at_w _ hj | rfl))) ?_)
            refine Hd.yg rfl rfl (y_leq rfl rfl) ?_
            first | (refine Hd.yv (y_pickT rfl rfl) ?_) | (refine Hd.yv (y_pickF rfl rfl) ?_) | (refine Hd.yv (y_pickb rfl rfl rfl) ?_) | (refine Hd.yv (y_pick rfl rfl rfl) ?_)
            refine Hd.nil ?_
            exact Hd.mend (by repeat (first | exact trivial | refine ⟨rfl, ?_⟩)) (Ent.sep (by repeat (first | exact Ent.same | exact Ent.nil | (apply Ent.pick; focus ((repeat (first | with_reducible exact Pick.here | apply Pick.there)); done)) | refine Ent.pure (by assumption) ?_ | apply Ent.ownNil | refine Ent.skip ?_)))
          · intro hg27_80
            try simp only [decide_eq_true_eq, decide_eq_false_iff_not, Bool.and_eq_true, Bool.or_eq_true, Bool.and_eq_false_iff, Bool.or_eq_false_iff, Bool.not_eq_true', Bool.not_eq_false', Bool.not_eq_true, Bool.not_eq_false, Int.not_lt, Int.not_le, Decidable.not_not, ne_eq] at hg27_80
            simp only [List.take]
            refine Hd.ng rfl rfl rfl ?_
            refine Hd.ng rfl rfl rfl ?_
            refine Hd.ng rfl rfl rfl ?_
            first | (refine Hd.yv (y_pickT rfl rfl) ?_) | (refine Hd.yv (y_pickF rfl rfl) ?_) | (refine Hd.yv (y_pickb rfl rfl rfl) ?_) | (refine Hd.yv (y_pick rfl rfl rfl) ?_)
            refine Hd.nil ?_
            exact Hd.mend (by repeat (first | exact trivial | refine ⟨rfl, ?_⟩)) (Ent.sep (by repeat (first | exact Ent.same | exact Ent.nil | (apply Ent.pick; focus ((repeat (first | with_reducible exact Pick.here | apply Pick.there)); done)) | refine Ent.pure (by assumption) ?_ | apply Ent.ownNil | refine Ent.skip ?_)))
          simp only [List.drop]
          refine Hd.nil ?_
          refine Hd.slots [(0, _), (3, _), (4, _), (6, _), (7, _), (11, _), (12, _), (13, _), (21, _), (22, _), (84, _)] ⟨rfl, rfl, rfl, rfl, rfl, rfl, rfl, rfl, rfl, rfl, rfl, trivial⟩ ?_
          refine Hd.toK hK30 ?_
          refine Hd.cond rfl (fun hc6 => ?_) (fun hc6 => ?_)
          ·
            try simp only [decide_eq_true_eq, decide_eq_false_iff_not, Bool.and_eq_true, Bool.or_eq_true, Bool.and_eq_false_iff, Bool.or_eq_false_iff, Bool.not_eq_true', Bool.not_eq_false', Bool.not_eq_true, Bool.not_eq_false, Int.not_lt, Int.not_le, Decidable.not_not, ne_eq] at hc6
            have hin : inB o1 = true := by simp [inB]; omega
            obtain ⟨j, rfl, hj⟩ := inB_nat hin
            have e1 : s2.held (j : Int) = s2.h.getD j 0 := by simp [LS.held, hin]
            have e2 : s2.wants (j : Int) = s2.w.getD j 0 := by simp [LS.wants, hin]
            rw [e1, e2]
            refine Hd.quiet mixed (by kernel_rfl) ?_
            refine Hq.yv (y_move rfl) ?_
            first | (refine Hq.yv (y_field' (q := 1) (ft := 3) Try.underlying41 rfl sz3 rfl rfl) ?_) | (refine Hq.yv (y_fieldR (q := 1) (ft := 3) Try.underlying41 rfl sz3 rfl rfl) ?_)
            first | (refine Hq.yv (y_load1 ag3 rfl (Rd.pt1 (by repeat (first | with_reducible exact Pick.here | apply Pick.there)) (by (first | exact s2.at_h _ hj | exact s2.at_w _ hj | rfl)))) ?_) | (refine Hq.yv (y_loadR1 ag3 rfl (by (first | exact RdS.own (by repeat (first | with_reducible exact Pick.here | apply Pick.there)) | exact RdS.mono hR (Ent.sep (by repeat (first | exact Ent.same | exact Ent.nil | (apply Ent.pick; focus ((repeat (first | with_reducible exact Pick.here | apply Pick.there)); done)) | refine Ent.pure (by assumption) ?_ | apply Ent.ownNil | refine Ent.skip ?_))))) (by (first | exact s2.at_h _ hj | exact s2.at_w _ hj | rfl))) ?_)
            refine Hq.yv (y_nilp rfl) ?_
            first | (refine Hq.yv (y_field' (q := 0) (ft := 47) Try.underlying51 rfl sz47 rfl rfl) ?_) | (refine Hq.yv (y_fieldR (q := 0) (ft := 47) Try.underlying51 rfl sz47 rfl rfl) ?_)
            refine Hq.yv (y_idxA Try.underlying47 sz3 rfl rfl (by first | omega | decide)) ?_
            first | (refine Hq.yv (y_load1 ag3 rfl (Rd.pt1 (by repeat (first | with_reducible exact Pick.here | apply Pick.there)) (by (first | exact s2.at_h _ hj | exact s2.at_w _ hj | rfl)))) ?_) | (refine Hq.yv (y_loadR1 ag3 rfl (by (first | exact RdS.own (by repeat (first | with_reducible exact Pick.here | apply Pick.there)) | exact RdS.mono hR (Ent.sep (by repeat (first | exact Ent.same | exact Ent.nil | (apply Ent.pick; focus ((repeat (first | with_reducible exact Pick.here | apply Pick.there)); done)) | refine Ent.pure (by assumption) ?_ | apply Ent.ownNil | refine Ent.skip ?_))))) (by (first | exact s2.at_h _ hj | exact s2.at_w _ hj | rfl))) ?_)
            refine Hq.yv (y_move rfl) ?_
            first | (refine Hq.yv (y_field' (q := 1) (ft := 3) Try.underlying41 rfl sz3 rfl rfl) ?_) | (refine Hq.yv (y_fieldR (q := 1) (ft := 3) Try.underlying41 rfl sz3 rfl rfl) ?_)
            first | (refine Hq.yv (y_load1 ag3 rfl (Rd.pt1 (by repeat (first | with_reducible exact Pick.here | apply Pick.there)) (by (first | exact s2.at_h _ hj | exact s2.at_w _ hj | rfl)))) ?_) | (refine Hq.yv (y_loadR1 ag3 rfl (by (first | exact RdS.own (by repeat (first | with_reducible exact Pick.here | apply Pick.there)) | exact RdS.mono hR (Ent.sep (by repeat (first | exact Ent.same | exact Ent.nil | (apply Ent.pick; focus ((repeat (first | with_reducible exact Pick.here | apply Pick.there)); done)) | refine Ent.pure (by assumption) ?_ | apply Ent.ownNil | refine Ent.skip ?_))))) (by (first | exact s2.at_h _ hj | exact s2.at_w _ hj | rfl))) ?_)
            refine Hq.yv (y_nilp rfl) ?_
            first | (refine Hq.yv (y_field' (q := 96) (ft := 47) Try.underlying51 rfl sz47 rfl rfl) ?_) | (refine Hq.yv (y_fieldR (q := 96) (ft := 47) Try.underlying51 rfl sz47 rfl rfl) ?_)
            refine Hq.yv (y_idxA Try.underlying47 sz3 rfl rfl (by first | omega | decide)) ?_
            first | (refine Hq.yv (y_load1 ag3 rfl (Rd.pt1 (by repeat (first | with_reducible exact Pick.here | apply Pick.there)) (by (first | exact s2.at_h _ hj | exact s2.at_w _ hj | rfl)))) ?_) | (refine Hq.yv (y_loadR1 ag3 rfl (by (first | exact RdS.own (by repeat (first | with_reducible exact Pick.here | apply Pick.there)) | exact RdS.mono hR (Ent.sep (by repeat (first | exact Ent.same | exact Ent.nil | (apply Ent.pick; focus ((repeat (first | with_reducible exact Pick.here | apply Pick.there)); done)) | refine Ent.pure (by assumption) ?_ | apply Ent.ownNil | refine Ent.skip ?_))))) (by (first | exact s2.at_h _ hj | exact s2.at_w _ hj | rfl))) ?_)
            refine Hq.yv (y_assign rfl) ?_
            refine Hq.yv (y_assign rfl) ?_
            refine Hq.nil ?_
            refine Hd.slots [(0, _), (3, _), (4, _), (6, _), (7, _), (11, _), (12, _), (13, _), (21, _), (22, _)] ⟨rfl, rfl, rfl, rfl, rfl, rfl, rfl, rfl, rfl, rfl, trivial⟩ ?_
            clear hK1 hK2 hK3 hK5 hK6 hK7 hK8 hK9 hK10 hK11 hK12 hK13 hK14 hK28 hK29 hK30
            refine Hd.thenN ?_
            exact Hd.meet () ⟨rfl, rfl, rfl, rfl, rfl, rfl, rfl, rfl, rfl, rfl, trivial⟩ (Ent.sep (by repeat (first | exact Ent.same | exact Ent.nil | (apply Ent.pick; focus ((repeat (first | with_reducible exact Pick.here | apply Pick.there)); done)) | refine Ent.pure (by assumption) ?_ | apply Ent.ownNil | refine Ent.skip ?_)))
          ·
            try simp only [decide_eq_true_eq, decide_eq_false_iff_not, Bool.and_eq_true, Bool.or_eq_true, Bool.and_eq_false_iff, Bool.or_eq_false_iff, Bool.not_eq_true', Bool.not_eq_false', Bool.not_eq_true, Bool.not_eq_false, Int.not_lt, Int.not_le, Decidable.not_not, ne_eq] at hc6
            have hin : inB o1 = false := by simp [inB]; omega
            have e1 : s2.held o1 = 0 := by simp [LS.held, hin]
            have e2 : s2.wants o1 = 0 := by simp [LS.wants, hin]
            rw [e1, e2]
            refine Hd.skip ?_
            clear hK1 hK2 hK3 hK5 hK6 hK7 hK8 hK9 hK10 hK11 hK12 hK13 hK14 hK28 hK29 hK30
            refine Hd.thenN ?_
            exact Hd.meet () ⟨rfl, rfl, rfl, rfl, rfl, rfl, rfl, rfl, rfl, rfl, trivial⟩ (Ent.sep (by repeat (first | exact Ent.same | exact Ent.nil | (apply Ent.pick; focus ((repeat (first | with_reducible exact Pick.here | apply Pick.there)); done)) | refine Ent.pure (by assumption) ?_ | apply Ent.ownNil | refine Ent.skip ?_)))
        ·
          intro _
          refine Hd.seq (fun K31 hK31 => ?_)
          refine Hd.draws mixed ?_
          simp only [List.length, Nat.zero_add, Nat.reduceAdd]
          refine Hd.take 0 rfl (by kernel_rfl) (by kernel_rfl) (by kernel_rfl) (fun _ => y_move rfl) (fun _ _ => rfl) ?_
          refine Hd.take 1 rfl (by kernel_rfl) (by kernel_rfl) (by kernel_rfl) (fun _ => y_not rfl) (fun _ _ => rfl) ?_
          refine Hd.take 2 rfl (by kernel_rfl) (by kernel_rfl) (by kernel_rfl) (fun _ => y_move rfl) (fun _ _ => rfl) ?_
          refine Hd.takeg 3 rfl (by kernel_rfl) (by kernel_rfl) (by kernel_rfl) rfl rfl (fun _ => y_move rfl) (fun _ _ => rfl) ?_
          refine Hd.takeg 4 rfl (by kernel_rfl) (by kernel_rfl) (by kernel_rfl) rfl rfl (fun _ => y_move rfl) (fun _ _ => rfl) ?_
          refine Hd.only 5 rfl (by kernel_rfl) ?_
          refine Hd.unguard rfl rfl ?_
          refine Hd.callE rfl fk29 (rchanges_ct _ b19 s2) (Ent.sep (by repeat (first | exact Ent.same | exact Ent.nil | (apply Ent.pick; focus ((repeat (first | with_reducible exact Pick.here | apply Pick.there)); done)) | refine Ent.pure (by assumption) ?_ | apply Ent.ownNil | refine Ent.skip ?_))) ?_
          rintro ⟨a8, c8⟩
          dsimp only
          refine Hd.nil ?_
          refine Hd.thenN ?_
          refine Hd.only 6 rfl (by kernel_rfl) ?_
          refine Hd.unguard rfl rfl ?_
          refine Hd.call rfl fk21 (sameC_ct _ a7 a8 c7 c8 _ _ (RdS.own (by repeat (first | with_reducible exact Pick.here | apply Pick.there))) (RdS.own (by repeat (first | with_reducible exact Pick.here | apply Pick.there))) (by have := chs_le s2 96; omega)) ?_
          intro _
          rw [decide_eq_true rfl]
          refine Hd.nil ?_
          refine Hd.thenN ?_
          refine Hd.takeg 7 rfl (by kernel_rfl) (by kernel_rfl) (by kernel_rfl) rfl rfl (fun _ => y_not rfl) (fun _ _ => rfl) ?_
          first | (refine Hd.take 8 rfl (by kernel_rfl) (by kernel_rfl) (by kernel_rfl) (fun _ => y_pickT rfl rfl) (fun _ _ => rfl) ?_) | (refine Hd.take 8 rfl (by kernel_rfl) (by kernel_rfl) (by kernel_rfl) (fun _ => y_pickF rfl rfl) (fun _ _ => rfl) ?_) | (refine Hd.take 8 rfl (by kernel_rfl) (by kernel_rfl) (by kernel_rfl) (fun _ => y_pickb rfl rfl rfl) (fun _ _ => rfl) ?_) | (refine Hd.take 8 rfl (by kernel_rfl) (by kernel_rfl) (by kernel_rfl) (fun _ => y_pick rfl rfl rfl) (fun _ _ => rfl) ?_)
          refine Hd.take 9 rfl (by kernel_rfl) (by kernel_rfl) (by kernel_rfl) (fun _ => y_move rfl) (fun _ _ => rfl) ?_
          refine Hd.takeg 10 rfl (by kernel_rfl) (by kernel_rfl) (by kernel_rfl) rfl rfl (fun _ => y_move rfl) (fun _ _ => rfl) ?_
          first | (refine Hd.takeg 11 rfl (by kernel_rfl) (by kernel_rfl) (by kernel_rfl) rfl rfl (fun _ => y_field' (q := 1) (ft := 3) Try.underlying41 rfl sz3 rfl rfl) (fun _ _ => rfl) ?_) | (refine Hd.takeg 11 rfl (by kernel_rfl) (by kernel_rfl) (by kernel_rfl) rfl rfl (fun _ => y_fieldR (q := 1) (ft := 3) Try.underlying41 rfl sz3 rfl rfl) (fun _ _ => rfl) ?_)
          refine Hd.takeg 14 rfl (by kernel_rfl) (by kernel_rfl) (by kernel_rfl) rfl rfl (fun _ => y_move rfl) (fun _ _ => rfl) ?_
          refine Hd.only 12 rfl (by kernel_rfl) ?_
          first | (refine Hd.yg rfl rfl (y_load1 ag3 rfl (Rd.pt1 (by repeat (first | with_reducible exact Pick.here | apply Pick.there)) (by (first | exact s2.at_h _ hj | exact s2.at_w _ hj | rfl)))) ?_) | (refine Hd.yg rfl rfl (y_loadR1 ag3 rfl (by (first | exact RdS.own (by repeat (first | with_reducible exact Pick.here | apply Pick.there)) | exact RdS.mono hR (Ent.sep (by repeat (first | exact Ent.same | exact Ent.nil | (apply Ent.pick; focus ((repeat (first | with_reducible exact Pick.here | apply Pick.there)); done)) | refine Ent.pure (by assumption) ?_ | apply Ent.ownNil | refine Ent.skip ?_))))) (by (first | exact s2.at_h _ hj | exact s2.at_w _ hj | rfl))) ?_)
          refine Hd.nil ?_
          refine Hd.thenN ?_
          refine Hd.only 13 rfl (by kernel_rfl) ?_
          refine Hd.unguard rfl rfl ?_
          refine Hd.callE rfl fk23 (held_ct _ b1 s2 o1) (Ent.sep (by repeat (first | exact Ent.same | exact Ent.nil | (apply Ent.pick; focus ((repeat (first | with_reducible exact Pick.here | apply Pick.there)); done)) | refine Ent.pure (by assumption) ?_ | apply Ent.ownNil | refine Ent.skip ?_))) ?_
          intro _
          refine Hd.nil ?_
          refine Hd.thenN ?_
          refine Hd.takeg 15 rfl (by kernel_rfl) (by kernel_rfl) (by kernel_rfl) rfl rfl (fun _ => y_neq rfl rfl) (fun _ _ => rfl) ?_
          rw [decide_eq_false (fun h => h rfl)]
          first | (refine Hd.take 16 rfl (by kernel_rfl) (by kernel_rfl) (by kernel_rfl) (fun _ => y_pickT rfl rfl) (fun _ _ => rfl) ?_) | (refine Hd.take 16 rfl (by kernel_rfl) (by kernel_rfl) (by kernel_rfl) (fun _ => y_pickF rfl rfl) (fun _ _ => rfl) ?_) | (refine Hd.take 16 rfl (by kernel_rfl) (by kernel_rfl) (by kernel_rfl) (fun _ => y_pickb rfl rfl rfl) (fun _ _ => rfl) ?_) | (refine Hd.take 16 rfl (by kernel_rfl) (by kernel_rfl) (by kernel_rfl) (fun _ => y_pick rfl rfl rfl) (fun _ _ => rfl) ?_)
          refine Hd.take 17 rfl (by kernel_rfl) (by kernel_rfl) (by kernel_rfl) (fun _ => y_move rfl) (fun _ _ => rfl) ?_
          refine Hd.takeg 18 rfl (by kernel_rfl) (by kernel_rfl) (by kernel_rfl) rfl rfl (fun _ => y_move rfl) (fun _ _ => rfl) ?_
          first | (refine Hd.takeg 19 rfl (by kernel_rfl) (by kernel_rfl) (by kernel_rfl) rfl rfl (fun _ => y_field' (q := 1) (ft := 3) Try.underlying41 rfl sz3 rfl rfl) (fun _ _ => rfl) ?_) | (refine Hd.takeg 19 rfl (by kernel_rfl) (by kernel_rfl) (by kernel_rfl) rfl rfl (fun _ => y_fieldR (q := 1) (ft := 3) Try.underlying41 rfl sz3 rfl rfl) (fun _ _ => rfl) ?_)
          refine Hd.takeg 22 rfl (by kernel_rfl) (by kernel_rfl) (by kernel_rfl) rfl rfl (fun _ => y_move rfl) (fun _ _ => rfl) ?_
          refine Hd.only 20 rfl (by kernel_rfl) ?_
          first | (refine Hd.yg rfl rfl (y_load1 ag3 rfl (Rd.pt1 (by repeat (first | with_reducible exact Pick.here | apply Pick.there)) (by (first | exact s2.at_h _ hj | exact s2.at_w _ hj | rfl)))) ?_) | (refine Hd.yg rfl rfl (y_loadR1 ag3 rfl (by (first | exact RdS.own (by repeat (first | with_reducible exact Pick.here | apply Pick.there)) | exact RdS.mono hR (Ent.sep (by repeat (first | exact Ent.same | exact Ent.nil | (apply Ent.pick; focus ((repeat (first | with_reducible exact Pick.here | apply Pick.there)); done)) | refine Ent.pure (by assumption) ?_ | apply Ent.ownNil | refine Ent.skip ?_))))) (by (first | exact s2.at_h _ hj | exact s2.at_w _ hj | rfl))) ?_)
          refine Hd.nil ?_
          refine Hd.thenN ?_
          refine Hd.only 21 rfl (by kernel_rfl) ?_
          refine Hd.unguard rfl rfl ?_
          refine Hd.callE rfl fk24 (wants_ct _ b1 s2 o1) (Ent.sep (by repeat (first | exact Ent.same | exact Ent.nil | (apply Ent.pick; focus ((repeat (first | with_reducible exact Pick.here | apply Pick.there)); done)) | refine Ent.pure (by assumption) ?_ | apply Ent.ownNil | refine Ent.skip ?_))) ?_
          intro _
          refine Hd.nil ?_
          refine Hd.thenN ?_
          refine Hd.takeg 23 rfl (by kernel_rfl) (by kernel_rfl) (by kernel_rfl) rfl rfl (fun _ => y_neq rfl rfl) (fun _ _ => rfl) ?_
          rw [decide_eq_false (fun h => h rfl)]
          first | (refine Hd.take 24 rfl (by kernel_rfl) (by kernel_rfl) (by kernel_rfl) (fun _ => y_pickT rfl rfl) (fun _ _ => rfl) ?_) | (refine Hd.take 24 rfl (by kernel_rfl) (by kernel_rfl) (by kernel_rfl) (fun _ => y_pickF rfl rfl) (fun _ _ => rfl) ?_) | (refine Hd.take 24 rfl (by kernel_rfl) (by kernel_rfl) (by kernel_rfl) (fun _ => y_pickb rfl rfl rfl) (fun _ _ => rfl) ?_) | (refine Hd.take 24 rfl (by kernel_rfl) (by kernel_rfl) (by kernel_rfl) (fun _ => y_pick rfl rfl rfl) (fun _ _ => rfl) ?_)
          refine Hd.take 25 rfl (by kernel_rfl) (by kernel_rfl) (by kernel_rfl) (fun _ => y_move rfl) (fun _ _ => rfl) ?_
          refine Hd.quietAt 26 (by kernel_rfl) rfl ?_
          simp only [List.drop]
          first | (refine Hq.yg rfl rfl (y_field' (q := 2) (ft := 3) Try.underlying41 rfl sz3 rfl rfl) ?_) | (refine Hq.yg rfl rfl (y_fieldR (q := 2) (ft := 3) Try.underlying41 rfl sz3 rfl rfl) ?_)
          first | (refine Hq.yg rfl rfl (y_load1 ag3 rfl (Rd.pt1 (by repeat (first | with_reducible exact Pick.here | apply Pick.there)) (by (first | exact s2.at_h _ hj | exact s2.at_w _ hj | rfl)))) ?_) | (refine Hq.yg rfl rfl (y_loadR1 ag3 rfl (by (first | exact RdS.own (by repeat (first | with_reducible exact Pick.here | apply Pick.there)) | exact RdS.mono hR (Ent.sep (by repeat (first | exact Ent.same | exact Ent.nil | (apply Ent.pick; focus ((repeat (first | with_reducible exact Pick.here | apply Pick.there)); done)) | refine Ent.pure (by assumption) ?_ | apply Ent.ownNil | refine Ent.skip ?_))))) (by (first | exact s2.at_h _ hj | exact s2.at_w _ hj | rfl))) ?_)
          refine Hq.unguard rfl rfl ?_
          refine Hq.call rfl fk30 (may_ct _ o2) ?_
          first | (refine Hq.yg rfl rfl (y_field' (q := 2) (ft := 3) Try.underlying41 rfl sz3 rfl rfl) ?_) | (refine Hq.yg rfl rfl (y_fieldR (q := 2) (ft := 3) Try.underlying41 rfl sz3 rfl rfl) ?_)
          first | (refine Hq.yg rfl rfl (y_load1 ag3 rfl (Rd.pt1 (by repeat (first | with_reducible exact Pick.here | apply Pick.there)) (by (first | exact s2.at_h _ hj | exact s2.at_w _ hj | rfl)))) ?_) | (refine Hq.yg rfl rfl (y_loadR1 ag3 rfl (by (first | exact RdS.own (by repeat (first | with_reducible exact Pick.here | apply Pick.there)) | exact RdS.mono hR (Ent.sep (by repeat (first | exact Ent.same | exact Ent.nil | (apply Ent.pick; focus ((repeat (first | with_reducible exact Pick.here | apply Pick.there)); done)) | refine Ent.pure (by assumption) ?_ | apply Ent.ownNil | refine Ent.skip ?_))))) (by (first | exact s2.at_h _ hj | exact s2.at_w _ hj | rfl))) ?_)
          refine Hq.unguard rfl rfl ?_
          refine Hq.call rfl fk31 (rmay_ct _ o2) ?_
          rw [mayR_eq hko]
          refine Hq.yg rfl rfl (y_neqb Try.underlying4 rfl rfl) ?_
          first | (refine Hq.yv (y_pickT rfl rfl) ?_) | (refine Hq.yv (y_pickF rfl rfl) ?_) | (refine Hq.yv (y_pickb rfl rfl rfl) ?_) | (refine Hq.yv (y_pick rfl rfl rfl) ?_)
          refine Hq.nil ?_
          refine Hd.slots [(0, _), (3, _), (4, _), (21, _), (22, _), (132, _)] ⟨rfl, rfl, rfl, rfl, rfl, rfl, trivial⟩ ?_
          refine Hd.toK hK31 ?_
          refine Hd.cond rfl (fun hc7 => ?_) (fun hc7 => ?_)
          ·
            try simp only [decide_eq_true_eq, decide_eq_false_iff_not, Bool.and_eq_true, Bool.or_eq_true, Bool.and_eq_false_iff, Bool.or_eq_false_iff, Bool.not_eq_true', Bool.not_eq_false', Bool.not_eq_true, Bool.not_eq_false, Int.not_lt, Int.not_le, Decidable.not_not, ne_eq] at hc7
            simp at hc7
          ·
            try simp only [decide_eq_true_eq, decide_eq_false_iff_not, Bool.and_eq_true, Bool.or_eq_true, Bool.and_eq_false_iff, Bool.or_eq_false_iff, Bool.not_eq_true', Bool.not_eq_false', Bool.not_eq_true, Bool.not_eq_false, Int.not_lt, Int.not_le, Decidable.not_not, ne_eq] at hc7
            refine Hd.skip ?_
            refine Hd.inB ?_
            refine Hd.toK hK11 ?_
            refine Hd.region ?_
            first | (refine Hd.yv (y_addn rfl rfl (by simp only [InK]; omega)) ?_) | (refine Hd.yv (y_add rfl rfl) ?_)
            refine Hd.yv (y_move rfl) ?_
            refine Hd.nil ?_
            refine Hd.slots [(0, _), (3, _), (4, _), (21, _), (22, _)] ⟨rfl, rfl, rfl, rfl, rfl, trivial⟩ ?_
            clear hK1 hK2 hK3 hK5 hK6 hK7 hK8 hK9 hK10 hK11 hK12 hK13 hK14 hK28 hK29 hK31
            refine Hd.thenN ?_
            exact Hd.again (i + 1, s2) (by simp only; omega) ⟨rfl, rfl, rfl, rfl, rfl, trivial⟩ (Ent.sep (.pure (by simp only; omega) (by repeat (first | exact Ent.same | exact Ent.nil | (apply Ent.pick; focus ((repeat (first | with_reducible exact Pick.here | apply Pick.there)); done)) | refine Ent.pure (by assumption) ?_ | apply Ent.ownNil | refine Ent.skip ?_))))
    ·
      try simp only [decide_eq_true_eq, decide_eq_false_iff_not, Bool.and_eq_true, Bool.or_eq_true, Bool.and_eq_false_iff, Bool.or_eq_false_iff, Bool.not_eq_true', Bool.not_eq_false', Bool.not_eq_true, Bool.not_eq_false, Int.not_lt, Int.not_le, Decidable.not_not, ne_eq] at hc1
      refine Hd.exit ?_
      refine Hd.thenExit ?_
      refine Hd.thenExit ?_
      refine Hd.inBexit ?_
      refine Hd.toK hK7 ?_
      refine Hd.seq (fun K32 hK32 => ?_)
      refine Hd.region ?_
      refine Hd.yv (y_assign rfl) ?_
      refine Hd.nil ?_
      refine Hd.slots [(2, _)] ⟨rfl, trivial⟩ ?_
      refine Hd.toK hK32 ?_
      refine Hd.ret ?_
      clear hK1 hK2 hK3 hK5 hK6 hK7 hK8 hK9 hK10 hK32
      exact Hd.ret1 rfl () rfl (Ent.sep (by repeat (first | exact Ent.same | exact Ent.nil | (apply Ent.pick; focus ((repeat (first | with_reducible exact Pick.here | apply Pick.there)); done)) | refine Ent.pure (by assumption) ?_ | apply Ent.ownNil | refine Ent.skip ?_)))
end Cl5
end Go.Proofs.Ytkgkfjhfedjnpaa
