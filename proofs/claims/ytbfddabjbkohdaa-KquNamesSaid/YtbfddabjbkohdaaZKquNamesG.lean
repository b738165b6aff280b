/-
  Kqueue: one change. Kqueue: changes. The library's sort over a slice that is owned. No program is named here. The library's sort laid at this seat (written by the shelf's own tool). Kqueue: the order of keys; the sort; keys. Kqueue: the keys of notes that are not gone, rising. Worlds: what turns a wire may take; what never goes back. Worlds: what all calls do, in plain words; what they keep. Worlds: what all calls keep.
-/
import Derived.Shelf.SlSortCmp.NoneTotal
import Derived.Shelf.SlGeneric
import Derived.Ground.SlsfProg
import Derived.Test.YtbfddabjbkohdaaProg
import Derived.Test.YtbfddabjbkohdaaZKquNamesF
namespace Go.Proofs.Ytbfddabjbkohdaa
set_option linter.unusedSimpArgs false
set_option linter.unusedVariables false
set_option linter.unnecessarySimpa false
open Go.RX Fx
namespace Kq
open Wo
set_option maxRecDepth 8000
def updK (f : Int × Int → Option KnA) (k : Int × Int) (o : Option KnA) : Int × Int → Option KnA := fun a => if a = k then o else f a
theorem kmap_upd (f : Int × Int → Option KnA) (k : Int × Int) (x : KnA) : kmap (updK f k (some x)) = fun c => if c = k then some (.agg (encKn x).toArray) else kmap f c := by
  funext c
  unfold kmap updK
  by_cases h : c = k
  · rw [if_pos h, if_pos h]; rfl
  · rw [if_neg h, if_neg h]
theorem kmap_del (f : Int × Int → Option KnA) (k : Int × Int) : kmap (updK f k none) = fun c => if c = k then none else kmap f c := by
  funext c
  unfold kmap updK
  by_cases h : c = k
  · rw [if_pos h, if_pos h]; rfl
  · rw [if_neg h, if_neg h]
theorem mpP_eq {b : Nat} {f f' : Int × Int → Option Value} {m m' : Nat} (h : f = f') (hm : m = m') : mpP b .i64 f m = mpP b .i64 f' m' := by rw [h, hm]
def wireK (w : WA) (p : NoA) : Int := if p.2.1 = 3 then 0 else wireN (w.at p.1)
def newK (w : WA) (p : NoA) : KnA := ⟨wireK w p, bits .and .i64 p.2.2.1 56, true, riseK p.2.1 (readyR w p.1)⟩
abbrev oldK (f : Int × Int → Option KnA) (p : NoA) : KnA := (f (p.1, p.2.1)).getD zKn
def keepK (f : Int × Int → Option KnA) (w : WA) (p : NoA) : Prop := isK f w (p.1, p.2.1) = true ∧ (bits .and .i64 (oldK f p).flags 16 ≠ 0 ∨ bits .and .i64 (newK w p).flags 16 = 0)
instance (f : Int × Int → Option KnA) (w : WA) (p : NoA) : Decidable (keepK f w p) := by unfold keepK; infer_instance
def addK (f : Int × Int → Option KnA) (w : WA) (p : NoA) : KnA := if keepK f w p then { newK w p with armed := (oldK f p).armed, seen := (oldK f p).seen } else newK w p
def modK (f : Int × Int → Option KnA) (p : NoA) : KnA := { oldK f p with flags := bits .or .i64 (bits .andNot .i64 (oldK f p).flags 8) (bits .and .i64 p.2.2.1 8) }
def chgK (f : Int × Int → Option KnA) (w : WA) (p : NoA) : Int × (Int × Int → Option KnA) :=
  if mayK p = false then (2, f)
  else if p.2.1 = 3 ∧ (p.1 < 1 ∨ 31 < p.1) then (100, f)
  else if p.2.1 ≠ 3 ∧ w.at p.1 = none then (110, f)
  else if hasF p 1 then (0, updK f (p.1, p.2.1) (some (addK f w p)))
  else if isK f w (p.1, p.2.1) = false then (151, f)
  else if hasF p 2 then (0, updK f (p.1, p.2.1) none)
  else (0, updK f (p.1, p.2.1) (some (modK f p)))
theorem fdErr_no {o : Option (Nat × Nat)} : fdErr o ≠ 0 ↔ o = none := by cases o <;> simp [fdErr]
set_option maxHeartbeats 2000000 in
theorem kchange_ct (L : List SP) (qb wb mb : Nat) (f : Int × Int → Option KnA) (m : Nat) (w : WA) (p : NoA) : Ct Try.prog 63 #[.pointer (some ⟨qb, 0, none⟩), .agg (encNo p).toArray] (KqB qb wb mb f m w L) (fun m' : Nat => .int .i64 (chgK f w p).1) (fun m' : Nat => pu (m' ≤ m + 1) :: KqB qb wb mb (chgK f w p).2 m' w L) := by
  refine Ct.of (vs := [.pointer (some ⟨qb, 0, none⟩), .agg (encNo p).toArray]) Try.func63 rfl rfl [(0, .pointer (some ⟨qb, 0, none⟩)), (1, .agg (encNo p).toArray)] (by repeat (first | exact trivial | refine ⟨rfl, ?_⟩)) ?_
  intro E
  show Hd E 122 _ _ _ _
  refine Hd.seq (fun K1 hK1 => ?_)
  refine Hd.region ?_
  refine Hd.box rfl rfl (fun b3 => ?_)
  refine Hd.yv (y_assign rfl) ?_
  refine Hd.nil ?_
  refine Hd.slots [(0, _), (3, _)] ⟨rfl, rfl, trivial⟩ ?_
  refine Hd.toK hK1 ?_
  refine Hd.seq (fun K2 hK2 => ?_)
  refine Hd.region ?_
  first | (refine Hd.yv (y_field' (q := 0) (ft := 3) Try.underlying57 rfl sz3 rfl rfl) ?_) | (refine Hd.yv (y_fieldR (q := 0) (ft := 3) Try.underlying57 rfl sz3 rfl rfl) ?_)
  first | (refine Hd.yv (y_load1 ag3 rfl (Rd.pt1 pkk (by (first | rfl)))) ?_) | (refine Hd.yv (y_load1 ag3 rfl (Rd.seg1 pkk (by (first | rfl)))) ?_) | (refine Hd.yv (y_loadR1 ag3 rfl (by (first | exact RdS.own pkk)) (by (first | rfl))) ?_)
  first | (refine Hd.yv (y_field' (q := 1) (ft := 3) Try.underlying57 rfl sz3 rfl rfl) ?_) | (refine Hd.yv (y_fieldR (q := 1) (ft := 3) Try.underlying57 rfl sz3 rfl rfl) ?_)
  first | (refine Hd.yv (y_load1 ag3 rfl (Rd.pt1 pkk (by (first | rfl)))) ?_) | (refine Hd.yv (y_load1 ag3 rfl (Rd.seg1 pkk (by (first | rfl)))) ?_) | (refine Hd.yv (y_loadR1 ag3 rfl (by (first | exact RdS.own pkk)) (by (first | rfl))) ?_)
  refine Hd.yv (y_build (vs := [(0, _), (1, _)]) rfl (by first | exact bd63_16 .. | kernel_rfl)) ?_
  refine Hd.alloc zr121 (fun b5 => ?_)
  first | (refine Hd.storeA (us := [_, _]) sz121 rfl rfl rfl (by simp [Value.oneCell']) pkk rfl ?_) | (refine Hd.store (us := [_, _]) sz121 rfl rfl rfl (by simp [Value.oneCell']) pkk (by simp) ?_)
  try simp only [List.set_cons_zero, List.set_cons_succ]
  refine Hd.nil ?_
  refine Hd.slots [(0, _), (3, _), (5, _)] ⟨rfl, rfl, rfl, trivial⟩ ?_
  refine Hd.toK hK2 ?_
  refine Hd.seq (fun K3 hK3 => ?_)
  refine Hd.seq (fun K4 hK4 => ?_)
  refine Hd.region ?_
  first | (refine Hd.yv (y_loadn (us := [_, _, _, _]) ag57 rfl (Rd.pt pkk (by (first | (intro j v e; rcases j with _|_|_|_|_|_|_|_|_|_|_|_|j <;> first | exact e | exact absurd e (by simp))))) (by exact sz57)) ?_) | (refine Hd.yv (y_loadn (us := [_, _, _, _]) ag57 rfl (Rd.seg pkk (by (first | (intro j v e; rcases j with _|_|_|_|_|_|_|_|_|_|_|_|j <;> first | exact e | exact absurd e (by simp))))) (by exact sz57)) ?_) | (refine Hd.yv (y_loadRn ag57 rfl (by (first | exact RdS.own pkk)) (by (first | (intro j v e; rcases j with _|_|_|_|_|_|_|_|_|_|_|_|j <;> first | exact e | exact absurd e (by simp)))) (by exact sz57) (by simp)) ?_)
  refine Hd.callE rfl fk94 (kmay_ct _ p) (Ent.sep enn) ?_
  intro _
  refine Hd.yv (y_not rfl) ?_
  refine Hd.nil ?_
  refine Hd.slots [(0, _), (3, _), (5, _), (19, _)] ⟨rfl, rfl, rfl, rfl, trivial⟩ ?_
  refine Hd.toK hK4 ?_
  refine Hd.cond rfl (fun hc0 => ?_) (fun hc0 => ?_)
  ·
    try simp only [decide_eq_true_eq, decide_eq_false_iff_not, Bool.and_eq_true, Bool.or_eq_true, Bool.and_eq_false_iff, Bool.or_eq_false_iff, Bool.not_eq_true', Bool.not_eq_false', Bool.not_eq_true, Bool.not_eq_false, Int.not_lt, Int.not_le, Decidable.not_not, ne_eq] at hc0
    have h0 : mayK p = false := by simpa using hc0
    refine Hd.seq (fun K5 hK5 => ?_)
    refine Hd.region ?_
    refine Hd.yv (y_assign rfl) ?_
    refine Hd.nil ?_
    refine Hd.slots [(4, _)] ⟨rfl, trivial⟩ ?_
    refine Hd.toK hK5 ?_
    refine Hd.ret ?_
    refine Hd.thenRet ?_
    clear hK1 hK2 hK3 hK4 hK5
    rw [show chgK f w p = (2, f) from if_pos h0]
    exact Hd.ret1 rfl m rfl (Ent.sep (.pure (by omega) enn))
  ·
    try simp only [decide_eq_true_eq, decide_eq_false_iff_not, Bool.and_eq_true, Bool.or_eq_true, Bool.and_eq_false_iff, Bool.or_eq_false_iff, Bool.not_eq_true', Bool.not_eq_false', Bool.not_eq_true, Bool.not_eq_false, Int.not_lt, Int.not_le, Decidable.not_not, ne_eq] at hc0
    have h0 : ¬ (mayK p = false) := by simpa using hc0
    refine Hd.skip ?_
    refine Hd.toK hK3 ?_
    refine Hd.seq (fun K6 hK6 => ?_)
    refine Hd.region ?_
    refine Hd.yv (y_assign rfl) ?_
    refine Hd.nil ?_
    refine Hd.slots [(0, _), (3, _), (5, _), (6, _)] ⟨rfl, rfl, rfl, rfl, trivial⟩ ?_
    refine Hd.toK hK6 ?_
    refine Hd.cutK (ι := PLift (¬ (p.2.1 = 3 ∧ (p.1 < 1 ∨ 31 < p.1)) ∧ ¬ (p.2.1 ≠ 3 ∧ w.at p.1 = none))) [(0, _), (3, _), (5, _)] (fun _ => [(6, .int .i64 (wireK w p))]) (fun _ => pt b3 (encNo p) 57 :: pt b5 [.int .i64 p.1, .int .i64 p.2.1] 121 :: KqB qb wb mb f m w L) ?_ ?_ ⟨rfl, rfl, rfl, trivial⟩
    ·
      refine Hd.seq (fun K7 hK7 => ?_)
      refine Hd.region ?_
      first | (refine Hd.yv (y_field' (q := 1) (ft := 3) Try.underlying57 rfl sz3 rfl rfl) ?_) | (refine Hd.yv (y_fieldR (q := 1) (ft := 3) Try.underlying57 rfl sz3 rfl rfl) ?_)
      first | (refine Hd.yv (y_load1 ag3 rfl (Rd.pt1 pkk (by (first | rfl)))) ?_) | (refine Hd.yv (y_load1 ag3 rfl (Rd.seg1 pkk (by (first | rfl)))) ?_) | (refine Hd.yv (y_loadR1 ag3 rfl (by (first | exact RdS.own pkk)) (by (first | rfl))) ?_)
      first | (refine Hd.yv (y_eqlT rfl rfl) ?_) | (refine Hd.yv (y_eql rfl rfl) ?_)
      refine Hd.nil ?_
      refine Hd.slots [(0, _), (3, _), (5, _), (6, _), (22, _)] ⟨rfl, rfl, rfl, rfl, rfl, trivial⟩ ?_
      refine Hd.toK hK7 ?_
      refine Hd.cond rfl (fun hc1 => ?_) (fun hc1 => ?_)
      ·
        try simp only [decide_eq_true_eq, decide_eq_false_iff_not, Bool.and_eq_true, Bool.or_eq_true, Bool.and_eq_false_iff, Bool.or_eq_false_iff, Bool.not_eq_true', Bool.not_eq_false', Bool.not_eq_true, Bool.not_eq_false, Int.not_lt, Int.not_le, Decidable.not_not, ne_eq] at hc1
        refine Hd.seq (fun K8 hK8 => ?_)
        refine Hd.region ?_
        first | (refine Hd.yv (y_field' (q := 0) (ft := 3) Try.underlying57 rfl sz3 rfl rfl) ?_) | (refine Hd.yv (y_fieldR (q := 0) (ft := 3) Try.underlying57 rfl sz3 rfl rfl) ?_)
        first | (refine Hd.yv (y_load1 ag3 rfl (Rd.pt1 pkk (by (first | rfl)))) ?_) | (refine Hd.yv (y_load1 ag3 rfl (Rd.seg1 pkk (by (first | rfl)))) ?_) | (refine Hd.yv (y_loadR1 ag3 rfl (by (first | exact RdS.own pkk)) (by (first | rfl))) ?_)
        refine Hd.yv (y_lss rfl rfl) ?_
        refine Hd.yv (y_move rfl) ?_
        apply Hd.org 4 26 30 [(0, _), (3, _), (5, _), (6, _)] rfl ⟨rfl, rfl, rfl, rfl, trivial⟩
        · intro hg6_26
          try simp only [decide_eq_true_eq, decide_eq_false_iff_not, Bool.and_eq_true, Bool.or_eq_true, Bool.and_eq_false_iff, Bool.or_eq_false_iff, Bool.not_eq_true', Bool.not_eq_false', Bool.not_eq_true, Bool.not_eq_false, Int.not_lt, Int.not_le, Decidable.not_not, ne_eq] at hg6_26
          simp only [List.take]
          refine Hd.ng rfl rfl rfl ?_
          refine Hd.ng rfl rfl rfl ?_
          refine Hd.ng rfl rfl rfl ?_
          first | (refine Hd.yv (y_pickT rfl rfl) ?_) | (refine Hd.yv (y_pickF rfl rfl) ?_) | (refine Hd.yv (y_pickb rfl rfl rfl) ?_) | (refine Hd.yv (y_pick rfl rfl rfl) ?_)
          refine Hd.nil ?_
          exact Hd.mend (by repeat (first | exact trivial | refine ⟨rfl, ?_⟩)) (Ent.sep enn)
        · intro hg6_26
          try simp only [decide_eq_true_eq, decide_eq_false_iff_not, Bool.and_eq_true, Bool.or_eq_true, Bool.and_eq_false_iff, Bool.or_eq_false_iff, Bool.not_eq_true', Bool.not_eq_false', Bool.not_eq_true, Bool.not_eq_false, Int.not_lt, Int.not_le, Decidable.not_not, ne_eq] at hg6_26
          simp only [List.take]
          first | (refine Hd.yg rfl rfl (y_field' (q := 0) (ft := 3) Try.underlying57 rfl sz3 rfl rfl) ?_) | (refine Hd.yg rfl rfl (y_fieldR (q := 0) (ft := 3) Try.underlying57 rfl sz3 rfl rfl) ?_)
          first | (refine Hd.yg rfl rfl (y_load1 ag3 rfl (Rd.pt1 pkk (by (first | rfl)))) ?_) | (refine Hd.yg rfl rfl (y_load1 ag3 rfl (Rd.seg1 pkk (by (first | rfl)))) ?_) | (refine Hd.yg rfl rfl (y_loadR1 ag3 rfl (by (first | exact RdS.own pkk)) (by (first | rfl))) ?_)
          refine Hd.yg rfl rfl (y_gtr rfl rfl) ?_
          first | (refine Hd.yv (y_pickT rfl rfl) ?_) | (refine Hd.yv (y_pickF rfl rfl) ?_) | (refine Hd.yv (y_pickb rfl rfl rfl) ?_) | (refine Hd.yv (y_pick rfl rfl rfl) ?_)
          refine Hd.nil ?_
          exact Hd.mend (by repeat (first | exact trivial | refine ⟨rfl, ?_⟩)) (Ent.sep enn)
        simp only [List.drop]
        refine Hd.nil ?_
        refine Hd.slots [(0, _), (3, _), (5, _), (6, _), (30, _)] ⟨rfl, rfl, rfl, rfl, rfl, trivial⟩ ?_
        refine Hd.toK hK8 ?_
        refine Hd.cond rfl (fun hc2 => ?_) (fun hc2 => ?_)
        ·
          try simp only [decide_eq_true_eq, decide_eq_false_iff_not, Bool.and_eq_true, Bool.or_eq_true, Bool.and_eq_false_iff, Bool.or_eq_false_iff, Bool.not_eq_true', Bool.not_eq_false', Bool.not_eq_true, Bool.not_eq_false, Int.not_lt, Int.not_le, Decidable.not_not, ne_eq] at hc2
          refine Hd.seq (fun K9 hK9 => ?_)
          refine Hd.region ?_
          refine Hd.yv (y_assign rfl) ?_
          refine Hd.nil ?_
          refine Hd.slots [(4, _)] ⟨rfl, trivial⟩ ?_
          refine Hd.toK hK9 ?_
          refine Hd.ret ?_
          refine Hd.thenRet ?_
          clear hK1 hK2 hK3 hK4 hK6 hK7 hK8 hK9
          rw [show chgK f w p = (100, f) by unfold chgK; rw [if_neg h0, if_pos ⟨hc1, hc2⟩]]
          exact Hd.ret1 rfl m rfl (Ent.sep (.pure (by omega) enn))
        ·
          try simp only [decide_eq_true_eq, decide_eq_false_iff_not, Bool.and_eq_true, Bool.or_eq_true, Bool.and_eq_false_iff, Bool.or_eq_false_iff, Bool.not_eq_true', Bool.not_eq_false', Bool.not_eq_true, Bool.not_eq_false, Int.not_lt, Int.not_le, Decidable.not_not, ne_eq] at hc2
          refine Hd.skip ?_
          clear hK1 hK2 hK3 hK4 hK6 hK7 hK8
          refine Hd.thenN ?_
          exact Hd.meet ⟨fun h => by omega, fun h => h.1 hc1⟩ ⟨congrArg (fun z => some (Value.int .i64 z)) (show (0 : Int) = wireK w p by unfold wireK; rw [if_pos hc1]), by repeat (first | exact trivial | refine ⟨rfl, ?_⟩)⟩ (Ent.sep enn)
      ·
        try simp only [decide_eq_true_eq, decide_eq_false_iff_not, Bool.and_eq_true, Bool.or_eq_true, Bool.and_eq_false_iff, Bool.or_eq_false_iff, Bool.not_eq_true', Bool.not_eq_false', Bool.not_eq_true, Bool.not_eq_false, Int.not_lt, Int.not_le, Decidable.not_not, ne_eq] at hc1
        refine Hd.seq (fun K10 hK10 => ?_)
        refine Hd.quiet mixed (by kernel_rfl) ?_
        refine Hq.yv (y_move rfl) ?_
        refine Hq.yv (y_nilp rfl) ?_
        first | (refine Hq.yv (y_field' (q := 0) (ft := 27) Try.underlying69 rfl sz27 rfl rfl) ?_) | (refine Hq.yv (y_fieldR (q := 0) (ft := 27) Try.underlying69 rfl sz27 rfl rfl) ?_)
        first | (refine Hq.yv (y_load1 ag27 rfl (Rd.pt1 pkk (by (first | rfl)))) ?_) | (refine Hq.yv (y_load1 ag27 rfl (Rd.seg1 pkk (by (first | rfl)))) ?_) | (refine Hq.yv (y_loadR1 ag27 rfl (by (first | exact RdS.own pkk)) (by (first | rfl))) ?_)
        first | (refine Hq.yv (y_field' (q := 0) (ft := 3) Try.underlying57 rfl sz3 rfl rfl) ?_) | (refine Hq.yv (y_fieldR (q := 0) (ft := 3) Try.underlying57 rfl sz3 rfl rfl) ?_)
        first | (refine Hq.yv (y_load1 ag3 rfl (Rd.pt1 pkk (by (first | rfl)))) ?_) | (refine Hq.yv (y_load1 ag3 rfl (Rd.seg1 pkk (by (first | rfl)))) ?_) | (refine Hq.yv (y_loadR1 ag3 rfl (by (first | exact RdS.own pkk)) (by (first | rfl))) ?_)
        refine Hq.call rfl fk37 ((wwire_ct _ wb w p.1).swap (Ent.sep enn) (Ent.sep enn)) ?_
        refine Hq.yv (y_move rfl) ?_
        refine Hq.yv (y_extract rfl rfl) ?_
        refine Hq.yv (y_extract rfl rfl) ?_
        refine Hq.yv (y_assign rfl) ?_
        refine Hq.yv (y_assign rfl) ?_
        refine Hq.nil ?_
        refine Hd.slots [(0, _), (3, _), (5, _), (7, _), (8, _)] ⟨rfl, rfl, rfl, rfl, rfl, trivial⟩ ?_
        refine Hd.toK hK10 ?_
        refine Hd.seq (fun K11 hK11 => ?_)
        refine Hd.seq (fun K12 hK12 => ?_)
        refine Hd.region ?_
        refine Hd.yv (y_move rfl) ?_
        refine Hd.yv (y_neq rfl rfl) ?_
        refine Hd.nil ?_
        refine Hd.slots [(0, _), (3, _), (5, _), (7, _), (42, _)] ⟨rfl, rfl, rfl, rfl, rfl, trivial⟩ ?_
        refine Hd.toK hK12 ?_
        refine Hd.cond rfl (fun hc3 => ?_) (fun hc3 => ?_)
        ·
          try simp only [decide_eq_true_eq, decide_eq_false_iff_not, Bool.and_eq_true, Bool.or_eq_true, Bool.and_eq_false_iff, Bool.or_eq_false_iff, Bool.not_eq_true', Bool.not_eq_false', Bool.not_eq_true, Bool.not_eq_false, Int.not_lt, Int.not_le, Decidable.not_not, ne_eq] at hc3
          refine Hd.seq (fun K13 hK13 => ?_)
          refine Hd.region ?_
          refine Hd.yv (y_assign rfl) ?_
          refine Hd.nil ?_
          refine Hd.slots [(4, _)] ⟨rfl, trivial⟩ ?_
          refine Hd.toK hK13 ?_
          refine Hd.ret ?_
          refine Hd.thenRet ?_
          refine Hd.thenRet ?_
          clear hK1 hK2 hK3 hK4 hK6 hK7 hK10 hK11 hK12 hK13
          rw [show chgK f w p = (110, f) by unfold chgK; rw [if_neg h0, if_neg (fun h => hc1 h.1), if_pos ⟨hc1, fdErr_no.1 hc3⟩]]
          exact Hd.ret1 rfl m rfl (Ent.sep (.pure (by omega) enn))
        ·
          try simp only [decide_eq_true_eq, decide_eq_false_iff_not, Bool.and_eq_true, Bool.or_eq_true, Bool.and_eq_false_iff, Bool.or_eq_false_iff, Bool.not_eq_true', Bool.not_eq_false', Bool.not_eq_true, Bool.not_eq_false, Int.not_lt, Int.not_le, Decidable.not_not, ne_eq] at hc3
          refine Hd.skip ?_
          refine Hd.toK hK11 ?_
          refine Hd.region ?_
          refine Hd.yv (y_move rfl) ?_
          refine Hd.yv (y_assign rfl) ?_
          refine Hd.nil ?_
          refine Hd.slots [(0, _), (3, _), (5, _), (6, _)] ⟨rfl, rfl, rfl, rfl, trivial⟩ ?_
          clear hK1 hK2 hK3 hK4 hK6 hK7 hK10 hK11 hK12
          refine Hd.thenN ?_
          exact Hd.meet ⟨fun h => hc1 h.1, fun h => absurd hc3 (fdErr_no.2 h.2)⟩ ⟨congrArg (fun z => some (Value.int .i64 z)) (show wireN (w.at p.1) = wireK w p by unfold wireK; rw [if_neg hc1]), by repeat (first | exact trivial | refine ⟨rfl, ?_⟩)⟩ (Ent.sep enn)
    ·
      rintro ⟨h1, h2⟩
      refine Hd.seq (fun K14 hK14 => ?_)
      refine Hd.region ?_
      refine Hd.yv (y_move rfl) ?_
      first | (refine Hd.yv (y_loadn (us := [_, _]) ag121 rfl (Rd.pt pkk (by (first | (intro j v e; rcases j with _|_|_|_|_|_|_|_|_|_|_|_|j <;> first | exact e | exact absurd e (by simp))))) (by exact sz121)) ?_) | (refine Hd.yv (y_loadn (us := [_, _]) ag121 rfl (Rd.seg pkk (by (first | (intro j v e; rcases j with _|_|_|_|_|_|_|_|_|_|_|_|j <;> first | exact e | exact absurd e (by simp))))) (by exact sz121)) ?_) | (refine Hd.yv (y_loadRn ag121 rfl (by (first | exact RdS.own pkk)) (by (first | (intro j v e; rcases j with _|_|_|_|_|_|_|_|_|_|_|_|j <;> first | exact e | exact absurd e (by simp)))) (by exact sz121) (by simp)) ?_)
      refine Hd.callE rfl fk87 (kfind_ct _ qb wb mb f m w p.1 p.2.1) (Ent.sep enn) ?_
      intro _
      refine Hd.yv (y_move rfl) ?_
      refine Hd.yv (y_extract rfl rfl) ?_
      refine Hd.yv (y_to (v' := .bool (isK f w (p.1, p.2.1))) (y_extract rfl rfl) (by rfl)) ?_
      refine Hd.alloc zr123 (fun b9 => ?_)
      refine Hd.storeA (us := encKn (oldK f p)) sz123 rfl rfl rfl (by simp [Value.oneCell']) pkk (by exact rfl) ?_
      refine Hd.yv (y_assign rfl) ?_
      refine Hd.nil ?_
      refine Hd.slots [(0, _), (3, _), (5, _), (6, _), (9, _), (10, _)] ⟨rfl, rfl, rfl, rfl, rfl, rfl, trivial⟩ ?_
      refine Hd.toK hK14 ?_
      refine Hd.seq (fun K15 hK15 => ?_)
      refine Hd.block ?_
      refine Hd.seq (fun K16 hK16 => ?_)
      refine Hd.region ?_
      first | (refine Hd.yv (y_field' (q := 2) (ft := 3) Try.underlying57 rfl sz3 rfl rfl) ?_) | (refine Hd.yv (y_fieldR (q := 2) (ft := 3) Try.underlying57 rfl sz3 rfl rfl) ?_)
      first | (refine Hd.yv (y_load1 ag3 rfl (Rd.pt1 pkk (by (first | rfl)))) ?_) | (refine Hd.yv (y_load1 ag3 rfl (Rd.seg1 pkk (by (first | rfl)))) ?_) | (refine Hd.yv (y_loadR1 ag3 rfl (by (first | exact RdS.own pkk)) (by (first | rfl))) ?_)
      refine Hd.yv (y_and rfl rfl) ?_
      refine Hd.yv (y_neq rfl rfl) ?_
      refine Hd.yv (y_assign rfl) ?_
      refine Hd.nil ?_
      refine Hd.slots [(0, _), (3, _), (5, _), (6, _), (9, _), (10, _), (64, _)] ⟨rfl, rfl, rfl, rfl, rfl, rfl, rfl, trivial⟩ ?_
      refine Hd.toK hK16 ?_
      refine Hd.cond rfl (fun hc4 => ?_) (fun hc4 => ?_)
      ·
        try simp only [decide_eq_true_eq, decide_eq_false_iff_not, Bool.and_eq_true, Bool.or_eq_true, Bool.and_eq_false_iff, Bool.or_eq_false_iff, Bool.not_eq_true', Bool.not_eq_false', Bool.not_eq_true, Bool.not_eq_false, Int.not_lt, Int.not_le, Decidable.not_not, ne_eq] at hc4
        have h4 : hasF p 1 := hc4
        refine Hd.cutK (ι := Nat) [(0, _), (5, _), (9, _), (10, _)] (fun b11 => [(11, .pointer (some ⟨b11, 0, none⟩))]) (fun b11 => pt b11 (encKn (newK w p)) 123 :: pt b9 (encKn (oldK f p)) 123 :: pt b5 [.int .i64 p.1, .int .i64 p.2.1] 121 :: KqB qb wb mb f m w L) ?_ ?_ ⟨rfl, rfl, rfl, rfl, trivial⟩
        ·
          refine Hd.drawsH ([KqH qb wb mb, pt b3 (encNo p) 57]) (fun j => !([16].contains j)) mixed ?_
          simp only [List.length, Nat.zero_add, Nat.reduceAdd]
          refine Hd.takeH 0 rfl (by kernel_rfl) (by kernel_rfl) (by kernel_rfl) (by kernel_rfl) (y_move rfl) (fun _ _ => rfl) (Ent.sep enn) ?_
          first | (refine Hd.takeH 1 rfl (by kernel_rfl) (by kernel_rfl) (by kernel_rfl) (by kernel_rfl) (y_field' (q := 2) (ft := 3) Try.underlying57 rfl sz3 rfl rfl) (fun _ _ => rfl) (Ent.sep enn) ?_) | (refine Hd.takeH 1 rfl (by kernel_rfl) (by kernel_rfl) (by kernel_rfl) (by kernel_rfl) (y_fieldR (q := 2) (ft := 3) Try.underlying57 rfl sz3 rfl rfl) (fun _ _ => rfl) (Ent.sep enn) ?_)
          first | (refine Hd.takeH 2 rfl (by kernel_rfl) (by kernel_rfl) (by kernel_rfl) (by kernel_rfl) (y_load1 ag3 rfl (Rd.pt1 pkk (by (first | rfl)))) (fun _ _ => rfl) (Ent.sep enn) ?_) | (refine Hd.takeH 2 rfl (by kernel_rfl) (by kernel_rfl) (by kernel_rfl) (by kernel_rfl) (y_load1 ag3 rfl (Rd.seg1 pkk (by (first | rfl)))) (fun _ _ => rfl) (Ent.sep enn) ?_) | (refine Hd.takeH 2 rfl (by kernel_rfl) (by kernel_rfl) (by kernel_rfl) (by kernel_rfl) (y_loadR1 ag3 rfl (by (first | exact RdS.own pkk)) (by (first | rfl))) (fun _ _ => rfl) (Ent.sep enn) ?_)
          refine Hd.takeH 3 rfl (by kernel_rfl) (by kernel_rfl) (by kernel_rfl) (by kernel_rfl) (y_and rfl rfl) (fun _ _ => rfl) (Ent.sep enn) ?_
          first | (refine Hd.takeH 4 rfl (by kernel_rfl) (by kernel_rfl) (by kernel_rfl) (by kernel_rfl) (y_field' (q := 1) (ft := 3) Try.underlying57 rfl sz3 rfl rfl) (fun _ _ => rfl) (Ent.sep enn) ?_) | (refine Hd.takeH 4 rfl (by kernel_rfl) (by kernel_rfl) (by kernel_rfl) (by kernel_rfl) (y_fieldR (q := 1) (ft := 3) Try.underlying57 rfl sz3 rfl rfl) (fun _ _ => rfl) (Ent.sep enn) ?_)
          first | (refine Hd.takeH 5 rfl (by kernel_rfl) (by kernel_rfl) (by kernel_rfl) (by kernel_rfl) (y_load1 ag3 rfl (Rd.pt1 pkk (by (first | rfl)))) (fun _ _ => rfl) (Ent.sep enn) ?_) | (refine Hd.takeH 5 rfl (by kernel_rfl) (by kernel_rfl) (by kernel_rfl) (by kernel_rfl) (y_load1 ag3 rfl (Rd.seg1 pkk (by (first | rfl)))) (fun _ _ => rfl) (Ent.sep enn) ?_) | (refine Hd.takeH 5 rfl (by kernel_rfl) (by kernel_rfl) (by kernel_rfl) (by kernel_rfl) (y_loadR1 ag3 rfl (by (first | exact RdS.own pkk)) (by (first | rfl))) (fun _ _ => rfl) (Ent.sep enn) ?_)
          refine Hd.takeH 6 rfl (by kernel_rfl) (by kernel_rfl) (by kernel_rfl) (by kernel_rfl) (y_move rfl) (fun _ _ => rfl) (Ent.sep enn) ?_
          refine Hd.takeH 7 rfl (by kernel_rfl) (by kernel_rfl) (by kernel_rfl) (by kernel_rfl) (y_nilp rfl) (fun _ _ => rfl) (Ent.sep enn) ?_
          first | (refine Hd.takeH 8 rfl (by kernel_rfl) (by kernel_rfl) (by kernel_rfl) (by kernel_rfl) (y_field' (q := 0) (ft := 27) Try.underlying69 rfl sz27 rfl rfl) (fun _ _ => rfl) (Ent.sep enn) ?_) | (refine Hd.takeH 8 rfl (by kernel_rfl) (by kernel_rfl) (by kernel_rfl) (by kernel_rfl) (y_fieldR (q := 0) (ft := 27) Try.underlying69 rfl sz27 rfl rfl) (fun _ _ => rfl) (Ent.sep enn) ?_)
          first | (refine Hd.takeH 9 rfl (by kernel_rfl) (by kernel_rfl) (by kernel_rfl) (by kernel_rfl) (y_load1 ag27 rfl (Rd.pt1 pkk (by (first | rfl)))) (fun _ _ => rfl) (Ent.sep enn) ?_) | (refine Hd.takeH 9 rfl (by kernel_rfl) (by kernel_rfl) (by kernel_rfl) (by kernel_rfl) (y_load1 ag27 rfl (Rd.seg1 pkk (by (first | rfl)))) (fun _ _ => rfl) (Ent.sep enn) ?_) | (refine Hd.takeH 9 rfl (by kernel_rfl) (by kernel_rfl) (by kernel_rfl) (by kernel_rfl) (y_loadR1 ag27 rfl (by (first | exact RdS.own pkk)) (by (first | rfl))) (fun _ _ => rfl) (Ent.sep enn) ?_)
          first | (refine Hd.takeH 10 rfl (by kernel_rfl) (by kernel_rfl) (by kernel_rfl) (by kernel_rfl) (y_field' (q := 0) (ft := 3) Try.underlying57 rfl sz3 rfl rfl) (fun _ _ => rfl) (Ent.sep enn) ?_) | (refine Hd.takeH 10 rfl (by kernel_rfl) (by kernel_rfl) (by kernel_rfl) (by kernel_rfl) (y_fieldR (q := 0) (ft := 3) Try.underlying57 rfl sz3 rfl rfl) (fun _ _ => rfl) (Ent.sep enn) ?_)
          first | (refine Hd.takeH 11 rfl (by kernel_rfl) (by kernel_rfl) (by kernel_rfl) (by kernel_rfl) (y_load1 ag3 rfl (Rd.pt1 pkk (by (first | rfl)))) (fun _ _ => rfl) (Ent.sep enn) ?_) | (refine Hd.takeH 11 rfl (by kernel_rfl) (by kernel_rfl) (by kernel_rfl) (by kernel_rfl) (y_load1 ag3 rfl (Rd.seg1 pkk (by (first | rfl)))) (fun _ _ => rfl) (Ent.sep enn) ?_) | (refine Hd.takeH 11 rfl (by kernel_rfl) (by kernel_rfl) (by kernel_rfl) (by kernel_rfl) (y_loadR1 ag3 rfl (by (first | exact RdS.own pkk)) (by (first | rfl))) (fun _ _ => rfl) (Ent.sep enn) ?_)
          refine Hd.eitherH 12 15 rfl rfl (by kernel_rfl) ?_ ?_
          ·
            refine Hd.callE rfl fk39 (wready_ct _ wb w p.1) (Ent.sep enn) ?_
            intro _
            refine Hd.nil ?_
            refine Hd.thenN ?_
            refine Hd.heldK (J := (fun j => !([16].contains j))) (i := 12) (Ent.sep enn) ?_
            refine Hd.eitherH 13 15 rfl rfl (by kernel_rfl) ?_ ?_
            ·
              refine Hd.callE rfl fk62 (krises_ct _ p.2.1 (readyR w p.1)) (Ent.sep enn) ?_
              intro _
              refine Hd.nil ?_
              refine Hd.thenN ?_
              refine Hd.heldK (J := (fun j => !([16].contains j))) (i := 13) (Ent.sep enn) ?_
              refine Hd.takeH 14 rfl (by kernel_rfl) (by kernel_rfl) (by kernel_rfl) (by kernel_rfl) (y_build (vs := [(0, _), (1, _), (2, _), (3, _)]) rfl (by first | exact bd63_83 .. | kernel_rfl)) (fun _ _ => rfl) (Ent.sep enn) ?_
              refine Hd.onlyH 15 rfl (by kernel_rfl) ?_
              refine Hd.alloc zr123 (fun b11 => ?_)
              refine Hd.nil ?_
              refine Hd.thenN ?_
              refine Hd.heldK (J := (fun j => !([16].contains j))) (i := 15) (Ent.sep enn) ?_
              refine Hd.onlyH 16 rfl (by kernel_rfl) ?_
              refine Hd.storeA (us := encKn (newK w p)) sz123 rfl rfl rfl (by simp [Value.oneCell']) pkk (by exact rfl) ?_
              refine Hd.nil ?_
              refine Hd.thenN ?_
              refine Hd.heldN (J := (fun j => !([16].contains j))) (i := 16) rfl ?_
              refine Hd.endH (by kernel_rfl) ?_
              refine Hd.slots [(0, _), (5, _), (9, _), (10, _), (11, _)] ⟨rfl, rfl, rfl, rfl, rfl, trivial⟩ ?_
              clear hK1 hK2 hK3 hK4 hK6 hK14 hK15 hK16
              refine Hd.thenN ?_
              exact Hd.meet b11 (by repeat (first | exact trivial | refine ⟨rfl, ?_⟩)) (Ent.sep enn)
            ·
              refine Hd.alloc zr123 (fun b11 => ?_)
              refine Hd.nil ?_
              refine Hd.thenN ?_
              refine Hd.heldK (J := (fun j => !([16].contains j))) (i := 15) (Ent.sep enn) ?_
              refine Hd.onlyH 13 rfl (by kernel_rfl) ?_
              refine Hd.callE rfl fk62 (krises_ct _ p.2.1 (readyR w p.1)) (Ent.sep enn) ?_
              intro _
              refine Hd.nil ?_
              refine Hd.thenN ?_
              refine Hd.heldK (J := (fun j => !([16].contains j))) (i := 13) (Ent.sep enn) ?_
              refine Hd.takeH 14 rfl (by kernel_rfl) (by kernel_rfl) (by kernel_rfl) (by kernel_rfl) (y_build (vs := [(0, _), (1, _), (2, _), (3, _)]) rfl (by first | exact bd63_83 .. | kernel_rfl)) (fun _ _ => rfl) (Ent.sep enn) ?_
              refine Hd.onlyH 16 rfl (by kernel_rfl) ?_
              refine Hd.storeA (us := encKn (newK w p)) sz123 rfl rfl rfl (by simp [Value.oneCell']) pkk (by exact rfl) ?_
              refine Hd.nil ?_
              refine Hd.thenN ?_
              refine Hd.heldN (J := (fun j => !([16].contains j))) (i := 16) rfl ?_
              refine Hd.endH (by kernel_rfl) ?_
              refine Hd.slots [(0, _), (5, _), (9, _), (10, _), (11, _)] ⟨rfl, rfl, rfl, rfl, rfl, trivial⟩ ?_
              clear hK1 hK2 hK3 hK4 hK6 hK14 hK15 hK16
              refine Hd.thenN ?_
              exact Hd.meet b11 (by repeat (first | exact trivial | refine ⟨rfl, ?_⟩)) (Ent.sep enn)
          ·
            refine Hd.alloc zr123 (fun b11 => ?_)
            refine Hd.nil ?_
            refine Hd.thenN ?_
            refine Hd.heldK (J := (fun j => !([16].contains j))) (i := 15) (Ent.sep enn) ?_
            refine Hd.onlyH 12 rfl (by kernel_rfl) ?_
            refine Hd.callE rfl fk39 (wready_ct _ wb w p.1) (Ent.sep enn) ?_
            intro _
            refine Hd.nil ?_
            refine Hd.thenN ?_
            refine Hd.heldK (J := (fun j => !([16].contains j))) (i := 12) (Ent.sep enn) ?_
            refine Hd.onlyH 13 rfl (by kernel_rfl) ?_
            refine Hd.callE rfl fk62 (krises_ct _ p.2.1 (readyR w p.1)) (Ent.sep enn) ?_
            intro _
            refine Hd.nil ?_
            refine Hd.thenN ?_
            refine Hd.heldK (J := (fun j => !([16].contains j))) (i := 13) (Ent.sep enn) ?_
            refine Hd.takeH 14 rfl (by kernel_rfl) (by kernel_rfl) (by kernel_rfl) (by kernel_rfl) (y_build (vs := [(0, _), (1, _), (2, _), (3, _)]) rfl (by first | exact bd63_83 .. | kernel_rfl)) (fun _ _ => rfl) (Ent.sep enn) ?_
            refine Hd.onlyH 16 rfl (by kernel_rfl) ?_
            refine Hd.storeA (us := encKn (newK w p)) sz123 rfl rfl rfl (by simp [Value.oneCell']) pkk (by exact rfl) ?_
            refine Hd.nil ?_
            refine Hd.thenN ?_
            refine Hd.heldN (J := (fun j => !([16].contains j))) (i := 16) rfl ?_
            refine Hd.endH (by kernel_rfl) ?_
            refine Hd.slots [(0, _), (5, _), (9, _), (10, _), (11, _)] ⟨rfl, rfl, rfl, rfl, rfl, trivial⟩ ?_
            clear hK1 hK2 hK3 hK4 hK6 hK14 hK15 hK16
            refine Hd.thenN ?_
            exact Hd.meet b11 (by repeat (first | exact trivial | refine ⟨rfl, ?_⟩)) (Ent.sep enn)
        ·
          intro b11
          refine Hd.cutK (ι := Unit) [(0, _), (5, _), (11, _)] (fun _ => []) (fun _ => pt b11 (encKn (addK f w p)) 123 :: pt b5 [.int .i64 p.1, .int .i64 p.2.1] 121 :: KqB qb wb mb f m w L) ?_ ?_ ⟨rfl, rfl, rfl, trivial⟩
          ·
            refine Hd.seq (fun K17 hK17 => ?_)
            refine Hd.region ?_
            refine Hd.yv (y_move rfl) ?_
            refine Hd.yv (y_move rfl) ?_
            apply Hd.andg 11 85 96 [(0, _), (5, _), (9, _), (11, _)] rfl ⟨rfl, rfl, rfl, rfl, trivial⟩
            · intro hg17_85
              try simp only [decide_eq_true_eq, decide_eq_false_iff_not, Bool.and_eq_true, Bool.or_eq_true, Bool.and_eq_false_iff, Bool.or_eq_false_iff, Bool.not_eq_true', Bool.not_eq_false', Bool.not_eq_true, Bool.not_eq_false, Int.not_lt, Int.not_le, Decidable.not_not, ne_eq] at hg17_85
              simp only [List.take]
              first | (refine Hd.yg rfl rfl (y_field' (q := 1) (ft := 3) Try.underlying123 rfl sz3 rfl rfl) ?_) | (refine Hd.yg rfl rfl (y_fieldR (q := 1) (ft := 3) Try.underlying123 rfl sz3 rfl rfl) ?_)
              first | (refine Hd.yg rfl rfl (y_load1 ag3 rfl (Rd.pt1 pkk (by (first | rfl)))) ?_) | (refine Hd.yg rfl rfl (y_load1 ag3 rfl (Rd.seg1 pkk (by (first | rfl)))) ?_) | (refine Hd.yg rfl rfl (y_loadR1 ag3 rfl (by (first | exact RdS.own pkk)) (by (first | rfl))) ?_)
              refine Hd.yg rfl rfl (y_and rfl rfl) ?_
              refine Hd.yg rfl rfl (y_neq rfl rfl) ?_
              refine Hd.yg rfl rfl (y_move rfl) ?_
              apply Hd.org 5 90 95 [(0, _), (5, _), (9, _), (11, _), (85, _)] rfl ⟨rfl, rfl, rfl, rfl, rfl, trivial⟩
              · intro hg17_90
                try simp only [decide_eq_true_eq, decide_eq_false_iff_not, Bool.and_eq_true, Bool.or_eq_true, Bool.and_eq_false_iff, Bool.or_eq_false_iff, Bool.not_eq_true', Bool.not_eq_false', Bool.not_eq_true, Bool.not_eq_false, Int.not_lt, Int.not_le, Decidable.not_not, ne_eq] at hg17_90
                simp only [List.take]
                refine Hd.ng rfl rfl rfl ?_
                refine Hd.ng rfl rfl rfl ?_
                refine Hd.ng rfl rfl rfl ?_
                refine Hd.ng rfl rfl rfl ?_
                first | (refine Hd.yg rfl rfl (y_pickT rfl rfl) ?_) | (refine Hd.yg rfl rfl (y_pickF rfl rfl) ?_) | (refine Hd.yg rfl rfl (y_pickb rfl rfl rfl) ?_) | (refine Hd.yg rfl rfl (y_pick rfl rfl rfl) ?_)
                refine Hd.nil ?_
                exact Hd.mend (by repeat (first | exact trivial | refine ⟨rfl, ?_⟩)) (Ent.sep enn)
              · intro hg17_90
                try simp only [decide_eq_true_eq, decide_eq_false_iff_not, Bool.and_eq_true, Bool.or_eq_true, Bool.and_eq_false_iff, Bool.or_eq_false_iff, Bool.not_eq_true', Bool.not_eq_false', Bool.not_eq_true, Bool.not_eq_false, Int.not_lt, Int.not_le, Decidable.not_not, ne_eq] at hg17_90
                simp only [List.take]
                first | (refine Hd.yg rfl rfl (y_field' (q := 1) (ft := 3) Try.underlying123 rfl sz3 rfl rfl) ?_) | (refine Hd.yg rfl rfl (y_fieldR (q := 1) (ft := 3) Try.underlying123 rfl sz3 rfl rfl) ?_)
                first | (refine Hd.yg rfl rfl (y_load1 ag3 rfl (Rd.pt1 pkk (by (first | rfl)))) ?_) | (refine Hd.yg rfl rfl (y_load1 ag3 rfl (Rd.seg1 pkk (by (first | rfl)))) ?_) | (refine Hd.yg rfl rfl (y_loadR1 ag3 rfl (by (first | exact RdS.own pkk)) (by (first | rfl))) ?_)
                refine Hd.yg rfl rfl (y_and rfl rfl) ?_
                first | (refine Hd.yg rfl rfl (y_eqlT rfl rfl) ?_) | (refine Hd.yg rfl rfl (y_eql rfl rfl) ?_)
                first | (refine Hd.yg rfl rfl (y_pickT rfl rfl) ?_) | (refine Hd.yg rfl rfl (y_pickF rfl rfl) ?_) | (refine Hd.yg rfl rfl (y_pickb rfl rfl rfl) ?_) | (refine Hd.yg rfl rfl (y_pick rfl rfl rfl) ?_)
                refine Hd.nil ?_
                exact Hd.mend (by repeat (first | exact trivial | refine ⟨rfl, ?_⟩)) (Ent.sep enn)
              simp only [List.drop]
              first | (refine Hd.yv (y_pickT rfl rfl) ?_) | (refine Hd.yv (y_pickF rfl rfl) ?_) | (refine Hd.yv (y_pickb rfl rfl rfl) ?_) | (refine Hd.yv (y_pick rfl rfl rfl) ?_)
              refine Hd.nil ?_
              exact Hd.mend (by repeat (first | exact trivial | refine ⟨rfl, ?_⟩)) (Ent.sep enn)
            · intro hg17_85
              try simp only [decide_eq_true_eq, decide_eq_false_iff_not, Bool.and_eq_true, Bool.or_eq_true, Bool.and_eq_false_iff, Bool.or_eq_false_iff, Bool.not_eq_true', Bool.not_eq_false', Bool.not_eq_true, Bool.not_eq_false, Int.not_lt, Int.not_le, Decidable.not_not, ne_eq] at hg17_85
              simp only [List.take]
              refine Hd.ng rfl rfl rfl ?_
              refine Hd.ng rfl rfl rfl ?_
              refine Hd.ng rfl rfl rfl ?_
              refine Hd.ng rfl rfl rfl ?_
              refine Hd.ng rfl rfl rfl ?_
              refine Hd.ng rfl rfl rfl ?_
              refine Hd.ng rfl rfl rfl ?_
              refine Hd.ng rfl rfl rfl ?_
              refine Hd.ng rfl rfl rfl ?_
              refine Hd.ng rfl rfl rfl ?_
              first | (refine Hd.yv (y_pickT rfl rfl) ?_) | (refine Hd.yv (y_pickF rfl rfl) ?_) | (refine Hd.yv (y_pickb rfl rfl rfl) ?_) | (refine Hd.yv (y_pick rfl rfl rfl) ?_)
              refine Hd.nil ?_
              exact Hd.mend (by repeat (first | exact trivial | refine ⟨rfl, ?_⟩)) (Ent.sep enn)
            simp only [List.drop]
            refine Hd.nil ?_
            refine Hd.slots [(0, _), (5, _), (9, _), (11, _), (96, _)] ⟨rfl, rfl, rfl, rfl, rfl, trivial⟩ ?_
            refine Hd.toK hK17 ?_
            refine Hd.cond rfl (fun hc5 => ?_) (fun hc5 => ?_)
            ·
              try simp only [decide_eq_true_eq, decide_eq_false_iff_not, Bool.and_eq_true, Bool.or_eq_true, Bool.and_eq_false_iff, Bool.or_eq_false_iff, Bool.not_eq_true', Bool.not_eq_false', Bool.not_eq_true, Bool.not_eq_false, Int.not_lt, Int.not_le, Decidable.not_not, ne_eq] at hc5
              have h5 : keepK f w p := by unfold keepK; simpa using hc5
              refine Hd.drawsH ([pt b9 (encKn (oldK f p)) 123]) (fun j => !(([1000] : List Nat).contains j)) mixed ?_
              simp only [List.length, Nat.zero_add, Nat.reduceAdd]
              first | (refine Hd.takeH 0 rfl (by kernel_rfl) (by kernel_rfl) (by kernel_rfl) (by kernel_rfl) (y_field' (q := 2) (ft := 4) Try.underlying123 rfl sz4 rfl rfl) (fun _ _ => rfl) (Ent.sep enn) ?_) | (refine Hd.takeH 0 rfl (by kernel_rfl) (by kernel_rfl) (by kernel_rfl) (by kernel_rfl) (y_fieldR (q := 2) (ft := 4) Try.underlying123 rfl sz4 rfl rfl) (fun _ _ => rfl) (Ent.sep enn) ?_)
              first | (refine Hd.takeH 1 rfl (by kernel_rfl) (by kernel_rfl) (by kernel_rfl) (by kernel_rfl) (y_load1 ag4 rfl (Rd.pt1 pkk (by (first | rfl)))) (fun _ _ => rfl) (Ent.sep enn) ?_) | (refine Hd.takeH 1 rfl (by kernel_rfl) (by kernel_rfl) (by kernel_rfl) (by kernel_rfl) (y_load1 ag4 rfl (Rd.seg1 pkk (by (first | rfl)))) (fun _ _ => rfl) (Ent.sep enn) ?_) | (refine Hd.takeH 1 rfl (by kernel_rfl) (by kernel_rfl) (by kernel_rfl) (by kernel_rfl) (y_loadR1 ag4 rfl (by (first | exact RdS.own pkk)) (by (first | rfl))) (fun _ _ => rfl) (Ent.sep enn) ?_)
              first | (refine Hd.takeH 2 rfl (by kernel_rfl) (by kernel_rfl) (by kernel_rfl) (by kernel_rfl) (y_field' (q := 3) (ft := 78) Try.underlying123 rfl sz78 rfl rfl) (fun _ _ => rfl) (Ent.sep enn) ?_) | (refine Hd.takeH 2 rfl (by kernel_rfl) (by kernel_rfl) (by kernel_rfl) (by kernel_rfl) (y_fieldR (q := 3) (ft := 78) Try.underlying123 rfl sz78 rfl rfl) (fun _ _ => rfl) (Ent.sep enn) ?_)
              first | (refine Hd.takeH 3 rfl (by kernel_rfl) (by kernel_rfl) (by kernel_rfl) (by kernel_rfl) (y_load1 ag78 rfl (Rd.pt1 pkk (by (first | rfl)))) (fun _ _ => rfl) (Ent.sep enn) ?_) | (refine Hd.takeH 3 rfl (by kernel_rfl) (by kernel_rfl) (by kernel_rfl) (by kernel_rfl) (y_load1 ag78 rfl (Rd.seg1 pkk (by (first | rfl)))) (fun _ _ => rfl) (Ent.sep enn) ?_) | (refine Hd.takeH 3 rfl (by kernel_rfl) (by kernel_rfl) (by kernel_rfl) (by kernel_rfl) (y_loadR1 ag78 rfl (by (first | exact RdS.own pkk)) (by (first | rfl))) (fun _ _ => rfl) (Ent.sep enn) ?_)
              first | (refine Hd.takeH 4 rfl (by kernel_rfl) (by kernel_rfl) (by kernel_rfl) (by kernel_rfl) (y_field' (q := 2) (ft := 4) Try.underlying123 rfl sz4 rfl rfl) (fun _ _ => rfl) (Ent.sep enn) ?_) | (refine Hd.takeH 4 rfl (by kernel_rfl) (by kernel_rfl) (by kernel_rfl) (by kernel_rfl) (y_fieldR (q := 2) (ft := 4) Try.underlying123 rfl sz4 rfl rfl) (fun _ _ => rfl) (Ent.sep enn) ?_)
              refine Hd.onlyH 5 rfl (by kernel_rfl) ?_
              first | (refine Hd.store1 sz4 rfl rfl rfl pkk (by first | decide | (simp; done) | (simp; omega)) ?_) | (refine Hd.storeG1 sz4 rfl rfl rfl pkk (by first | decide | (simp; done) | (simp; omega)) ?_) | (refine Hd.storeO1 sz4 rfl rfl rfl pkk (by first | omega | (simp; done) | (simp; omega)) ?_)
              try simp only [List.set_cons_zero, List.set_cons_succ]
              refine Hd.nil ?_
              refine Hd.thenN ?_
              refine Hd.heldK (J := (fun j => !(([1000] : List Nat).contains j))) (i := 5) (Ent.sep enn) ?_
              first | (refine Hd.takeH 6 rfl (by kernel_rfl) (by kernel_rfl) (by kernel_rfl) (by kernel_rfl) (y_field' (q := 3) (ft := 78) Try.underlying123 rfl sz78 rfl rfl) (fun _ _ => rfl) (Ent.sep enn) ?_) | (refine Hd.takeH 6 rfl (by kernel_rfl) (by kernel_rfl) (by kernel_rfl) (by kernel_rfl) (y_fieldR (q := 3) (ft := 78) Try.underlying123 rfl sz78 rfl rfl) (fun _ _ => rfl) (Ent.sep enn) ?_)
              refine Hd.onlyH 7 rfl (by kernel_rfl) ?_
              first | (refine Hd.store1 sz78 rfl rfl rfl pkk (by first | decide | (simp; done) | (simp; omega)) ?_) | (refine Hd.storeG1 sz78 rfl rfl rfl pkk (by first | decide | (simp; done) | (simp; omega)) ?_) | (refine Hd.storeO1 sz78 rfl rfl rfl pkk (by first | omega | (simp; done) | (simp; omega)) ?_)
              try simp only [List.set_cons_zero, List.set_cons_succ]
              refine Hd.nil ?_
              refine Hd.thenN ?_
              refine Hd.heldK (J := (fun j => !(([1000] : List Nat).contains j))) (i := 7) (Ent.sep enn) ?_
              refine Hd.endH (by kernel_rfl) ?_
              refine Hd.slots [(0, _), (5, _), (11, _)] ⟨rfl, rfl, rfl, trivial⟩ ?_
              clear hK1 hK2 hK3 hK4 hK6 hK14 hK15 hK16 hK17
              refine Hd.thenN ?_
              exact Hd.meet () (by repeat (first | exact trivial | refine ⟨rfl, ?_⟩)) (Ent.sep (.eq pkk (pt_eq (by unfold addK; rw [if_pos h5])) enn))
            ·
              try simp only [decide_eq_true_eq, decide_eq_false_iff_not, Bool.and_eq_true, Bool.or_eq_true, Bool.and_eq_false_iff, Bool.or_eq_false_iff, Bool.not_eq_true', Bool.not_eq_false', Bool.not_eq_true, Bool.not_eq_false, Int.not_lt, Int.not_le, Decidable.not_not, ne_eq] at hc5
              have h5 : ¬ keepK f w p := by
                unfold keepK
                rintro ⟨a1, a2⟩
                simp [a1] at hc5
                rcases a2 with a2 | a2
                · exact a2 hc5.1
                · exact hc5.2 a2
              refine Hd.skip ?_
              clear hK1 hK2 hK3 hK4 hK6 hK14 hK15 hK16 hK17
              refine Hd.thenN ?_
              exact Hd.meet () (by repeat (first | exact trivial | refine ⟨rfl, ?_⟩)) (Ent.sep (.eq pkk (pt_eq (by unfold addK; rw [if_neg h5])) enn))
          ·
            intro _
            refine Hd.tail 6 mixed (by kernel_rfl) ?_
            simp only [List.take, List.drop]
            refine Ht.yv (y_move rfl) ?_
            refine Ht.yv (y_nilp rfl) ?_
            first | (refine Ht.yv (y_field' (q := 1) (ft := 67) Try.underlying69 rfl sz67 rfl rfl) ?_) | (refine Ht.yv (y_fieldR (q := 1) (ft := 67) Try.underlying69 rfl sz67 rfl rfl) ?_)
            first | (refine Ht.yv (y_load1 ag67 rfl (Rd.pt1 pkk (by (first | rfl)))) ?_) | (refine Ht.yv (y_load1 ag67 rfl (Rd.seg1 pkk (by (first | rfl)))) ?_) | (refine Ht.yv (y_loadR1 ag67 rfl (by (first | exact RdS.own pkk)) (by (first | rfl))) ?_)
            first | (refine Ht.yv (y_loadn (us := [_, _]) ag121 rfl (Rd.pt pkk (by (first | (intro j v e; rcases j with _|_|_|_|_|_|_|_|_|_|_|_|j <;> first | exact e | exact absurd e (by simp))))) (by exact sz121)) ?_) | (refine Ht.yv (y_loadn (us := [_, _]) ag121 rfl (Rd.seg pkk (by (first | (intro j v e; rcases j with _|_|_|_|_|_|_|_|_|_|_|_|j <;> first | exact e | exact absurd e (by simp))))) (by exact sz121)) ?_) | (refine Ht.yv (y_loadRn ag121 rfl (by (first | exact RdS.own pkk)) (by (first | (intro j v e; rcases j with _|_|_|_|_|_|_|_|_|_|_|_|j <;> first | exact e | exact absurd e (by simp)))) (by exact sz121) (by simp)) ?_)
            first | (refine Ht.yv (y_loadn (us := [_, _, _, _]) ag123 rfl (Rd.pt pkk (by (first | (intro j v e; rcases j with _|_|_|_|_|_|_|_|_|_|_|_|j <;> first | exact e | exact absurd e (by simp))))) (by exact sz123)) ?_) | (refine Ht.yv (y_loadn (us := [_, _, _, _]) ag123 rfl (Rd.seg pkk (by (first | (intro j v e; rcases j with _|_|_|_|_|_|_|_|_|_|_|_|j <;> first | exact e | exact absurd e (by simp))))) (by exact sz123)) ?_) | (refine Ht.yv (y_loadRn ag123 rfl (by (first | exact RdS.own pkk)) (by (first | (intro j v e; rcases j with _|_|_|_|_|_|_|_|_|_|_|_|j <;> first | exact e | exact absurd e (by simp)))) (by exact sz123) (by simp)) ?_)
            refine Ht.nil ?_
            refine Hd.mapUpdateK mapt67 rfl rfl rfl pkk ?_
            refine Hd.nil ?_
            refine Hd.slots [] trivial ?_
            refine Hd.inB ?_
            refine Hd.toK hK15 ?_
            refine Hd.seq (fun K18 hK18 => ?_)
            refine Hd.region ?_
            refine Hd.yv (y_assign rfl) ?_
            refine Hd.nil ?_
            refine Hd.slots [(4, _)] ⟨rfl, trivial⟩ ?_
            refine Hd.toK hK18 ?_
            refine Hd.ret ?_
            clear hK1 hK2 hK3 hK4 hK6 hK14 hK15 hK16 hK18
            rw [show chgK f w p = (0, updK f (p.1, p.2.1) (some (addK f w p))) by unfold chgK; rw [if_neg h0, if_neg h1, if_neg h2, if_pos h4]]
            exact Hd.ret1 rfl (if (kmap f (p.1, p.2.1)).isSome then m else m + 1) rfl (Ent.sep (.pure (by split <;> omega) (.pick pkk (.eq pkk (mpP_eq (by rw [kmap_upd]) rfl) enn))))
      ·
        try simp only [decide_eq_true_eq, decide_eq_false_iff_not, Bool.and_eq_true, Bool.or_eq_true, Bool.and_eq_false_iff, Bool.or_eq_false_iff, Bool.not_eq_true', Bool.not_eq_false', Bool.not_eq_true, Bool.not_eq_false, Int.not_lt, Int.not_le, Decidable.not_not, ne_eq] at hc4
        have h4 : ¬ hasF p 1 := fun h => h hc4
        refine Hd.seq (fun K19 hK19 => ?_)
        refine Hd.region ?_
        refine Hd.yv (y_move rfl) ?_
        refine Hd.yv (y_not rfl) ?_
        refine Hd.yv (y_assign rfl) ?_
        refine Hd.nil ?_
        refine Hd.slots [(0, _), (3, _), (5, _), (9, _), (109, _)] ⟨rfl, rfl, rfl, rfl, rfl, trivial⟩ ?_
        refine Hd.toK hK19 ?_
        refine Hd.cond rfl (fun hc6 => ?_) (fun hc6 => ?_)
        ·
          try simp only [decide_eq_true_eq, decide_eq_false_iff_not, Bool.and_eq_true, Bool.or_eq_true, Bool.and_eq_false_iff, Bool.or_eq_false_iff, Bool.not_eq_true', Bool.not_eq_false', Bool.not_eq_true, Bool.not_eq_false, Int.not_lt, Int.not_le, Decidable.not_not, ne_eq] at hc6
          have h6 : isK f w (p.1, p.2.1) = false := by simpa using hc6
          refine Hd.seq (fun K20 hK20 => ?_)
          refine Hd.region ?_
          refine Hd.yv (y_assign rfl) ?_
          refine Hd.nil ?_
          refine Hd.slots [(4, _)] ⟨rfl, trivial⟩ ?_
          refine Hd.toK hK20 ?_
          refine Hd.ret ?_
          refine Hd.inBret ?_
          refine Hd.thenRet ?_
          clear hK1 hK2 hK3 hK4 hK6 hK14 hK15 hK16 hK19 hK20
          rw [show chgK f w p = (151, f) by unfold chgK; rw [if_neg h0, if_neg h1, if_neg h2, if_neg h4, if_pos h6]]
          exact Hd.ret1 rfl m rfl (Ent.sep (.pure (by omega) enn))
        ·
          try simp only [decide_eq_true_eq, decide_eq_false_iff_not, Bool.and_eq_true, Bool.or_eq_true, Bool.and_eq_false_iff, Bool.or_eq_false_iff, Bool.not_eq_true', Bool.not_eq_false', Bool.not_eq_true, Bool.not_eq_false, Int.not_lt, Int.not_le, Decidable.not_not, ne_eq] at hc6
          have h6 : ¬ (isK f w (p.1, p.2.1) = false) := by simpa using hc6
          refine Hd.seq (fun K21 hK21 => ?_)
          refine Hd.region ?_
          first | (refine Hd.yv (y_field' (q := 2) (ft := 3) Try.underlying57 rfl sz3 rfl rfl) ?_) | (refine Hd.yv (y_fieldR (q := 2) (ft := 3) Try.underlying57 rfl sz3 rfl rfl) ?_)
          first | (refine Hd.yv (y_load1 ag3 rfl (Rd.pt1 pkk (by (first | rfl)))) ?_) | (refine Hd.yv (y_load1 ag3 rfl (Rd.seg1 pkk (by (first | rfl)))) ?_) | (refine Hd.yv (y_loadR1 ag3 rfl (by (first | exact RdS.own pkk)) (by (first | rfl))) ?_)
          refine Hd.yv (y_and rfl rfl) ?_
          refine Hd.yv (y_neq rfl rfl) ?_
          refine Hd.yv (y_assign rfl) ?_
          refine Hd.nil ?_
          refine Hd.slots [(0, _), (3, _), (5, _), (9, _), (112, _)] ⟨rfl, rfl, rfl, rfl, rfl, trivial⟩ ?_
          refine Hd.toK hK21 ?_
          refine Hd.cond rfl (fun hc7 => ?_) (fun hc7 => ?_)
          ·
            try simp only [decide_eq_true_eq, decide_eq_false_iff_not, Bool.and_eq_true, Bool.or_eq_true, Bool.and_eq_false_iff, Bool.or_eq_false_iff, Bool.not_eq_true', Bool.not_eq_false', Bool.not_eq_true, Bool.not_eq_false, Int.not_lt, Int.not_le, Decidable.not_not, ne_eq] at hc7
            have h7 : hasF p 2 := hc7
            refine Hd.tail 5 mixed (by kernel_rfl) ?_
            simp only [List.take, List.drop]
            refine Ht.yv (y_move rfl) ?_
            refine Ht.yv (y_nilp rfl) ?_
            first | (refine Ht.yv (y_field' (q := 1) (ft := 67) Try.underlying69 rfl sz67 rfl rfl) ?_) | (refine Ht.yv (y_fieldR (q := 1) (ft := 67) Try.underlying69 rfl sz67 rfl rfl) ?_)
            first | (refine Ht.yv (y_load1 ag67 rfl (Rd.pt1 pkk (by (first | rfl)))) ?_) | (refine Ht.yv (y_load1 ag67 rfl (Rd.seg1 pkk (by (first | rfl)))) ?_) | (refine Ht.yv (y_loadR1 ag67 rfl (by (first | exact RdS.own pkk)) (by (first | rfl))) ?_)
            first | (refine Ht.yv (y_loadn (us := [_, _]) ag121 rfl (Rd.pt pkk (by (first | (intro j v e; rcases j with _|_|_|_|_|_|_|_|_|_|_|_|j <;> first | exact e | exact absurd e (by simp))))) (by exact sz121)) ?_) | (refine Ht.yv (y_loadn (us := [_, _]) ag121 rfl (Rd.seg pkk (by (first | (intro j v e; rcases j with _|_|_|_|_|_|_|_|_|_|_|_|j <;> first | exact e | exact absurd e (by simp))))) (by exact sz121)) ?_) | (refine Ht.yv (y_loadRn ag121 rfl (by (first | exact RdS.own pkk)) (by (first | (intro j v e; rcases j with _|_|_|_|_|_|_|_|_|_|_|_|j <;> first | exact e | exact absurd e (by simp)))) (by exact sz121) (by simp)) ?_)
            refine Ht.nil ?_
            refine Hd.mapDelete0K mapt67 rfl rfl pkk ?_
            refine Hd.nil ?_
            refine Hd.slots [] trivial ?_
            refine Hd.inB ?_
            refine Hd.toK hK15 ?_
            refine Hd.seq (fun K22 hK22 => ?_)
            refine Hd.region ?_
            refine Hd.yv (y_assign rfl) ?_
            refine Hd.nil ?_
            refine Hd.slots [(4, _)] ⟨rfl, trivial⟩ ?_
            refine Hd.toK hK22 ?_
            refine Hd.ret ?_
            clear hK1 hK2 hK3 hK4 hK6 hK14 hK15 hK16 hK19 hK21 hK22
            rw [show chgK f w p = (0, updK f (p.1, p.2.1) none) by unfold chgK; rw [if_neg h0, if_neg h1, if_neg h2, if_neg h4, if_neg h6, if_pos h7]]
            exact Hd.ret1 rfl (if (kmap f (p.1, p.2.1)).isSome then m - 1 else m) rfl (Ent.sep (.pure (by split <;> omega) (.pick pkk (.eq pkk (mpP_eq (by rw [kmap_del]) rfl) enn))))
          ·
            try simp only [decide_eq_true_eq, decide_eq_false_iff_not, Bool.and_eq_true, Bool.or_eq_true, Bool.and_eq_false_iff, Bool.or_eq_false_iff, Bool.not_eq_true', Bool.not_eq_false', Bool.not_eq_true, Bool.not_eq_false, Int.not_lt, Int.not_le, Decidable.not_not, ne_eq] at hc7
            have h7 : ¬ hasF p 2 := fun h => h hc7
            refine Hd.seq (fun K23 hK23 => ?_)
            refine Hd.region ?_
            first | (refine Hd.yv (y_field' (q := 1) (ft := 3) Try.underlying123 rfl sz3 rfl rfl) ?_) | (refine Hd.yv (y_fieldR (q := 1) (ft := 3) Try.underlying123 rfl sz3 rfl rfl) ?_)
            first | (refine Hd.yv (y_load1 ag3 rfl (Rd.pt1 pkk (by (first | rfl)))) ?_) | (refine Hd.yv (y_load1 ag3 rfl (Rd.seg1 pkk (by (first | rfl)))) ?_) | (refine Hd.yv (y_loadR1 ag3 rfl (by (first | exact RdS.own pkk)) (by (first | rfl))) ?_)
            refine Hd.yv (y_andNot rfl rfl) ?_
            first | (refine Hd.yv (y_field' (q := 2) (ft := 3) Try.underlying57 rfl sz3 rfl rfl) ?_) | (refine Hd.yv (y_fieldR (q := 2) (ft := 3) Try.underlying57 rfl sz3 rfl rfl) ?_)
            first | (refine Hd.yv (y_load1 ag3 rfl (Rd.pt1 pkk (by (first | rfl)))) ?_) | (refine Hd.yv (y_load1 ag3 rfl (Rd.seg1 pkk (by (first | rfl)))) ?_) | (refine Hd.yv (y_loadR1 ag3 rfl (by (first | exact RdS.own pkk)) (by (first | rfl))) ?_)
            refine Hd.yv (y_and rfl rfl) ?_
            refine Hd.yv (y_or rfl rfl) ?_
            first | (refine Hd.yv (y_field' (q := 1) (ft := 3) Try.underlying123 rfl sz3 rfl rfl) ?_) | (refine Hd.yv (y_fieldR (q := 1) (ft := 3) Try.underlying123 rfl sz3 rfl rfl) ?_)
            first | (refine Hd.store1 sz3 rfl rfl rfl pkk (by first | decide | (simp; done) | (simp; omega)) ?_) | (refine Hd.storeG1 sz3 rfl rfl rfl pkk (by first | decide | (simp; done) | (simp; omega)) ?_) | (refine Hd.storeO1 sz3 rfl rfl rfl pkk (by first | omega | (simp; done) | (simp; omega)) ?_)
            try simp only [List.set_cons_zero, List.set_cons_succ]
            refine Hd.nil ?_
            refine Hd.slots [(0, _), (5, _), (9, _)] ⟨rfl, rfl, rfl, trivial⟩ ?_
            refine Hd.toK hK23 ?_
            refine Hd.tail 6 mixed (by kernel_rfl) ?_
            simp only [List.take, List.drop]
            refine Ht.yv (y_move rfl) ?_
            refine Ht.yv (y_nilp rfl) ?_
            first | (refine Ht.yv (y_field' (q := 1) (ft := 67) Try.underlying69 rfl sz67 rfl rfl) ?_) | (refine Ht.yv (y_fieldR (q := 1) (ft := 67) Try.underlying69 rfl sz67 rfl rfl) ?_)
            first | (refine Ht.yv (y_load1 ag67 rfl (Rd.pt1 pkk (by (first | rfl)))) ?_) | (refine Ht.yv (y_load1 ag67 rfl (Rd.seg1 pkk (by (first | rfl)))) ?_) | (refine Ht.yv (y_loadR1 ag67 rfl (by (first | exact RdS.own pkk)) (by (first | rfl))) ?_)
            first | (refine Ht.yv (y_loadn (us := [_, _]) ag121 rfl (Rd.pt pkk (by (first | (intro j v e; rcases j with _|_|_|_|_|_|_|_|_|_|_|_|j <;> first | exact e | exact absurd e (by simp))))) (by exact sz121)) ?_) | (refine Ht.yv (y_loadn (us := [_, _]) ag121 rfl (Rd.seg pkk (by (first | (intro j v e; rcases j with _|_|_|_|_|_|_|_|_|_|_|_|j <;> first | exact e | exact absurd e (by simp))))) (by exact sz121)) ?_) | (refine Ht.yv (y_loadRn ag121 rfl (by (first | exact RdS.own pkk)) (by (first | (intro j v e; rcases j with _|_|_|_|_|_|_|_|_|_|_|_|j <;> first | exact e | exact absurd e (by simp)))) (by exact sz121) (by simp)) ?_)
            first | (refine Ht.yv (y_loadn (us := [_, _, _, _]) ag123 rfl (Rd.pt pkk (by (first | (intro j v e; rcases j with _|_|_|_|_|_|_|_|_|_|_|_|j <;> first | exact e | exact absurd e (by simp))))) (by exact sz123)) ?_) | (refine Ht.yv (y_loadn (us := [_, _, _, _]) ag123 rfl (Rd.seg pkk (by (first | (intro j v e; rcases j with _|_|_|_|_|_|_|_|_|_|_|_|j <;> first | exact e | exact absurd e (by simp))))) (by exact sz123)) ?_) | (refine Ht.yv (y_loadRn ag123 rfl (by (first | exact RdS.own pkk)) (by (first | (intro j v e; rcases j with _|_|_|_|_|_|_|_|_|_|_|_|j <;> first | exact e | exact absurd e (by simp)))) (by exact sz123) (by simp)) ?_)
            refine Ht.nil ?_
            refine Hd.mapUpdateK mapt67 rfl rfl rfl pkk ?_
            refine Hd.nil ?_
            refine Hd.slots [] trivial ?_
            refine Hd.inB ?_
            refine Hd.toK hK15 ?_
            refine Hd.seq (fun K24 hK24 => ?_)
            refine Hd.region ?_
            refine Hd.yv (y_assign rfl) ?_
            refine Hd.nil ?_
            refine Hd.slots [(4, _)] ⟨rfl, trivial⟩ ?_
            refine Hd.toK hK24 ?_
            refine Hd.ret ?_
            clear hK1 hK2 hK3 hK4 hK6 hK14 hK15 hK16 hK19 hK21 hK23 hK24
            rw [show chgK f w p = (0, updK f (p.1, p.2.1) (some (modK f p))) by unfold chgK; rw [if_neg h0, if_neg h1, if_neg h2, if_neg h4, if_neg h6, if_neg h7]]
            exact Hd.ret1 rfl (if (kmap f (p.1, p.2.1)).isSome then m else m + 1) rfl (Ent.sep (.pure (by split <;> omega) (.pick pkk (.eq pkk (mpP_eq (by rw [kmap_upd]; rfl) rfl) enn))))
end Kq
end Go.Proofs.Ytbfddabjbkohdaa
namespace Go.Proofs.Ytbfddabjbkohdaa
set_option linter.unusedSimpArgs false
set_option linter.unusedVariables false
set_option linter.unnecessarySimpa false
open Go.RX Fx
namespace Kq
open Wo
set_option maxRecDepth 8000
def oneK (e : Int) (p : NoA) : List NoA := if e = 0 ∧ bits .and .i64 p.2.2.1 64 = 0 then [] else [(p.1, p.2.1, 256, e)]
def chsK (f : Int × Int → Option KnA) (w : WA) : List NoA → List NoA × (Int × Int → Option KnA)
  | [] => ([], f)
  | p :: l => (oneK (chgK f w p).1 p ++ (chsK (chgK f w p).2 w l).1, (chsK (chgK f w p).2 w l).2)
theorem chsK_app (w : WA) : ∀ (a b : List NoA) (f : Int × Int → Option KnA), chsK f w (a ++ b) = ((chsK f w a).1 ++ (chsK (chsK f w a).2 w b).1, (chsK (chsK f w a).2 w b).2)
  | [], _, _ => rfl
  | p :: a, b, f => by
    rw [List.cons_append]
    show (oneK (chgK f w p).1 p ++ (chsK (chgK f w p).2 w (a ++ b)).1, (chsK (chgK f w p).2 w (a ++ b)).2) = (oneK (chgK f w p).1 p ++ (chsK (chgK f w p).2 w a).1 ++ (chsK (chsK (chgK f w p).2 w a).2 w b).1, (chsK (chsK (chgK f w p).2 w a).2 w b).2)
    rw [chsK_app w a b]
    simp only [List.append_assoc]
theorem chsK_succ (f : Int × Int → Option KnA) (w : WA) {xs : List NoA} {i : Nat} (h : i < xs.length) : chsK f w (xs.take (i + 1)) = ((chsK f w (xs.take i)).1 ++ oneK (chgK (chsK f w (xs.take i)).2 w xs[i]).1 xs[i], (chgK (chsK f w (xs.take i)).2 w xs[i]).2) := by
  rw [List.take_add_one, List.getElem?_eq_getElem h, Option.toList_some, chsK_app]
  simp [chsK]
theorem chsK_len (w : WA) : ∀ (a : List NoA) (f : Int × Int → Option KnA), (chsK f w a).1.length ≤ a.length
  | [], _ => Nat.le_refl _
  | p :: a, f => by
    unfold chsK
    have := chsK_len w a (chgK f w p).2
    have h1 : (oneK (chgK f w p).1 p).length ≤ 1 := by unfold oneK; split <;> simp
    simp only [List.length_append, List.length_cons]
    omega
theorem encNo_one (p : NoA) : ∀ u ∈ encNo p, u.oneCell' = true := by simp [Value.oneCell']
set_option maxHeartbeats 2000000 in
theorem kchs_ct (L : List SP) (qb wb mb : Nat) (f : Int × Int → Option KnA) (m : Nat) (w : WA) (al : Option Addr) (cl : Nat) (xs : List NoA) (h : RdS L 4 al xs.length (xs.flatMap encNo)) (hb : xs.length ≤ 1000000) : Ct Try.prog 30 #[.pointer (some ⟨qb, 0, none⟩), .slice al xs.length cl] (KqB qb wb mb f m w L) (fun q_ : Option Addr × Nat × Nat => .tuple #[.slice q_.1 (chsK f w xs).1.length q_.2.1, .int .i64 0]) (fun q_ : Option Addr × Nat × Nat => pu (q_.2.2 ≤ m + xs.length) :: own 57 4 q_.1 (chsK f w xs).1.length q_.2.1 ((chsK f w xs).1.flatMap encNo) :: KqB qb wb mb (chsK f w xs).2 q_.2.2 w L) := by
  refine Ct.of (vs := [.pointer (some ⟨qb, 0, none⟩), .slice al xs.length cl]) Try.func30 rfl rfl [(0, .pointer (some ⟨qb, 0, none⟩)), (1, .slice al xs.length cl)] (by repeat (first | exact trivial | refine ⟨rfl, ?_⟩)) ?_
  intro E
  show Hd E 40 _ _ _ _
  refine Hd.seq (fun K1 hK1 => ?_)
  refine Hd.region ?_
  refine Hd.yv (y_assign rfl) ?_
  refine Hd.yv (y_assign rfl) ?_
  refine Hd.nil ?_
  refine Hd.slots [(0, _), (1, _)] ⟨rfl, rfl, trivial⟩ ?_
  refine Hd.toK hK1 ?_
  refine Hd.scope ?_
  refine Hd.seq (fun K2 hK2 => ?_)
  refine Hd.seq (fun K3 hK3 => ?_)
  refine Hd.region ?_
  refine Hd.yv (y_move rfl) ?_
  refine Hd.callE rfl fk57 (knone_ct _ qb wb mb) (Ent.sep enn) ?_
  intro _
  refine Hd.nil ?_
  refine Hd.slots [(0, _), (1, _), (11, _)] ⟨rfl, rfl, rfl, trivial⟩ ?_
  refine Hd.toK hK3 ?_
  refine Hd.condF rfl ?_
  refine Hd.skip ?_
  refine Hd.toK hK2 ?_
  refine Hd.seq (fun K4 hK4 => ?_)
  refine Hd.region ?_
  refine Hd.yv (y_assign rfl) ?_
  refine Hd.nil ?_
  refine Hd.slots [(0, _), (1, _), (6, _)] ⟨rfl, rfl, rfl, trivial⟩ ?_
  refine Hd.toK hK4 ?_
  refine Hd.seq (fun K5 hK5 => ?_)
  refine Hd.label ?_
  refine Hd.toK hK5 ?_
  refine Hd.seq (fun K6 hK6 => ?_)
  refine Hd.seq (fun K7 hK7 => ?_)
  refine Hd.region ?_
  refine Hd.yv (y_move rfl) ?_
  refine Hd.yv (y_len Try.underlying59 rfl) ?_
  refine Hd.yv (y_move rfl) ?_
  refine Hd.nil ?_
  refine Hd.slots [(0, _), (6, _), (12, _), (13, _), (14, _)] ⟨rfl, rfl, rfl, rfl, rfl, trivial⟩ ?_
  refine Hd.toK hK7 ?_
  refine Hd.block ?_
  refine Hd.loopK (ι := Nat × Option Addr × Nat × Nat) [(0, _), (12, _), (13, _)] (fun q_ => [(6, .slice q_.2.1 (chsK f w (xs.take q_.1)).1.length q_.2.2.1), (14, .int .i64 (q_.1 : Int))]) (fun q_ => pu (q_.1 ≤ xs.length ∧ q_.2.2.2 ≤ m + q_.1) :: own 57 4 q_.2.1 (chsK f w (xs.take q_.1)).1.length q_.2.2.1 ((chsK f w (xs.take q_.1)).1.flatMap encNo) :: KqB qb wb mb (chsK f w (xs.take q_.1)).2 q_.2.2.2 w L) (fun q_ => xs.length - q_.1) (0, none, 0, m) (by repeat (first | exact trivial | refine ⟨rfl, ?_⟩)) (by repeat (first | exact trivial | refine ⟨rfl, ?_⟩)) (fun q t => Ent.sep (.pure ⟨Nat.zero_le _, Nat.le_refl _⟩ (.ownNil .same)) q t) ?_
  rintro ⟨i, ad, c, m'⟩
  try dsimp only
  refine Hd.pure (fun hp0 => ?_)
  try dsimp only at hp0
  refine Hd.seq (fun K8 hK8 => ?_)
  refine Hd.region ?_
  refine Hd.yv (y_lss rfl rfl) ?_
  refine Hd.nil ?_
  refine Hd.slots [(0, _), (6, _), (12, _), (13, _), (14, _), (15, _)] ⟨rfl, rfl, rfl, rfl, rfl, rfl, trivial⟩ ?_
  refine Hd.toK hK8 ?_
  refine Hd.seq (fun K9 hK9 => ?_)
  refine Hd.cond rfl (fun hc1 => ?_) (fun hc1 => ?_)
  ·
    try simp only [decide_eq_true_eq, decide_eq_false_iff_not, Bool.and_eq_true, Bool.or_eq_true, Bool.and_eq_false_iff, Bool.or_eq_false_iff, Bool.not_eq_true', Bool.not_eq_false', Bool.not_eq_true, Bool.not_eq_false, Int.not_lt, Int.not_le, Decidable.not_not, ne_eq] at hc1
    have hi : i < xs.length := by omega
    have hgi : xs[i]? = some xs[i] := List.getElem?_eq_getElem hi
    have hsc := chsK_succ f w hi
    obtain ⟨g, hg⟩ : ∃ g, g = (chsK f w (xs.take i)).2 := ⟨_, rfl⟩
    obtain ⟨o, ho⟩ : ∃ o, o = (chsK f w (xs.take i)).1 := ⟨_, rfl⟩
    have hol : o.length ≤ i := by
      have := chsK_len w (xs.take i) f
      rw [← ho, List.length_take] at this
      omega
    rw [← hg, ← ho] at hsc
    rw [← hg, ← ho]
    refine Hd.skip ?_
    refine Hd.toK hK9 ?_
    refine Hd.seq (fun K10 hK10 => ?_)
    refine Hd.block ?_
    refine Hd.seq (fun K11 hK11 => ?_)
    refine Hd.region ?_
    first | (refine Hd.yv (y_idxS Try.underlying59 sz57 rfl rfl (by first | omega | decide)) ?_) | (refine Hd.yv (y_idxR Try.underlying59 sz57 rfl rfl (by first | omega | decide) (by (first | exact RdS.own pkk | exact RdS.mono h (Ent.sep enn)))) ?_)
    refine Hd.yv (y_loadRn (vs := encNo xs[i]) ag57 rfl (RdS.mono h (Ent.sep enn)) (flat_cells encNo 4 (fun _ => rfl) hgi) (by exact sz57) (by simp)) ?_
    refine Hd.alloc zr57 (fun b8 => ?_)
    refine Hd.storeA (us := encNo xs[i]) sz57 rfl rfl rfl (encNo_one _) pkk (by exact rfl) ?_
    refine Hd.nil ?_
    refine Hd.slots [(0, _), (6, _), (8, _), (12, _), (13, _), (14, _)] ⟨rfl, rfl, rfl, rfl, rfl, rfl, trivial⟩ ?_
    refine Hd.toK hK11 ?_
    refine Hd.seq (fun K12 hK12 => ?_)
    refine Hd.region ?_
    refine Hd.yv (y_move rfl) ?_
    first | (refine Hd.yv (y_loadn (us := [_, _, _, _]) ag57 rfl (Rd.pt pkk (by (first | (intro j v e; rcases j with _|_|_|_|_|_|_|_|_|_|_|_|j <;> first | exact e | exact absurd e (by simp))))) (by exact sz57)) ?_) | (refine Hd.yv (y_loadn (us := [_, _, _, _]) ag57 rfl (Rd.seg pkk (by (first | (intro j v e; rcases j with _|_|_|_|_|_|_|_|_|_|_|_|j <;> first | exact e | exact absurd e (by simp))))) (by exact sz57)) ?_) | (refine Hd.yv (y_loadRn ag57 rfl (by (first | exact RdS.own pkk | exact RdS.mono h (Ent.sep enn))) (by (first | (intro j v e; rcases j with _|_|_|_|_|_|_|_|_|_|_|_|j <;> first | exact e | exact absurd e (by simp)))) (by exact sz57) (by simp)) ?_)
    refine Hd.callE rfl fk63 (kchange_ct _ qb wb mb g m' w xs[i]) (Ent.sep enn) ?_
    intro m2
    refine Hd.pure (fun hm2 => ?_)
    refine Hd.yv (y_assign rfl) ?_
    refine Hd.nil ?_
    refine Hd.slots [(0, _), (6, _), (8, _), (9, _), (12, _), (13, _), (14, _)] ⟨rfl, rfl, rfl, rfl, rfl, rfl, rfl, trivial⟩ ?_
    refine Hd.toK hK12 ?_
    refine Hd.seq (fun K13 hK13 => ?_)
    refine Hd.seq (fun K14 hK14 => ?_)
    refine Hd.region ?_
    refine Hd.yv (y_move rfl) ?_
    first | (refine Hd.yv (y_eqlT rfl rfl) ?_) | (refine Hd.yv (y_eql rfl rfl) ?_)
    refine Hd.yv (y_move rfl) ?_
    apply Hd.andg 5 23 28 [(0, _), (6, _), (8, _), (9, _), (12, _), (13, _), (14, _)] rfl ⟨rfl, rfl, rfl, rfl, rfl, rfl, rfl, trivial⟩
    · intro hg8_23
      try simp only [decide_eq_true_eq, decide_eq_false_iff_not, Bool.and_eq_true, Bool.or_eq_true, Bool.and_eq_false_iff, Bool.or_eq_false_iff, Bool.not_eq_true', Bool.not_eq_false', Bool.not_eq_true, Bool.not_eq_false, Int.not_lt, Int.not_le, Decidable.not_not, ne_eq] at hg8_23
      simp only [List.take]
      first | (refine Hd.yg rfl rfl (y_field' (q := 2) (ft := 3) Try.underlying57 rfl sz3 rfl rfl) ?_) | (refine Hd.yg rfl rfl (y_fieldR (q := 2) (ft := 3) Try.underlying57 rfl sz3 rfl rfl) ?_)
      first | (refine Hd.yg rfl rfl (y_load1 ag3 rfl (Rd.pt1 pkk (by (first | rfl)))) ?_) | (refine Hd.yg rfl rfl (y_load1 ag3 rfl (Rd.seg1 pkk (by (first | rfl)))) ?_) | (refine Hd.yg rfl rfl (y_loadR1 ag3 rfl (by (first | exact RdS.own pkk | exact RdS.mono h (Ent.sep enn))) (by (first | rfl))) ?_)
      refine Hd.yg rfl rfl (y_and rfl rfl) ?_
      first | (refine Hd.yg rfl rfl (y_eqlT rfl rfl) ?_) | (refine Hd.yg rfl rfl (y_eql rfl rfl) ?_)
      first | (refine Hd.yv (y_pickT rfl rfl) ?_) | (refine Hd.yv (y_pickF rfl rfl) ?_) | (refine Hd.yv (y_pickb rfl rfl rfl) ?_) | (refine Hd.yv (y_pick rfl rfl rfl) ?_)
      refine Hd.nil ?_
      exact Hd.mend (by repeat (first | exact trivial | refine ⟨rfl, ?_⟩)) (Ent.sep enn)
    · intro hg8_23
      try simp only [decide_eq_true_eq, decide_eq_false_iff_not, Bool.and_eq_true, Bool.or_eq_true, Bool.and_eq_false_iff, Bool.or_eq_false_iff, Bool.not_eq_true', Bool.not_eq_false', Bool.not_eq_true, Bool.not_eq_false, Int.not_lt, Int.not_le, Decidable.not_not, ne_eq] at hg8_23
      simp only [List.take]
      refine Hd.ng rfl rfl rfl ?_
      refine Hd.ng rfl rfl rfl ?_
      refine Hd.ng rfl rfl rfl ?_
      refine Hd.ng rfl rfl rfl ?_
      first | (refine Hd.yv (y_pickT rfl rfl) ?_) | (refine Hd.yv (y_pickF rfl rfl) ?_) | (refine Hd.yv (y_pickb rfl rfl rfl) ?_) | (refine Hd.yv (y_pick rfl rfl rfl) ?_)
      refine Hd.nil ?_
      exact Hd.mend (by repeat (first | exact trivial | refine ⟨rfl, ?_⟩)) (Ent.sep enn)
    simp only [List.drop]
    refine Hd.nil ?_
    refine Hd.slots [(0, _), (6, _), (8, _), (9, _), (12, _), (13, _), (14, _), (28, _)] ⟨rfl, rfl, rfl, rfl, rfl, rfl, rfl, rfl, trivial⟩ ?_
    refine Hd.toK hK14 ?_
    refine Hd.cond rfl (fun hc2 => ?_) (fun hc2 => ?_)
    ·
      try simp only [decide_eq_true_eq, decide_eq_false_iff_not, Bool.and_eq_true, Bool.or_eq_true, Bool.and_eq_false_iff, Bool.or_eq_false_iff, Bool.not_eq_true', Bool.not_eq_false', Bool.not_eq_true, Bool.not_eq_false, Int.not_lt, Int.not_le, Decidable.not_not, ne_eq] at hc2
      refine Hd.exit ?_
      refine Hd.thenExit ?_
      refine Hd.inBexit ?_
      refine Hd.toK hK10 ?_
      refine Hd.region ?_
      first | (refine Hd.yv (y_addn rfl rfl (by simp only [InK]; omega)) ?_) | (refine Hd.yv (y_add rfl rfl) ?_)
      refine Hd.yv (y_move rfl) ?_
      refine Hd.nil ?_
      refine Hd.slots [(0, _), (6, _), (12, _), (13, _), (14, _)] ⟨rfl, rfl, rfl, rfl, rfl, trivial⟩ ?_
      clear hK1 hK2 hK3 hK4 hK5 hK6 hK7 hK8 hK9 hK10 hK11 hK12 hK13 hK14
      refine Hd.thenN ?_
      have hon : oneK (chgK g w xs[i]).1 xs[i] = [] := if_pos hc2
      refine Hd.again (i + 1, ad, c, m2) (by show xs.length - (i + 1) < xs.length - i; omega) (by rw [hsc, hon, List.append_nil]; repeat (first | exact trivial | refine ⟨rfl, ?_⟩)) (fun q t => ?_)
      rw [hsc, hon, List.append_nil]
      exact Ent.sep (.pure (show i + 1 ≤ xs.length ∧ m2 ≤ m + (i + 1) from ⟨hi, by omega⟩) enn) q t
    ·
      try simp only [decide_eq_true_eq, decide_eq_false_iff_not, Bool.and_eq_true, Bool.or_eq_true, Bool.and_eq_false_iff, Bool.or_eq_false_iff, Bool.not_eq_true', Bool.not_eq_false', Bool.not_eq_true, Bool.not_eq_false, Int.not_lt, Int.not_le, Decidable.not_not, ne_eq] at hc2
      refine Hd.skip ?_
      refine Hd.toK hK13 ?_
      refine Hd.region ?_
      refine Hd.yv (y_move rfl) ?_
      first | (refine Hd.yv (y_field' (q := 0) (ft := 3) Try.underlying57 rfl sz3 rfl rfl) ?_) | (refine Hd.yv (y_fieldR (q := 0) (ft := 3) Try.underlying57 rfl sz3 rfl rfl) ?_)
      first | (refine Hd.yv (y_load1 ag3 rfl (Rd.pt1 pkk (by (first | rfl)))) ?_) | (refine Hd.yv (y_load1 ag3 rfl (Rd.seg1 pkk (by (first | rfl)))) ?_) | (refine Hd.yv (y_loadR1 ag3 rfl (by (first | exact RdS.own pkk | exact RdS.mono h (Ent.sep enn))) (by (first | rfl))) ?_)
      first | (refine Hd.yv (y_field' (q := 1) (ft := 3) Try.underlying57 rfl sz3 rfl rfl) ?_) | (refine Hd.yv (y_fieldR (q := 1) (ft := 3) Try.underlying57 rfl sz3 rfl rfl) ?_)
      first | (refine Hd.yv (y_load1 ag3 rfl (Rd.pt1 pkk (by (first | rfl)))) ?_) | (refine Hd.yv (y_load1 ag3 rfl (Rd.seg1 pkk (by (first | rfl)))) ?_) | (refine Hd.yv (y_loadR1 ag3 rfl (by (first | exact RdS.own pkk | exact RdS.mono h (Ent.sep enn))) (by (first | rfl))) ?_)
      refine Hd.yv (y_move rfl) ?_
      refine Hd.yv (y_build (vs := [(0, _), (1, _), (2, _), (3, _)]) rfl (by first | exact bd30_35 .. | kernel_rfl)) ?_
      refine Hd.bslice (vs := [(0, _)]) rfl (by first | exact bs30_36 .. | kernel_rfl) (fun b36 => ?_)
      refine Hd.append Try.underlying59 ty57 rfl rfl rfl pkk (by first | exact RdS.rd (Rd.pt pkk (fun j v e => by simpa using e)) rfl | (first | exact RdS.own pkk | exact RdS.mono h (Ent.sep enn))) (by first | (simp [Value.oneCell']; done) | assumption) (by first | (simp only [maxLen]; omega) | assumption) (by omega) (fun ad37 cap37 => ?_)
      refine Hd.yv (y_assign rfl) ?_
      refine Hd.nil ?_
      refine Hd.slots [(0, _), (6, _), (12, _), (13, _), (14, _)] ⟨rfl, rfl, rfl, rfl, rfl, trivial⟩ ?_
      refine Hd.inB ?_
      refine Hd.toK hK10 ?_
      refine Hd.region ?_
      first | (refine Hd.yv (y_addn rfl rfl (by simp only [InK]; omega)) ?_) | (refine Hd.yv (y_add rfl rfl) ?_)
      refine Hd.yv (y_move rfl) ?_
      refine Hd.nil ?_
      refine Hd.slots [(0, _), (6, _), (12, _), (13, _), (14, _)] ⟨rfl, rfl, rfl, rfl, rfl, trivial⟩ ?_
      clear hK1 hK2 hK3 hK4 hK5 hK6 hK7 hK8 hK9 hK10 hK11 hK12 hK13 hK14
      refine Hd.thenN ?_
      have hon : oneK (chgK g w xs[i]).1 xs[i] = [(xs[i].1, xs[i].2.1, 256, (chgK g w xs[i]).1)] := if_neg (fun hh => by simp [hh.1, hh.2] at hc2)
      refine Hd.again (i + 1, ad37, cap37, m2) (by show xs.length - (i + 1) < xs.length - i; omega) (by rw [hsc, hon]; simp only [List.length_append, List.length_singleton]; repeat (first | exact trivial | refine ⟨rfl, ?_⟩)) (fun q t => ?_)
      rw [hsc, hon]
      exact Ent.sep (.pure (show i + 1 ≤ xs.length ∧ m2 ≤ m + (i + 1) from ⟨hi, by omega⟩) (.eq pkk (own_eq3 (by simp) rfl (by simp only [List.flatMap_append]; rfl)) enn)) q t
  ·
    try simp only [decide_eq_true_eq, decide_eq_false_iff_not, Bool.and_eq_true, Bool.or_eq_true, Bool.and_eq_false_iff, Bool.or_eq_false_iff, Bool.not_eq_true', Bool.not_eq_false', Bool.not_eq_true, Bool.not_eq_false, Int.not_lt, Int.not_le, Decidable.not_not, ne_eq] at hc1
    obtain rfl : i = xs.length := by omega
    rw [List.take_length]
    refine Hd.exit ?_
    refine Hd.thenExit ?_
    refine Hd.thenExit ?_
    refine Hd.inBexit ?_
    refine Hd.toK hK6 ?_
    refine Hd.seq (fun K15 hK15 => ?_)
    refine Hd.region ?_
    refine Hd.yv (y_move rfl) ?_
    refine Hd.yv (y_assign rfl) ?_
    refine Hd.yv (y_assign rfl) ?_
    refine Hd.nil ?_
    refine Hd.slots [(4, _), (5, _)] ⟨rfl, rfl, trivial⟩ ?_
    refine Hd.toK hK15 ?_
    refine Hd.ret ?_
    refine Hd.scRet ?_
    clear hK1 hK2 hK3 hK4 hK5 hK6 hK7 hK8 hK9 hK15
    exact Hd.ret2 rfl (ad, c, m') rfl rfl rfl (Ent.sep (.pure hp0.2 enn))
end Kq
end Go.Proofs.Ytbfddabjbkohdaa
namespace Go.RX
set_option linter.unusedSimpArgs false
set_option linter.unusedVariables false
set_option linter.unnecessarySimpa false
open Go.Sort Go.Proofs Go.Shelf
section
variable {P : Program}
theorem hp_grow {w : World} {os : Array Obj} : Sub (hp w) (hp (grow w os)) := fun k c e => by
  unfold hp at e ⊢
  have hb : k.1 < w.heap.size := Decidable.byContradiction fun h => by
    rw [Array.getElem?_eq_none (by omega)] at e
    cases k.2 <;> simp [hpo] at e
  show hpo (w.heap ++ os)[k.1]? k.2 = _
  rw [Array.getElem?_append_left hb]; exact e
theorem Sat.grow' {E w : World} {L : List SP} (s : Sat E L w) (os : Array Obj) : Sat E L (grow w os) := ⟨s.1, s.2.1, s.2.2.1, s.2.2.2.up hp_grow⟩
theorem Sat.ahead' {E w : World} {L : List SP} (s : Sat E L w) (n : Nat) : Sat E L (Go.Sort.ahead w n) := ⟨⟨s.1.1, Nat.le_trans s.1.2 (Nat.le_add_right _ _)⟩, s.2⟩
theorem flatK_list {α : Type} [Inhabited α] {enc : α → List Value} {k : Nat} (hk : ∀ x, (enc x).length = k) (hk0 : 0 < k) (xs : List α) : (flatK enc k xs.toArray).toList = xs.flatMap enc := by
  have hfl : (xs.flatMap enc).length = xs.length * k := by
    induction xs with
    | nil => simp
    | cons x xs ih => simp only [List.flatMap_cons, List.length_append, ih, hk, List.length_cons, Nat.succ_mul]; omega
  apply List.ext_getElem?
  intro t
  by_cases ht : t < xs.length * k
  · have h1 : t / k < xs.length := Nat.div_lt_of_lt_mul (by rwa [Nat.mul_comm])
    have h2 : t % k < k := Nat.mod_lt _ hk0
    have h3 : xs[t / k]? = some xs[t / k] := List.getElem?_eq_getElem h1
    have h4 : t % k < (enc xs[t / k]).length := by rw [hk]; exact h2
    have h5 := flat_cells enc k hk h3 (t % k) _ (List.getElem?_eq_getElem h4)
    rw [Nat.div_add_mod'] at h5
    rw [h5]
    have h6 : t < (flatK enc k xs.toArray).size := by simpa using ht
    rw [Array.getElem?_toList, Array.getElem?_eq_getElem h6]
    congr 1
    have := get_flatK enc k xs.toArray t (by simpa using ht)
    rw [getElem!_pos _ t h6] at this
    rw [this]
    simp [h1, h4]
  · rw [List.getElem?_eq_none (by simpa using Nat.le_of_not_lt ht), List.getElem?_eq_none (by rw [hfl]; omega)]
theorem Sat.sortW {α : Type} [Inhabited α] {enc : α → List Value} {k : Nat} (hk : ∀ x, (enc x).length = k) (hk0 : 0 < k) {E w : World} {L : List SP} {b o : Nat} {xs ys : List α} (hl : ys.length = xs.length) (h0 : 0 < xs.length) (s : Sat E (seg b o (xs.flatMap enc) :: L) w) (n : Nat) (os : Array Obj) :
    Sat E (seg b o (ys.flatMap enc) :: L) (sortWorldK enc k w b o n ys.toArray os) := by
  unfold sortWorldK putRowK
  refine Sat.grow' ?_ os
  have s1 := s.ahead' n
  have hfx : (xs.flatMap enc).length = xs.length * k := by rw [← flatK_list hk hk0]; simp
  have hfy : (ys.flatMap enc).length = ys.length * k := by rw [← flatK_list hk hk0]; simp
  obtain ⟨h1, hs, x⟩ := sep.one Pick.here s1.2.2.2
  obtain ⟨cs, e, fz, hb, hc⟩ := seg_at hs x (by rw [hfx]; exact Nat.mul_pos h0 hk0)
  have hsz : ∀ i, i < xs.length * k → o + i < cs.size := fun i hi => by
    have := (hc i _ (List.getElem?_eq_getElem (by rw [hfx]; exact hi))).1
    exact (Array.getElem?_eq_some_iff.1 this).1
  refine Sat.putSeg (cs := cs) (cs' := putCells id o (flatK enc k ys.toArray) cs) (e := e) (fz := fz) s1 .here (by rw [hfx, hfy, hl]) rfl rfl rfl (fun z hz => ?_) hb ?_ (by simp [putCells]) (fun i hi => ?_) (fun i v hi => ?_)
  · show (mapBlock _ _ _).heap[z]? = _
    unfold mapBlock
    simp [Array.getElem?_modify, Ne.symm hz]
  · show (mapBlock _ _ _).heap[b]? = _
    unfold mapBlock
    simp only [Array.getElem?_modify, if_true]
    rw [hb]; rfl
  · unfold putCells
    rw [Array.getElem?_mapIdx]
    cases hcs : cs[i]? with
    | none => rfl
    | some c =>
      simp only [Option.map_some]
      rw [if_neg]
      rw [size_flatK]
      rw [hfx, ← hl] at hi
      simp only [List.size_toArray]
      omega
  · have hi' : i < ys.length * k := by rw [← hfy]; exact (List.getElem?_eq_some_iff.1 hi).1
    have hoi : o + i < cs.size := hsz i (by rw [← hl]; exact hi')
    unfold putCells
    rw [Array.getElem?_mapIdx, Array.getElem?_eq_getElem hoi]
    simp only [Option.map_some]
    rw [if_pos ⟨by omega, by rw [size_flatK]; simp only [List.size_toArray]; omega⟩, show o + i - o = i by omega]
    rw [← flatK_list hk hk0, Array.getElem?_toList] at hi
    have h6 := (Array.getElem?_eq_some_iff.1 hi).1
    rw [Array.getElem?_eq_getElem h6] at hi
    rw [getElem!_pos _ i h6]
    exact hi
theorem Sat.holdsK {α : Type} [Inhabited α] {enc : α → List Value} {k : Nat} (hk : ∀ x, (enc x).length = k) (hk0 : 0 < k) {E w : World} {L : List SP} {b o : Nat} {xs : List α} (h0 : 0 < xs.length) (s : Sat E (seg b o (xs.flatMap enc) :: L) w) : HoldsK enc k w b o xs.toArray ∧ b < w.heap.size := by
  have hfx : (xs.flatMap enc).length = xs.length * k := by rw [← flatK_list hk hk0]; simp
  obtain ⟨h1, hs, x⟩ := sep.one Pick.here s.2.2.2
  obtain ⟨cs, e, fz, hb, hc⟩ := seg_at hs x (by rw [hfx]; exact Nat.mul_pos h0 hk0)
  refine ⟨fun j hj => ?_, (Array.getElem?_eq_some_iff.1 hb).1⟩
  have hj' : j < (xs.flatMap enc).length := by rw [hfx]; simpa using hj
  have hcj := hc j _ (List.getElem?_eq_getElem hj')
  have e1 : (flatK enc k xs.toArray)[j]! = (xs.flatMap enc)[j] := by
    rw [getElem!_pos _ j hj]
    have : (flatK enc k xs.toArray).toList[j]? = (xs.flatMap enc)[j]? := by rw [flatK_list hk hk0]
    rw [Array.getElem?_toList, Array.getElem?_eq_getElem hj, List.getElem?_eq_getElem hj'] at this
    exact Option.some.inj this
  refine ⟨?_, ?_⟩
  · unfold World.cell?
    simp only [hb, Option.isSome_none, Bool.false_eq_true, if_false]
    rw [hcj.1, e1]; rfl
  · unfold World.frozen?
    simp only [hb]
    first | exact hcj.2 | (simpa using hcj.2)
theorem grow_of {W w' : World} (s : Sat W [Old W] w') : ∃ q os', w' = grow (W.drewN q) os' := by
  have hb := below_of_sat s .here
  refine ⟨w'.drawn - W.drawn, w'.heap.extract W.heap.size w'.heap.size, ?_⟩
  have hh : w'.heap = W.heap ++ w'.heap.extract W.heap.size w'.heap.size := by
    apply Array.ext_getElem?
    intro i
    by_cases hi : i < W.heap.size
    · rw [Array.getElem?_append_left hi]; exact hb.block i hi
    · rw [Array.getElem?_append_right (by omega), Array.getElem?_extract]
      by_cases h2 : i < w'.heap.size
      · rw [if_pos (by omega)]; congr 1; omega
      · rw [if_neg (by omega), Array.getElem?_eq_none (by omega)]
  have hd : W.drawn + (w'.drawn - W.drawn) = w'.drawn := by have := s.1.2; omega
  obtain ⟨wh, wt, wd, wo, wu⟩ := w'
  obtain ⟨⟨h1, _⟩, h2, h3, _⟩ := s
  simp only at h1 h2 h3 hh hd
  subst h1; subst h2; subst h3
  unfold grow
  simp [World.drewN, hd, ← hh]
theorem cmpLays_of {α : Type} [Inhabited α] {g : Nat} {enc : α → List Value} {k : Nat} {cf : α → α → Int} {b o size : Nat} {w : World}
    (h : ∀ (L : List SP) x y, Ct P g #[.agg (enc x).toArray, .agg (enc y).toArray] L (fun _ : Unit => .int .i64 (cf x y)) (fun _ => L)) : CmpLays P g #[] enc k cf b o size w := fun m os dk _ x y =>
  (h [Old _] x y _ _ (old_sat _)).mono fun _ _ ⟨_, he, s⟩ => ⟨he, grow_of s⟩
end
end Go.RX
namespace Go.Proofs
open Go.Shelf
def Try.sortI_ren : Go.Shelf.Ren := ⟨fun | 6 => 88 | 15 => 108 | 14 => 107 | 28 => 124 | 29 => 125 | 20 => 116 | 21 => 117 | 22 => 118 | 23 => 119 | 24 => 120 | 25 => 121 | 26 => 122 | 27 => 123 | 46 => 135 | 47 => 136 | 48 => 137 | 49 => 138 | 50 => 139 | 57 => 143 | n => n, fun | 22 => 118 | 24 => 121 | 25 => 162 | 3 => 3 | 39 => 178 | 0 => 0 | 53 => 191 | 55 => 78 | 4 => 4 | 46 => 184 | 45 => 183 | 50 => 188 | 5 => 5 | 9 => 9 | 66 => 199 | 70 => 203 | 76 => 207 | 77 => 208 | n => n, fun | n => n⟩
theorem Try.sortI : Go.Proofs.SlLaysF0.n6 Try.prog Try.sortI_ren := {
  mixed := by kernel_rfl
  f6 := ⟨Try.f88.name, by decide, Try.func88.trans (congrArg some (by kernel_rfl))⟩
  f14 := ⟨Try.f107.name, by decide, Try.func107.trans (congrArg some (by kernel_rfl))⟩
  f15 := Try.func108.trans (congrArg some (by kernel_rfl))
  f20 := ⟨Try.f116.name, by decide, Try.func116.trans (congrArg some (by kernel_rfl))⟩
  f21 := ⟨Try.f117.name, by decide, Try.func117.trans (congrArg some (by kernel_rfl))⟩
  f22 := ⟨Try.f118.name, by decide, Try.func118.trans (congrArg some (by kernel_rfl))⟩
  f23 := ⟨Try.f119.name, by decide, Try.func119.trans (congrArg some (by kernel_rfl))⟩
  f24 := ⟨Try.f120.name, by decide, Try.func120.trans (congrArg some (by kernel_rfl))⟩
  f25 := ⟨Try.f121.name, by decide, Try.func121.trans (congrArg some (by kernel_rfl))⟩
  f26 := ⟨Try.f122.name, by decide, Try.func122.trans (congrArg some (by kernel_rfl))⟩
  f27 := ⟨Try.f123.name, by decide, Try.func123.trans (congrArg some (by kernel_rfl))⟩
  f28 := Try.func124.trans (congrArg some (by kernel_rfl))
  f29 := Try.func125.trans (congrArg some (by kernel_rfl))
  f46 := ⟨Try.f135.name, by decide, Try.func135.trans (congrArg some (by kernel_rfl))⟩
  f47 := Try.func136.trans (congrArg some (by kernel_rfl))
  f48 := Try.func137.trans (congrArg some (by kernel_rfl))
  f49 := ⟨Try.f138.name, by decide, Try.func138.trans (congrArg some (by kernel_rfl))⟩
  f50 := ⟨Try.f139.name, by decide, Try.func139.trans (congrArg some (by kernel_rfl))⟩
  f57 := ⟨Try.f143.name, by decide, Try.func143.trans (congrArg some (by kernel_rfl))⟩
  t0 := Try.underlying0
  a0 := Try.isAgg0
  z0 := Try.sizeOf0
  v0 := Try.zeroValue0
  t3 := Try.underlying3
  a3 := Try.isAgg3
  z3 := Try.sizeOf3
  v3 := Try.zeroValue3
  t4 := Try.underlying4
  a4 := Try.isAgg4
  z4 := Try.sizeOf4
  v4 := Try.zeroValue4
  t5 := Try.underlying5
  a5 := Try.isAgg5
  z5 := Try.sizeOf5
  v5 := Try.zeroValue5
  t9 := Try.underlying9
  a9 := Try.isAgg9
  z9 := Try.sizeOf9
  v9 := Try.zeroValue9
  t22 := Try.underlying118
  a22 := Try.isAgg118
  z22 := Try.sizeOf118
  v22 := Try.zeroValue118
  t25 := Try.underlying162
  a25 := Try.isAgg162
  z25 := Try.sizeOf162
  v25 := Try.zeroValue162
  t39 := Try.underlying178
  a39 := Try.isAgg178
  z39 := Try.sizeOf178
  v39 := Try.zeroValue178
  t45 := Try.underlying183
  a45 := Try.isAgg183
  z45 := Try.sizeOf183
  v45 := Try.zeroValue183
  t46 := Try.underlying184
  a46 := Try.isAgg184
  z46 := Try.sizeOf184
  v46 := Try.zeroValue184
  t50 := Try.underlying188
  a50 := Try.isAgg188
  z50 := Try.sizeOf188
  v50 := Try.zeroValue188
  t53 := Try.underlying191
  a53 := Try.isAgg191
  z53 := Try.sizeOf191
  v53 := Try.zeroValue191
  t55 := Try.underlying78
  a55 := Try.isAgg78
  z55 := Try.sizeOf78
  v55 := Try.zeroValue78
  t66 := Try.underlying199
  a66 := Try.isAgg199
  z66 := Try.sizeOf199
  v66 := Try.zeroValue199
  t70 := Try.underlying203
  a70 := Try.isAgg203
  z70 := Try.sizeOf203
  v70 := Try.zeroValue203
  t76 := Try.underlying207
  a76 := Try.isAgg207
  z76 := Try.sizeOf207
  v76 := Try.zeroValue207
  t77 := Try.underlying208
  a77 := Try.isAgg208
  z77 := Try.sizeOf208
  v77 := Try.zeroValue208 }
end Go.Proofs
namespace Go.Proofs.Ytbfddabjbkohdaa
set_option linter.unusedSimpArgs false
set_option linter.unusedVariables false
set_option linter.unnecessarySimpa false
open Go.RX Fx
namespace Kq
open Wo
set_option maxRecDepth 8000
def cmpZ (x y : Int) : Int := if x < y then -1 else if y < x then 1 else 0
set_option maxHeartbeats 2000000 in
theorem nan_ct (L : List SP) (x : Int) : Ct Try.prog 109 #[.int .i64 x] (L) (fun _ : Unit => .bool false) (fun _ : Unit => L) := by
  refine Ct.of (vs := [.int .i64 x]) Try.func109 rfl rfl [(0, .int .i64 x)] (by repeat (first | exact trivial | refine ⟨rfl, ?_⟩)) ?_
  intro E
  show Hd E 6 _ _ _ _
  refine Hd.seq (fun K1 hK1 => ?_)
  refine Hd.region ?_
  refine Hd.yv (y_assign rfl) ?_
  refine Hd.nil ?_
  refine Hd.slots [(0, _)] ⟨rfl, trivial⟩ ?_
  refine Hd.toK hK1 ?_
  refine Hd.seq (fun K2 hK2 => ?_)
  refine Hd.region ?_
  refine Hd.yv (y_move rfl) ?_
  refine Hd.yv (y_move rfl) ?_
  refine Hd.yv (y_to (y_neq rfl rfl) (congrArg Value.bool (decide_eq_false ((fun h => h rfl))))) ?_
  refine Hd.yv (y_assign rfl) ?_
  refine Hd.nil ?_
  refine Hd.slots [(2, _)] ⟨rfl, trivial⟩ ?_
  refine Hd.toK hK2 ?_
  refine Hd.ret ?_
  clear hK1 hK2
  exact Hd.ret1 rfl () (by first | rfl | (simp only [*]; done) | (simp [*]; done)) (Ent.sep enn)
set_option maxHeartbeats 2000000 in
theorem cmp_ct (L : List SP) (x y : Int) : Ct Try.prog 91 #[.int .i64 x, .int .i64 y] (L) (fun _ : Unit => .int .i64 (cmpZ x y)) (fun _ : Unit => L) := by
  refine Ct.of (vs := [.int .i64 x, .int .i64 y]) Try.func91 rfl rfl [(0, .int .i64 x), (1, .int .i64 y)] (by repeat (first | exact trivial | refine ⟨rfl, ?_⟩)) ?_
  intro E
  show Hd E 20 _ _ _ _
  refine Hd.seq (fun K1 hK1 => ?_)
  refine Hd.region ?_
  refine Hd.yv (y_assign rfl) ?_
  refine Hd.nil ?_
  refine Hd.slots [(0, _), (1, _)] ⟨rfl, rfl, trivial⟩ ?_
  refine Hd.toK hK1 ?_
  refine Hd.seq (fun K2 hK2 => ?_)
  refine Hd.region ?_
  refine Hd.yv (y_move rfl) ?_
  refine Hd.callE rfl fk109 (nan_ct _ _) (Ent.sep enn) ?_
  intro _
  refine Hd.yv (y_assign rfl) ?_
  refine Hd.nil ?_
  refine Hd.slots [(0, _), (1, _), (5, _)] ⟨rfl, rfl, rfl, trivial⟩ ?_
  refine Hd.toK hK2 ?_
  refine Hd.seq (fun K3 hK3 => ?_)
  refine Hd.region ?_
  refine Hd.yv (y_move rfl) ?_
  refine Hd.callE rfl fk109 (nan_ct _ _) (Ent.sep enn) ?_
  intro _
  refine Hd.yv (y_assign rfl) ?_
  refine Hd.nil ?_
  refine Hd.slots [(0, _), (1, _), (5, _), (6, _)] ⟨rfl, rfl, rfl, rfl, trivial⟩ ?_
  refine Hd.toK hK3 ?_
  refine Hd.seq (fun K4 hK4 => ?_)
  refine Hd.seq (fun K5 hK5 => ?_)
  refine Hd.region ?_
  refine Hd.yv (y_move rfl) ?_
  refine Hd.nil ?_
  refine Hd.slots [(0, _), (1, _), (6, _), (11, _)] ⟨rfl, rfl, rfl, rfl, trivial⟩ ?_
  refine Hd.toK hK5 ?_
  refine Hd.condF rfl ?_
  refine Hd.skip ?_
  refine Hd.toK hK4 ?_
  refine Hd.seq (fun K6 hK6 => ?_)
  refine Hd.seq (fun K7 hK7 => ?_)
  refine Hd.region ?_
  refine Hd.yv (y_move rfl) ?_
  refine Hd.nil ?_
  refine Hd.slots [(0, _), (1, _), (13, _)] ⟨rfl, rfl, rfl, trivial⟩ ?_
  refine Hd.toK hK7 ?_
  refine Hd.condF rfl ?_
  refine Hd.skip ?_
  refine Hd.toK hK6 ?_
  refine Hd.seq (fun K8 hK8 => ?_)
  refine Hd.seq (fun K9 hK9 => ?_)
  refine Hd.region ?_
  refine Hd.yv (y_move rfl) ?_
  refine Hd.yv (y_move rfl) ?_
  refine Hd.yv (y_lss rfl rfl) ?_
  refine Hd.nil ?_
  refine Hd.slots [(0, _), (1, _), (16, _)] ⟨rfl, rfl, rfl, trivial⟩ ?_
  refine Hd.toK hK9 ?_
  refine Hd.cond rfl (fun hc3 => ?_) (fun hc3 => ?_)
  ·
    try simp only [decide_eq_true_eq, decide_eq_false_iff_not, Bool.and_eq_true, Bool.or_eq_true, Bool.and_eq_false_iff, Bool.or_eq_false_iff, Bool.not_eq_true', Bool.not_eq_false', Bool.not_eq_true, Bool.not_eq_false, Int.not_lt, Int.not_le, Decidable.not_not, ne_eq] at hc3
    refine Hd.seq (fun K10 hK10 => ?_)
    refine Hd.region ?_
    refine Hd.yv (y_assign rfl) ?_
    refine Hd.nil ?_
    refine Hd.slots [(4, _)] ⟨rfl, trivial⟩ ?_
    refine Hd.toK hK10 ?_
    refine Hd.ret ?_
    refine Hd.thenRet ?_
    clear hK1 hK2 hK3 hK4 hK5 hK6 hK7 hK8 hK9 hK10
    exact Hd.ret1 rfl () (by unfold cmpZ; rw [if_pos hc3]; rfl) (Ent.sep enn)
  ·
    try simp only [decide_eq_true_eq, decide_eq_false_iff_not, Bool.and_eq_true, Bool.or_eq_true, Bool.and_eq_false_iff, Bool.or_eq_false_iff, Bool.not_eq_true', Bool.not_eq_false', Bool.not_eq_true, Bool.not_eq_false, Int.not_lt, Int.not_le, Decidable.not_not, ne_eq] at hc3
    refine Hd.skip ?_
    refine Hd.toK hK8 ?_
    refine Hd.seq (fun K11 hK11 => ?_)
    refine Hd.seq (fun K12 hK12 => ?_)
    refine Hd.region ?_
    refine Hd.yv (y_move rfl) ?_
    refine Hd.yv (y_move rfl) ?_
    refine Hd.yv (y_gtr rfl rfl) ?_
    refine Hd.nil ?_
    refine Hd.slots [(19, _)] ⟨rfl, trivial⟩ ?_
    refine Hd.toK hK12 ?_
    refine Hd.cond rfl (fun hc4 => ?_) (fun hc4 => ?_)
    ·
      try simp only [decide_eq_true_eq, decide_eq_false_iff_not, Bool.and_eq_true, Bool.or_eq_true, Bool.and_eq_false_iff, Bool.or_eq_false_iff, Bool.not_eq_true', Bool.not_eq_false', Bool.not_eq_true, Bool.not_eq_false, Int.not_lt, Int.not_le, Decidable.not_not, ne_eq] at hc4
      refine Hd.seq (fun K13 hK13 => ?_)
      refine Hd.region ?_
      refine Hd.yv (y_assign rfl) ?_
      refine Hd.nil ?_
      refine Hd.slots [(4, _)] ⟨rfl, trivial⟩ ?_
      refine Hd.toK hK13 ?_
      refine Hd.ret ?_
      refine Hd.thenRet ?_
      clear hK1 hK2 hK3 hK4 hK5 hK6 hK7 hK8 hK9 hK11 hK12 hK13
      exact Hd.ret1 rfl () (by unfold cmpZ; rw [if_neg (by omega), if_pos (by omega)]; rfl) (Ent.sep enn)
    ·
      try simp only [decide_eq_true_eq, decide_eq_false_iff_not, Bool.and_eq_true, Bool.or_eq_true, Bool.and_eq_false_iff, Bool.or_eq_false_iff, Bool.not_eq_true', Bool.not_eq_false', Bool.not_eq_true, Bool.not_eq_false, Int.not_lt, Int.not_le, Decidable.not_not, ne_eq] at hc4
      refine Hd.skip ?_
      refine Hd.toK hK11 ?_
      refine Hd.seq (fun K14 hK14 => ?_)
      refine Hd.region ?_
      refine Hd.yv (y_assign rfl) ?_
      refine Hd.nil ?_
      refine Hd.slots [(4, _)] ⟨rfl, trivial⟩ ?_
      refine Hd.toK hK14 ?_
      refine Hd.ret ?_
      clear hK1 hK2 hK3 hK4 hK5 hK6 hK7 hK8 hK9 hK11 hK12 hK14
      exact Hd.ret1 rfl () (by unfold cmpZ; rw [if_neg (by omega), if_neg (by omega)]; rfl) (Ent.sep enn)
set_option maxHeartbeats 2000000 in
theorem or2_ct (L : List SP) (b : Nat) (x y : Int) : Ct Try.prog 90 #[.slice (some ⟨b, 0, none⟩) 2 2] (pt b [.int .i64 x, .int .i64 y] 3 :: L) (fun _ : Unit => .int .i64 (if x ≠ 0 then x else y)) (fun _ : Unit => pt b [.int .i64 x, .int .i64 y] 3 :: L) := by
  refine Ct.of (vs := [.slice (some ⟨b, 0, none⟩) 2 2]) Try.func90 rfl rfl [(0, .slice (some ⟨b, 0, none⟩) 2 2)] (by repeat (first | exact trivial | refine ⟨rfl, ?_⟩)) ?_
  intro E
  show Hd E 18 _ _ _ _
  refine Hd.seq (fun K1 hK1 => ?_)
  refine Hd.region ?_
  refine Hd.yv (y_assign rfl) ?_
  refine Hd.nil ?_
  refine Hd.slots [(0, _)] ⟨rfl, trivial⟩ ?_
  refine Hd.toK hK1 ?_
  refine Hd.seq (fun K2 hK2 => ?_)
  refine Hd.region ?_
  refine Hd.yv (y_assign rfl) ?_
  refine Hd.nil ?_
  refine Hd.slots [(0, _), (3, _)] ⟨rfl, rfl, trivial⟩ ?_
  refine Hd.toK hK2 ?_
  refine Hd.seq (fun K3 hK3 => ?_)
  refine Hd.seq (fun K4 hK4 => ?_)
  refine Hd.region ?_
  refine Hd.yv (y_move rfl) ?_
  refine Hd.yv (y_len Try.underlying22 rfl) ?_
  refine Hd.yv (y_move rfl) ?_
  refine Hd.nil ?_
  refine Hd.slots [(3, _), (6, _), (7, _), (8, _)] ⟨rfl, rfl, rfl, rfl, trivial⟩ ?_
  refine Hd.toK hK4 ?_
  refine Hd.block ?_
  refine Hd.rounds 3 ?_
  refine Hd.roundS ?_
  refine Hd.seq (fun K5 hK5 => ?_)
  refine Hd.region ?_
  refine Hd.yv (y_lss rfl rfl) ?_
  refine Hd.nil ?_
  refine Hd.slots [(3, _), (6, _), (7, _), (8, _), (9, _)] ⟨rfl, rfl, rfl, rfl, rfl, trivial⟩ ?_
  refine Hd.toK hK5 ?_
  refine Hd.seq (fun K6 hK6 => ?_)
  refine Hd.condT rfl ?_
  refine Hd.skip ?_
  refine Hd.toK hK6 ?_
  refine Hd.seq (fun K7 hK7 => ?_)
  refine Hd.block ?_
  refine Hd.seq (fun K8 hK8 => ?_)
  refine Hd.region ?_
  first | (refine Hd.yv (y_idxS Try.underlying22 sz3 rfl rfl (by first | omega | decide)) ?_) | (refine Hd.yv (y_idxR Try.underlying22 sz3 rfl rfl (by first | omega | decide) (by (first | exact RdS.own pkk))) ?_)
  first | (refine Hd.yv (y_load1 ag3 rfl (Rd.pt1 pkk (by (first | rfl)))) ?_) | (refine Hd.yv (y_load1 ag3 rfl (Rd.seg1 pkk (by (first | rfl)))) ?_) | (refine Hd.yv (y_loadR1 ag3 rfl (by (first | exact RdS.own pkk)) (by (first | rfl))) ?_)
  refine Hd.yv (y_assign rfl) ?_
  refine Hd.nil ?_
  refine Hd.slots [(3, _), (5, _), (6, _), (7, _), (8, _)] ⟨rfl, rfl, rfl, rfl, rfl, trivial⟩ ?_
  refine Hd.toK hK8 ?_
  refine Hd.seq (fun K9 hK9 => ?_)
  refine Hd.region ?_
  refine Hd.yv (y_move rfl) ?_
  refine Hd.yv (y_move rfl) ?_
  refine Hd.yv (y_neq rfl rfl) ?_
  refine Hd.nil ?_
  refine Hd.slots [(3, _), (5, _), (6, _), (7, _), (8, _), (14, _)] ⟨rfl, rfl, rfl, rfl, rfl, rfl, trivial⟩ ?_
  refine Hd.toK hK9 ?_
  refine Hd.cond rfl (fun hc1 => ?_) (fun hc1 => ?_)
  ·
    try simp only [decide_eq_true_eq, decide_eq_false_iff_not, Bool.and_eq_true, Bool.or_eq_true, Bool.and_eq_false_iff, Bool.or_eq_false_iff, Bool.not_eq_true', Bool.not_eq_false', Bool.not_eq_true, Bool.not_eq_false, Int.not_lt, Int.not_le, Decidable.not_not, ne_eq] at hc1
    refine Hd.seq (fun K10 hK10 => ?_)
    refine Hd.region ?_
    refine Hd.yv (y_move rfl) ?_
    refine Hd.yv (y_assign rfl) ?_
    refine Hd.nil ?_
    refine Hd.slots [(2, _)] ⟨rfl, trivial⟩ ?_
    refine Hd.toK hK10 ?_
    refine Hd.ret ?_
    refine Hd.inBret ?_
    refine Hd.thenRet ?_
    refine Hd.thenRet ?_
    refine Hd.inBret ?_
    refine Hd.thenRet ?_
    clear hK1 hK2 hK3 hK4 hK5 hK6 hK7 hK8 hK9 hK10
    exact Hd.ret1 rfl () (show some (Value.int .i64 x) = some (Value.int .i64 (if x ≠ 0 then x else y)) from by simp_all) (Ent.sep enn)
  ·
    try simp only [decide_eq_true_eq, decide_eq_false_iff_not, Bool.and_eq_true, Bool.or_eq_true, Bool.and_eq_false_iff, Bool.or_eq_false_iff, Bool.not_eq_true', Bool.not_eq_false', Bool.not_eq_true, Bool.not_eq_false, Int.not_lt, Int.not_le, Decidable.not_not, ne_eq] at hc1
    refine Hd.skip ?_
    refine Hd.inB ?_
    refine Hd.toK hK7 ?_
    refine Hd.region ?_
    first | (refine Hd.yv (y_addn rfl rfl (by simp only [InK]; omega)) ?_) | (refine Hd.yv (y_add rfl rfl) ?_)
    refine Hd.yv (y_move rfl) ?_
    refine Hd.nil ?_
    refine Hd.slots [(3, _), (6, _), (7, _), (8, _)] ⟨rfl, rfl, rfl, rfl, trivial⟩ ?_
    refine Hd.roundN ?_
    refine Hd.seq (fun K11 hK11 => ?_)
    refine Hd.region ?_
    refine Hd.yv (y_lss rfl rfl) ?_
    refine Hd.nil ?_
    refine Hd.slots [(3, _), (6, _), (7, _), (8, _), (9, _)] ⟨rfl, rfl, rfl, rfl, rfl, trivial⟩ ?_
    refine Hd.toK hK11 ?_
    refine Hd.seq (fun K12 hK12 => ?_)
    refine Hd.condT rfl ?_
    refine Hd.skip ?_
    refine Hd.toK hK12 ?_
    refine Hd.seq (fun K13 hK13 => ?_)
    refine Hd.block ?_
    refine Hd.seq (fun K14 hK14 => ?_)
    refine Hd.region ?_
    first | (refine Hd.yv (y_idxS Try.underlying22 sz3 rfl rfl (by first | omega | decide)) ?_) | (refine Hd.yv (y_idxR Try.underlying22 sz3 rfl rfl (by first | omega | decide) (by (first | exact RdS.own pkk))) ?_)
    first | (refine Hd.yv (y_load1 ag3 rfl (Rd.pt1 pkk (by (first | rfl)))) ?_) | (refine Hd.yv (y_load1 ag3 rfl (Rd.seg1 pkk (by (first | rfl)))) ?_) | (refine Hd.yv (y_loadR1 ag3 rfl (by (first | exact RdS.own pkk)) (by (first | rfl))) ?_)
    refine Hd.yv (y_assign rfl) ?_
    refine Hd.nil ?_
    refine Hd.slots [(3, _), (5, _), (6, _), (7, _), (8, _)] ⟨rfl, rfl, rfl, rfl, rfl, trivial⟩ ?_
    refine Hd.toK hK14 ?_
    refine Hd.seq (fun K15 hK15 => ?_)
    refine Hd.region ?_
    refine Hd.yv (y_move rfl) ?_
    refine Hd.yv (y_move rfl) ?_
    refine Hd.yv (y_neq rfl rfl) ?_
    refine Hd.nil ?_
    refine Hd.slots [(3, _), (5, _), (6, _), (7, _), (8, _), (14, _)] ⟨rfl, rfl, rfl, rfl, rfl, rfl, trivial⟩ ?_
    refine Hd.toK hK15 ?_
    refine Hd.cond rfl (fun hc1 => ?_) (fun hc1 => ?_)
    ·
      try simp only [decide_eq_true_eq, decide_eq_false_iff_not, Bool.and_eq_true, Bool.or_eq_true, Bool.and_eq_false_iff, Bool.or_eq_false_iff, Bool.not_eq_true', Bool.not_eq_false', Bool.not_eq_true, Bool.not_eq_false, Int.not_lt, Int.not_le, Decidable.not_not, ne_eq] at hc1
      refine Hd.seq (fun K16 hK16 => ?_)
      refine Hd.region ?_
      refine Hd.yv (y_move rfl) ?_
      refine Hd.yv (y_assign rfl) ?_
      refine Hd.nil ?_
      refine Hd.slots [(2, _)] ⟨rfl, trivial⟩ ?_
      refine Hd.toK hK16 ?_
      refine Hd.ret ?_
      refine Hd.inBret ?_
      refine Hd.thenRet ?_
      refine Hd.thenRet ?_
      refine Hd.inBret ?_
      refine Hd.thenRet ?_
      clear hK1 hK2 hK3 hK4 hK5 hK6 hK7 hK8 hK9 hK11 hK12 hK13 hK14 hK15 hK16
      exact Hd.ret1 rfl () (show some (Value.int .i64 y) = some (Value.int .i64 (if x ≠ 0 then x else y)) from by simp_all) (Ent.sep enn)
    ·
      try simp only [decide_eq_true_eq, decide_eq_false_iff_not, Bool.and_eq_true, Bool.or_eq_true, Bool.and_eq_false_iff, Bool.or_eq_false_iff, Bool.not_eq_true', Bool.not_eq_false', Bool.not_eq_true, Bool.not_eq_false, Int.not_lt, Int.not_le, Decidable.not_not, ne_eq] at hc1
      refine Hd.skip ?_
      refine Hd.inB ?_
      refine Hd.toK hK13 ?_
      refine Hd.region ?_
      first | (refine Hd.yv (y_addn rfl rfl (by simp only [InK]; omega)) ?_) | (refine Hd.yv (y_add rfl rfl) ?_)
      refine Hd.yv (y_move rfl) ?_
      refine Hd.nil ?_
      refine Hd.slots [(3, _), (6, _), (7, _), (8, _)] ⟨rfl, rfl, rfl, rfl, trivial⟩ ?_
      refine Hd.roundN ?_
      refine Hd.seq (fun K17 hK17 => ?_)
      refine Hd.region ?_
      refine Hd.yv (y_lss rfl rfl) ?_
      refine Hd.nil ?_
      refine Hd.slots [(3, _), (6, _), (7, _), (8, _), (9, _)] ⟨rfl, rfl, rfl, rfl, rfl, trivial⟩ ?_
      refine Hd.toK hK17 ?_
      refine Hd.seq (fun K18 hK18 => ?_)
      refine Hd.condF rfl ?_
      refine Hd.exit ?_
      refine Hd.thenExit ?_
      refine Hd.thenExit ?_
      refine Hd.inBexit ?_
      refine Hd.toK hK3 ?_
      refine Hd.seq (fun K19 hK19 => ?_)
      refine Hd.region ?_
      refine Hd.yv (y_move rfl) ?_
      refine Hd.yv (y_assign rfl) ?_
      refine Hd.nil ?_
      refine Hd.slots [(2, _)] ⟨rfl, trivial⟩ ?_
      refine Hd.toK hK19 ?_
      refine Hd.ret ?_
      clear hK1 hK2 hK3 hK4 hK5 hK6 hK7 hK8 hK9 hK11 hK12 hK13 hK14 hK15 hK17 hK18 hK19
      exact Hd.ret1 rfl () (show some (Value.int .i64 0) = some (Value.int .i64 (if x ≠ 0 then x else y)) from by simp_all) (Ent.sep enn)
abbrev Ky := Int × Int
abbrev encKy (a : Ky) : List Value := [.int .i64 a.1, .int .i64 a.2]
theorem encKy_one (a : Ky) : ∀ u ∈ encKy a, u.oneCell' = true := by simp [Value.oneCell']
def cmpK (a b : Ky) : Int := if cmpZ a.1 b.1 ≠ 0 then cmpZ a.1 b.1 else cmpZ a.2 b.2
def ltK (a b : Ky) : Prop := a.1 < b.1 ∨ (a.1 = b.1 ∧ a.2 < b.2)
instance (a b : Ky) : Decidable (ltK a b) := by unfold ltK; exact inferInstance
theorem cmpK_neg (a b : Ky) : cmpK a b < 0 ↔ ltK a b := by
  unfold cmpK cmpZ ltK; repeat' split
  all_goals omega
set_option maxHeartbeats 2000000 in
theorem compK_ct (L : List SP) (a b : Ky) : Ct Try.prog 89 #[.agg (encKy a).toArray, .agg (encKy b).toArray] (L) (fun _ : Unit => .int .i64 (cmpK a b)) (fun _ : Unit => L) := by
  refine Ct.of (vs := [.agg (encKy a).toArray, .agg (encKy b).toArray]) Try.func89 rfl rfl [(0, .agg (encKy a).toArray), (1, .agg (encKy b).toArray)] (by repeat (first | exact trivial | refine ⟨rfl, ?_⟩)) ?_
  intro E
  show Hd E 17 _ _ _ _
  refine Hd.seq (fun K1 hK1 => ?_)
  refine Hd.region ?_
  refine Hd.box rfl rfl (fun b2 => ?_)
  refine Hd.box rfl rfl (fun b3 => ?_)
  refine Hd.yv (y_assign rfl) ?_
  refine Hd.nil ?_
  refine Hd.slots [(2, _), (3, _)] ⟨rfl, rfl, trivial⟩ ?_
  refine Hd.toK hK1 ?_
  refine Hd.seq (fun K2 hK2 => ?_)
  refine Hd.drawsH ([pt b2 (encKy a) 121, pt b3 (encKy b) 121]) (fun _ => true) mixed ?_
  simp only [List.length, Nat.zero_add, Nat.reduceAdd]
  first | (refine Hd.takeH 0 rfl (by kernel_rfl) (by kernel_rfl) (by kernel_rfl) (by kernel_rfl) (y_field' (q := 0) (ft := 3) Try.underlying121 rfl sz3 rfl rfl) (fun _ _ => rfl) (Ent.sep enn) ?_) | (refine Hd.takeH 0 rfl (by kernel_rfl) (by kernel_rfl) (by kernel_rfl) (by kernel_rfl) (y_fieldR (q := 0) (ft := 3) Try.underlying121 rfl sz3 rfl rfl) (fun _ _ => rfl) (Ent.sep enn) ?_)
  first | (refine Hd.takeH 1 rfl (by kernel_rfl) (by kernel_rfl) (by kernel_rfl) (by kernel_rfl) (y_load1 ag3 rfl (Rd.pt1 pkk (by (first | rfl)))) (fun _ _ => rfl) (Ent.sep enn) ?_) | (refine Hd.takeH 1 rfl (by kernel_rfl) (by kernel_rfl) (by kernel_rfl) (by kernel_rfl) (y_load1 ag3 rfl (Rd.seg1 pkk (by (first | rfl)))) (fun _ _ => rfl) (Ent.sep enn) ?_) | (refine Hd.takeH 1 rfl (by kernel_rfl) (by kernel_rfl) (by kernel_rfl) (by kernel_rfl) (y_loadR1 ag3 rfl (by (first | exact RdS.own pkk)) (by (first | rfl))) (fun _ _ => rfl) (Ent.sep enn) ?_)
  first | (refine Hd.takeH 2 rfl (by kernel_rfl) (by kernel_rfl) (by kernel_rfl) (by kernel_rfl) (y_field' (q := 0) (ft := 3) Try.underlying121 rfl sz3 rfl rfl) (fun _ _ => rfl) (Ent.sep enn) ?_) | (refine Hd.takeH 2 rfl (by kernel_rfl) (by kernel_rfl) (by kernel_rfl) (by kernel_rfl) (y_fieldR (q := 0) (ft := 3) Try.underlying121 rfl sz3 rfl rfl) (fun _ _ => rfl) (Ent.sep enn) ?_)
  first | (refine Hd.takeH 3 rfl (by kernel_rfl) (by kernel_rfl) (by kernel_rfl) (by kernel_rfl) (y_load1 ag3 rfl (Rd.pt1 pkk (by (first | rfl)))) (fun _ _ => rfl) (Ent.sep enn) ?_) | (refine Hd.takeH 3 rfl (by kernel_rfl) (by kernel_rfl) (by kernel_rfl) (by kernel_rfl) (y_load1 ag3 rfl (Rd.seg1 pkk (by (first | rfl)))) (fun _ _ => rfl) (Ent.sep enn) ?_) | (refine Hd.takeH 3 rfl (by kernel_rfl) (by kernel_rfl) (by kernel_rfl) (by kernel_rfl) (y_loadR1 ag3 rfl (by (first | exact RdS.own pkk)) (by (first | rfl))) (fun _ _ => rfl) (Ent.sep enn) ?_)
  first | (refine Hd.takeH 5 rfl (by kernel_rfl) (by kernel_rfl) (by kernel_rfl) (by kernel_rfl) (y_field' (q := 1) (ft := 3) Try.underlying121 rfl sz3 rfl rfl) (fun _ _ => rfl) (Ent.sep enn) ?_) | (refine Hd.takeH 5 rfl (by kernel_rfl) (by kernel_rfl) (by kernel_rfl) (by kernel_rfl) (y_fieldR (q := 1) (ft := 3) Try.underlying121 rfl sz3 rfl rfl) (fun _ _ => rfl) (Ent.sep enn) ?_)
  first | (refine Hd.takeH 6 rfl (by kernel_rfl) (by kernel_rfl) (by kernel_rfl) (by kernel_rfl) (y_load1 ag3 rfl (Rd.pt1 pkk (by (first | rfl)))) (fun _ _ => rfl) (Ent.sep enn) ?_) | (refine Hd.takeH 6 rfl (by kernel_rfl) (by kernel_rfl) (by kernel_rfl) (by kernel_rfl) (y_load1 ag3 rfl (Rd.seg1 pkk (by (first | rfl)))) (fun _ _ => rfl) (Ent.sep enn) ?_) | (refine Hd.takeH 6 rfl (by kernel_rfl) (by kernel_rfl) (by kernel_rfl) (by kernel_rfl) (y_loadR1 ag3 rfl (by (first | exact RdS.own pkk)) (by (first | rfl))) (fun _ _ => rfl) (Ent.sep enn) ?_)
  first | (refine Hd.takeH 7 rfl (by kernel_rfl) (by kernel_rfl) (by kernel_rfl) (by kernel_rfl) (y_field' (q := 1) (ft := 3) Try.underlying121 rfl sz3 rfl rfl) (fun _ _ => rfl) (Ent.sep enn) ?_) | (refine Hd.takeH 7 rfl (by kernel_rfl) (by kernel_rfl) (by kernel_rfl) (by kernel_rfl) (y_fieldR (q := 1) (ft := 3) Try.underlying121 rfl sz3 rfl rfl) (fun _ _ => rfl) (Ent.sep enn) ?_)
  first | (refine Hd.takeH 8 rfl (by kernel_rfl) (by kernel_rfl) (by kernel_rfl) (by kernel_rfl) (y_load1 ag3 rfl (Rd.pt1 pkk (by (first | rfl)))) (fun _ _ => rfl) (Ent.sep enn) ?_) | (refine Hd.takeH 8 rfl (by kernel_rfl) (by kernel_rfl) (by kernel_rfl) (by kernel_rfl) (y_load1 ag3 rfl (Rd.seg1 pkk (by (first | rfl)))) (fun _ _ => rfl) (Ent.sep enn) ?_) | (refine Hd.takeH 8 rfl (by kernel_rfl) (by kernel_rfl) (by kernel_rfl) (by kernel_rfl) (y_loadR1 ag3 rfl (by (first | exact RdS.own pkk)) (by (first | rfl))) (fun _ _ => rfl) (Ent.sep enn) ?_)
  refine Hd.onlyH 4 rfl (by kernel_rfl) ?_
  refine Hd.callE rfl fk91 (cmp_ct _ a.1 b.1) (Ent.sep enn) ?_
  intro _
  refine Hd.nil ?_
  refine Hd.thenN ?_
  refine Hd.heldK (J := (fun _ => true)) (i := 4) (Ent.sep enn) ?_
  refine Hd.onlyH 9 rfl (by kernel_rfl) ?_
  refine Hd.callE rfl fk91 (cmp_ct _ a.2 b.2) (Ent.sep enn) ?_
  intro _
  refine Hd.nil ?_
  refine Hd.thenN ?_
  refine Hd.heldK (J := (fun _ => true)) (i := 9) (Ent.sep enn) ?_
  refine Hd.onlyH 10 rfl (by kernel_rfl) ?_
  refine Hd.bslice (vs := [(0, _), (1, _)]) rfl (by first | exact bs89_15 .. | kernel_rfl) (fun b15 => ?_)
  refine Hd.nil ?_
  refine Hd.thenN ?_
  refine Hd.heldK (J := (fun _ => true)) (i := 10) (Ent.sep enn) ?_
  refine Hd.onlyH 11 rfl (by kernel_rfl) ?_
  refine Hd.callE rfl fk90 (or2_ct _ b15 (cmpZ a.1 b.1) (cmpZ a.2 b.2)) (Ent.sep enn) ?_
  intro _
  refine Hd.nil ?_
  refine Hd.thenN ?_
  refine Hd.heldK (J := (fun _ => true)) (i := 11) (Ent.sep enn) ?_
  refine Hd.takeH 12 rfl (by kernel_rfl) (by kernel_rfl) (by kernel_rfl) (by kernel_rfl) (y_assign rfl) (fun _ _ => rfl) (Ent.sep enn) ?_
  refine Hd.endH (by kernel_rfl) ?_
  refine Hd.slots [(4, _)] ⟨rfl, trivial⟩ ?_
  refine Hd.toK hK2 ?_
  refine Hd.ret ?_
  clear hK1 hK2
  exact Hd.ret1 rfl () (by first | rfl | (simp only [*]; done) | (simp [*]; done)) (Ent.sep enn)
theorem ltOf_K (x y : Ky) : ltOf cmpK x y = decide (ltK x y) := by
  unfold ltOf
  by_cases h : ltK x y
  · simp [h, (cmpK_neg x y).2 h]
  · have hn : ¬ cmpK x y < 0 := fun q => h ((cmpK_neg x y).1 q)
    rw [decide_eq_false hn, decide_eq_false h]
theorem swo_K : Go.Sort.SWO (ltOf cmpK) where
  irrefl x := by rw [ltOf_K]; simp [ltK]
  trans x y z h1 h2 := by rw [ltOf_K] at *; simp only [decide_eq_true_eq] at *; unfold ltK at *; omega
  ntrans x y z h1 h2 := by rw [ltOf_K] at *; simp only [decide_eq_false_iff_not] at *; unfold ltK at *; omega
def srtK (xs : List Ky) : List Ky := xs.mergeSort fun x y => !(ltOf cmpK) y x
theorem srtK_nil : srtK [] = [] := by simp [srtK]
theorem srtK_perm (xs : List Ky) : (srtK xs).Perm xs := List.mergeSort_perm _ _
theorem srtK_lt {xs : List Ky} (hn : xs.Nodup) : (srtK xs).Pairwise ltK := by
  have hle : ∀ x y : Ky, (!(ltOf cmpK) y x) = true ↔ ¬ ltK y x := fun x y => by rw [ltOf_K]; simp
  have h1 := List.pairwise_mergeSort (le := fun x y => !(ltOf cmpK) y x) (fun a b c h1 h2 => (hle _ _).2 (by have a1 := (hle _ _).1 h1; have a2 := (hle _ _).1 h2; unfold ltK at *; omega)) (fun a b => by
    rw [Bool.or_eq_true, hle, hle]
    unfold ltK; omega) xs
  have h2 : (srtK xs).Pairwise fun a b => ¬ ltK b a := h1.imp fun h => (hle _ _).1 h
  have h3 : (srtK xs).Nodup := (srtK_perm xs).nodup_iff.2 hn
  refine (h2.and h3).imp fun {a b} h => ?_
  obtain ⟨h4, h5⟩ := h
  have h6 : ¬ (a.1 = b.1 ∧ a.2 = b.2) := fun h => h5 (Prod.ext h.1 h.2)
  unfold ltK at *
  omega
abbrev OwK (ad : Option Addr) (n cap : Nat) (xs : List Ky) : SP := own 121 2 ad n cap (xs.flatMap encKy)
theorem fkK : fnk Try.prog 89 = true := by kernel_rfl
theorem sortK_ct (L : List SP) (ad : Option Addr) (n cap : Nat) (xs : List Ky) (hn : xs.length = n) (hlen : n ≤ 1000000) :
    Ct Try.prog 88 #[.slice ad n cap, .func (.func 89) #[] #[]] (OwK ad n cap xs :: L) (fun _ : Unit => .tuple #[]) (fun _ => OwK ad n cap (srtK xs) :: L) := by
  intro E w hsat
  have hls : (srtK xs).length = n := by rw [(srtK_perm xs).length_eq, hn]
  obtain ⟨hos, htp, hou, h1, h2, dd, s1, s2, ⟨hul, hv⟩, hL⟩ := hsat
  rcases hv with ⟨h0, hc0⟩ | ⟨b, o, sp, rfl, hmc, hcm, hsp, hpt⟩
  · subst h0
    obtain rfl := List.eq_nil_of_length_eq_zero hn
    refine (AnyF.slices_SortFunc_none Try.sortI ad cap _ w).mono ?_
    rintro e w' ⟨rfl, rfl⟩
    rw [srtK_nil]
    exact ⟨(), rfl, hos, htp, hou, h1, h2, dd, s1, s2, ⟨hul, .inl ⟨rfl, hc0⟩⟩, hL⟩
  · by_cases hn0 : n = 0
    · subst hn0
      obtain rfl := List.eq_nil_of_length_eq_zero hn
      refine (AnyF.slices_SortFunc_none Try.sortI (some ⟨b, o, none⟩) cap _ w).mono ?_
      rintro e w' ⟨rfl, rfl⟩
      rw [srtK_nil]
      exact ⟨(), rfl, hos, htp, hou, h1, h2, dd, s1, s2, ⟨hul, .inr ⟨b, o, sp, rfl, hmc, hcm, hsp, hpt⟩⟩, hL⟩
    have s0 : Sat E (seg b o (xs.flatMap encKy ++ sp) :: L) w := ⟨hos, htp, hou, h1, h2, dd, s1, s2, hpt, hL⟩
    have s3 : Sat E (seg b o (xs.flatMap encKy) :: seg b (o + (xs.flatMap encKy).length) sp :: L) w := s0.mp fun k h => seg_split h
    have h0x : 0 < xs.length := by omega
    have hH := Sat.holdsK (enc := encKy) (k := 2) (fun _ => rfl) (by omega) h0x s3
    have eg : ∀ args w, (callFunc 89 args).run Try.prog w = .ok (.enter 89 args) w := fun args w => run_call fkK args w
    have hc := AnyQ.slices_SortFunc_total Try.sortI 2 Try.isAgg121 Try.sizeOf121 encKy (fun _ => rfl) encKy_one cmpK swo_K 89 #[] b o cap xs.toArray w eg
      (cmpLays_of fun L x y => compK_ct L x y) hH.1 hH.2 (by simp; omega) (fun x y h1 h2 => by
        rw [ltOf_K] at h1 h2; simp only [decide_eq_false_iff_not] at h1 h2
        unfold ltK at h1 h2
        exact Prod.ext (by omega) (by omega))
    have hsz : xs.toArray.size = n := by simpa using hn
    rw [hsz] at hc
    refine Calls.mono (show Calls Try.prog 88 _ _ _ from hc) ?_
    rintro e w' ⟨rfl, m, os, rfl⟩
    refine ⟨(), rfl, ?_⟩
    have s4 := s3.sortW (ys := srtK xs) (enc := encKy) (k := 2) (fun _ => rfl) (by omega) (by omega) h0x m os
    have hfl : (xs.flatMap encKy).length = ((srtK xs).flatMap encKy).length := by rw [rows_len (k := 2) (fun _ => rfl), rows_len (k := 2) (fun _ => rfl)]; omega
    rw [hfl] at s4
    have s5 := s4.mp fun k h => seg_join h
    exact s5.mp fun k h => sep_head h fun k2 x => ⟨by rw [rows_len (k := 2) (fun _ => rfl), hls], .inr ⟨b, o, sp, rfl, hmc, hcm, hsp, x⟩⟩
end Kq
end Go.Proofs.Ytbfddabjbkohdaa
namespace Go.Proofs.Ytbfddabjbkohdaa
set_option linter.unusedSimpArgs false
set_option linter.unusedVariables false
set_option linter.unnecessarySimpa false
open Go.RX Fx
namespace Kq
open Wo
set_option maxRecDepth 8000
theorem nodup_le : ∀ {a b : List Nat}, a.Nodup → (∀ x ∈ a, x ∈ b) → a.length ≤ b.length
  | [], _, _, _ => Nat.zero_le _
  | x :: a, b, hn, hs => by
    rw [List.nodup_cons] at hn
    have hx := hs x List.mem_cons_self
    have h1 := nodup_le (b := b.erase x) hn.2 (fun y hy => (List.mem_erase_of_ne (fun e => hn.1 (by rw [← e]; exact hy))).2 (hs y (List.mem_cons_of_mem _ hy)))
    rw [List.length_erase_of_mem hx] at h1
    have := List.length_pos_of_mem hx
    simp only [List.length_cons]; omega
theorem es_len {f : Ky → Option Value} {m c : Nat} {l es : List KVP} (h : MpIP f m l c) (hE : EsIP l es) : es.length ≤ m := by
  have h1 := nodup_le (a := es.map (·.2.2)) (b := l.map (·.2.2)) (List.pairwise_map.2 (hE.nd.imp_of_mem fun {a b} ha hb hab e => hab (inj_of_map (fun e : KVP => e.2.2) h.nd a (hE.mem a ha) b (hE.mem b hb) e))) (fun x hx => by
    obtain ⟨e, he, rfl⟩ := List.mem_map.1 hx
    exact List.mem_map.2 ⟨e, hE.mem e he, rfl⟩)
  rw [List.length_map, List.length_map, h.len] at h1
  exact h1
structure AllK (f : Ky → Option KnA) (m : Nat) (w : WA) (ks : List Ky) : Prop where
  srt : ks.Pairwise ltK
  mem : ∀ a, a ∈ ks ↔ isK f w a = true
  len : ks.length ≤ m
theorem isK_some {f : Ky → Option KnA} {w : WA} {a : Ky} (h : isK f w a = true) : (f a).isSome = true := by
  unfold isK at h
  cases hf : f a with
  | none => rw [hf] at h; cases h
  | some x => rfl
theorem allK_of {f : Ky → Option KnA} {m c : Nat} {w : WA} {l es : List KVP} (h : MpIP (kmap f) m l c) (hE : EsIP l es) (hall : ∀ e ∈ l, e.2.2 ∈ es.map (·.2.2)) : AllK f m w (srtK ((es.map (·.1)).filter (isK f w))) where
  srt := srtK_lt ((es_keysP h hE hall).nd.sublist List.filter_sublist)
  mem a := by
    rw [(srtK_perm _).mem_iff, List.mem_filter]
    refine ⟨fun h => h.2, fun hk => ⟨?_, hk⟩⟩
    rw [(es_keysP h hE hall).mem a, kmap_some]
    exact isK_some hk
  len := by
    rw [(srtK_perm _).length_eq]
    have := List.length_filter_le (isK f w) (es.map (·.1))
    rw [List.length_map] at this
    have := es_len h hE
    omega
theorem flt_app (f : Ky → Option KnA) (w : WA) (es : List KVP) (e : KVP) : ((es ++ [e]).map (·.1)).filter (isK f w) = (es.map (·.1)).filter (isK f w) ++ (if isK f w e.1 = true then [e.1] else []) := by
  rw [List.map_append, List.filter_append]
  congr 1
  simp only [List.map_cons, List.map_nil, List.filter_cons, List.filter_nil]
set_option maxHeartbeats 2000000 in
theorem kkeys_ct (L : List SP) (qb wb mb : Nat) (f : Int × Int → Option KnA) (m : Nat) (hm : m ≤ 1000000) (w : WA) : Ct Try.prog 59 #[.pointer (some ⟨qb, 0, none⟩)] (KqB qb wb mb f m w L) (fun q_ : Option Addr × Nat × List Ky => .slice q_.1 q_.2.2.length q_.2.1) (fun q_ : Option Addr × Nat × List Ky => pu (AllK f m w q_.2.2) :: OwK q_.1 q_.2.2.length q_.2.1 q_.2.2 :: KqB qb wb mb f m w L) := by
  refine Ct.of (vs := [.pointer (some ⟨qb, 0, none⟩)]) Try.func59 rfl rfl [(0, .pointer (some ⟨qb, 0, none⟩))] (by repeat (first | exact trivial | refine ⟨rfl, ?_⟩)) ?_
  intro E
  show Hd E 30 _ _ _ _
  refine Hd.mpOutP (.there .here) (fun ml mc hM => ?_)
  refine Hd.seq (fun K1 hK1 => ?_)
  refine Hd.region ?_
  refine Hd.yv (y_assign rfl) ?_
  refine Hd.nil ?_
  refine Hd.slots [(0, _)] ⟨rfl, trivial⟩ ?_
  refine Hd.toK hK1 ?_
  refine Hd.seq (fun K2 hK2 => ?_)
  refine Hd.region ?_
  refine Hd.yv (y_assign rfl) ?_
  refine Hd.nil ?_
  refine Hd.slots [(0, _), (3, _)] ⟨rfl, rfl, trivial⟩ ?_
  refine Hd.toK hK2 ?_
  refine Hd.seq (fun K3 hK3 => ?_)
  refine Hd.seq (fun K4 hK4 => ?_)
  refine Hd.region ?_
  refine Hd.yv (y_move rfl) ?_
  refine Hd.yv (y_nilp rfl) ?_
  first | (refine Hd.yv (y_field' (q := 1) (ft := 67) Try.underlying69 rfl sz67 rfl rfl) ?_) | (refine Hd.yv (y_fieldR (q := 1) (ft := 67) Try.underlying69 rfl sz67 rfl rfl) ?_)
  first | (refine Hd.yv (y_load1 ag67 rfl (Rd.pt1 pkk (by (first | rfl)))) ?_) | (refine Hd.yv (y_load1 ag67 rfl (Rd.seg1 pkk (by (first | rfl)))) ?_) | (refine Hd.yv (y_loadR1 ag67 rfl (by (first | exact RdS.own pkk)) (by (first | rfl))) ?_)
  refine Hd.rangeMapP Try.underlying67 rfl pkk (fun rb => ?_)
  refine Hd.nil ?_
  refine Hd.slots [(0, _), (3, _), (11, _)] ⟨rfl, rfl, rfl, trivial⟩ ?_
  refine Hd.toK hK4 ?_
  refine Hd.block ?_
  refine Hd.loopK (ι := List KVP × Option Addr × Nat) [(0, _)] (fun q_ => [(3, .slice q_.2.1 ((q_.1.map (·.1)).filter (isK f w)).length q_.2.2), (11, .pointer (some ⟨rb, 0, none⟩))]) (fun q_ => pu (EsIP ml q_.1) :: OwK q_.2.1 ((q_.1.map (·.1)).filter (isK f w)).length q_.2.2 ((q_.1.map (·.1)).filter (isK f w)) :: io rb mb mc (q_.1.map (·.2.2)) :: moP mb .i64 ml mc :: KqH qb wb mb :: WorldP wb w :: L) (fun q_ => ml.length + 1 - q_.1.length) ([], none, 0) (by repeat (first | exact trivial | refine ⟨rfl, ?_⟩)) (by repeat (first | exact trivial | refine ⟨rfl, ?_⟩)) (fun q t => Ent.sep (.pure (EsIP.nil ml) (.ownNil .same)) q t) ?_
  rintro ⟨es, ad, c⟩
  try dsimp only
  refine Hd.pure (fun hp0 => ?_)
  try dsimp only at hp0
  refine Hd.seq (fun K5 hK5 => ?_)
  refine Hd.region ?_
  refine Hd.nextMapP (seen := es.map (·.2.2)) rfl pkk pkk hM.lt (fun o ho => ?_)
  refine Hd.yv (y_extOP (k := .i64) o rfl) ?_
  refine Hd.nil ?_
  refine Hd.slots [(0, _), (3, _), (11, _), (13, _)] ⟨rfl, rfl, rfl, rfl, trivial⟩ ?_
  refine Hd.toK hK5 ?_
  refine Hd.seq (fun K6 hK6 => ?_)
  refine Hd.cond rfl (fun hc0 => ?_) (fun hc0 => ?_)
  ·
    try simp only [decide_eq_true_eq, decide_eq_false_iff_not, Bool.and_eq_true, Bool.or_eq_true, Bool.and_eq_false_iff, Bool.or_eq_false_iff, Bool.not_eq_true', Bool.not_eq_false', Bool.not_eq_true, Bool.not_eq_false, Int.not_lt, Int.not_le, Decidable.not_not, ne_eq] at hc0
    obtain ⟨e, rfl⟩ : ∃ e, o = some e := Option.isSome_iff_exists.1 hc0
    have hE2 := hp0.step ho.1 ho.2
    have hlen := es_len hM hE2
    rw [List.length_append, List.length_singleton, ← hM.len] at hlen
    have hml := hM.len
    have hfa := flt_app f w es e
    have hfl : ((es.map (·.1)).filter (isK f w)).length ≤ es.length := by
      have := List.length_filter_le (isK f w) (es.map (·.1))
      rwa [List.length_map] at this
    obtain ⟨g, hg⟩ : ∃ g, g = (es.map (·.1)).filter (isK f w) := ⟨_, rfl⟩
    rw [← hg] at hfa hfl ⊢
    simp only [seenOP]
    refine Hd.skip ?_
    refine Hd.toK hK6 ?_
    refine Hd.block ?_
    refine Hd.seq (fun K7 hK7 => ?_)
    refine Hd.region ?_
    refine Hd.yv (y_entryP (k := .i64) (e := e) (seen := es.map (·.2.2)) rfl pkk pkk ho.1 hM.nd) ?_
    refine Hd.yv (y_extract rfl rfl) ?_
    refine Hd.alloc zr121 (fun b4 => ?_)
    refine Hd.storeA (us := encKy e.1) sz121 rfl rfl rfl (encKy_one _) pkk (by exact rfl) ?_
    refine Hd.nil ?_
    refine Hd.slots [(0, _), (3, _), (4, _), (11, _)] ⟨rfl, rfl, rfl, rfl, trivial⟩ ?_
    refine Hd.toK hK7 ?_
    refine Hd.seq (fun K8 hK8 => ?_)
    refine Hd.region ?_
    refine Hd.yv (y_move rfl) ?_
    first | (refine Hd.yv (y_loadn (us := [_, _]) ag121 rfl (Rd.pt pkk (by (first | (intro j v e; rcases j with _|_|_|_|_|_|_|_|_|_|_|_|j <;> first | exact e | exact absurd e (by simp))))) (by exact sz121)) ?_) | (refine Hd.yv (y_loadn (us := [_, _]) ag121 rfl (Rd.seg pkk (by (first | (intro j v e; rcases j with _|_|_|_|_|_|_|_|_|_|_|_|j <;> first | exact e | exact absurd e (by simp))))) (by exact sz121)) ?_) | (refine Hd.yv (y_loadRn ag121 rfl (by (first | exact RdS.own pkk)) (by (first | (intro j v e; rcases j with _|_|_|_|_|_|_|_|_|_|_|_|j <;> first | exact e | exact absurd e (by simp)))) (by exact sz121) (by simp)) ?_)
    refine Hd.callE rfl fk87 (kfindG_ct _ qb wb mb f m w e.1.1 e.1.2 (moP mb .i64 ml mc) (fun L0 q s => mp_inP hM q s)) (Ent.sep enn) ?_
    intro _
    refine Hd.yv (y_move rfl) ?_
    refine Hd.yv (y_extract rfl rfl) ?_
    refine Hd.yv (y_extract rfl rfl) ?_
    refine Hd.alloc zr123 (fun b5 => ?_)
    refine Hd.storeA (us := encKn ((f (e.1.1, e.1.2)).getD zKn)) sz123 rfl rfl rfl (by simp [Value.oneCell']) pkk (by exact rfl) ?_
    refine Hd.yv (y_assign rfl) ?_
    refine Hd.nil ?_
    refine Hd.slots [(0, _), (3, _), (4, _), (6, _), (11, _)] ⟨rfl, rfl, rfl, rfl, rfl, trivial⟩ ?_
    refine Hd.toK hK8 ?_
    refine Hd.seq (fun K9 hK9 => ?_)
    refine Hd.region ?_
    refine Hd.yv (y_move rfl) ?_
    refine Hd.nil ?_
    refine Hd.slots [(0, _), (3, _), (4, _), (11, _), (22, _)] ⟨rfl, rfl, rfl, rfl, rfl, trivial⟩ ?_
    refine Hd.toK hK9 ?_
    refine Hd.cond rfl (fun hc1 => ?_) (fun hc1 => ?_)
    ·
      try simp only [decide_eq_true_eq, decide_eq_false_iff_not, Bool.and_eq_true, Bool.or_eq_true, Bool.and_eq_false_iff, Bool.or_eq_false_iff, Bool.not_eq_true', Bool.not_eq_false', Bool.not_eq_true, Bool.not_eq_false, Int.not_lt, Int.not_le, Decidable.not_not, ne_eq] at hc1
      refine Hd.region ?_
      refine Hd.yv (y_move rfl) ?_
      first | (refine Hd.yv (y_loadn (us := [_, _]) ag121 rfl (Rd.pt pkk (by (first | (intro j v e; rcases j with _|_|_|_|_|_|_|_|_|_|_|_|j <;> first | exact e | exact absurd e (by simp))))) (by exact sz121)) ?_) | (refine Hd.yv (y_loadn (us := [_, _]) ag121 rfl (Rd.seg pkk (by (first | (intro j v e; rcases j with _|_|_|_|_|_|_|_|_|_|_|_|j <;> first | exact e | exact absurd e (by simp))))) (by exact sz121)) ?_) | (refine Hd.yv (y_loadRn ag121 rfl (by (first | exact RdS.own pkk)) (by (first | (intro j v e; rcases j with _|_|_|_|_|_|_|_|_|_|_|_|j <;> first | exact e | exact absurd e (by simp)))) (by exact sz121) (by simp)) ?_)
      refine Hd.bslice (vs := [(0, _)]) rfl (by first | exact bs59_25 .. | kernel_rfl) (fun b25 => ?_)
      refine Hd.append Try.underlying118 ty121 rfl rfl rfl pkk (by first | exact RdS.rd (Rd.pt pkk (fun j v e => by simpa using e)) rfl | (first | exact RdS.own pkk)) (by first | (simp [Value.oneCell']; done) | assumption) (by first | (simp only [maxLen]; omega) | assumption) (by omega) (fun ad26 cap26 => ?_)
      refine Hd.yv (y_assign rfl) ?_
      refine Hd.nil ?_
      refine Hd.slots [(0, _), (3, _), (11, _)] ⟨rfl, rfl, rfl, trivial⟩ ?_
      refine Hd.inB ?_
      clear hK1 hK2 hK3 hK4 hK5 hK6 hK7 hK8 hK9
      refine Hd.thenN ?_
      rw [if_pos hc1] at hfa
      refine Hd.again (es ++ [e], ad26, cap26) (by show ml.length + 1 - (es ++ [e]).length < ml.length + 1 - es.length; simp only [List.length_append, List.length_singleton]; omega) (by rw [hfa]; simp only [List.length_append, List.length_singleton]; repeat (first | exact trivial | refine ⟨rfl, ?_⟩)) (fun q t => ?_)
      rw [hfa]
      simp only [List.map_append, List.map_singleton]
      exact Ent.sep (.pure hE2 (.eq pkk (own_eq3 (by simp) rfl (by simp only [List.flatMap_append]; rfl)) enn)) q t
    ·
      try simp only [decide_eq_true_eq, decide_eq_false_iff_not, Bool.and_eq_true, Bool.or_eq_true, Bool.and_eq_false_iff, Bool.or_eq_false_iff, Bool.not_eq_true', Bool.not_eq_false', Bool.not_eq_true, Bool.not_eq_false, Int.not_lt, Int.not_le, Decidable.not_not, ne_eq] at hc1
      refine Hd.skip ?_
      refine Hd.inB ?_
      clear hK1 hK2 hK3 hK4 hK5 hK6 hK7 hK8 hK9
      refine Hd.thenN ?_
      rw [if_neg (show ¬ (isK f w e.1 = true) from fun hh => by rw [show isK f w (e.1.1, e.1.2) = true from hh] at hc1; cases hc1), List.append_nil] at hfa
      refine Hd.again (es ++ [e], ad, c) (by show ml.length + 1 - (es ++ [e]).length < ml.length + 1 - es.length; simp only [List.length_append, List.length_singleton]; omega) (by rw [hfa]; repeat (first | exact trivial | refine ⟨rfl, ?_⟩)) (fun q t => ?_)
      rw [hfa]
      simp only [List.map_append, List.map_singleton]
      exact Ent.sep (.pure hE2 enn) q t
  ·
    try simp only [decide_eq_true_eq, decide_eq_false_iff_not, Bool.and_eq_true, Bool.or_eq_true, Bool.and_eq_false_iff, Bool.or_eq_false_iff, Bool.not_eq_true', Bool.not_eq_false', Bool.not_eq_true, Bool.not_eq_false, Int.not_lt, Int.not_le, Decidable.not_not, ne_eq] at hc0
    obtain rfl : o = none := by cases o with | none => rfl | some e => simp at hc0
    simp only [seenOP]
    have hK := allK_of (w := w) hM hp0 ho
    have hlen := es_len hM hp0
    have hfl : ((es.map (·.1)).filter (isK f w)).length ≤ es.length := by
      have := List.length_filter_le (isK f w) (es.map (·.1))
      rwa [List.length_map] at this
    refine Hd.exit ?_
    refine Hd.thenExit ?_
    refine Hd.thenExit ?_
    refine Hd.inBexit ?_
    refine Hd.toK hK3 ?_
    refine Hd.seq (fun K10 hK10 => ?_)
    refine Hd.region ?_
    refine Hd.yv (y_move rfl) ?_
    refine Hd.callE rfl fk88 (sortK_ct _ ad _ c ((es.map (·.1)).filter (isK f w)) rfl (by omega)) (Ent.sep enn) ?_
    intro _
    refine Hd.nil ?_
    refine Hd.slots [(3, _)] ⟨rfl, trivial⟩ ?_
    refine Hd.toK hK10 ?_
    refine Hd.seq (fun K11 hK11 => ?_)
    refine Hd.region ?_
    refine Hd.yv (y_move rfl) ?_
    refine Hd.yv (y_assign rfl) ?_
    refine Hd.nil ?_
    refine Hd.slots [(2, _)] ⟨rfl, trivial⟩ ?_
    refine Hd.toK hK11 ?_
    refine Hd.ret ?_
    clear hK1 hK2 hK3 hK4 hK5 hK6 hK10 hK11
    refine Hd.ret1 rfl (ad, c, srtK ((es.map (·.1)).filter (isK f w))) (by dsimp only; rw [(srtK_perm _).length_eq]; rfl) (fun q s => ?_)
    have s2 : sep (moP mb .i64 ml mc :: OwK ad ((es.map (·.1)).filter (isK f w)).length c (srtK ((es.map (·.1)).filter (isK f w))) :: KqH qb wb mb :: WorldP wb w :: L) q := Ent.sep enn q s
    exact Ent.sep (.pure hK (.eq pkk (own_eq (by dsimp only; rw [(srtK_perm _).length_eq]) rfl) enn)) q (mp_inP hM q s2)
end Kq
end Go.Proofs.Ytbfddabjbkohdaa
namespace Go.Proofs.Ytbfddabjbkohdaa
set_option linter.unusedSimpArgs false
set_option linter.unusedVariables false
set_option linter.unnecessarySimpa false
open Go.RX Fx
namespace Wo
set_option maxRecDepth 8000
structure SbW (x x' : WireA) : Prop where
  e : ∀ k, k < 2 → ((x'.e k).what = 1 → (x.e k).what = 1) ∧ (x'.e k).fd = (x.e k).fd ∧ (x'.e k).rd = (x.e k).rd ∧ (x'.e k).wr = (x.e k).wr
  wh : ∀ k, k < 2 → 0 ≤ (x'.e k).what ∧ (x'.e k).what ≤ 3
  w0 : (x.e 0).what ≠ 0 → (x'.e 0).what ≠ 0
  ou : (x'.e 1).what = 2 → (x.e 1).what = 2
  wt : x'.wt.Sublist x.wt
  bl : x'.bl = x.bl
  cap : x'.cap = x.cap
  le : ∀ k, k < 2 → (x'.e k).b.length ≤ x.cap
  nb : ∀ k, k < 2 → (x.e k).rd = false → (x'.e k).b = []
theorem SmW.sb {x x' : WireA} (h : WfW x) (hs : SmW x x') : SbW x x' where
  e k hk := ⟨fun e => by rw [← (hs.e k hk).1]; exact e, (hs.e k hk).2⟩
  wh k hk := by rw [(hs.e k hk).1]; exact h.what k hk
  w0 e := by rw [(hs.e 0 (by omega)).1]; exact e
  ou e := by rw [← (hs.e 1 (by omega)).1]; exact e
  wt := by rw [hs.wt]; exact List.Sublist.refl _
  bl := hs.bl
  cap := hs.cap
  le := hs.le
  nb := hs.nb
theorem SbW.wf {x x' : WireA} (hs : SbW x x') (h : WfW x) : WfW x' where
  wr k hk := by rw [(hs.e k hk).2.2.2, (hs.e (1 - k) (by omega)).2.2.1]; exact h.wr k hk
  le k hk := by rw [hs.cap]; exact hs.le k hk
  nb k hk hr := hs.nb k hk (by rw [← (hs.e k hk).2.2.1]; exact hr)
  cap := by rw [hs.cap]; exact h.cap
  what := hs.wh
  bl := by
    rw [hs.bl]
    have := hs.wt.length_le
    have := h.bl
    omega
  ou e := by
    rw [(hs.e 0 (by omega)).2.2.1, (hs.e 1 (by omega)).2.2.1]
    exact h.ou (hs.ou e)
theorem flatMap_set_sub {α β : Type} {f : α → List β} : ∀ {l : List α} {n : Nat} {x x' : α}, l[n]? = some x → (f x').Sublist (f x) → ((l.set n x').flatMap f).Sublist (l.flatMap f)
  | [], _, _, _, h, _ => by simp at h
  | a :: l, 0, x, x', h, e => by
    obtain rfl : a = x := by simpa using h
    show (f x' ++ _).Sublist (f a ++ _)
    exact e.append (List.Sublist.refl _)
  | a :: l, n + 1, x, x', h, e => by
    show (f a ++ (l.set n x').flatMap f).Sublist (f a ++ l.flatMap f)
    exact (List.Sublist.refl _).append (flatMap_set_sub (by simpa using h) e)
theorem setW_get {w : WA} {n m : Nat} {x' y : WireA} (h : (w.setW n x').ws[m]? = some y) : (m = n ∧ y = x') ∨ (m ≠ n ∧ w.ws[m]? = some y) := set_at h
theorem setW_self {w : WA} {n : Nat} {x x' : WireA} (h : w.ws[n]? = some x) : (w.setW n x').ws[n]? = some x' := by
  show (w.ws.set n x')[n]? = _
  rw [List.getElem?_set_self (List.getElem?_eq_some_iff.1 h).1]
theorem setW_ne {w : WA} {n m : Nat} {x' : WireA} (h : m ≠ n) : (w.setW n x').ws[m]? = w.ws[m]? := by
  show (w.ws.set n x')[m]? = _
  rw [List.getElem?_set_ne (Ne.symm h)]
theorem setW_len {w : WA} {n : Nat} {x' : WireA} : (w.setW n x').ws.length = w.ws.length := by
  show (w.ws.set n x').length = _
  rw [List.length_set]
theorem WOk.setS {w : WA} (h : WOk w) {n : Nat} {x x' : WireA} (hx : w.ws[n]? = some x) (hs : SbW x x') (h0 : n ∈ (w.setW n x').ws.flatMap WireA.wt → (x'.e 0).what = 0) : WOk (w.setW n x') := by
  have hxm := List.mem_of_getElem? hx
  have hwf := h.wf x hxm
  have hfm : ((w.setW n x').ws.flatMap WireA.wt).Sublist (w.ws.flatMap WireA.wt) := flatMap_set_sub hx hs.wt
  have hat : ∀ {m : Nat} {y : WireA}, (w.setW n x').ws[m]? = some y → ∃ z, w.ws[m]? = some z ∧ ∀ k, k < 2 → ((y.e k).what = 1 → (z.e k).what = 1) ∧ (y.e k).fd = (z.e k).fd ∧ (y.e k).rd = (z.e k).rd := fun hm => by
    rcases setW_get hm with ⟨rfl, rfl⟩ | ⟨_, hm⟩
    · exact ⟨x, hx, fun k hk => ⟨(hs.e k hk).1, (hs.e k hk).2.1, (hs.e k hk).2.2.1⟩⟩
    · exact ⟨_, hm, fun _ _ => ⟨id, rfl, rfl⟩⟩
  refine ⟨?_, ?_, by rw [setW_len]; exact h.len, h.hdl, h.ctl, ?_, hfm.nodup h.wn, ?_, ?_, fun m y hm => by
    rcases setW_get hm with ⟨rfl, rfl⟩ | ⟨_, hm⟩
    · exact fun e => h.ns _ _ hx (hs.wt.subset e)
    · exact h.ns _ _ hm⟩
  · intro a b y z k j ha hb hk hj h1 h2 h3
    obtain ⟨y', ha', hy⟩ := hat ha
    obtain ⟨z', hb', hz⟩ := hat hb
    exact h.uq a b y' z' k j ha' hb' hk hj ((hy k hk).1 h1) ((hz j hj).1 h2) (by rw [← (hy k hk).2.1, ← (hz j hj).2.1]; exact h3)
  · intro y hy k hk h1
    obtain ⟨m, hm, e⟩ := List.getElem_of_mem hy
    obtain ⟨z, hz, he⟩ := hat (m := m) (y := y) (by rw [List.getElem?_eq_getElem hm, e])
    have := h.fd z (List.mem_of_getElem? hz) k hk ((he k hk).1 h1)
    rw [(he k hk).2.1]; exact this
  · intro y hy
    rcases List.mem_or_eq_of_mem_set hy with hy | rfl
    · exact h.wf y hy
    · exact hs.wf hwf
  · intro m hm
    by_cases e : m = n
    · subst e
      exact ⟨x', setW_self hx, h0 hm⟩
    · obtain ⟨z, hz, hz0⟩ := h.wm m (hfm.subset hm)
      exact ⟨z, by rw [setW_ne e]; exact hz, hz0⟩
  · intro m k hm
    obtain ⟨hk, z, hz, z0, z1⟩ := h.nt m k hm
    by_cases e : m = n
    · subst e
      rw [hx] at hz; obtain rfl := Option.some.inj hz
      exact ⟨hk, x', setW_self hx, by rw [(hs.e 0 (by omega)).2.2.1]; exact z0, by rw [(hs.e 1 (by omega)).2.2.1]; exact z1⟩
    · exact ⟨hk, z, by rw [setW_ne e]; exact hz, z0, z1⟩
theorem WOk.setS_at {w : WA} (h : WOk w) {n : Nat} {x x' : WireA} (hx : w.ws[n]? = some x) (hs : SbW x x') (h0 : n ∈ (w.setW n x').ws.flatMap WireA.wt → (x'.e 0).what = 0) (hk : ∀ k, k < 2 → (x.e k).what = 1 → (x'.e k).what = 1) : (w.setW n x').at = w.at := by
  funext fd
  refine atW_ext (h.setS hx hs h0).uq h.uq fun m k hk2 => ?_
  by_cases e : m = n
  · subst e
    rw [setW_self hx, hx]
    have := hs.e k hk2
    constructor
    · rintro ⟨y, hy, h1, h2⟩; obtain rfl := Option.some.inj hy; exact ⟨x, rfl, this.1 h1, this.2.1 ▸ h2⟩
    · rintro ⟨y, hy, h1, h2⟩; obtain rfl := Option.some.inj hy; exact ⟨x', rfl, hk k hk2 h1, by rw [this.2.1]; exact h2⟩
  · rw [setW_ne e]
theorem flatMap_set_app {α β : Type} {f : α → List β} {bs : List β} : ∀ {l : List α} {n : Nat} {x x' : α}, l[n]? = some x → f x' = f x ++ bs → ((l.set n x').flatMap f).Perm (bs ++ l.flatMap f)
  | [], _, _, _, h, _ => by simp at h
  | a :: l, 0, x, x', h, e => by
    obtain rfl : a = x := by simpa using h
    show (f x' ++ l.flatMap f).Perm (bs ++ (f a ++ l.flatMap f))
    rw [e, ← List.append_assoc]
    exact List.Perm.append_right _ List.perm_append_comm
  | a :: l, n + 1, x, x', h, e => by
    show (f a ++ (l.set n x').flatMap f).Perm (bs ++ (f a ++ l.flatMap f))
    have := flatMap_set_app (f := f) (l := l) (n := n) (by simpa using h) e
    refine (List.Perm.append_left (f a) this).trans ?_
    rw [← List.append_assoc, ← List.append_assoc]
    exact List.Perm.append_right _ List.perm_append_comm
end Wo
end Go.Proofs.Ytbfddabjbkohdaa
namespace Go.Proofs.Ytbfddabjbkohdaa
set_option linter.unusedSimpArgs false
set_option linter.unusedVariables false
set_option linter.unnecessarySimpa false
open Go.RX Fx
namespace Wo
set_option maxRecDepth 8000
structure Gr (w w' : WA) : Prop where
  all : ∀ (n : Nat) (x : WireA), w.ws[n]? = some x → ∃ x', w'.ws[n]? = some x' ∧ ((x.e 0).what ≠ 0 → (x'.e 0).what ≠ 0) ∧ ∀ k, k < 2 → (x.e k).inn ≤ (x'.e k).inn ∧ (x.e k).out ≤ (x'.e k).out ∧ ((x.e 0).what ≠ 0 → (x'.e k).what = 1 → (x.e k).what = 1 ∧ (x'.e k).fd = (x.e k).fd)
theorem Gr.refl (w : WA) : Gr w w := ⟨fun n x h => ⟨x, h, id, fun k _ => ⟨Int.le_refl _, Int.le_refl _, fun _ e => ⟨e, rfl⟩⟩⟩⟩
theorem Gr.trans {a b c : WA} (h : Gr a b) (g : Gr b c) : Gr a c := ⟨fun n x hx => by
  obtain ⟨y, hy, y0, ye⟩ := h.all n x hx
  obtain ⟨z, hz, z0, ze⟩ := g.all n y hy
  refine ⟨z, hz, fun e => z0 (y0 e), fun k hk => ?_⟩
  obtain ⟨a1, a2, a3⟩ := ye k hk
  obtain ⟨b1, b2, b3⟩ := ze k hk
  refine ⟨by omega, by omega, fun e e1 => ?_⟩
  obtain ⟨c1, c2⟩ := b3 (y0 e) e1
  obtain ⟨d1, d2⟩ := a3 e c1
  exact ⟨d1, by rw [c2, d2]⟩⟩
structure Lo (K : Nat) (w : WA) : Prop where
  ct : ∀ c ∈ w.ct, 0 ≤ c ∧ c ≤ (K : Int)
  rs : ∀ x ∈ w.ws, ∀ k, k < 2 → 0 ≤ (x.e k).inn ∧ (x.e k).inn ≤ (K : Int) ∧ 0 ≤ (x.e k).out ∧ (x.e k).out ≤ (K : Int)
  now : 0 ≤ w.now ∧ w.now ≤ 18446744073709551615
theorem Lo.mono {K K' : Nat} {w : WA} (h : Lo K w) (hk : K ≤ K') : Lo K' w := ⟨fun c hc => by have := h.ct c hc; omega, fun x hx k hk => by have := h.rs x hx k hk; omega, h.now⟩
def Stp (j : Nat) (w w' : WA) : Prop := ∀ K, K + j ≤ 1000000000 → Lo K w → Lo (K + j) w' ∧ Gr w w'
theorem Stp.refl (w : WA) : Stp 0 w w := fun _ _ h => ⟨h, Gr.refl w⟩
theorem Stp.mono {i j : Nat} {w w' : WA} (h : Stp i w w') (hij : i ≤ j) : Stp j w w' := fun K hK hl => by
  obtain ⟨h1, h2⟩ := h K (by omega) hl
  exact ⟨h1.mono (by omega), h2⟩
theorem Stp.same {j : Nat} (w : WA) : Stp j w w := (Stp.refl w).mono (Nat.zero_le _)
theorem Stp.trans {i j : Nat} {a b c : WA} (h : Stp i a b) (g : Stp j b c) : Stp (i + j) a c := fun K hK hl => by
  obtain ⟨h1, h2⟩ := h K (by omega) hl
  obtain ⟨g1, g2⟩ := g (K + i) (by omega) h1
  exact ⟨by rw [← Nat.add_assoc]; exact g1, h2.trans g2⟩
def RsE (e e' : EndA) : Prop := (e'.inn = e.inn ∨ e'.inn = IntKind.u64.wrap (e.inn + 1)) ∧ (e'.out = e.out ∨ e'.out = IntKind.u64.wrap (e.out + 1))
theorem RsE.refl (e : EndA) : RsE e e := ⟨.inl rfl, .inl rfl⟩
theorem rsE_rise (i o : Bool) (e : EndA) : RsE e (riseE i o e) := by
  unfold riseE RsE
  dsimp only
  constructor
  · by_cases h : (i && e.rd) = true
    · rw [if_pos h]; exact .inr rfl
    · rw [if_neg h]; exact .inl rfl
  · by_cases h : (o && e.wr) = true
    · rw [if_pos h]; exact .inr rfl
    · rw [if_neg h]; exact .inl rfl
theorem wrap_add {x : Int} {K : Nat} (h0 : 0 ≤ x) (h1 : x ≤ (K : Int)) (hK : K + 1 ≤ 1000000000) : IntKind.u64.wrap (x + 1) = x + 1 := by
  have : IntKind.u64.wrap (x + 1) = (x + 1) % 18446744073709551616 := rfl
  rw [this]; omega
theorem RsE.le {e e' : EndA} (h : RsE e e') {K : Nat} (hK : K + 1 ≤ 1000000000) (hl : 0 ≤ e.inn ∧ e.inn ≤ (K : Int) ∧ 0 ≤ e.out ∧ e.out ≤ (K : Int)) : e.inn ≤ e'.inn ∧ e.out ≤ e'.out ∧ 0 ≤ e'.inn ∧ e'.inn ≤ ((K + 1 : Nat) : Int) ∧ 0 ≤ e'.out ∧ e'.out ≤ ((K + 1 : Nat) : Int) := by
  obtain ⟨h1, h2⟩ := h
  rw [wrap_add hl.1 hl.2.1 hK] at h1
  rw [wrap_add hl.2.2.1 hl.2.2.2 hK] at h2
  omega
theorem stp_set {w : WA} {n : Nat} {x x' : WireA} (hx : w.ws[n]? = some x) (hr : ∀ k, k < 2 → RsE (x.e k) (x'.e k)) (h0 : (x.e 0).what ≠ 0 → (x'.e 0).what ≠ 0) (hn : (x.e 0).what ≠ 0 → ∀ k, k < 2 → (x'.e k).what = 1 → (x.e k).what = 1 ∧ (x'.e k).fd = (x.e k).fd) : Stp 1 w (w.setW n x') := fun K hK hl => by
  have hlx := hl.rs x (List.mem_of_getElem? hx)
  refine ⟨⟨(hl.mono (Nat.le_succ K)).ct, fun y hy k hk => ?_, hl.now⟩, ⟨fun m y hy => ?_⟩⟩
  · rcases List.mem_or_eq_of_mem_set hy with hy | rfl
    · exact (hl.mono (Nat.le_succ K)).rs y hy k hk
    · have := (hr k hk).le hK (hlx k hk)
      omega
  · by_cases e : m = n
    · subst e
      rw [hx] at hy; obtain rfl := Option.some.inj hy
      refine ⟨x', setW_self hx, h0, fun k hk => ?_⟩
      have := (hr k hk).le hK (hlx k hk)
      exact ⟨this.1, this.2.1, fun e0 e1 => hn e0 k hk e1⟩
    · exact ⟨y, by rw [setW_ne e]; exact hy, id, fun k _ => ⟨Int.le_refl _, Int.le_refl _, fun _ e => ⟨e, rfl⟩⟩⟩
theorem SbW.stp {w : WA} {n : Nat} {x x' : WireA} (hx : w.ws[n]? = some x) (hs : SbW x x') (hr : ∀ k, k < 2 → RsE (x.e k) (x'.e k)) : Stp 1 w (w.setW n x') :=
  stp_set hx hr hs.w0 fun _ k hk e => ⟨(hs.e k hk).1 e, (hs.e k hk).2.1⟩
theorem rs_up (x : WireA) (k : Nat) {f : EndA → EndA} (h : ∀ e, RsE e (f e)) : ∀ j, RsE (x.e j) ((x.up k f).e j) := fun j => by
  by_cases e : j = k
  · subst e; rw [up_at]; exact h _
  · rw [up_ne _ _ e]; exact RsE.refl _
theorem up_cnt (x : WireA) (k : Nat) {f : EndA → EndA} (h : ∀ e, (f e).inn = e.inn ∧ (f e).out = e.out) : ∀ j, ((x.up k f).e j).inn = (x.e j).inn ∧ ((x.up k f).e j).out = (x.e j).out := fun j => by
  by_cases e : j = k
  · subst e; rw [up_at]; exact h _
  · rw [up_ne _ _ e]; exact ⟨rfl, rfl⟩
theorem rs_close (x : WireA) (k : Nat) : ∀ j, RsE (x.e j) ((closeW x k).e j) := fun j => by
  unfold closeW
  have h1 := rs_up x (1 - k) (rsE_rise (!(x.e k).shut) true) j
  have h2 := up_cnt (x.up (1 - k) (riseE (!(x.e k).shut) true)) k (f := fun e => { e with what := 3 }) (fun _ => ⟨rfl, rfl⟩) j
  unfold RsE at h1 ⊢
  rw [h2.1, h2.2]; exact h1
theorem sbW_close {x : WireA} (h : WfW x) {k : Nat} (hk : k < 2) : SbW x (closeW x k) where
  e j hj := by
    obtain ⟨a, b, c, d, _⟩ := close_e x hk hj
    refine ⟨fun e => ?_, b, c, d⟩
    rw [a] at e
    split at e
    · cases e
    · exact e
  wh := (close_wf h hk).what
  w0 e := by
    rw [(close_e x hk (by omega)).1]
    split
    · decide
    · exact e
  ou e := by
    rw [(close_e x hk (by omega)).1] at e
    split at e
    · cases e
    · exact e
  wt := List.Sublist.refl _
  bl := rfl
  cap := rfl
  le j hj := by rw [(close_e x hk hj).2.2.2.2]; exact h.le j hj
  nb j hj hr := by rw [(close_e x hk hj).2.2.2.2]; exact h.nb j hj hr
def WireA.wts (x : WireA) (l : List Nat) : WireA := { x with wt := l }
theorem sbW_wts {x : WireA} (h : WfW x) {l : List Nat} (hl : l.Sublist x.wt) : SbW x (x.wts l) where
  e _ _ := ⟨id, rfl, rfl, rfl⟩
  wh := h.what
  w0 := id
  ou := id
  wt := hl
  bl := rfl
  cap := rfl
  le := h.le
  nb := h.nb
theorem SbW.trans {x y z : WireA} (h1 : SbW x y) (h2 : SbW y z) : SbW x z where
  e k hk := by
    obtain ⟨a1, a2, a3, a4⟩ := h1.e k hk
    obtain ⟨b1, b2, b3, b4⟩ := h2.e k hk
    exact ⟨fun e => a1 (b1 e), by rw [b2, a2], by rw [b3, a3], by rw [b4, a4]⟩
  wh := h2.wh
  w0 e := h2.w0 (h1.w0 e)
  ou e := h1.ou (h2.ou e)
  wt := h2.wt.trans h1.wt
  bl := by rw [h2.bl, h1.bl]
  cap := by rw [h2.cap, h1.cap]
  le k hk := by rw [← h1.cap]; exact h2.le k hk
  nb k hk hr := h2.nb k hk (by rw [(h1.e k hk).2.2.1]; exact hr)
def outW (w : WA) (n : Int) : Option WireA := if n < 0 then none else match w.ws[n.toNat]? with
  | none => none
  | some x => if (x.e 1).what = 2 then some x else none
theorem outW_some {w : WA} {n : Int} {x : WireA} (h : outW w n = some x) : 0 ≤ n ∧ w.ws[n.toNat]? = some x ∧ (x.e 1).what = 2 := by
  unfold outW at h
  split at h
  · cases h
  · split at h
    · cases h
    · rename_i y hy
      split at h
      · rename_i h2; obtain rfl := Option.some.inj h; exact ⟨by omega, hy, h2⟩
      · cases h
def putR (w : WA) (n : Int) (bs : List UInt8) : (Int × Int) × WA := match outW w n with
  | none => ((0, 116), w)
  | some x => if x.rs = true then ((0, 115), w) else if (x.e 1).shut = true ∨ (x.e 0).what = 3 then ((0, 114), w) else (((putN x 1 bs : Nat), 0), w.setW n.toNat (putW x 1 bs))
def pcloseR (w : WA) (n : Int) : Int × WA := match outW w n with
  | none => (116, w)
  | some x => (0, w.setW n.toNat (closeW x 1))
def closeAll : List WireA → List Nat → List WireA
  | ws, [] => ws
  | ws, n :: t => closeAll (match ws[n]? with | some y => ws.set n (closeW y 0) | none => ws) t
def closeF (w : WA) (fd : Int) : Int × WA := match w.at fd with
  | none => (110, w)
  | some (m, k) => match w.ws[m]? with
    | none => (110, w)
    | some x => (0, { w with ws := closeAll (w.ws.set m ((closeW x k).wts [])) x.wt })
def connW (n : Nat) : WireA := (halfW n 2).up 1 fun e => { e with what := 2 }
def pendN (w : WA) : Int := (w.ct.drop 1).sum
def ntcR (w : WA) : WA := match w.nt with
  | none => w
  | some (n, k) => match w.ws[n]? with
    | none => w
    | some x => if pendN w = 0 then w.setW n (takeW x k (x.e k).b.length) else if (x.e k).b = [] then w.setW n (putW x (1 - k) [1]) else w
def hanR (w : WA) (s : Int) (on : Bool) : Int × WA := if s < 1 ∨ 31 < s then (100, ntcR w) else (0, ntcR { w with hd := w.hd.set s.toNat on, ct := if on = true then w.ct else w.ct.set s.toNat 0 })
def raiR (w : WA) (s : Int) : Int × WA := if s < 1 ∨ 31 < s then (100, ntcR w) else (0, ntcR { w with ct := if w.hd.getD s.toNat false = true then w.ct.set s.toNat (w.ct.getD s.toNat 0 + 1) else w.ct })
def cntF : Nat → List Int → List (Int × Int)
  | _, [] => []
  | i, c :: t => if i = 0 ∨ c = 0 then cntF (i + 1) t else ((i : Int), c) :: cntF (i + 1) t
def sigR (w : WA) : List (Int × Int) × WA := (cntF 0 w.ct, ntcR { w with ct := match w.ct with | [] => [] | c :: t => c :: t.map fun _ => 0 })
end Wo
end Go.Proofs.Ytbfddabjbkohdaa
namespace Go.Proofs.Ytbfddabjbkohdaa
set_option linter.unusedSimpArgs false
set_option linter.unusedVariables false
set_option linter.unnecessarySimpa false
open Go.RX Fx
namespace Wo
set_option maxRecDepth 8000
theorem sbW_closeP {w : WA} (h : WOk w) {m k : Nat} {x : WireA} {fd : Int} (hn : w.at fd = some (m, k)) (hx : w.ws[m]? = some x) : SbW x ((closeW x k).wts []) := by
  have hwf := h.wf x (List.mem_of_getElem? hx)
  have hk := (h.at_lt hn).2.2.1
  exact (sbW_close hwf hk).trans (sbW_wts (close_wf hwf hk) (List.nil_sublist _))
theorem closeAll_ok : ∀ (l : List Nat) (w : WA), WOk w → l.Nodup → (∀ n ∈ l, ∃ y, w.ws[n]? = some y ∧ (y.e 0).what = 0) → (∀ n ∈ l, n ∉ w.ws.flatMap WireA.wt) →
    WOk { w with ws := closeAll w.ws l } ∧ WA.at { w with ws := closeAll w.ws l } = w.at ∧ Stp l.length w { w with ws := closeAll w.ws l }
  | [], w, h, _, _, _ => ⟨h, rfl, Stp.refl w⟩
  | n :: t, w, h, hd, h0, hw => by
    obtain ⟨y, hy, hy0⟩ := h0 n List.mem_cons_self
    have hwf := h.wf y (List.mem_of_getElem? hy)
    have hs := sbW_close hwf (k := 0) (by omega)
    have hfm : (w.setW n (closeW y 0)).ws.flatMap WireA.wt = w.ws.flatMap WireA.wt := flatMap_set hy rfl
    have hni : n ∉ (w.setW n (closeW y 0)).ws.flatMap WireA.wt := by rw [hfm]; exact hw n List.mem_cons_self
    have hok := h.setS hy hs (fun e => absurd e hni)
    have hat := h.setS_at hy hs (fun e => absurd e hni) (fun k hk e => by
      rw [(close_e y (by omega) hk).1]
      split
      · rename_i e0; subst e0; rw [hy0] at e; cases e
      · exact e)
    have ih := closeAll_ok t (w.setW n (closeW y 0)) hok (List.nodup_cons.1 hd).2 (fun a ha => by
      obtain ⟨z, hz, hz0⟩ := h0 a (List.mem_cons_of_mem _ ha)
      have : a ≠ n := fun e => (List.nodup_cons.1 hd).1 (e ▸ ha)
      exact ⟨z, by rw [setW_ne this]; exact hz, hz0⟩) (fun a ha => by rw [hfm]; exact hw a (List.mem_cons_of_mem _ ha))
    have e : closeAll w.ws (n :: t) = closeAll (w.setW n (closeW y 0)).ws t := by
      show closeAll (match w.ws[n]? with | some y => w.ws.set n (closeW y 0) | none => w.ws) t = _
      rw [hy]; rfl
    have e2 : ({ w with ws := closeAll w.ws (n :: t) } : WA) = { w.setW n (closeW y 0) with ws := closeAll (w.setW n (closeW y 0)).ws t } := by rw [e]; rfl
    rw [e2]
    refine ⟨ih.1, ih.2.1.trans hat, ?_⟩
    rw [List.length_cons, Nat.add_comm]
    exact (hs.stp hy fun j _ => rs_close y 0 j).trans ih.2.2
theorem wt_le {w : WA} (h : WOk w) {m : Nat} {x : WireA} (hx : w.ws[m]? = some x) : x.wt.length ≤ 64 := by
  have := (h.wf x (List.mem_of_getElem? hx)).bl
  omega
theorem wt_gone {w : WA} (h : WOk w) {m : Nat} {x x' : WireA} (hx : w.ws[m]? = some x) (hx' : x'.wt = []) : ∀ n ∈ x.wt, n ∉ (w.setW m x').ws.flatMap WireA.wt := by
  have hp := flatMap_set_app (f := WireA.wt) (bs := x.wt) (l := (w.setW m x').ws) (n := m) (x := x') (x' := x) (setW_self hx) (by rw [hx']; rfl)
  have e : (w.setW m x').ws.set m x = w.ws := by
    show (w.ws.set m x').set m x = w.ws
    rw [List.set_set]
    obtain ⟨hl, e⟩ := List.getElem?_eq_some_iff.1 hx
    rw [← e, List.set_getElem_self]
  rw [e] at hp
  have hn := hp.nodup_iff.1 h.wn
  intro n h1 h2
  exact (List.nodup_append.1 hn).2.2 n h1 n h2 rfl
theorem sub_flatMap {α β : Type} {f : α → List β} : ∀ {l : List α} {n : Nat} {x : α}, l[n]? = some x → (f x).Sublist (l.flatMap f)
  | [], _, _, h => by simp at h
  | a :: l, 0, x, h => by
    obtain rfl : a = x := by simpa using h
    exact List.sublist_append_left _ _
  | a :: l, n + 1, x, h => (sub_flatMap (f := f) (l := l) (n := n) (by simpa using h)).trans (List.sublist_append_right _ _)
theorem closeF_ok {w : WA} (h : WOk w) (fd : Int) : WOk (closeF w fd).2 ∧ (closeF w fd).2.at = setT w.at fd none ∧ Stp 65 w (closeF w fd).2 := by
  unfold closeF
  split
  · rename_i hn
    refine ⟨h, ?_, Stp.same w⟩
    funext a
    show w.at a = if a = fd then none else w.at a
    split
    · rename_i e; rw [e]; exact hn
    · rfl
  · rename_i m k hn
    obtain ⟨_, _, hk, _, x0, hx0, hxw, _⟩ := h.at_lt hn
    split
    · rename_i hx; rw [hx] at hx0; cases hx0
    · rename_i x hx
      rw [hx] at hx0; obtain rfl := Option.some.inj hx0
      have hwf := h.wf x (List.mem_of_getElem? hx)
      have hc := h.closeW hn hx
      have hs := sbW_closeP h hn hx
      have hgo := wt_gone h hx (x' := (closeW x k).wts []) rfl
      have hsub : ∀ n ∈ x.wt, n ∈ w.ws.flatMap WireA.wt := fun n hn => List.mem_flatMap.2 ⟨x, List.mem_of_getElem? hx, hn⟩
      have h00 : ∀ n ∈ x.wt, ∃ y, (w.setW m ((closeW x k).wts [])).ws[n]? = some y ∧ (y.e 0).what = 0 := fun n hn => by
        obtain ⟨y, hy, hy0⟩ := h.wm n (hsub n hn)
        by_cases e : n = m
        · subst e
          rw [hx] at hy; obtain rfl := Option.some.inj hy
          refine ⟨_, setW_self hx, ?_⟩
          show ((closeW x k).e 0).what = 0
          rw [(close_e x hk (by omega)).1, if_neg]
          · exact hy0
          · intro e; subst e; rw [hy0] at hxw; cases hxw
        · exact ⟨y, by rw [setW_ne e]; exact hy, hy0⟩
      have hm0 : m ∈ (w.setW m ((closeW x k).wts [])).ws.flatMap WireA.wt → (((closeW x k).wts []).e 0).what = 0 := fun e => by
        have := (flatMap_set_sub (f := WireA.wt) (x' := (closeW x k).wts []) hx (List.nil_sublist _)).subset e
        obtain ⟨y, hy, hy0⟩ := h.wm m this
        rw [hx] at hy; obtain rfl := Option.some.inj hy
        show ((closeW x k).e 0).what = 0
        rw [(close_e x hk (by omega)).1, if_neg]
        · exact hy0
        · intro e; subst e; rw [hy0] at hxw; cases hxw
      have hok := h.setS hx hs hm0
      have hat : (w.setW m ((closeW x k).wts [])).at = setT w.at fd none := by
        rw [← hc.2]
        have h2 : (w.setW m (closeW x k)).ws[m]? = some (closeW x k) := setW_self hx
        have e : w.setW m ((closeW x k).wts []) = (w.setW m (closeW x k)).setW m ((closeW x k).wts []) := by
          show ({ w with ws := _ } : WA) = { w with ws := _ }
          congr 1
          show _ = (w.ws.set m _).set m _
          rw [List.set_set]
        rw [e]
        refine hc.1.setS_at h2 (sbW_wts (close_wf hwf hk) (List.nil_sublist _)) (by rw [← e]; exact hm0) fun _ _ e => e
      have hx1 := (wt_le h hx)
      obtain ⟨a, b, c⟩ := closeAll_ok x.wt (w.setW m ((closeW x k).wts [])) hok ((sub_flatMap (f := WireA.wt) hx).nodup h.wn) h00 hgo
      refine ⟨a, b.trans hat, ?_⟩
      exact ((hs.stp hx fun j _ => rs_close x k j).trans c).mono (by omega)
theorem conn_e (n k : Nat) (hk : k < 2) : ((connW n).e k).what = (if k = 1 then 2 else 0) ∧ ((connW n).e k).rd = true ∧ ((connW n).e k).wr = true ∧ ((connW n).e k).b = [] ∧ ((connW n).e k).inn = 0 ∧ ((connW n).e k).out = 0 := by
  rcases (show k = 0 ∨ k = 1 by omega) with rfl | rfl
  · exact ⟨rfl, rfl, rfl, rfl, rfl, rfl⟩
  · exact ⟨rfl, rfl, rfl, rfl, rfl, rfl⟩
theorem conn_new {n l : Nat} (h : n ≤ 65536) : NewW (connW n) l := by
  have e := conn_e n
  refine ⟨⟨fun k hk => by rw [(e k hk).2.2.1, (e (1 - k) (by omega)).2.1], fun k hk => by rw [(e k hk).2.2.2.1]; exact Nat.zero_le _, fun k hk _ => (e k hk).2.2.2.1, h, fun k hk => ?_, ⟨Int.le_refl _, by show (0 : Int) ≤ 64; decide, by show ((0 : Nat) : Int) ≤ 0; decide⟩, fun _ => ⟨rfl, rfl⟩⟩, fun k hk => ?_, rfl⟩
  · rw [(e k hk).1]; split <;> decide
  · rw [(e k hk).1]; split <;> decide
theorem ct_ok {w : WA} (h : WOk w) {hd : List Bool} {ct : List Int} (h1 : hd.length = 32) (h2 : ct.length = 32) : WOk { w with hd := hd, ct := ct } := ⟨h.uq, h.fd, h.len, h1, h2, h.wf, h.wn, h.wm, h.nt, h.ns⟩
end Wo
end Go.Proofs.Ytbfddabjbkohdaa
