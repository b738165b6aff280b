/-
  Buffered events: Wants, stop, Late.
-/
import Derived.Test.YtmpemhbfgbochaaBu4
namespace Go.Proofs.Ytmpemhbfgbochaa
set_option linter.unusedSimpArgs false
set_option linter.unusedVariables false
set_option linter.unnecessarySimpa false
open Go.RX Fx
namespace Bu
open Wo
set_option maxRecDepth 8000
/-- does a side want to be ready? -/
def wantK (x : BfA) (k : Nat) : Bool := !(x.s k).ended && ((decide ((k : Int) = 0) && (decide ((x.s k).high = 0) || decide (((x.s k).c.length : Int) < (x.s k).high))) || (decide ((k : Int) = 1) && decide (((x.s k).c.length : Int) > 0)))
def waM (x : BfA) (ks : List Nat) : Int := ks.foldl (fun m k => if wantK x k = true then bits .or .i64 m (flagA k) else m) 0
theorem waM_snoc (x : BfA) (ks : List Nat) (k : Nat) : waM x (ks ++ [k]) = if wantK x k = true then bits .or .i64 (waM x ks) (flagA k) else waM x ks := by unfold waM; rw [List.foldl_append]; rfl
def wantsA (x : BfA) : Int := waM x (sidesA (onM x (sidesA 6)))
set_option maxHeartbeats 2000000 in
theorem wants_ct (L : List SP) (b wb : Nat) (x : BfA) : Ct Try.prog 26 #[.pointer (some ⟨b, 0, none⟩)] (BufP b wb x :: L) (fun _ : Unit => .int .i64 (wantsA x)) (fun _ : Unit => BufP b wb x :: L) := by
  refine Ct.ofM (vs := [.pointer (some ⟨b, 0, none⟩)]) Try.func26 rfl rfl [(0, .pointer (some ⟨b, 0, none⟩))] (by repeat (first | exact trivial | refine ⟨rfl, ?_⟩)) ?_
  intro E
  show Hd E 54 _ _ _ _
  refine Hd.bufK .here 0 (by omega) ?_
  refine Hd.seq (fun K1 hK1 => ?_)
  refine Hd.region ?_
  refine Hd.yv (y_assign rfl) ?_
  refine Hd.nil ?_
  refine Hd.slots [(0, _)] ⟨rfl, trivial⟩ ?_
  refine Hd.toK hK1 ?_
  refine Hd.seq (fun K2 hK2 => ?_)
  refine Hd.region ?_
  refine Hd.alloc zr3 (fun b3 => ?_)
  first | (refine Hd.store1 sz3 rfl rfl rfl pkk (by first | decide | (simp; done) | (simp; omega)) ?_) | (refine Hd.storeG1 sz3 rfl rfl rfl pkk (by first | decide | (simp; done) | (simp; omega)) ?_) | (refine Hd.storeO1 sz3 rfl rfl rfl pkk (by first | omega | (simp; done) | (simp; omega)) ?_) | (refine Hd.storeK1 sz3 rfl rfl rfl pkk (by decide) (by first | decide | (simp; done) | (simp; omega)) ?_)
  try simp only [List.set_cons_zero, List.set_cons_succ]
  refine Hd.nil ?_
  refine Hd.slots [(0, _), (3, _)] ⟨rfl, rfl, trivial⟩ ?_
  refine Hd.toK hK2 ?_
  refine Hd.seq (fun K3 hK3 => ?_)
  refine Hd.seq (fun K4 hK4 => ?_)
  refine Hd.region ?_
  refine Hd.yv (y_move rfl) ?_
  refine Hd.callE rfl fk36 (bnone_ct _ b wb x.fd) (Ent.sep enn) ?_
  intro _
  refine Hd.heap (BufP b wb x :: pt b3 [.int .i64 0] 3 :: L) (fun q s => buf_close rfl rfl rfl q (Ent.sep enn q s)) ?_
  refine Hd.nil ?_
  refine Hd.slots [(0, _), (3, _), (8, _)] ⟨rfl, rfl, rfl, trivial⟩ ?_
  refine Hd.toK hK4 ?_
  refine Hd.condF rfl ?_
  refine Hd.skip ?_
  refine Hd.toK hK3 ?_
  refine Hd.seq (fun K5 hK5 => ?_)
  refine Hd.seq (fun K6 hK6 => ?_)
  refine Hd.region ?_
  refine Hd.yv (y_move rfl) ?_
  refine Hd.yv (y_move rfl) ?_
  refine Hd.callE rfl fk23 (enabled_ct _ b wb x) (Ent.sep enn) ?_
  intro _
  refine Hd.callE rfl fk37 (some_ct _ (some ⟨b, 0, none⟩) (onM x (sidesA 6))) (Ent.sep enn) ?_
  rintro ⟨bb, bm⟩
  dsimp only
  refine Hd.nil ?_
  refine Hd.slots [(3, _), (13, _)] ⟨rfl, rfl, trivial⟩ ?_
  refine Hd.toK hK6 ?_
  refine Hd.block ?_
  refine Hd.rangeF (enc := encK b) (S := fun ys => ys = sidesA (onM x (sidesA 6))) (Sp := fun ys => ys <+: sidesA (onM x (sidesA 6)))
    (fun pre => pt b3 [.int .i64 (waM x pre)] 3 :: BufP b wb x :: L) (fun _ _ => [pu False])
    rfl (by kernel_rfl) (fun _ => rfl) rfl (some_it b bb bm (onM x (sidesA 6))) (by refine Ent.sep ?_; refine Ent.eq pkk (pt_eq (by rfl)) ?_; refine Ent.pick pkk ?_; exact Ent.swap (L := [_, _])) ?_ ?_ ?_
  ·
    intro E l' R pre c N hR hG
    obtain ⟨hc, hcp⟩ := pre_new hG
    have hsn := waM_snoc x pre c
    unfold Rnd
    simp only [List.cons_append, List.nil_append, pz, encK]
    refine Hd.seq (fun K7 hK7 => ?_)
    refine Hd.region ?_
    refine Hd.yv (y_assign rfl) ?_
    refine Hd.nil ?_
    refine Hd.slots [(3, _), (4, _), (15, _)] ⟨rfl, rfl, rfl, trivial⟩ ?_
    refine Hd.toK hK7 ?_
    refine Hd.region ?_
    refine Hd.yv (y_assign rfl) ?_
    refine Hd.nil ?_
    refine Hd.slots [(3, _), (4, _), (5, _)] ⟨rfl, rfl, rfl, trivial⟩ ?_
    refine Hd.thenN ?_
    refine Hd.begin hR pkk ?_
    refine Hd.block ?_
    refine Hd.seq (fun K8 hK8 => ?_)
    refine Hd.bufK (b := b) pkk c hc ?_
    refine Hd.region ?_
    refine Hd.yv (y_move rfl) ?_
    refine Hd.yv (y_nilp rfl) ?_
    first | (refine Hd.yv (y_field' (q := 0) (ft := 89) Try.underlying91 rfl sz89 rfl rfl) ?_) | (refine Hd.yv (y_fieldR (q := 0) (ft := 89) Try.underlying91 rfl sz89 rfl rfl) ?_)
    refine Hd.callE rfl fk41 (chLen _ b (2 + c * 8 + 0) (x.s c).c) (Ent.sep enn) ?_
    intro _
    refine Hd.yv (y_assign rfl) ?_
    refine Hd.nil ?_
    refine Hd.slots [(3, _), (4, _), (5, _), (6, _)] ⟨rfl, rfl, rfl, rfl, trivial⟩ ?_
    refine Hd.toK hK8 ?_
    refine Hd.block ?_
    refine Hd.seq (fun K9 hK9 => ?_)
    refine Hd.region ?_
    refine Hd.yv (y_move rfl) ?_
    refine Hd.yv (y_nilp rfl) ?_
    first | (refine Hd.yv (y_field' (q := 3) (ft := 4) Try.underlying91 rfl sz4 rfl rfl) ?_) | (refine Hd.yv (y_fieldR (q := 3) (ft := 4) Try.underlying91 rfl sz4 rfl rfl) ?_)
    first | (refine Hd.yv (y_load1 ag4 rfl (Rd.pt1 pkk (by (first | rfl)))) ?_) | (refine Hd.yv (y_load1 ag4 rfl (Rd.seg1 pkk (by (first | rfl)))) ?_) | (refine Hd.yv (y_load1 ag4 rfl (Rd.segK1 pkk (by decide) (by (first | rfl)))) ?_) | (refine Hd.yv (y_loadR1 ag4 rfl (by (first | exact RdS.own pkk)) (by (first | rfl))) ?_)
    refine Hd.yv (y_assign rfl) ?_
    refine Hd.nil ?_
    refine Hd.slots [(3, _), (4, _), (5, _), (6, _), (20, _)] ⟨rfl, rfl, rfl, rfl, rfl, trivial⟩ ?_
    refine Hd.toK hK9 ?_
    refine Hd.cond rfl (fun hc1 => ?_) (fun hc1 => ?_)
    ·
      try simp only [decide_eq_true_eq, decide_eq_false_iff_not, Bool.and_eq_true, Bool.or_eq_true, Bool.and_eq_false_iff, Bool.or_eq_false_iff, Bool.not_eq_true', Bool.not_eq_false', Bool.not_eq_true, Bool.not_eq_false, Int.not_lt, Int.not_le, Decidable.not_not, ne_eq] at hc1
      refine Hd.heap (BufP b wb x :: _) (fun q s => buf_backK hc q (by exact Ent.sep enn q s)) ?_
      rw [if_neg (by unfold wantK; rw [hc1]; simp)] at hsn
      refine Hd.skip ?_
      refine Hd.inB ?_
      refine Hd.inB ?_
      clear hK1 hK2 hK3 hK4 hK5 hK6 hK7 hK8 hK9
      refine Hd.reN ?_
      simp only [List.cons_append, List.nil_append]
      rw [hsn]
      exact (Ent.sep enn)
    ·
      try simp only [decide_eq_true_eq, decide_eq_false_iff_not, Bool.and_eq_true, Bool.or_eq_true, Bool.and_eq_false_iff, Bool.or_eq_false_iff, Bool.not_eq_true', Bool.not_eq_false', Bool.not_eq_true, Bool.not_eq_false, Int.not_lt, Int.not_le, Decidable.not_not, ne_eq] at hc1
      refine Hd.seq (fun K10 hK10 => ?_)
      refine Hd.seq (fun K11 hK11 => ?_)
      refine Hd.region ?_
      refine Hd.yv (y_move rfl) ?_
      first | (refine Hd.yv (y_eqlT rfl rfl) ?_) | (refine Hd.yv (y_eql rfl rfl) ?_)
      refine Hd.yv (y_move rfl) ?_
      apply Hd.andg 14 28 42 [(3, _), (4, _), (6, _)] rfl ⟨rfl, rfl, rfl, trivial⟩
      · intro hg9_28
        try simp only [decide_eq_true_eq, decide_eq_false_iff_not, Bool.and_eq_true, Bool.or_eq_true, Bool.and_eq_false_iff, Bool.or_eq_false_iff, Bool.not_eq_true', Bool.not_eq_false', Bool.not_eq_true, Bool.not_eq_false, Int.not_lt, Int.not_le, Decidable.not_not, ne_eq] at hg9_28
        simp only [List.take]
        refine Hd.yg rfl rfl (y_move rfl) ?_
        refine Hd.yg rfl rfl (y_nilp rfl) ?_
        first | (refine Hd.yg rfl rfl (y_field' (q := 5) (ft := 3) Try.underlying91 rfl sz3 rfl rfl) ?_) | (refine Hd.yg rfl rfl (y_fieldR (q := 5) (ft := 3) Try.underlying91 rfl sz3 rfl rfl) ?_)
        first | (refine Hd.yg rfl rfl (y_load1 ag3 rfl (Rd.pt1 pkk (by (first | rfl)))) ?_) | (refine Hd.yg rfl rfl (y_load1 ag3 rfl (Rd.seg1 pkk (by (first | rfl)))) ?_) | (refine Hd.yg rfl rfl (y_load1 ag3 rfl (Rd.segK1 pkk (by decide) (by (first | rfl)))) ?_) | (refine Hd.yg rfl rfl (y_loadR1 ag3 rfl (by (first | exact RdS.own pkk)) (by (first | rfl))) ?_)
        first | (refine Hd.yg rfl rfl (y_eqlT rfl rfl) ?_) | (refine Hd.yg rfl rfl (y_eql rfl rfl) ?_)
        refine Hd.yg rfl rfl (y_move rfl) ?_
        apply Hd.org 7 34 41 [(3, _), (4, _), (6, _), (28, _)] rfl ⟨rfl, rfl, rfl, rfl, trivial⟩
        · intro hg9_34
          try simp only [decide_eq_true_eq, decide_eq_false_iff_not, Bool.and_eq_true, Bool.or_eq_true, Bool.and_eq_false_iff, Bool.or_eq_false_iff, Bool.not_eq_true', Bool.not_eq_false', Bool.not_eq_true, Bool.not_eq_false, Int.not_lt, Int.not_le, Decidable.not_not, ne_eq] at hg9_34
          simp only [List.take]
          refine Hd.ng rfl rfl rfl ?_
          refine Hd.ng rfl rfl rfl ?_
          refine Hd.ng rfl rfl rfl ?_
          refine Hd.ng rfl rfl rfl ?_
          refine Hd.ng rfl rfl rfl ?_
          refine Hd.ng rfl rfl rfl ?_
          first | (refine Hd.yg rfl rfl (y_pickT rfl rfl) ?_) | (refine Hd.yg rfl rfl (y_pickF rfl rfl) ?_) | (refine Hd.yg rfl rfl (y_pickb rfl rfl rfl) ?_) | (refine Hd.yg rfl rfl (y_pick rfl rfl rfl) ?_)
          refine Hd.nil ?_
          exact Hd.mend (by repeat (first | exact trivial | refine ⟨rfl, ?_⟩)) (Ent.sep enn)
        · intro hg9_34
          try simp only [decide_eq_true_eq, decide_eq_false_iff_not, Bool.and_eq_true, Bool.or_eq_true, Bool.and_eq_false_iff, Bool.or_eq_false_iff, Bool.not_eq_true', Bool.not_eq_false', Bool.not_eq_true, Bool.not_eq_false, Int.not_lt, Int.not_le, Decidable.not_not, ne_eq] at hg9_34
          simp only [List.take]
          refine Hd.yg rfl rfl (y_move rfl) ?_
          refine Hd.yg rfl rfl (y_move rfl) ?_
          refine Hd.yg rfl rfl (y_nilp rfl) ?_
          first | (refine Hd.yg rfl rfl (y_field' (q := 5) (ft := 3) Try.underlying91 rfl sz3 rfl rfl) ?_) | (refine Hd.yg rfl rfl (y_fieldR (q := 5) (ft := 3) Try.underlying91 rfl sz3 rfl rfl) ?_)
          first | (refine Hd.yg rfl rfl (y_load1 ag3 rfl (Rd.pt1 pkk (by (first | rfl)))) ?_) | (refine Hd.yg rfl rfl (y_load1 ag3 rfl (Rd.seg1 pkk (by (first | rfl)))) ?_) | (refine Hd.yg rfl rfl (y_load1 ag3 rfl (Rd.segK1 pkk (by decide) (by (first | rfl)))) ?_) | (refine Hd.yg rfl rfl (y_loadR1 ag3 rfl (by (first | exact RdS.own pkk)) (by (first | rfl))) ?_)
          refine Hd.yg rfl rfl (y_lss rfl rfl) ?_
          first | (refine Hd.yg rfl rfl (y_pickT rfl rfl) ?_) | (refine Hd.yg rfl rfl (y_pickF rfl rfl) ?_) | (refine Hd.yg rfl rfl (y_pickb rfl rfl rfl) ?_) | (refine Hd.yg rfl rfl (y_pick rfl rfl rfl) ?_)
          refine Hd.nil ?_
          exact Hd.mend (by repeat (first | exact trivial | refine ⟨rfl, ?_⟩)) (Ent.sep enn)
        simp only [List.drop]
        first | (refine Hd.yv (y_pickT rfl rfl) ?_) | (refine Hd.yv (y_pickF rfl rfl) ?_) | (refine Hd.yv (y_pickb rfl rfl rfl) ?_) | (refine Hd.yv (y_pick rfl rfl rfl) ?_)
        refine Hd.nil ?_
        exact Hd.mend (by repeat (first | exact trivial | refine ⟨rfl, ?_⟩)) (Ent.sep enn)
      · intro hg9_28
        try simp only [decide_eq_true_eq, decide_eq_false_iff_not, Bool.and_eq_true, Bool.or_eq_true, Bool.and_eq_false_iff, Bool.or_eq_false_iff, Bool.not_eq_true', Bool.not_eq_false', Bool.not_eq_true, Bool.not_eq_false, Int.not_lt, Int.not_le, Decidable.not_not, ne_eq] at hg9_28
        simp only [List.take]
        refine Hd.ng rfl rfl rfl ?_
        refine Hd.ng rfl rfl rfl ?_
        refine Hd.ng rfl rfl rfl ?_
        refine Hd.ng rfl rfl rfl ?_
        refine Hd.ng rfl rfl rfl ?_
        refine Hd.ng rfl rfl rfl ?_
        refine Hd.ng rfl rfl rfl ?_
        refine Hd.ng rfl rfl rfl ?_
        refine Hd.ng rfl rfl rfl ?_
        refine Hd.ng rfl rfl rfl ?_
        refine Hd.ng rfl rfl rfl ?_
        refine Hd.ng rfl rfl rfl ?_
        refine Hd.ng rfl rfl rfl ?_
        first | (refine Hd.yv (y_pickT rfl rfl) ?_) | (refine Hd.yv (y_pickF rfl rfl) ?_) | (refine Hd.yv (y_pickb rfl rfl rfl) ?_) | (refine Hd.yv (y_pick rfl rfl rfl) ?_)
        refine Hd.nil ?_
        exact Hd.mend (by repeat (first | exact trivial | refine ⟨rfl, ?_⟩)) (Ent.sep enn)
      simp only [List.drop]
      refine Hd.yv (y_assign rfl) ?_
      refine Hd.nil ?_
      refine Hd.heap (BufP b wb x :: _) (fun q s => buf_backK hc q (by exact Ent.sep enn q s)) ?_
      refine Hd.slots [(3, _), (4, _), (6, _), (25, _)] ⟨rfl, rfl, rfl, rfl, trivial⟩ ?_
      refine Hd.toK hK11 ?_
      refine Hd.cond rfl (fun hc2 => ?_) (fun hc2 => ?_)
      ·
        try simp only [decide_eq_true_eq, decide_eq_false_iff_not, Bool.and_eq_true, Bool.or_eq_true, Bool.and_eq_false_iff, Bool.or_eq_false_iff, Bool.not_eq_true', Bool.not_eq_false', Bool.not_eq_true, Bool.not_eq_false, Int.not_lt, Int.not_le, Decidable.not_not, ne_eq] at hc2
        refine Hd.skip ?_
        refine Hd.toK hK10 ?_
        refine Hd.cond rfl (fun hc3 => ?_) (fun hc3 => ?_)
        ·
          try simp only [decide_eq_true_eq, decide_eq_false_iff_not, Bool.and_eq_true, Bool.or_eq_true, Bool.and_eq_false_iff, Bool.or_eq_false_iff, Bool.not_eq_true', Bool.not_eq_false', Bool.not_eq_true, Bool.not_eq_false, Int.not_lt, Int.not_le, Decidable.not_not, ne_eq] at hc3
          refine Hd.drawsH ([pt b3 [.int .i64 (waM x pre)] 3]) (fun j => !([4].contains j)) mixed ?_
          simp only [List.length, Nat.zero_add, Nat.reduceAdd]
          first | (refine Hd.takeH 0 rfl (by kernel_rfl) (by kernel_rfl) (by kernel_rfl) (by kernel_rfl) (y_load1 ag3 rfl (Rd.pt1 pkk (by (first | rfl)))) (fun _ _ => rfl) (Ent.sep enn) ?_) | (refine Hd.takeH 0 rfl (by kernel_rfl) (by kernel_rfl) (by kernel_rfl) (by kernel_rfl) (y_load1 ag3 rfl (Rd.seg1 pkk (by (first | rfl)))) (fun _ _ => rfl) (Ent.sep enn) ?_) | (refine Hd.takeH 0 rfl (by kernel_rfl) (by kernel_rfl) (by kernel_rfl) (by kernel_rfl) (y_load1 ag3 rfl (Rd.segK1 pkk (by decide) (by (first | rfl)))) (fun _ _ => rfl) (Ent.sep enn) ?_) | (refine Hd.takeH 0 rfl (by kernel_rfl) (by kernel_rfl) (by kernel_rfl) (by kernel_rfl) (y_loadR1 ag3 rfl (by (first | exact RdS.own pkk)) (by (first | rfl))) (fun _ _ => rfl) (Ent.sep enn) ?_)
          refine Hd.takeH 1 rfl (by kernel_rfl) (by kernel_rfl) (by kernel_rfl) (by kernel_rfl) (y_move rfl) (fun _ _ => rfl) (Ent.sep enn) ?_
          refine Hd.onlyH 2 rfl (by kernel_rfl) ?_
          refine Hd.callE rfl fk45 (flag_ct _ c) (Ent.sep enn) ?_
          intro _
          refine Hd.nil ?_
          refine Hd.thenN ?_
          refine Hd.heldK (J := (fun j => !([4].contains j))) (i := 2) (Ent.sep enn) ?_
          refine Hd.takeH 3 rfl (by kernel_rfl) (by kernel_rfl) (by kernel_rfl) (by kernel_rfl) (y_or rfl rfl) (fun _ _ => rfl) (Ent.sep enn) ?_
          refine Hd.onlyH 4 rfl (by kernel_rfl) ?_
          first | (refine Hd.store1 sz3 rfl rfl rfl pkk (by first | decide | (simp; done) | (simp; omega)) ?_) | (refine Hd.storeG1 sz3 rfl rfl rfl pkk (by first | decide | (simp; done) | (simp; omega)) ?_) | (refine Hd.storeO1 sz3 rfl rfl rfl pkk (by first | omega | (simp; done) | (simp; omega)) ?_) | (refine Hd.storeK1 sz3 rfl rfl rfl pkk (by decide) (by first | decide | (simp; done) | (simp; omega)) ?_)
          try simp only [List.set_cons_zero, List.set_cons_succ]
          refine Hd.nil ?_
          refine Hd.thenN ?_
          refine Hd.heldN (J := (fun j => !([4].contains j))) (i := 4) rfl ?_
          refine Hd.endH (by kernel_rfl) ?_
          refine Hd.slots [(3, _)] ⟨rfl, trivial⟩ ?_
          refine Hd.inB ?_
          refine Hd.inB ?_
          clear hK1 hK2 hK3 hK4 hK5 hK6 hK7 hK8 hK9 hK10 hK11
          refine Hd.reN ?_
          simp only [List.cons_append, List.nil_append]
          rw [hsn, if_pos (by unfold wantK; simp only [Bool.or_eq_true, Bool.and_eq_true, decide_eq_true_eq, Bool.not_eq_true']; exact ⟨hc1, by omega⟩)]
          exact (Ent.sep enn)
        ·
          try simp only [decide_eq_true_eq, decide_eq_false_iff_not, Bool.and_eq_true, Bool.or_eq_true, Bool.and_eq_false_iff, Bool.or_eq_false_iff, Bool.not_eq_true', Bool.not_eq_false', Bool.not_eq_true, Bool.not_eq_false, Int.not_lt, Int.not_le, Decidable.not_not, ne_eq] at hc3
          refine Hd.skip ?_
          refine Hd.inB ?_
          refine Hd.inB ?_
          clear hK1 hK2 hK3 hK4 hK5 hK6 hK7 hK8 hK9 hK10 hK11
          refine Hd.reN ?_
          simp only [List.cons_append, List.nil_append]
          rw [hsn, if_neg (by unfold wantK; simp only [Bool.or_eq_true, Bool.and_eq_true, decide_eq_true_eq, Bool.not_eq_true']; intro h; omega)]
          exact (Ent.sep enn)
      ·
        try simp only [decide_eq_true_eq, decide_eq_false_iff_not, Bool.and_eq_true, Bool.or_eq_true, Bool.and_eq_false_iff, Bool.or_eq_false_iff, Bool.not_eq_true', Bool.not_eq_false', Bool.not_eq_true, Bool.not_eq_false, Int.not_lt, Int.not_le, Decidable.not_not, ne_eq] at hc2
        refine Hd.region ?_
        refine Hd.yv (y_move rfl) ?_
        first | (refine Hd.yv (y_eqlT rfl rfl) ?_) | (refine Hd.yv (y_eql rfl rfl) ?_)
        refine Hd.yv (y_move rfl) ?_
        apply Hd.andg 3 45 48 [(3, _), (4, _)] rfl ⟨rfl, rfl, trivial⟩
        · intro hg10_45
          try simp only [decide_eq_true_eq, decide_eq_false_iff_not, Bool.and_eq_true, Bool.or_eq_true, Bool.and_eq_false_iff, Bool.or_eq_false_iff, Bool.not_eq_true', Bool.not_eq_false', Bool.not_eq_true, Bool.not_eq_false, Int.not_lt, Int.not_le, Decidable.not_not, ne_eq] at hg10_45
          simp only [List.take]
          refine Hd.yg rfl rfl (y_move rfl) ?_
          refine Hd.yg rfl rfl (y_gtr rfl rfl) ?_
          first | (refine Hd.yv (y_pickT rfl rfl) ?_) | (refine Hd.yv (y_pickF rfl rfl) ?_) | (refine Hd.yv (y_pickb rfl rfl rfl) ?_) | (refine Hd.yv (y_pick rfl rfl rfl) ?_)
          refine Hd.nil ?_
          exact Hd.mend (by repeat (first | exact trivial | refine ⟨rfl, ?_⟩)) (Ent.sep enn)
        · intro hg10_45
          try simp only [decide_eq_true_eq, decide_eq_false_iff_not, Bool.and_eq_true, Bool.or_eq_true, Bool.and_eq_false_iff, Bool.or_eq_false_iff, Bool.not_eq_true', Bool.not_eq_false', Bool.not_eq_true, Bool.not_eq_false, Int.not_lt, Int.not_le, Decidable.not_not, ne_eq] at hg10_45
          simp only [List.take]
          refine Hd.ng rfl rfl rfl ?_
          refine Hd.ng rfl rfl rfl ?_
          first | (refine Hd.yv (y_pickT rfl rfl) ?_) | (refine Hd.yv (y_pickF rfl rfl) ?_) | (refine Hd.yv (y_pickb rfl rfl rfl) ?_) | (refine Hd.yv (y_pick rfl rfl rfl) ?_)
          refine Hd.nil ?_
          exact Hd.mend (by repeat (first | exact trivial | refine ⟨rfl, ?_⟩)) (Ent.sep enn)
        simp only [List.drop]
        refine Hd.yv (y_assign rfl) ?_
        refine Hd.nil ?_
        refine Hd.slots [(3, _), (4, _), (25, _)] ⟨rfl, rfl, rfl, trivial⟩ ?_
        refine Hd.toK hK10 ?_
        refine Hd.cond rfl (fun hc3 => ?_) (fun hc3 => ?_)
        ·
          try simp only [decide_eq_true_eq, decide_eq_false_iff_not, Bool.and_eq_true, Bool.or_eq_true, Bool.and_eq_false_iff, Bool.or_eq_false_iff, Bool.not_eq_true', Bool.not_eq_false', Bool.not_eq_true, Bool.not_eq_false, Int.not_lt, Int.not_le, Decidable.not_not, ne_eq] at hc3
          refine Hd.drawsH ([pt b3 [.int .i64 (waM x pre)] 3]) (fun j => !([4].contains j)) mixed ?_
          simp only [List.length, Nat.zero_add, Nat.reduceAdd]
          first | (refine Hd.takeH 0 rfl (by kernel_rfl) (by kernel_rfl) (by kernel_rfl) (by kernel_rfl) (y_load1 ag3 rfl (Rd.pt1 pkk (by (first | rfl)))) (fun _ _ => rfl) (Ent.sep enn) ?_) | (refine Hd.takeH 0 rfl (by kernel_rfl) (by kernel_rfl) (by kernel_rfl) (by kernel_rfl) (y_load1 ag3 rfl (Rd.seg1 pkk (by (first | rfl)))) (fun _ _ => rfl) (Ent.sep enn) ?_) | (refine Hd.takeH 0 rfl (by kernel_rfl) (by kernel_rfl) (by kernel_rfl) (by kernel_rfl) (y_load1 ag3 rfl (Rd.segK1 pkk (by decide) (by (first | rfl)))) (fun _ _ => rfl) (Ent.sep enn) ?_) | (refine Hd.takeH 0 rfl (by kernel_rfl) (by kernel_rfl) (by kernel_rfl) (by kernel_rfl) (y_loadR1 ag3 rfl (by (first | exact RdS.own pkk)) (by (first | rfl))) (fun _ _ => rfl) (Ent.sep enn) ?_)
          refine Hd.takeH 1 rfl (by kernel_rfl) (by kernel_rfl) (by kernel_rfl) (by kernel_rfl) (y_move rfl) (fun _ _ => rfl) (Ent.sep enn) ?_
          refine Hd.onlyH 2 rfl (by kernel_rfl) ?_
          refine Hd.callE rfl fk45 (flag_ct _ c) (Ent.sep enn) ?_
          intro _
          refine Hd.nil ?_
          refine Hd.thenN ?_
          refine Hd.heldK (J := (fun j => !([4].contains j))) (i := 2) (Ent.sep enn) ?_
          refine Hd.takeH 3 rfl (by kernel_rfl) (by kernel_rfl) (by kernel_rfl) (by kernel_rfl) (y_or rfl rfl) (fun _ _ => rfl) (Ent.sep enn) ?_
          refine Hd.onlyH 4 rfl (by kernel_rfl) ?_
          first | (refine Hd.store1 sz3 rfl rfl rfl pkk (by first | decide | (simp; done) | (simp; omega)) ?_) | (refine Hd.storeG1 sz3 rfl rfl rfl pkk (by first | decide | (simp; done) | (simp; omega)) ?_) | (refine Hd.storeO1 sz3 rfl rfl rfl pkk (by first | omega | (simp; done) | (simp; omega)) ?_) | (refine Hd.storeK1 sz3 rfl rfl rfl pkk (by decide) (by first | decide | (simp; done) | (simp; omega)) ?_)
          try simp only [List.set_cons_zero, List.set_cons_succ]
          refine Hd.nil ?_
          refine Hd.thenN ?_
          refine Hd.heldN (J := (fun j => !([4].contains j))) (i := 4) rfl ?_
          refine Hd.endH (by kernel_rfl) ?_
          refine Hd.slots [(3, _)] ⟨rfl, trivial⟩ ?_
          refine Hd.inB ?_
          refine Hd.inB ?_
          clear hK1 hK2 hK3 hK4 hK5 hK6 hK7 hK8 hK9 hK10 hK11
          refine Hd.reN ?_
          simp only [List.cons_append, List.nil_append]
          rw [hsn, if_pos (by unfold wantK; simp only [Bool.or_eq_true, Bool.and_eq_true, decide_eq_true_eq, Bool.not_eq_true']; exact ⟨hc1, by omega⟩)]
          exact (Ent.sep enn)
        ·
          try simp only [decide_eq_true_eq, decide_eq_false_iff_not, Bool.and_eq_true, Bool.or_eq_true, Bool.and_eq_false_iff, Bool.or_eq_false_iff, Bool.not_eq_true', Bool.not_eq_false', Bool.not_eq_true, Bool.not_eq_false, Int.not_lt, Int.not_le, Decidable.not_not, ne_eq] at hc3
          refine Hd.skip ?_
          refine Hd.inB ?_
          refine Hd.inB ?_
          clear hK1 hK2 hK3 hK4 hK5 hK6 hK7 hK8 hK9 hK10 hK11
          refine Hd.reN ?_
          simp only [List.cons_append, List.nil_append]
          rw [hsn, if_neg (by unfold wantK; simp only [Bool.or_eq_true, Bool.and_eq_true, decide_eq_true_eq, Bool.not_eq_true']; intro h; omega)]
          exact (Ent.sep enn)
  ·
    intro r0 ys hys
    obtain rfl : ys = sidesA (onM x (sidesA 6)) := hys
    try simp only [List.cons_append, List.nil_append]
    refine Hd.inB ?_
    refine Hd.toK hK5 ?_
    refine Hd.seq (fun K12 hK12 => ?_)
    refine Hd.region ?_
    first | (refine Hd.yv (y_load1 ag3 rfl (Rd.pt1 pkk (by (first | rfl)))) ?_) | (refine Hd.yv (y_load1 ag3 rfl (Rd.seg1 pkk (by (first | rfl)))) ?_) | (refine Hd.yv (y_load1 ag3 rfl (Rd.segK1 pkk (by decide) (by (first | rfl)))) ?_) | (refine Hd.yv (y_loadR1 ag3 rfl (by (first | exact RdS.own pkk)) (by (first | rfl))) ?_)
    refine Hd.yv (y_assign rfl) ?_
    refine Hd.nil ?_
    refine Hd.slots [(2, _)] ⟨rfl, trivial⟩ ?_
    refine Hd.toK hK12 ?_
    refine Hd.ret ?_
    clear hK1 hK2 hK3 hK4 hK5 hK6 hK12
    exact Hd.retM (fun a fr => Lv.mark pkk (Lv.end1 fr rfl () rfl (Ent.sep enn)))
  ·
    rintro r0_0 (_ | id0) pre0 hG0
    ·
      exact Hd.absurd (by first | exact id | simp)
    ·
      exact Hd.absurd (by first | exact id | simp)
/-- what is told -/
structure ToA where
  r : Bool
  w : Bool
  ev : Int
  e : Int
  i : Int
  o : Int
abbrev encT (t : ToA) : List Value := [.bool t.r, .bool t.w, .int .i64 t.ev, .int .i64 t.e, .int .i64 t.i, .int .i64 t.o]
def noT : ToA := ⟨false, false, 0, 0, 0, 0⟩
abbrev ToP (bt : Nat) (t : ToA) : SP := pt bt (encT t) 49
abbrev stopF (s : SdA) : SdA := { s with on := false, ended := true, at_ := NV }
def stopE (t : ToA) (e : Int) : Int := if t.e = 0 then e else t.e
abbrev stopT (t : ToA) (ev e : Int) : ToA := { t with ev := bits .or .i64 t.ev ev, e := stopE t e }
set_option maxHeartbeats 2000000 in
theorem stop_ct (L : List SP) (b k bt : Nat) (s : SdA) (t : ToA) (ev e : Int) : Ct Try.prog 62 #[.pointer (some ⟨b, 2 + k * 8, none⟩), .pointer (some ⟨bt, 0, none⟩), .int .i64 ev, .int .i64 e] (SdL b k s (ToP bt t :: L)) (fun _ : Unit => .tuple #[]) (fun _ : Unit => SdL b k (stopF s) (ToP bt (stopT t ev e) :: L)) := by
  refine Ct.of (vs := [.pointer (some ⟨b, 2 + k * 8, none⟩), .pointer (some ⟨bt, 0, none⟩), .int .i64 ev, .int .i64 e]) Try.func62 rfl rfl [(0, .pointer (some ⟨b, 2 + k * 8, none⟩)), (1, .pointer (some ⟨bt, 0, none⟩)), (2, .int .i64 ev), (3, .int .i64 e)] (by repeat (first | exact trivial | refine ⟨rfl, ?_⟩)) ?_
  intro E
  show Hd E 34 _ _ _ _
  refine Hd.seq (fun K1 hK1 => ?_)
  refine Hd.region ?_
  refine Hd.yv (y_move rfl) ?_
  refine Hd.yv (y_move rfl) ?_
  refine Hd.yv (y_move rfl) ?_
  refine Hd.yv (y_nilp rfl) ?_
  first | (refine Hd.yv (y_field' (q := 2) (ft := 4) Try.underlying91 rfl sz4 rfl rfl) ?_) | (refine Hd.yv (y_fieldR (q := 2) (ft := 4) Try.underlying91 rfl sz4 rfl rfl) ?_)
  first | (refine Hd.store1 sz4 rfl rfl rfl pkk (by first | decide | (simp; done) | (simp; omega)) ?_) | (refine Hd.storeG1 sz4 rfl rfl rfl pkk (by first | decide | (simp; done) | (simp; omega)) ?_) | (refine Hd.storeO1 sz4 rfl rfl rfl pkk (by first | omega | (simp; done) | (simp; omega)) ?_) | (refine Hd.storeK1 sz4 rfl rfl rfl pkk (by decide) (by first | decide | (simp; done) | (simp; omega)) ?_)
  try simp only [List.set_cons_zero, List.set_cons_succ]
  refine Hd.yv (y_nilp rfl) ?_
  first | (refine Hd.yv (y_field' (q := 3) (ft := 4) Try.underlying91 rfl sz4 rfl rfl) ?_) | (refine Hd.yv (y_fieldR (q := 3) (ft := 4) Try.underlying91 rfl sz4 rfl rfl) ?_)
  first | (refine Hd.store1 sz4 rfl rfl rfl pkk (by first | decide | (simp; done) | (simp; omega)) ?_) | (refine Hd.storeG1 sz4 rfl rfl rfl pkk (by first | decide | (simp; done) | (simp; omega)) ?_) | (refine Hd.storeO1 sz4 rfl rfl rfl pkk (by first | omega | (simp; done) | (simp; omega)) ?_) | (refine Hd.storeK1 sz4 rfl rfl rfl pkk (by decide) (by first | decide | (simp; done) | (simp; omega)) ?_)
  try simp only [List.set_cons_zero, List.set_cons_succ]
  refine Hd.yv (y_nilp rfl) ?_
  first | (refine Hd.yv (y_field' (q := 7) (ft := 35) Try.underlying91 rfl sz35 rfl rfl) ?_) | (refine Hd.yv (y_fieldR (q := 7) (ft := 35) Try.underlying91 rfl sz35 rfl rfl) ?_)
  first | (refine Hd.store1 sz35 rfl rfl rfl pkk (by first | decide | (simp; done) | (simp; omega)) ?_) | (refine Hd.storeG1 sz35 rfl rfl rfl pkk (by first | decide | (simp; done) | (simp; omega)) ?_) | (refine Hd.storeO1 sz35 rfl rfl rfl pkk (by first | omega | (simp; done) | (simp; omega)) ?_) | (refine Hd.storeK1 sz35 rfl rfl rfl pkk (by decide) (by first | decide | (simp; done) | (simp; omega)) ?_)
  try simp only [List.set_cons_zero, List.set_cons_succ]
  refine Hd.nil ?_
  refine Hd.slots [(1, _), (2, _), (3, _)] ⟨rfl, rfl, rfl, trivial⟩ ?_
  refine Hd.toK hK1 ?_
  refine Hd.seq (fun K2 hK2 => ?_)
  refine Hd.region ?_
  refine Hd.yv (y_move rfl) ?_
  refine Hd.yv (y_nilp rfl) ?_
  first | (refine Hd.yv (y_field' (q := 2) (ft := 3) Try.underlying49 rfl sz3 rfl rfl) ?_) | (refine Hd.yv (y_fieldR (q := 2) (ft := 3) Try.underlying49 rfl sz3 rfl rfl) ?_)
  first | (refine Hd.yv (y_load1 ag3 rfl (Rd.pt1 pkk (by (first | rfl)))) ?_) | (refine Hd.yv (y_load1 ag3 rfl (Rd.seg1 pkk (by (first | rfl)))) ?_) | (refine Hd.yv (y_load1 ag3 rfl (Rd.segK1 pkk (by decide) (by (first | rfl)))) ?_) | (refine Hd.yv (y_loadR1 ag3 rfl (by (first | exact RdS.own pkk)) (by (first | rfl))) ?_)
  refine Hd.yv (y_move rfl) ?_
  refine Hd.yv (y_or rfl rfl) ?_
  refine Hd.yv (y_nilp rfl) ?_
  first | (refine Hd.yv (y_field' (q := 2) (ft := 3) Try.underlying49 rfl sz3 rfl rfl) ?_) | (refine Hd.yv (y_fieldR (q := 2) (ft := 3) Try.underlying49 rfl sz3 rfl rfl) ?_)
  first | (refine Hd.store1 sz3 rfl rfl rfl pkk (by first | decide | (simp; done) | (simp; omega)) ?_) | (refine Hd.storeG1 sz3 rfl rfl rfl pkk (by first | decide | (simp; done) | (simp; omega)) ?_) | (refine Hd.storeO1 sz3 rfl rfl rfl pkk (by first | omega | (simp; done) | (simp; omega)) ?_) | (refine Hd.storeK1 sz3 rfl rfl rfl pkk (by decide) (by first | decide | (simp; done) | (simp; omega)) ?_)
  try simp only [List.set_cons_zero, List.set_cons_succ]
  refine Hd.nil ?_
  refine Hd.slots [(1, _), (3, _)] ⟨rfl, rfl, trivial⟩ ?_
  refine Hd.toK hK2 ?_
  refine Hd.seq (fun K3 hK3 => ?_)
  refine Hd.region ?_
  refine Hd.yv (y_move rfl) ?_
  refine Hd.yv (y_nilp rfl) ?_
  first | (refine Hd.yv (y_field' (q := 3) (ft := 27) Try.underlying49 rfl sz27 rfl rfl) ?_) | (refine Hd.yv (y_fieldR (q := 3) (ft := 27) Try.underlying49 rfl sz27 rfl rfl) ?_)
  first | (refine Hd.yv (y_load1 ag27 rfl (Rd.pt1 pkk (by (first | rfl)))) ?_) | (refine Hd.yv (y_load1 ag27 rfl (Rd.seg1 pkk (by (first | rfl)))) ?_) | (refine Hd.yv (y_load1 ag27 rfl (Rd.segK1 pkk (by decide) (by (first | rfl)))) ?_) | (refine Hd.yv (y_loadR1 ag27 rfl (by (first | exact RdS.own pkk)) (by (first | rfl))) ?_)
  first | (refine Hd.yv (y_eqlT rfl rfl) ?_) | (refine Hd.yv (y_eql rfl rfl) ?_)
  refine Hd.nil ?_
  refine Hd.slots [(1, _), (3, _), (29, _)] ⟨rfl, rfl, rfl, trivial⟩ ?_
  refine Hd.toK hK3 ?_
  refine Hd.cond rfl (fun hc0 => ?_) (fun hc0 => ?_)
  ·
    try simp only [decide_eq_true_eq, decide_eq_false_iff_not, Bool.and_eq_true, Bool.or_eq_true, Bool.and_eq_false_iff, Bool.or_eq_false_iff, Bool.not_eq_true', Bool.not_eq_false', Bool.not_eq_true, Bool.not_eq_false, Int.not_lt, Int.not_le, Decidable.not_not, ne_eq] at hc0
    refine Hd.region ?_
    refine Hd.yv (y_move rfl) ?_
    refine Hd.yv (y_move rfl) ?_
    refine Hd.yv (y_nilp rfl) ?_
    first | (refine Hd.yv (y_field' (q := 3) (ft := 27) Try.underlying49 rfl sz27 rfl rfl) ?_) | (refine Hd.yv (y_fieldR (q := 3) (ft := 27) Try.underlying49 rfl sz27 rfl rfl) ?_)
    first | (refine Hd.store1 sz27 rfl rfl rfl pkk (by first | decide | (simp; done) | (simp; omega)) ?_) | (refine Hd.storeG1 sz27 rfl rfl rfl pkk (by first | decide | (simp; done) | (simp; omega)) ?_) | (refine Hd.storeO1 sz27 rfl rfl rfl pkk (by first | omega | (simp; done) | (simp; omega)) ?_) | (refine Hd.storeK1 sz27 rfl rfl rfl pkk (by decide) (by first | decide | (simp; done) | (simp; omega)) ?_)
    try simp only [List.set_cons_zero, List.set_cons_succ]
    refine Hd.nil ?_
    refine Hd.slots [] trivial ?_
    clear hK1 hK2 hK3
    have h : stopE t e = e := by unfold stopE; rw [if_pos hc0]
    have hq : [Value.bool t.r, .bool t.w, .int .i64 (bits .or .i64 t.ev ev), .int .i64 (e), .int .i64 t.i, .int .i64 t.o] = encT (stopT t ev e) := by
      show _ = [Value.bool t.r, .bool t.w, .int .i64 (bits .or .i64 t.ev ev), .int .i64 (stopE t e), .int .i64 t.i, .int .i64 t.o]
      rw [h]
    exact Hd.end0 rfl () rfl (Ent.sep (.pick pkk (.eq pkk (segK_eq (by rfl)) (.eq pkk (pt_eq hq) enn))))
  ·
    try simp only [decide_eq_true_eq, decide_eq_false_iff_not, Bool.and_eq_true, Bool.or_eq_true, Bool.and_eq_false_iff, Bool.or_eq_false_iff, Bool.not_eq_true', Bool.not_eq_false', Bool.not_eq_true, Bool.not_eq_false, Int.not_lt, Int.not_le, Decidable.not_not, ne_eq] at hc0
    refine Hd.skip ?_
    clear hK1 hK2 hK3
    have h : stopE t e = t.e := by unfold stopE; rw [if_neg hc0]
    have hq : [Value.bool t.r, .bool t.w, .int .i64 (bits .or .i64 t.ev ev), .int .i64 (t.e), .int .i64 t.i, .int .i64 t.o] = encT (stopT t ev e) := by
      show _ = [Value.bool t.r, .bool t.w, .int .i64 (bits .or .i64 t.ev ev), .int .i64 (stopE t e), .int .i64 t.i, .int .i64 t.o]
      rw [h]
    exact Hd.end0 rfl () rfl (Ent.sep (.pick pkk (.eq pkk (segK_eq (by rfl)) (.eq pkk (pt_eq hq) enn))))
def lateK (now : Int) (s : SdA) : Bool := !(decide (s.at_ = NV) || decide (s.at_ > now))
def ltF (now : Int) (k : Nat) (s : SdA) : SdA := if lateK now s = true then offF k s else s
def lateT (x : BfA) (now : Int) (ks : List Nat) : Int := ks.foldl (fun m k => if lateK now (x.s k) = true then bits .or .i64 (bits .or .i64 m (if k = 0 then 1 else 2)) 64 else m) 0
theorem lateT_snoc (x : BfA) (now : Int) (ks : List Nat) (k : Nat) : lateT x now (ks ++ [k]) = if lateK now (x.s k) = true then bits .or .i64 (bits .or .i64 (lateT x now ks) (if k = 0 then 1 else 2)) 64 else lateT x now ks := by unfold lateT; rw [List.foldl_append]; rfl
set_option maxHeartbeats 2000000 in
theorem late_ct (L : List SP) (b wb : Nat) (x : BfA) (now : Int) : Ct Try.prog 22 #[.pointer (some ⟨b, 0, none⟩), .int .u64 now] (BufP b wb x :: L) (fun _ : Unit => .agg (encT { noT with ev := lateT x now (sidesA 6) }).toArray) (fun _ : Unit => BufP b wb (effB (ltF now) x (sidesA 6)) :: L) := by
  refine Ct.ofM (vs := [.pointer (some ⟨b, 0, none⟩), .int .u64 now]) Try.func22 rfl rfl [(0, .pointer (some ⟨b, 0, none⟩)), (1, .int .u64 now)] (by repeat (first | exact trivial | refine ⟨rfl, ?_⟩)) ?_
  intro E
  show Hd E 50 _ _ _ _
  refine Hd.bufK .here 0 (by omega) ?_
  refine Hd.seq (fun K1 hK1 => ?_)
  refine Hd.region ?_
  refine Hd.box rfl rfl (fun b3 => ?_)
  refine Hd.alloc zr49 (fun b4 => ?_)
  refine Hd.nil ?_
  refine Hd.slots [(0, _), (3, _), (4, _)] ⟨rfl, rfl, rfl, trivial⟩ ?_
  refine Hd.toK hK1 ?_
  refine Hd.seq (fun K2 hK2 => ?_)
  refine Hd.region ?_
  refine Hd.alloc zr49 (fun b5 => ?_)
  refine Hd.nil ?_
  refine Hd.slots [(0, _), (3, _), (4, _), (5, _)] ⟨rfl, rfl, rfl, rfl, trivial⟩ ?_
  refine Hd.toK hK2 ?_
  refine Hd.seq (fun K3 hK3 => ?_)
  refine Hd.seq (fun K4 hK4 => ?_)
  refine Hd.region ?_
  refine Hd.yv (y_move rfl) ?_
  refine Hd.callE rfl fk36 (bnone_ct _ b wb x.fd) (Ent.sep enn) ?_
  intro _
  refine Hd.heap (BufP b wb x :: pt b3 [.int .u64 now] 35 :: pt b4 (encT noT) 49 :: pt b5 (encT noT) 49 :: L) (fun q s => buf_close rfl rfl rfl q (Ent.sep (by refine Ent.pick pkk ?_; refine Ent.pick pkk ?_; refine Ent.pick pkk ?_; refine Ent.pick pkk ?_; refine Ent.pick pkk ?_; refine Ent.pick pkk ?_; refine Ent.pick pkk ?_; refine Ent.eq pkk (pt_eq (by rfl)) ?_; refine Ent.eq pkk (pt_eq (by rfl)) ?_; exact Ent.same) q s)) ?_
  refine Hd.nil ?_
  refine Hd.slots [(0, _), (3, _), (4, _), (5, _), (9, _)] ⟨rfl, rfl, rfl, rfl, rfl, trivial⟩ ?_
  refine Hd.toK hK4 ?_
  refine Hd.condF rfl ?_
  refine Hd.skip ?_
  refine Hd.toK hK3 ?_
  refine Hd.seq (fun K5 hK5 => ?_)
  refine Hd.seq (fun K6 hK6 => ?_)
  refine Hd.region ?_
  refine Hd.yv (y_move rfl) ?_
  refine Hd.callE rfl fk37 (some_ct _ (some ⟨b, 0, none⟩) 6) (Ent.sep enn) ?_
  rintro ⟨bb, bm⟩
  dsimp only
  refine Hd.nil ?_
  refine Hd.slots [(3, _), (4, _), (5, _), (12, _)] ⟨rfl, rfl, rfl, rfl, trivial⟩ ?_
  refine Hd.toK hK6 ?_
  refine Hd.block ?_
  refine Hd.rangeF (enc := encK b) (S := fun ys => ys = sidesA 6) (Sp := fun ys => ys <+: sidesA 6)
    (fun pre => BufP b wb (effB (ltF now) x pre) :: pt b5 (encT { noT with ev := lateT x now pre }) 49 :: pt b3 [.int .u64 now] 35 :: pt b4 (encT noT) 49 :: L) (fun _ _ => [pu False])
    rfl (by kernel_rfl) (fun _ => rfl) rfl (some_it b bb bm 6) (by rw [eff_nil]; refine Ent.sep ?_; refine Ent.pick pkk ?_; refine Ent.eq pkk (pt_eq (by rfl)) ?_; refine Ent.pick pkk ?_; refine Ent.pick pkk ?_; exact Ent.swap (L := [_, _])) ?_ ?_ ?_
  ·
    intro E l' R pre c N hR hG
    obtain ⟨hc, hcp⟩ := pre_new hG
    have hsn := eff_snoc (f := ltF now) (x := x) hcp
    have hls := lateT_snoc x now pre c
    unfold Rnd
    simp only [List.cons_append, List.nil_append, pz, encK]
    refine Hd.seq (fun K7 hK7 => ?_)
    refine Hd.region ?_
    refine Hd.yv (y_assign rfl) ?_
    refine Hd.nil ?_
    refine Hd.slots [(3, _), (4, _), (5, _), (6, _), (14, _)] ⟨rfl, rfl, rfl, rfl, rfl, trivial⟩ ?_
    refine Hd.toK hK7 ?_
    refine Hd.region ?_
    refine Hd.yv (y_assign rfl) ?_
    refine Hd.nil ?_
    refine Hd.slots [(3, _), (4, _), (5, _), (6, _), (7, _)] ⟨rfl, rfl, rfl, rfl, rfl, trivial⟩ ?_
    refine Hd.thenN ?_
    refine Hd.begin hR pkk ?_
    refine Hd.block ?_
    refine Hd.seq (fun K8 hK8 => ?_)
    refine Hd.seq (fun K9 hK9 => ?_)
    refine Hd.bufK (b := b) pkk c hc ?_
    rw [bfL_eff hcp]
    refine Hd.quiet mixed (by kernel_rfl) ?_
    refine Hq.yv (y_move rfl) ?_
    refine Hq.yv (y_nilp rfl) ?_
    first | (refine Hq.yv (y_field' (q := 7) (ft := 35) Try.underlying91 rfl sz35 rfl rfl) ?_) | (refine Hq.yv (y_fieldR (q := 7) (ft := 35) Try.underlying91 rfl sz35 rfl rfl) ?_)
    first | (refine Hq.yv (y_load1 ag35 rfl (Rd.pt1 pkk (by (first | rfl)))) ?_) | (refine Hq.yv (y_load1 ag35 rfl (Rd.seg1 pkk (by (first | rfl)))) ?_) | (refine Hq.yv (y_load1 ag35 rfl (Rd.segK1 pkk (by decide) (by (first | rfl)))) ?_) | (refine Hq.yv (y_loadR1 ag35 rfl (by (first | exact RdS.own pkk)) (by (first | rfl))) ?_)
    first | (refine Hq.yv (y_eqlT rfl rfl) ?_) | (refine Hq.yv (y_eql rfl rfl) ?_)
    refine Hq.yv (y_move rfl) ?_
    apply Hq.org 7 20 27 [(4, _), (5, _), (6, _), (7, _)] rfl ⟨rfl, rfl, rfl, rfl, trivial⟩
    · intro hg7_20
      try simp only [decide_eq_true_eq, decide_eq_false_iff_not, Bool.and_eq_true, Bool.or_eq_true, Bool.and_eq_false_iff, Bool.or_eq_false_iff, Bool.not_eq_true', Bool.not_eq_false', Bool.not_eq_true, Bool.not_eq_false, Int.not_lt, Int.not_le, Decidable.not_not, ne_eq] at hg7_20
      simp only [List.take]
      refine Hq.ng rfl rfl rfl ?_
      refine Hq.ng rfl rfl rfl ?_
      refine Hq.ng rfl rfl rfl ?_
      refine Hq.ng rfl rfl rfl ?_
      refine Hq.ng rfl rfl rfl ?_
      refine Hq.ng rfl rfl rfl ?_
      first | (refine Hq.yv (y_pickT rfl rfl) ?_) | (refine Hq.yv (y_pickF rfl rfl) ?_) | (refine Hq.yv (y_pickb rfl rfl rfl) ?_) | (refine Hq.yv (y_pick rfl rfl rfl) ?_)
      exact Hq.mend (by repeat (first | exact trivial | refine ⟨rfl, ?_⟩))
    · intro hg7_20
      try simp only [decide_eq_true_eq, decide_eq_false_iff_not, Bool.and_eq_true, Bool.or_eq_true, Bool.and_eq_false_iff, Bool.or_eq_false_iff, Bool.not_eq_true', Bool.not_eq_false', Bool.not_eq_true, Bool.not_eq_false, Int.not_lt, Int.not_le, Decidable.not_not, ne_eq] at hg7_20
      simp only [List.take]
      refine Hq.yg rfl rfl (y_move rfl) ?_
      refine Hq.yg rfl rfl (y_nilp rfl) ?_
      first | (refine Hq.yg rfl rfl (y_field' (q := 7) (ft := 35) Try.underlying91 rfl sz35 rfl rfl) ?_) | (refine Hq.yg rfl rfl (y_fieldR (q := 7) (ft := 35) Try.underlying91 rfl sz35 rfl rfl) ?_)
      first | (refine Hq.yg rfl rfl (y_load1 ag35 rfl (Rd.pt1 pkk (by (first | rfl)))) ?_) | (refine Hq.yg rfl rfl (y_load1 ag35 rfl (Rd.seg1 pkk (by (first | rfl)))) ?_) | (refine Hq.yg rfl rfl (y_load1 ag35 rfl (Rd.segK1 pkk (by decide) (by (first | rfl)))) ?_) | (refine Hq.yg rfl rfl (y_loadR1 ag35 rfl (by (first | exact RdS.own pkk)) (by (first | rfl))) ?_)
      first | (refine Hq.yg rfl rfl (y_load1 ag35 rfl (Rd.pt1 pkk (by (first | rfl)))) ?_) | (refine Hq.yg rfl rfl (y_load1 ag35 rfl (Rd.seg1 pkk (by (first | rfl)))) ?_) | (refine Hq.yg rfl rfl (y_load1 ag35 rfl (Rd.segK1 pkk (by decide) (by (first | rfl)))) ?_) | (refine Hq.yg rfl rfl (y_loadR1 ag35 rfl (by (first | exact RdS.own pkk)) (by (first | rfl))) ?_)
      refine Hq.yg rfl rfl (y_gtr rfl rfl) ?_
      first | (refine Hq.yv (y_pickT rfl rfl) ?_) | (refine Hq.yv (y_pickF rfl rfl) ?_) | (refine Hq.yv (y_pickb rfl rfl rfl) ?_) | (refine Hq.yv (y_pick rfl rfl rfl) ?_)
      exact Hq.mend (by repeat (first | exact trivial | refine ⟨rfl, ?_⟩))
    simp only [List.drop]
    refine Hq.nil ?_
    refine Hd.slots [(4, _), (5, _), (6, _), (7, _), (27, _)] ⟨rfl, rfl, rfl, rfl, rfl, trivial⟩ ?_
    refine Hd.toK hK9 ?_
    refine Hd.cond rfl (fun hc1 => ?_) (fun hc1 => ?_)
    ·
      try simp only [decide_eq_true_eq, decide_eq_false_iff_not, Bool.and_eq_true, Bool.or_eq_true, Bool.and_eq_false_iff, Bool.or_eq_false_iff, Bool.not_eq_true', Bool.not_eq_false', Bool.not_eq_true, Bool.not_eq_false, Int.not_lt, Int.not_le, Decidable.not_not, ne_eq] at hc1
      have hl : lateK now (x.s c) = false := by unfold lateK NV; simp only [Bool.not_eq_false', Bool.or_eq_true, decide_eq_true_eq]; omega
      have hf : ltF now c (x.s c) = x.s c := if_neg (by rw [hl]; simp)
      refine Hd.heap (BufP b wb ((effB (ltF now) x pre).up c fun _ => x.s c) :: _) (fun q s => buf_putK hc q (by rw [bfL_up hc]; exact Ent.sep enn q s)) ?_
      refine Hd.exit ?_
      refine Hd.thenExit ?_
      refine Hd.inBexit ?_
      clear hK1 hK2 hK3 hK4 hK5 hK6 hK7 hK8 hK9
      refine Hd.reN ?_
      simp only [List.cons_append, List.nil_append]
      rw [← hsn, hf, hls, if_neg (by rw [hl]; simp)]
      exact (Ent.sep enn)
    ·
      try simp only [decide_eq_true_eq, decide_eq_false_iff_not, Bool.and_eq_true, Bool.or_eq_true, Bool.and_eq_false_iff, Bool.or_eq_false_iff, Bool.not_eq_true', Bool.not_eq_false', Bool.not_eq_true, Bool.not_eq_false, Int.not_lt, Int.not_le, Decidable.not_not, ne_eq] at hc1
      have hl : lateK now (x.s c) = true := by unfold lateK NV; simp only [Bool.not_eq_true', Bool.or_eq_false_iff, decide_eq_false_iff_not]; omega
      have hf : ltF now c (x.s c) = offF c (x.s c) := if_pos hl
      refine Hd.skip ?_
      refine Hd.toK hK8 ?_
      refine Hd.seq (fun K10 hK10 => ?_)
      refine Hd.region ?_
      refine Hd.yv (y_move rfl) ?_
      refine Hd.yv (y_move rfl) ?_
      refine Hd.yv (y_nilp rfl) ?_
      first | (refine Hd.yv (y_field' (q := 2) (ft := 4) Try.underlying91 rfl sz4 rfl rfl) ?_) | (refine Hd.yv (y_fieldR (q := 2) (ft := 4) Try.underlying91 rfl sz4 rfl rfl) ?_)
      first | (refine Hd.store1 sz4 rfl rfl rfl pkk (by first | decide | (simp; done) | (simp; omega)) ?_) | (refine Hd.storeG1 sz4 rfl rfl rfl pkk (by first | decide | (simp; done) | (simp; omega)) ?_) | (refine Hd.storeO1 sz4 rfl rfl rfl pkk (by first | omega | (simp; done) | (simp; omega)) ?_) | (refine Hd.storeK1 sz4 rfl rfl rfl pkk (by decide) (by first | decide | (simp; done) | (simp; omega)) ?_)
      try simp only [List.set_cons_zero, List.set_cons_succ]
      refine Hd.yv (y_nilp rfl) ?_
      first | (refine Hd.yv (y_field' (q := 7) (ft := 35) Try.underlying91 rfl sz35 rfl rfl) ?_) | (refine Hd.yv (y_fieldR (q := 7) (ft := 35) Try.underlying91 rfl sz35 rfl rfl) ?_)
      first | (refine Hd.store1 sz35 rfl rfl rfl pkk (by first | decide | (simp; done) | (simp; omega)) ?_) | (refine Hd.storeG1 sz35 rfl rfl rfl pkk (by first | decide | (simp; done) | (simp; omega)) ?_) | (refine Hd.storeO1 sz35 rfl rfl rfl pkk (by first | omega | (simp; done) | (simp; omega)) ?_) | (refine Hd.storeK1 sz35 rfl rfl rfl pkk (by decide) (by first | decide | (simp; done) | (simp; omega)) ?_)
      try simp only [List.set_cons_zero, List.set_cons_succ]
      refine Hd.nil ?_
      refine Hd.heap (BufP b wb ((effB (ltF now) x pre).up c fun _ => offF c (x.s c)) :: _) (fun q s => buf_putK hc q (by rw [bfL_up hc]; exact Ent.sep enn q s)) ?_
      refine Hd.slots [(4, _), (5, _), (6, _)] ⟨rfl, rfl, rfl, trivial⟩ ?_
      refine Hd.toK hK10 ?_
      refine Hd.seq (fun K11 hK11 => ?_)
      refine Hd.seq (fun K12 hK12 => ?_)
      refine Hd.region ?_
      refine Hd.yv (y_move rfl) ?_
      refine Hd.nil ?_
      refine Hd.slots [(4, _), (5, _), (34, _)] ⟨rfl, rfl, rfl, trivial⟩ ?_
      refine Hd.toK hK12 ?_
      refine Hd.block ?_
      refine Hd.seq (fun K13 hK13 => ?_)
      refine Hd.region ?_
      first | (refine Hd.yv (y_eqlT rfl rfl) ?_) | (refine Hd.yv (y_eql rfl rfl) ?_)
      refine Hd.yv (y_assign rfl) ?_
      refine Hd.nil ?_
      refine Hd.slots [(4, _), (5, _), (39, _)] ⟨rfl, rfl, rfl, trivial⟩ ?_
      refine Hd.toK hK13 ?_
      refine Hd.cond rfl (fun hc2 => ?_) (fun hc2 => ?_)
      ·
        try simp only [decide_eq_true_eq, decide_eq_false_iff_not, Bool.and_eq_true, Bool.or_eq_true, Bool.and_eq_false_iff, Bool.or_eq_false_iff, Bool.not_eq_true', Bool.not_eq_false', Bool.not_eq_true, Bool.not_eq_false, Int.not_lt, Int.not_le, Decidable.not_not, ne_eq] at hc2
        have hz : (if c = 0 then (1 : Int) else 2) = 1 := if_pos (by omega)
        refine Hd.region ?_
        first | (refine Hd.yv (y_field' (q := 2) (ft := 3) Try.underlying49 rfl sz3 rfl rfl) ?_) | (refine Hd.yv (y_fieldR (q := 2) (ft := 3) Try.underlying49 rfl sz3 rfl rfl) ?_)
        first | (refine Hd.yv (y_load1 ag3 rfl (Rd.pt1 pkk (by (first | rfl)))) ?_) | (refine Hd.yv (y_load1 ag3 rfl (Rd.seg1 pkk (by (first | rfl)))) ?_) | (refine Hd.yv (y_load1 ag3 rfl (Rd.segK1 pkk (by decide) (by (first | rfl)))) ?_) | (refine Hd.yv (y_loadR1 ag3 rfl (by (first | exact RdS.own pkk)) (by (first | rfl))) ?_)
        refine Hd.yv (y_or rfl rfl) ?_
        first | (refine Hd.yv (y_field' (q := 2) (ft := 3) Try.underlying49 rfl sz3 rfl rfl) ?_) | (refine Hd.yv (y_fieldR (q := 2) (ft := 3) Try.underlying49 rfl sz3 rfl rfl) ?_)
        first | (refine Hd.store1 sz3 rfl rfl rfl pkk (by first | decide | (simp; done) | (simp; omega)) ?_) | (refine Hd.storeG1 sz3 rfl rfl rfl pkk (by first | decide | (simp; done) | (simp; omega)) ?_) | (refine Hd.storeO1 sz3 rfl rfl rfl pkk (by first | omega | (simp; done) | (simp; omega)) ?_) | (refine Hd.storeK1 sz3 rfl rfl rfl pkk (by decide) (by first | decide | (simp; done) | (simp; omega)) ?_)
        try simp only [List.set_cons_zero, List.set_cons_succ]
        refine Hd.nil ?_
        refine Hd.slots [(4, _), (5, _)] ⟨rfl, rfl, trivial⟩ ?_
        refine Hd.inB ?_
        refine Hd.toK hK11 ?_
        refine Hd.region ?_
        first | (refine Hd.yv (y_field' (q := 2) (ft := 3) Try.underlying49 rfl sz3 rfl rfl) ?_) | (refine Hd.yv (y_fieldR (q := 2) (ft := 3) Try.underlying49 rfl sz3 rfl rfl) ?_)
        first | (refine Hd.yv (y_load1 ag3 rfl (Rd.pt1 pkk (by (first | rfl)))) ?_) | (refine Hd.yv (y_load1 ag3 rfl (Rd.seg1 pkk (by (first | rfl)))) ?_) | (refine Hd.yv (y_load1 ag3 rfl (Rd.segK1 pkk (by decide) (by (first | rfl)))) ?_) | (refine Hd.yv (y_loadR1 ag3 rfl (by (first | exact RdS.own pkk)) (by (first | rfl))) ?_)
        refine Hd.yv (y_or rfl rfl) ?_
        first | (refine Hd.yv (y_field' (q := 2) (ft := 3) Try.underlying49 rfl sz3 rfl rfl) ?_) | (refine Hd.yv (y_fieldR (q := 2) (ft := 3) Try.underlying49 rfl sz3 rfl rfl) ?_)
        first | (refine Hd.store1 sz3 rfl rfl rfl pkk (by first | decide | (simp; done) | (simp; omega)) ?_) | (refine Hd.storeG1 sz3 rfl rfl rfl pkk (by first | decide | (simp; done) | (simp; omega)) ?_) | (refine Hd.storeO1 sz3 rfl rfl rfl pkk (by first | omega | (simp; done) | (simp; omega)) ?_) | (refine Hd.storeK1 sz3 rfl rfl rfl pkk (by decide) (by first | decide | (simp; done) | (simp; omega)) ?_)
        try simp only [List.set_cons_zero, List.set_cons_succ]
        refine Hd.nil ?_
        refine Hd.slots [(4, _), (5, _)] ⟨rfl, rfl, trivial⟩ ?_
        refine Hd.inB ?_
        clear hK1 hK2 hK3 hK4 hK5 hK6 hK7 hK8 hK9 hK10 hK11 hK12 hK13
        refine Hd.reN ?_
        simp only [List.cons_append, List.nil_append]
        rw [← hsn, hf, hls, if_pos hl, hz]
        exact (Ent.sep enn)
      ·
        try simp only [decide_eq_true_eq, decide_eq_false_iff_not, Bool.and_eq_true, Bool.or_eq_true, Bool.and_eq_false_iff, Bool.or_eq_false_iff, Bool.not_eq_true', Bool.not_eq_false', Bool.not_eq_true, Bool.not_eq_false, Int.not_lt, Int.not_le, Decidable.not_not, ne_eq] at hc2
        have hz : (if c = 0 then (1 : Int) else 2) = 2 := if_neg (by omega)
        refine Hd.region ?_
        first | (refine Hd.yv (y_field' (q := 2) (ft := 3) Try.underlying49 rfl sz3 rfl rfl) ?_) | (refine Hd.yv (y_fieldR (q := 2) (ft := 3) Try.underlying49 rfl sz3 rfl rfl) ?_)
        first | (refine Hd.yv (y_load1 ag3 rfl (Rd.pt1 pkk (by (first | rfl)))) ?_) | (refine Hd.yv (y_load1 ag3 rfl (Rd.seg1 pkk (by (first | rfl)))) ?_) | (refine Hd.yv (y_load1 ag3 rfl (Rd.segK1 pkk (by decide) (by (first | rfl)))) ?_) | (refine Hd.yv (y_loadR1 ag3 rfl (by (first | exact RdS.own pkk)) (by (first | rfl))) ?_)
        refine Hd.yv (y_or rfl rfl) ?_
        first | (refine Hd.yv (y_field' (q := 2) (ft := 3) Try.underlying49 rfl sz3 rfl rfl) ?_) | (refine Hd.yv (y_fieldR (q := 2) (ft := 3) Try.underlying49 rfl sz3 rfl rfl) ?_)
        first | (refine Hd.store1 sz3 rfl rfl rfl pkk (by first | decide | (simp; done) | (simp; omega)) ?_) | (refine Hd.storeG1 sz3 rfl rfl rfl pkk (by first | decide | (simp; done) | (simp; omega)) ?_) | (refine Hd.storeO1 sz3 rfl rfl rfl pkk (by first | omega | (simp; done) | (simp; omega)) ?_) | (refine Hd.storeK1 sz3 rfl rfl rfl pkk (by decide) (by first | decide | (simp; done) | (simp; omega)) ?_)
        try simp only [List.set_cons_zero, List.set_cons_succ]
        refine Hd.nil ?_
        refine Hd.slots [(4, _), (5, _)] ⟨rfl, rfl, trivial⟩ ?_
        refine Hd.inB ?_
        refine Hd.toK hK11 ?_
        refine Hd.region ?_
        first | (refine Hd.yv (y_field' (q := 2) (ft := 3) Try.underlying49 rfl sz3 rfl rfl) ?_) | (refine Hd.yv (y_fieldR (q := 2) (ft := 3) Try.underlying49 rfl sz3 rfl rfl) ?_)
        first | (refine Hd.yv (y_load1 ag3 rfl (Rd.pt1 pkk (by (first | rfl)))) ?_) | (refine Hd.yv (y_load1 ag3 rfl (Rd.seg1 pkk (by (first | rfl)))) ?_) | (refine Hd.yv (y_load1 ag3 rfl (Rd.segK1 pkk (by decide) (by (first | rfl)))) ?_) | (refine Hd.yv (y_loadR1 ag3 rfl (by (first | exact RdS.own pkk)) (by (first | rfl))) ?_)
        refine Hd.yv (y_or rfl rfl) ?_
        first | (refine Hd.yv (y_field' (q := 2) (ft := 3) Try.underlying49 rfl sz3 rfl rfl) ?_) | (refine Hd.yv (y_fieldR (q := 2) (ft := 3) Try.underlying49 rfl sz3 rfl rfl) ?_)
        first | (refine Hd.store1 sz3 rfl rfl rfl pkk (by first | decide | (simp; done) | (simp; omega)) ?_) | (refine Hd.storeG1 sz3 rfl rfl rfl pkk (by first | decide | (simp; done) | (simp; omega)) ?_) | (refine Hd.storeO1 sz3 rfl rfl rfl pkk (by first | omega | (simp; done) | (simp; omega)) ?_) | (refine Hd.storeK1 sz3 rfl rfl rfl pkk (by decide) (by first | decide | (simp; done) | (simp; omega)) ?_)
        try simp only [List.set_cons_zero, List.set_cons_succ]
        refine Hd.nil ?_
        refine Hd.slots [(4, _), (5, _)] ⟨rfl, rfl, trivial⟩ ?_
        refine Hd.inB ?_
        clear hK1 hK2 hK3 hK4 hK5 hK6 hK7 hK8 hK9 hK10 hK11 hK12 hK13
        refine Hd.reN ?_
        simp only [List.cons_append, List.nil_append]
        rw [← hsn, hf, hls, if_pos hl, hz]
        exact (Ent.sep enn)
  ·
    intro r0 ys hys
    obtain rfl : ys = sidesA 6 := hys
    try simp only [List.cons_append, List.nil_append]
    refine Hd.inB ?_
    refine Hd.toK hK5 ?_
    refine Hd.seq (fun K14 hK14 => ?_)
    refine Hd.region ?_
    refine Hd.yv (y_loadn (us := encT { noT with ev := lateT x now (sidesA 6) }) ag49 rfl (Rd.pt pkk (fun j v e => by rw [Nat.zero_add]; exact e)) (by exact sz49)) ?_
    refine Hd.storeA (us := encT { noT with ev := lateT x now (sidesA 6) }) sz49 rfl rfl rfl (by simp [Value.oneCell']) pkk (by exact rfl) ?_
    refine Hd.nil ?_
    refine Hd.slots [(4, _)] ⟨rfl, trivial⟩ ?_
    refine Hd.toK hK14 ?_
    refine Hd.ret ?_
    clear hK1 hK2 hK3 hK4 hK5 hK6 hK14
    exact Hd.retM (fun a fr => Lv.mark pkk (Lv.endC fr rfl () ag49 rfl (Rd.pt (us := encT { noT with ev := lateT x now (sidesA 6) }) pkk (fun j v e => by rw [Nat.zero_add]; exact e)) (by exact sz49) rfl (Ent.sep enn)))
  ·
    rintro r0_0 (_ | id0) pre0 hG0
    ·
      exact Hd.absurd (by first | exact id | simp)
    ·
      exact Hd.absurd (by first | exact id | simp)
end Bu
end Go.Proofs.Ytmpemhbfgbochaa
