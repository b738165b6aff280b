/-
  The law ChainPlays: a call.
-/
import Derived.Test.YtgifpkpkkgkfeaaBd3
namespace Go.Proofs.Ytgifpkpkkgkfeaa
set_option linter.unusedSimpArgs false
set_option linter.unusedVariables false
set_option linter.unnecessarySimpa false
open Go.RX Fx
namespace Bc
theorem OpOk.mono {L M : List SP} {o : Opv} (h : OpOk L o) (hm : ∀ k, sep M k → sep L k) : OpOk M o := ⟨h.rd.mono hm, h.nn, h.f, h.mm, h.wh⟩
theorem bsl_ints (l : List UInt8) : bsl l = (l.map fun x => ((x.toNat : Nat) : Int)).map (Value.int .u8) := by simp [B]
theorem ints_at {zs : List Int} {i : Nat} (h : i < zs.length) : (zs.map (Value.int .u8))[i * 1]? = some (.int .u8 zs[i]) := by simp [h]
theorem cpy_le (l : List UInt8) (f n : Int) : (cpy l f n).length ≤ l.length := by
  unfold cpy; split
  · simp
  · rw [List.length_take, List.length_drop]; omega
theorem pullB_le (l : List UInt8) (n : Int) : (pullB l n).length ≤ l.length := by
  unfold pullB; split
  · rw [List.length_take]; omega
  · simp
set_option maxHeartbeats 2000000 in
theorem do_ct (L : List SP) (b1 b2 b3 b4 : Nat) (rs1 rs2 : List Row) (hg1 : Good rs1) (hg2 : Good rs2) (hne : NeP Try.prog L ⟨b1, 0, none⟩ ⟨b2, 0, none⟩) (o : Opv) (ho : OpOk L o) (hwl : o.w.length ≤ 3000) : Ct Try.prog 27 #[.pointer (some ⟨b1, 0, none⟩), .pointer (some ⟨b2, 0, none⟩), .pointer (some ⟨b3, 0, none⟩), .pointer (some ⟨b4, 0, none⟩), aggO o] (Ch b1 0 rs1 :: Ch b2 0 rs2 :: Rf b3 0 (flat rs1) :: Rf b4 0 (flat rs2) :: L) (fun q_ : List Row × List Row => .bool true) (fun q_ : List Row × List Row => pu (Good q_.1 ∧ Good q_.2) :: Ch b1 0 q_.1 :: Ch b2 0 q_.2 :: Rf b3 0 (flat q_.1) :: Rf b4 0 (flat q_.2) :: L) := by
  refine Ct.of (vs := [.pointer (some ⟨b1, 0, none⟩), .pointer (some ⟨b2, 0, none⟩), .pointer (some ⟨b3, 0, none⟩), .pointer (some ⟨b4, 0, none⟩), aggO o]) Try.func27 rfl rfl [(0, .pointer (some ⟨b1, 0, none⟩)), (1, .pointer (some ⟨b2, 0, none⟩)), (2, .pointer (some ⟨b3, 0, none⟩)), (3, .pointer (some ⟨b4, 0, none⟩)), (4, aggO o)] (by repeat (first | exact trivial | refine ⟨rfl, ?_⟩)) ?_
  intro E
  show Hd E 274 _ _ _ _
  have hl1 := hg1.2
  have hl2 := hg2.2
  have hnn := ho.nn
  have hff := ho.f
  have hnn' := hnn
  simp only [InK] at hnn'
  refine Hd.seq (fun K1 hK1 => ?_)
  refine Hd.region ?_
  refine Hd.box rfl rfl (fun b9 => ?_)
  refine Hd.yv (y_assign rfl) ?_
  refine Hd.nil ?_
  refine Hd.slots [(0, _), (1, _), (2, _), (3, _), (9, _)] ⟨rfl, rfl, rfl, rfl, rfl, trivial⟩ ?_
  refine Hd.toK hK1 ?_
  refine Hd.seq (fun K2 hK2 => ?_)
  refine Hd.region ?_
  first | (refine Hd.yv (y_loadn (us := [_, _, _, _, _, _]) ag36 rfl (Rd.pt pkk (by (first | (intro j v e; rcases j with _|_|_|_|_|_|_|_|_|_|_|_|j <;> first | exact e | exact absurd e (by simp))))) (by exact sz36)) ?_) | (refine Hd.yv (y_loadn (us := [_, _, _, _, _, _]) ag36 rfl (Rd.seg pkk (by (first | (intro j v e; rcases j with _|_|_|_|_|_|_|_|_|_|_|_|j <;> first | exact e | exact absurd e (by simp))))) (by exact sz36)) ?_) | (refine Hd.yv (y_loadRn ag36 rfl (by (first | exact RdS.own pkk | exact RdS.mono hQ4 (Ent.sep enn) | exact RdS.mono hQ5 (Ent.sep enn))) (by (first | (intro j v e; rcases j with _|_|_|_|_|_|_|_|_|_|_|_|j <;> first | exact e | exact absurd e (by simp)))) (by exact sz36) (by simp)) ?_)
  refine Hd.call rfl fk61 (bytes_ct _ o (ho.mono (Ent.sep enn)) hwl) ?_
  rintro ⟨a, c⟩
  dsimp only
  have hbb := btsOf_le (mm := o.mm) hwl
  revert hbb
  generalize btsOf o.w o.mm = bb
  intro hbb
  refine Hd.ownCap (e := 5) (ad := a) (m := bb.length) (cap := c) pkk (fun hcap => ?_)
  refine Hd.yv (y_assign rfl) ?_
  refine Hd.nil ?_
  refine Hd.slots [(0, _), (1, _), (2, _), (3, _), (9, _), (11, _)] ⟨rfl, rfl, rfl, rfl, rfl, rfl, trivial⟩ ?_
  refine Hd.toK hK2 ?_
  refine Hd.seq (fun K3 hK3 => ?_)
  refine Hd.region ?_
  refine Hd.yv (y_move rfl) ?_
  refine Hd.yv (y_strOf (l := _) (by kernel_rfl) Try.underlying9 rfl (by (first | exact RdS.own pkk | exact RdS.mono hQ4 (Ent.sep enn) | exact RdS.mono hQ5 (Ent.sep enn)))) ?_
  refine Hd.yv (y_assign rfl) ?_
  refine Hd.nil ?_
  refine Hd.slots [(0, _), (1, _), (2, _), (3, _), (9, _), (11, _), (12, _)] ⟨rfl, rfl, rfl, rfl, rfl, rfl, rfl, trivial⟩ ?_
  refine Hd.toK hK3 ?_
  refine Hd.seq (fun K4 hK4 => ?_)
  refine Hd.region ?_
  refine Hd.yv (y_assign rfl) ?_
  refine Hd.nil ?_
  refine Hd.slots [(0, _), (1, _), (2, _), (3, _), (9, _), (11, _), (12, _), (13, _)] ⟨rfl, rfl, rfl, rfl, rfl, rfl, rfl, rfl, trivial⟩ ?_
  refine Hd.toK hK4 ?_
  refine Hd.seq (fun K5 hK5 => ?_)
  refine Hd.region ?_
  refine Hd.yv (y_assign rfl) ?_
  refine Hd.nil ?_
  refine Hd.slots [(0, _), (1, _), (2, _), (3, _), (9, _), (11, _), (12, _), (13, _), (14, _)] ⟨rfl, rfl, rfl, rfl, rfl, rfl, rfl, rfl, rfl, trivial⟩ ?_
  refine Hd.toK hK5 ?_
  refine Hd.seq (fun K6 hK6 => ?_)
  refine Hd.region ?_
  refine Hd.yv (y_assign rfl) ?_
  refine Hd.nil ?_
  refine Hd.slots [(0, _), (1, _), (2, _), (3, _), (9, _), (11, _), (12, _), (13, _), (14, _), (15, _)] ⟨rfl, rfl, rfl, rfl, rfl, rfl, rfl, rfl, rfl, rfl, trivial⟩ ?_
  refine Hd.toK hK6 ?_
  refine Hd.cutK (ι := List Row × List Row × Option Addr × Nat × List UInt8) [(11, _)] (fun j => [(13, .bool true), (14, .slice j.2.2.1 j.2.2.2.2.length j.2.2.2.1), (15, .string (str j.2.2.2.2))]) (fun j => pu (Good j.1 ∧ Good j.2.1 ∧ j.2.2.2.2.length ≤ 1048576) :: own 5 1 j.2.2.1 j.2.2.2.2.length j.2.2.2.1 (bsl j.2.2.2.2) :: own 5 1 a bb.length c (bsl bb) :: Ch b1 0 j.1 :: Ch b2 0 j.2.1 :: Rf b3 0 (flat j.1) :: Rf b4 0 (flat j.2.1) :: L) ?_ ?_ ⟨rfl, trivial⟩
  ·
    refine Hd.seq (fun K7 hK7 => ?_)
    refine Hd.region ?_
    first | (refine Hd.yv (y_field' (q := 0) (ft := 3) Try.underlying36 rfl sz3 rfl rfl) ?_) | (refine Hd.yv (y_fieldR (q := 0) (ft := 3) Try.underlying36 rfl sz3 rfl rfl) ?_)
    first | (refine Hd.yv (y_load1 ag3 rfl (Rd.pt1 pkk (by (first | exact ints_at hi | exact (by rw [hr0]; rfl : (lens r1)[0 * 1]? = some (V (r0.l.length : Int))) | rfl)))) ?_) | (refine Hd.yv (y_load1 ag3 rfl (Rd.seg1 pkk (by (first | exact ints_at hi | exact (by rw [hr0]; rfl : (lens r1)[0 * 1]? = some (V (r0.l.length : Int))) | rfl)))) ?_) | (refine Hd.yv (y_loadR1 ag3 rfl (by (first | exact RdS.own pkk | exact RdS.mono hQ4 (Ent.sep enn) | exact RdS.mono hQ5 (Ent.sep enn))) (by (first | exact ints_at hi | exact (by rw [hr0]; rfl : (lens r1)[0 * 1]? = some (V (r0.l.length : Int))) | rfl))) ?_)
    refine Hd.nil ?_
    refine Hd.slots [(0, _), (1, _), (2, _), (3, _), (9, _), (11, _), (12, _), (13, _), (14, _), (15, _), (44, _)] ⟨rfl, rfl, rfl, rfl, rfl, rfl, rfl, rfl, rfl, rfl, rfl, trivial⟩ ?_
    refine Hd.toK hK7 ?_
    refine Hd.block ?_
    refine Hd.seq (fun K8 hK8 => ?_)
    refine Hd.region ?_
    first | (refine Hd.yv (y_eqlT rfl rfl) ?_) | (refine Hd.yv (y_eql rfl rfl) ?_)
    refine Hd.yv (y_assign rfl) ?_
    refine Hd.nil ?_
    refine Hd.slots [(0, _), (1, _), (2, _), (3, _), (9, _), (11, _), (12, _), (13, _), (14, _), (15, _), (44, _), (45, _)] ⟨rfl, rfl, rfl, rfl, rfl, rfl, rfl, rfl, rfl, rfl, rfl, rfl, trivial⟩ ?_
    refine Hd.toK hK8 ?_
    refine Hd.cond rfl (fun hc0 => ?_) (fun hc0 => ?_)
    ·
      try simp only [decide_eq_true_eq, decide_eq_false_iff_not, Bool.and_eq_true, Bool.or_eq_true, Bool.and_eq_false_iff, Bool.or_eq_false_iff, Bool.not_eq_true', Bool.not_eq_false', Bool.not_eq_true, Bool.not_eq_false, Int.not_lt, Int.not_le, Decidable.not_not, ne_eq] at hc0
      refine Hd.seq (fun K9 hK9 => ?_)
      refine Hd.region ?_
      refine Hd.yv (y_move rfl) ?_
      refine Hd.yv (y_move rfl) ?_
      refine Hd.callE rfl fk19 (add_ct (own 5 1 a bb.length c (bsl bb) :: Ch b2 0 rs2 :: Rf b3 0 (flat rs1) :: Rf b4 0 (flat rs2) :: L) b1 0 rs1 hg1 a bb.length c bb (RdS.own .here) hcap (by omega)) (Ent.sep enn) ?_
      intro r1
      refine Hd.pure (fun h1 => ?_)
      refine Hd.yv (y_assign rfl) ?_
      refine Hd.nil ?_
      refine Hd.slots [(2, _), (11, _), (12, _), (14, _), (15, _), (16, _)] ⟨rfl, rfl, rfl, rfl, rfl, rfl, trivial⟩ ?_
      refine Hd.toK hK9 ?_
      refine Hd.region ?_
      refine Hd.yv (y_move rfl) ?_
      refine Hd.yv (y_move rfl) ?_
      refine Hd.yv (y_move rfl) ?_
      refine Hd.bytesOf Try.underlying9 Try.underlying22 Try.underlying5 rfl (by first | assumption | (simp only [maxLen]; omega)) (fun ad53 cap53 => ?_)
      refine Hd.callE rfl fk62 (radd_ct (own 5 1 a bb.length c (bsl bb) :: Ch b1 0 r1 :: Ch b2 0 rs2 :: Rf b4 0 (flat rs2) :: own 5 1 ad53 bb.length cap53 (bsl bb) :: L) b3 0 (flat rs1) hl1 ad53 cap53 bb (RdS.own pkk) (by omega)) (Ent.sep enn) ?_
      intro l1
      refine Hd.pure (fun h2 => ?_)
      first | (refine Hd.yv (y_to (y_eqlT rfl rfl) (congrArg Value.bool (decide_eq_true (rfl)))) ?_) | (refine Hd.yv (y_to (y_eql rfl rfl) (congrArg Value.bool (decide_eq_true (rfl)))) ?_)
      refine Hd.yv (y_assign rfl) ?_
      refine Hd.nil ?_
      refine Hd.slots [(11, _), (13, _), (14, _), (15, _)] ⟨rfl, rfl, rfl, rfl, trivial⟩ ?_
      refine Hd.inB ?_
      clear hK1 hK2 hK3 hK4 hK5 hK6 hK7 hK8 hK9
      refine Hd.thenN ?_
      exact Hd.meet (r1, rs2, none, 0, []) (by repeat (first | exact trivial | refine ⟨rfl, ?_⟩)) (Ent.sep (.pure ⟨h1.1, hg2, Nat.zero_le _⟩ (.ownNil (.pick pkk (.pick pkk (.pick pkk (.eq pkk (rf_eq (h2.trans h1.2.symm)) enn)))))))
    ·
      try simp only [decide_eq_true_eq, decide_eq_false_iff_not, Bool.and_eq_true, Bool.or_eq_true, Bool.and_eq_false_iff, Bool.or_eq_false_iff, Bool.not_eq_true', Bool.not_eq_false', Bool.not_eq_true, Bool.not_eq_false, Int.not_lt, Int.not_le, Decidable.not_not, ne_eq] at hc0
      refine Hd.seq (fun K10 hK10 => ?_)
      refine Hd.region ?_
      first | (refine Hd.yv (y_eqlT rfl rfl) ?_) | (refine Hd.yv (y_eql rfl rfl) ?_)
      refine Hd.yv (y_assign rfl) ?_
      refine Hd.nil ?_
      refine Hd.slots [(0, _), (1, _), (2, _), (3, _), (9, _), (11, _), (12, _), (13, _), (14, _), (15, _), (44, _), (56, _)] ⟨rfl, rfl, rfl, rfl, rfl, rfl, rfl, rfl, rfl, rfl, rfl, rfl, trivial⟩ ?_
      refine Hd.toK hK10 ?_
      refine Hd.cond rfl (fun hc1 => ?_) (fun hc1 => ?_)
      ·
        try simp only [decide_eq_true_eq, decide_eq_false_iff_not, Bool.and_eq_true, Bool.or_eq_true, Bool.and_eq_false_iff, Bool.or_eq_false_iff, Bool.not_eq_true', Bool.not_eq_false', Bool.not_eq_true, Bool.not_eq_false, Int.not_lt, Int.not_le, Decidable.not_not, ne_eq] at hc1
        refine Hd.seq (fun K11 hK11 => ?_)
        refine Hd.region ?_
        refine Hd.yv (y_move rfl) ?_
        refine Hd.yv (y_move rfl) ?_
        refine Hd.callE rfl fk16 (ahead_ct (own 5 1 a bb.length c (bsl bb) :: Ch b2 0 rs2 :: Rf b3 0 (flat rs1) :: Rf b4 0 (flat rs2) :: L) b1 0 rs1 hg1 a bb.length c bb (RdS.own .here) hcap (by omega)) (Ent.sep enn) ?_
        intro r1
        refine Hd.pure (fun h1 => ?_)
        refine Hd.yv (y_assign rfl) ?_
        refine Hd.nil ?_
        refine Hd.slots [(2, _), (11, _), (12, _), (14, _), (15, _), (17, _)] ⟨rfl, rfl, rfl, rfl, rfl, rfl, trivial⟩ ?_
        refine Hd.toK hK11 ?_
        refine Hd.region ?_
        refine Hd.yv (y_move rfl) ?_
        refine Hd.yv (y_move rfl) ?_
        refine Hd.yv (y_move rfl) ?_
        refine Hd.bytesOf Try.underlying9 Try.underlying22 Try.underlying5 rfl (by first | assumption | (simp only [maxLen]; omega)) (fun ad64 cap64 => ?_)
        refine Hd.callE rfl fk63 (rahead_ct (own 5 1 a bb.length c (bsl bb) :: Ch b1 0 r1 :: Ch b2 0 rs2 :: Rf b4 0 (flat rs2) :: own 5 1 ad64 bb.length cap64 (bsl bb) :: L) b3 0 (flat rs1) hl1 ad64 cap64 bb (RdS.own pkk) (by omega)) (Ent.sep enn) ?_
        intro l1
        refine Hd.pure (fun h2 => ?_)
        first | (refine Hd.yv (y_to (y_eqlT rfl rfl) (congrArg Value.bool (decide_eq_true (rfl)))) ?_) | (refine Hd.yv (y_to (y_eql rfl rfl) (congrArg Value.bool (decide_eq_true (rfl)))) ?_)
        refine Hd.yv (y_assign rfl) ?_
        refine Hd.nil ?_
        refine Hd.slots [(11, _), (13, _), (14, _), (15, _)] ⟨rfl, rfl, rfl, rfl, trivial⟩ ?_
        refine Hd.inB ?_
        clear hK1 hK2 hK3 hK4 hK5 hK6 hK7 hK8 hK10 hK11
        refine Hd.thenN ?_
        exact Hd.meet (r1, rs2, none, 0, []) (by repeat (first | exact trivial | refine ⟨rfl, ?_⟩)) (Ent.sep (.pure ⟨h1.1, hg2, Nat.zero_le _⟩ (.ownNil (.pick pkk (.pick pkk (.pick pkk (.eq pkk (rf_eq (h2.trans h1.2.symm)) enn)))))))
      ·
        try simp only [decide_eq_true_eq, decide_eq_false_iff_not, Bool.and_eq_true, Bool.or_eq_true, Bool.and_eq_false_iff, Bool.or_eq_false_iff, Bool.not_eq_true', Bool.not_eq_false', Bool.not_eq_true, Bool.not_eq_false, Int.not_lt, Int.not_le, Decidable.not_not, ne_eq] at hc1
        refine Hd.seq (fun K12 hK12 => ?_)
        refine Hd.region ?_
        first | (refine Hd.yv (y_eqlT rfl rfl) ?_) | (refine Hd.yv (y_eql rfl rfl) ?_)
        refine Hd.yv (y_assign rfl) ?_
        refine Hd.nil ?_
        refine Hd.slots [(0, _), (1, _), (2, _), (3, _), (9, _), (11, _), (12, _), (13, _), (14, _), (15, _), (44, _), (67, _)] ⟨rfl, rfl, rfl, rfl, rfl, rfl, rfl, rfl, rfl, rfl, rfl, rfl, trivial⟩ ?_
        refine Hd.toK hK12 ?_
        refine Hd.cond rfl (fun hc2 => ?_) (fun hc2 => ?_)
        ·
          try simp only [decide_eq_true_eq, decide_eq_false_iff_not, Bool.and_eq_true, Bool.or_eq_true, Bool.and_eq_false_iff, Bool.or_eq_false_iff, Bool.not_eq_true', Bool.not_eq_false', Bool.not_eq_true, Bool.not_eq_false, Int.not_lt, Int.not_le, Decidable.not_not, ne_eq] at hc2
          refine Hd.drawsH ([pt b9 (encO o) 36]) (fun _ => true) mixed ?_
          simp only [List.length, Nat.zero_add, Nat.reduceAdd]
          refine Hd.takeH 0 rfl (by kernel_rfl) (by kernel_rfl) (by kernel_rfl) (by kernel_rfl) (y_move rfl) (fun _ _ => rfl) (Ent.sep enn) ?_
          first | (refine Hd.takeH 1 rfl (by kernel_rfl) (by kernel_rfl) (by kernel_rfl) (by kernel_rfl) (y_field' (q := 3) (ft := 3) Try.underlying36 rfl sz3 rfl rfl) (fun _ _ => rfl) (Ent.sep enn) ?_) | (refine Hd.takeH 1 rfl (by kernel_rfl) (by kernel_rfl) (by kernel_rfl) (by kernel_rfl) (y_fieldR (q := 3) (ft := 3) Try.underlying36 rfl sz3 rfl rfl) (fun _ _ => rfl) (Ent.sep enn) ?_)
          first | (refine Hd.takeH 2 rfl (by kernel_rfl) (by kernel_rfl) (by kernel_rfl) (by kernel_rfl) (y_load1 ag3 rfl (Rd.pt1 pkk (by (first | exact ints_at hi | exact (by rw [hr0]; rfl : (lens r1)[0 * 1]? = some (V (r0.l.length : Int))) | rfl)))) (fun _ _ => rfl) (Ent.sep enn) ?_) | (refine Hd.takeH 2 rfl (by kernel_rfl) (by kernel_rfl) (by kernel_rfl) (by kernel_rfl) (y_load1 ag3 rfl (Rd.seg1 pkk (by (first | exact ints_at hi | exact (by rw [hr0]; rfl : (lens r1)[0 * 1]? = some (V (r0.l.length : Int))) | rfl)))) (fun _ _ => rfl) (Ent.sep enn) ?_) | (refine Hd.takeH 2 rfl (by kernel_rfl) (by kernel_rfl) (by kernel_rfl) (by kernel_rfl) (y_loadR1 ag3 rfl (by (first | exact RdS.own pkk | exact RdS.mono hQ4 (Ent.sep enn) | exact RdS.mono hQ5 (Ent.sep enn))) (by (first | exact ints_at hi | exact (by rw [hr0]; rfl : (lens r1)[0 * 1]? = some (V (r0.l.length : Int))) | rfl))) (fun _ _ => rfl) (Ent.sep enn) ?_)
          refine Hd.takeH 4 rfl (by kernel_rfl) (by kernel_rfl) (by kernel_rfl) (by kernel_rfl) (y_move rfl) (fun _ _ => rfl) (Ent.sep enn) ?_
          first | (refine Hd.takeH 5 rfl (by kernel_rfl) (by kernel_rfl) (by kernel_rfl) (by kernel_rfl) (y_field' (q := 3) (ft := 3) Try.underlying36 rfl sz3 rfl rfl) (fun _ _ => rfl) (Ent.sep enn) ?_) | (refine Hd.takeH 5 rfl (by kernel_rfl) (by kernel_rfl) (by kernel_rfl) (by kernel_rfl) (y_fieldR (q := 3) (ft := 3) Try.underlying36 rfl sz3 rfl rfl) (fun _ _ => rfl) (Ent.sep enn) ?_)
          first | (refine Hd.takeH 6 rfl (by kernel_rfl) (by kernel_rfl) (by kernel_rfl) (by kernel_rfl) (y_load1 ag3 rfl (Rd.pt1 pkk (by (first | exact ints_at hi | exact (by rw [hr0]; rfl : (lens r1)[0 * 1]? = some (V (r0.l.length : Int))) | rfl)))) (fun _ _ => rfl) (Ent.sep enn) ?_) | (refine Hd.takeH 6 rfl (by kernel_rfl) (by kernel_rfl) (by kernel_rfl) (by kernel_rfl) (y_load1 ag3 rfl (Rd.seg1 pkk (by (first | exact ints_at hi | exact (by rw [hr0]; rfl : (lens r1)[0 * 1]? = some (V (r0.l.length : Int))) | rfl)))) (fun _ _ => rfl) (Ent.sep enn) ?_) | (refine Hd.takeH 6 rfl (by kernel_rfl) (by kernel_rfl) (by kernel_rfl) (by kernel_rfl) (y_loadR1 ag3 rfl (by (first | exact RdS.own pkk | exact RdS.mono hQ4 (Ent.sep enn) | exact RdS.mono hQ5 (Ent.sep enn))) (by (first | exact ints_at hi | exact (by rw [hr0]; rfl : (lens r1)[0 * 1]? = some (V (r0.l.length : Int))) | rfl))) (fun _ _ => rfl) (Ent.sep enn) ?_)
          refine Hd.onlyH 3 rfl (by kernel_rfl) ?_
          refine Hd.callE rfl fk31 (drain_ct (own 5 1 a bb.length c (bsl bb) :: Ch b2 0 rs2 :: Rf b3 0 (flat rs1) :: Rf b4 0 (flat rs2) :: pt b9 (encO o) 36 :: L) b1 0 rs1 hg1 o.nn (by omega)) (Ent.sep enn) ?_
          intro r1
          refine Hd.pure (fun h1 => ?_)
          refine Hd.nil ?_
          refine Hd.thenN ?_
          refine Hd.heldK (J := (fun _ => true)) (i := 3) (Ent.sep enn) ?_
          refine Hd.onlyH 7 rfl (by kernel_rfl) ?_
          refine Hd.callE rfl fk64 (rtake_ct (own 5 1 a bb.length c (bsl bb) :: Ch b1 0 r1 :: Ch b2 0 rs2 :: Rf b4 0 (flat rs2) :: pt b9 (encO o) 36 :: L) b3 0 (flat rs1) hl1 o.nn hnn) (Ent.sep enn) ?_
          rintro ⟨a2, c2⟩
          dsimp only
          refine Hd.nil ?_
          refine Hd.thenN ?_
          refine Hd.heldK (J := (fun _ => true)) (i := 7) (Ent.sep enn) ?_
          refine Hd.takeH 8 rfl (by kernel_rfl) (by kernel_rfl) (by kernel_rfl) (by kernel_rfl) (y_len Try.underlying22 rfl) (fun _ _ => rfl) (Ent.sep enn) ?_
          first | (refine Hd.takeH 9 rfl (by kernel_rfl) (by kernel_rfl) (by kernel_rfl) (by kernel_rfl) (y_to (y_eqlT rfl rfl) (congrArg Value.bool (decide_eq_true (rfl)))) (fun _ _ => rfl) (Ent.sep enn) ?_) | (refine Hd.takeH 9 rfl (by kernel_rfl) (by kernel_rfl) (by kernel_rfl) (by kernel_rfl) (y_to (y_eql rfl rfl) (congrArg Value.bool (decide_eq_true (rfl)))) (fun _ _ => rfl) (Ent.sep enn) ?_)
          refine Hd.takeH 10 rfl (by kernel_rfl) (by kernel_rfl) (by kernel_rfl) (by kernel_rfl) (y_assign rfl) (fun _ _ => rfl) (Ent.sep enn) ?_
          refine Hd.endH (by kernel_rfl) ?_
          refine Hd.slots [(11, _), (13, _), (14, _), (15, _)] ⟨rfl, rfl, rfl, rfl, trivial⟩ ?_
          refine Hd.inB ?_
          clear hK1 hK2 hK3 hK4 hK5 hK6 hK7 hK8 hK10 hK12
          refine Hd.thenN ?_
          exact Hd.meet (r1, rs2, none, 0, []) (by repeat (first | exact trivial | refine ⟨rfl, ?_⟩)) (Ent.sep (.pure ⟨good_drop hg1 h1.1 h1.2, hg2, Nat.zero_le _⟩ (.ownNil (.pick pkk (.pick pkk (.pick pkk (.eq pkk (rf_eq h1.1.symm) enn)))))))
        ·
          try simp only [decide_eq_true_eq, decide_eq_false_iff_not, Bool.and_eq_true, Bool.or_eq_true, Bool.and_eq_false_iff, Bool.or_eq_false_iff, Bool.not_eq_true', Bool.not_eq_false', Bool.not_eq_true, Bool.not_eq_false, Int.not_lt, Int.not_le, Decidable.not_not, ne_eq] at hc2
          refine Hd.seq (fun K13 hK13 => ?_)
          refine Hd.region ?_
          first | (refine Hd.yv (y_eqlT rfl rfl) ?_) | (refine Hd.yv (y_eql rfl rfl) ?_)
          refine Hd.yv (y_assign rfl) ?_
          refine Hd.nil ?_
          refine Hd.slots [(0, _), (1, _), (2, _), (3, _), (9, _), (11, _), (12, _), (13, _), (14, _), (15, _), (44, _), (79, _)] ⟨rfl, rfl, rfl, rfl, rfl, rfl, rfl, rfl, rfl, rfl, rfl, rfl, trivial⟩ ?_
          refine Hd.toK hK13 ?_
          refine Hd.cond rfl (fun hc3 => ?_) (fun hc3 => ?_)
          ·
            try simp only [decide_eq_true_eq, decide_eq_false_iff_not, Bool.and_eq_true, Bool.or_eq_true, Bool.and_eq_false_iff, Bool.or_eq_false_iff, Bool.not_eq_true', Bool.not_eq_false', Bool.not_eq_true, Bool.not_eq_false, Int.not_lt, Int.not_le, Decidable.not_not, ne_eq] at hc3
            refine Hd.drawsH ([pt b9 (encO o) 36]) (fun _ => true) mixed ?_
            simp only [List.length, Nat.zero_add, Nat.reduceAdd]
            refine Hd.takeH 0 rfl (by kernel_rfl) (by kernel_rfl) (by kernel_rfl) (by kernel_rfl) (y_move rfl) (fun _ _ => rfl) (Ent.sep enn) ?_
            first | (refine Hd.takeH 1 rfl (by kernel_rfl) (by kernel_rfl) (by kernel_rfl) (by kernel_rfl) (y_field' (q := 3) (ft := 3) Try.underlying36 rfl sz3 rfl rfl) (fun _ _ => rfl) (Ent.sep enn) ?_) | (refine Hd.takeH 1 rfl (by kernel_rfl) (by kernel_rfl) (by kernel_rfl) (by kernel_rfl) (y_fieldR (q := 3) (ft := 3) Try.underlying36 rfl sz3 rfl rfl) (fun _ _ => rfl) (Ent.sep enn) ?_)
            first | (refine Hd.takeH 2 rfl (by kernel_rfl) (by kernel_rfl) (by kernel_rfl) (by kernel_rfl) (y_load1 ag3 rfl (Rd.pt1 pkk (by (first | exact ints_at hi | exact (by rw [hr0]; rfl : (lens r1)[0 * 1]? = some (V (r0.l.length : Int))) | rfl)))) (fun _ _ => rfl) (Ent.sep enn) ?_) | (refine Hd.takeH 2 rfl (by kernel_rfl) (by kernel_rfl) (by kernel_rfl) (by kernel_rfl) (y_load1 ag3 rfl (Rd.seg1 pkk (by (first | exact ints_at hi | exact (by rw [hr0]; rfl : (lens r1)[0 * 1]? = some (V (r0.l.length : Int))) | rfl)))) (fun _ _ => rfl) (Ent.sep enn) ?_) | (refine Hd.takeH 2 rfl (by kernel_rfl) (by kernel_rfl) (by kernel_rfl) (by kernel_rfl) (y_loadR1 ag3 rfl (by (first | exact RdS.own pkk | exact RdS.mono hQ4 (Ent.sep enn) | exact RdS.mono hQ5 (Ent.sep enn))) (by (first | exact ints_at hi | exact (by rw [hr0]; rfl : (lens r1)[0 * 1]? = some (V (r0.l.length : Int))) | rfl))) (fun _ _ => rfl) (Ent.sep enn) ?_)
            refine Hd.takeH 4 rfl (by kernel_rfl) (by kernel_rfl) (by kernel_rfl) (by kernel_rfl) (y_move rfl) (fun _ _ => rfl) (Ent.sep enn) ?_
            first | (refine Hd.takeH 5 rfl (by kernel_rfl) (by kernel_rfl) (by kernel_rfl) (by kernel_rfl) (y_field' (q := 3) (ft := 3) Try.underlying36 rfl sz3 rfl rfl) (fun _ _ => rfl) (Ent.sep enn) ?_) | (refine Hd.takeH 5 rfl (by kernel_rfl) (by kernel_rfl) (by kernel_rfl) (by kernel_rfl) (y_fieldR (q := 3) (ft := 3) Try.underlying36 rfl sz3 rfl rfl) (fun _ _ => rfl) (Ent.sep enn) ?_)
            first | (refine Hd.takeH 6 rfl (by kernel_rfl) (by kernel_rfl) (by kernel_rfl) (by kernel_rfl) (y_load1 ag3 rfl (Rd.pt1 pkk (by (first | exact ints_at hi | exact (by rw [hr0]; rfl : (lens r1)[0 * 1]? = some (V (r0.l.length : Int))) | rfl)))) (fun _ _ => rfl) (Ent.sep enn) ?_) | (refine Hd.takeH 6 rfl (by kernel_rfl) (by kernel_rfl) (by kernel_rfl) (by kernel_rfl) (y_load1 ag3 rfl (Rd.seg1 pkk (by (first | exact ints_at hi | exact (by rw [hr0]; rfl : (lens r1)[0 * 1]? = some (V (r0.l.length : Int))) | rfl)))) (fun _ _ => rfl) (Ent.sep enn) ?_) | (refine Hd.takeH 6 rfl (by kernel_rfl) (by kernel_rfl) (by kernel_rfl) (by kernel_rfl) (y_loadR1 ag3 rfl (by (first | exact RdS.own pkk | exact RdS.mono hQ4 (Ent.sep enn) | exact RdS.mono hQ5 (Ent.sep enn))) (by (first | exact ints_at hi | exact (by rw [hr0]; rfl : (lens r1)[0 * 1]? = some (V (r0.l.length : Int))) | rfl))) (fun _ _ => rfl) (Ent.sep enn) ?_)
            refine Hd.onlyH 3 rfl (by kernel_rfl) ?_
            refine Hd.callE rfl fk18 (take_ct (own 5 1 a bb.length c (bsl bb) :: Ch b2 0 rs2 :: Rf b3 0 (flat rs1) :: Rf b4 0 (flat rs2) :: pt b9 (encO o) 36 :: L) b1 0 rs1 hg1 o.nn (by omega)) (Ent.sep enn) ?_
            rintro ⟨r1, a3, c3⟩
            dsimp only
            refine Hd.pure (fun h1 => ?_)
            refine Hd.nil ?_
            refine Hd.thenN ?_
            refine Hd.heldK (J := (fun _ => true)) (i := 3) (Ent.sep enn) ?_
            refine Hd.onlyH 7 rfl (by kernel_rfl) ?_
            refine Hd.callE rfl fk64 (rtake_ct (own 5 1 a3 ((flat rs1).take o.nn.toNat).length c3 (bsl ((flat rs1).take o.nn.toNat)) :: own 5 1 a bb.length c (bsl bb) :: Ch b1 0 r1 :: Ch b2 0 rs2 :: Rf b4 0 (flat rs2) :: pt b9 (encO o) 36 :: L) b3 0 (flat rs1) hl1 o.nn hnn) (Ent.sep enn) ?_
            rintro ⟨a2, c2⟩
            dsimp only
            refine Hd.nil ?_
            refine Hd.thenN ?_
            refine Hd.heldK (J := (fun _ => true)) (i := 7) (Ent.sep enn) ?_
            refine Hd.takeH 9 rfl (by kernel_rfl) (by kernel_rfl) (by kernel_rfl) (by kernel_rfl) (y_assign rfl) (fun _ _ => rfl) (Ent.sep enn) ?_
            refine Hd.onlyH 8 rfl (by kernel_rfl) ?_
            refine Hd.yv (y_strOf (l := _) (by kernel_rfl) Try.underlying9 rfl (by (first | exact RdS.own pkk | exact RdS.mono hQ4 (Ent.sep enn) | exact RdS.mono hQ5 (Ent.sep enn)))) ?_
            refine Hd.nil ?_
            refine Hd.thenN ?_
            refine Hd.heldK (J := (fun _ => true)) (i := 8) (Ent.sep enn) ?_
            refine Hd.takeH 10 rfl (by kernel_rfl) (by kernel_rfl) (by kernel_rfl) (by kernel_rfl) (y_assign rfl) (fun _ _ => rfl) (Ent.sep enn) ?_
            refine Hd.endH (by kernel_rfl) ?_
            refine Hd.slots [(11, _), (13, _), (14, _), (15, _)] ⟨rfl, rfl, rfl, rfl, trivial⟩ ?_
            refine Hd.inB ?_
            clear hK1 hK2 hK3 hK4 hK5 hK6 hK7 hK8 hK10 hK12 hK13
            refine Hd.thenN ?_
            exact Hd.meet (r1, rs2, a3, c3, (flat rs1).take o.nn.toNat) (by repeat (first | exact trivial | refine ⟨rfl, ?_⟩)) (Ent.sep (.pure ⟨good_drop hg1 h1.1 h1.2, hg2, Nat.le_trans (cpy_len_le _ _) hl1⟩ (.pick pkk (.pick pkk (.pick pkk (.pick pkk (.eq pkk (rf_eq h1.1.symm) enn)))))))
          ·
            try simp only [decide_eq_true_eq, decide_eq_false_iff_not, Bool.and_eq_true, Bool.or_eq_true, Bool.and_eq_false_iff, Bool.or_eq_false_iff, Bool.not_eq_true', Bool.not_eq_false', Bool.not_eq_true, Bool.not_eq_false, Int.not_lt, Int.not_le, Decidable.not_not, ne_eq] at hc3
            refine Hd.seq (fun K14 hK14 => ?_)
            refine Hd.region ?_
            first | (refine Hd.yv (y_eqlT rfl rfl) ?_) | (refine Hd.yv (y_eql rfl rfl) ?_)
            refine Hd.yv (y_assign rfl) ?_
            refine Hd.nil ?_
            refine Hd.slots [(0, _), (1, _), (2, _), (3, _), (9, _), (11, _), (12, _), (13, _), (14, _), (15, _), (44, _), (90, _)] ⟨rfl, rfl, rfl, rfl, rfl, rfl, rfl, rfl, rfl, rfl, rfl, rfl, trivial⟩ ?_
            refine Hd.toK hK14 ?_
            refine Hd.cond rfl (fun hc4 => ?_) (fun hc4 => ?_)
            ·
              try simp only [decide_eq_true_eq, decide_eq_false_iff_not, Bool.and_eq_true, Bool.or_eq_true, Bool.and_eq_false_iff, Bool.or_eq_false_iff, Bool.not_eq_true', Bool.not_eq_false', Bool.not_eq_true, Bool.not_eq_false, Int.not_lt, Int.not_le, Decidable.not_not, ne_eq] at hc4
              refine Hd.drawsH ([pt b9 (encO o) 36]) (fun _ => true) mixed ?_
              simp only [List.length, Nat.zero_add, Nat.reduceAdd]
              refine Hd.takeH 0 rfl (by kernel_rfl) (by kernel_rfl) (by kernel_rfl) (by kernel_rfl) (y_move rfl) (fun _ _ => rfl) (Ent.sep enn) ?_
              first | (refine Hd.takeH 1 rfl (by kernel_rfl) (by kernel_rfl) (by kernel_rfl) (by kernel_rfl) (y_field' (q := 4) (ft := 3) Try.underlying36 rfl sz3 rfl rfl) (fun _ _ => rfl) (Ent.sep enn) ?_) | (refine Hd.takeH 1 rfl (by kernel_rfl) (by kernel_rfl) (by kernel_rfl) (by kernel_rfl) (y_fieldR (q := 4) (ft := 3) Try.underlying36 rfl sz3 rfl rfl) (fun _ _ => rfl) (Ent.sep enn) ?_)
              first | (refine Hd.takeH 2 rfl (by kernel_rfl) (by kernel_rfl) (by kernel_rfl) (by kernel_rfl) (y_load1 ag3 rfl (Rd.pt1 pkk (by (first | exact ints_at hi | exact (by rw [hr0]; rfl : (lens r1)[0 * 1]? = some (V (r0.l.length : Int))) | rfl)))) (fun _ _ => rfl) (Ent.sep enn) ?_) | (refine Hd.takeH 2 rfl (by kernel_rfl) (by kernel_rfl) (by kernel_rfl) (by kernel_rfl) (y_load1 ag3 rfl (Rd.seg1 pkk (by (first | exact ints_at hi | exact (by rw [hr0]; rfl : (lens r1)[0 * 1]? = some (V (r0.l.length : Int))) | rfl)))) (fun _ _ => rfl) (Ent.sep enn) ?_) | (refine Hd.takeH 2 rfl (by kernel_rfl) (by kernel_rfl) (by kernel_rfl) (by kernel_rfl) (y_loadR1 ag3 rfl (by (first | exact RdS.own pkk | exact RdS.mono hQ4 (Ent.sep enn) | exact RdS.mono hQ5 (Ent.sep enn))) (by (first | exact ints_at hi | exact (by rw [hr0]; rfl : (lens r1)[0 * 1]? = some (V (r0.l.length : Int))) | rfl))) (fun _ _ => rfl) (Ent.sep enn) ?_)
              first | (refine Hd.takeH 3 rfl (by kernel_rfl) (by kernel_rfl) (by kernel_rfl) (by kernel_rfl) (y_field' (q := 3) (ft := 3) Try.underlying36 rfl sz3 rfl rfl) (fun _ _ => rfl) (Ent.sep enn) ?_) | (refine Hd.takeH 3 rfl (by kernel_rfl) (by kernel_rfl) (by kernel_rfl) (by kernel_rfl) (y_fieldR (q := 3) (ft := 3) Try.underlying36 rfl sz3 rfl rfl) (fun _ _ => rfl) (Ent.sep enn) ?_)
              first | (refine Hd.takeH 4 rfl (by kernel_rfl) (by kernel_rfl) (by kernel_rfl) (by kernel_rfl) (y_load1 ag3 rfl (Rd.pt1 pkk (by (first | exact ints_at hi | exact (by rw [hr0]; rfl : (lens r1)[0 * 1]? = some (V (r0.l.length : Int))) | rfl)))) (fun _ _ => rfl) (Ent.sep enn) ?_) | (refine Hd.takeH 4 rfl (by kernel_rfl) (by kernel_rfl) (by kernel_rfl) (by kernel_rfl) (y_load1 ag3 rfl (Rd.seg1 pkk (by (first | exact ints_at hi | exact (by rw [hr0]; rfl : (lens r1)[0 * 1]? = some (V (r0.l.length : Int))) | rfl)))) (fun _ _ => rfl) (Ent.sep enn) ?_) | (refine Hd.takeH 4 rfl (by kernel_rfl) (by kernel_rfl) (by kernel_rfl) (by kernel_rfl) (y_loadR1 ag3 rfl (by (first | exact RdS.own pkk | exact RdS.mono hQ4 (Ent.sep enn) | exact RdS.mono hQ5 (Ent.sep enn))) (by (first | exact ints_at hi | exact (by rw [hr0]; rfl : (lens r1)[0 * 1]? = some (V (r0.l.length : Int))) | rfl))) (fun _ _ => rfl) (Ent.sep enn) ?_)
              refine Hd.takeH 6 rfl (by kernel_rfl) (by kernel_rfl) (by kernel_rfl) (by kernel_rfl) (y_move rfl) (fun _ _ => rfl) (Ent.sep enn) ?_
              first | (refine Hd.takeH 7 rfl (by kernel_rfl) (by kernel_rfl) (by kernel_rfl) (by kernel_rfl) (y_field' (q := 4) (ft := 3) Try.underlying36 rfl sz3 rfl rfl) (fun _ _ => rfl) (Ent.sep enn) ?_) | (refine Hd.takeH 7 rfl (by kernel_rfl) (by kernel_rfl) (by kernel_rfl) (by kernel_rfl) (y_fieldR (q := 4) (ft := 3) Try.underlying36 rfl sz3 rfl rfl) (fun _ _ => rfl) (Ent.sep enn) ?_)
              first | (refine Hd.takeH 8 rfl (by kernel_rfl) (by kernel_rfl) (by kernel_rfl) (by kernel_rfl) (y_load1 ag3 rfl (Rd.pt1 pkk (by (first | exact ints_at hi | exact (by rw [hr0]; rfl : (lens r1)[0 * 1]? = some (V (r0.l.length : Int))) | rfl)))) (fun _ _ => rfl) (Ent.sep enn) ?_) | (refine Hd.takeH 8 rfl (by kernel_rfl) (by kernel_rfl) (by kernel_rfl) (by kernel_rfl) (y_load1 ag3 rfl (Rd.seg1 pkk (by (first | exact ints_at hi | exact (by rw [hr0]; rfl : (lens r1)[0 * 1]? = some (V (r0.l.length : Int))) | rfl)))) (fun _ _ => rfl) (Ent.sep enn) ?_) | (refine Hd.takeH 8 rfl (by kernel_rfl) (by kernel_rfl) (by kernel_rfl) (by kernel_rfl) (y_loadR1 ag3 rfl (by (first | exact RdS.own pkk | exact RdS.mono hQ4 (Ent.sep enn) | exact RdS.mono hQ5 (Ent.sep enn))) (by (first | exact ints_at hi | exact (by rw [hr0]; rfl : (lens r1)[0 * 1]? = some (V (r0.l.length : Int))) | rfl))) (fun _ _ => rfl) (Ent.sep enn) ?_)
              first | (refine Hd.takeH 9 rfl (by kernel_rfl) (by kernel_rfl) (by kernel_rfl) (by kernel_rfl) (y_field' (q := 3) (ft := 3) Try.underlying36 rfl sz3 rfl rfl) (fun _ _ => rfl) (Ent.sep enn) ?_) | (refine Hd.takeH 9 rfl (by kernel_rfl) (by kernel_rfl) (by kernel_rfl) (by kernel_rfl) (y_fieldR (q := 3) (ft := 3) Try.underlying36 rfl sz3 rfl rfl) (fun _ _ => rfl) (Ent.sep enn) ?_)
              first | (refine Hd.takeH 10 rfl (by kernel_rfl) (by kernel_rfl) (by kernel_rfl) (by kernel_rfl) (y_load1 ag3 rfl (Rd.pt1 pkk (by (first | exact ints_at hi | exact (by rw [hr0]; rfl : (lens r1)[0 * 1]? = some (V (r0.l.length : Int))) | rfl)))) (fun _ _ => rfl) (Ent.sep enn) ?_) | (refine Hd.takeH 10 rfl (by kernel_rfl) (by kernel_rfl) (by kernel_rfl) (by kernel_rfl) (y_load1 ag3 rfl (Rd.seg1 pkk (by (first | exact ints_at hi | exact (by rw [hr0]; rfl : (lens r1)[0 * 1]? = some (V (r0.l.length : Int))) | rfl)))) (fun _ _ => rfl) (Ent.sep enn) ?_) | (refine Hd.takeH 10 rfl (by kernel_rfl) (by kernel_rfl) (by kernel_rfl) (by kernel_rfl) (y_loadR1 ag3 rfl (by (first | exact RdS.own pkk | exact RdS.mono hQ4 (Ent.sep enn) | exact RdS.mono hQ5 (Ent.sep enn))) (by (first | exact ints_at hi | exact (by rw [hr0]; rfl : (lens r1)[0 * 1]? = some (V (r0.l.length : Int))) | rfl))) (fun _ _ => rfl) (Ent.sep enn) ?_)
              refine Hd.onlyH 5 rfl (by kernel_rfl) ?_
              refine Hd.callE rfl fk22 (copy_ct (own 5 1 a bb.length c (bsl bb) :: Ch b2 0 rs2 :: Rf b3 0 (flat rs1) :: Rf b4 0 (flat rs2) :: pt b9 (encO o) 36 :: L) b1 0 rs1 hg1 o.f o.nn hff hnn) (Ent.sep enn) ?_
              rintro ⟨a3, c3⟩
              dsimp only
              refine Hd.nil ?_
              refine Hd.thenN ?_
              refine Hd.heldK (J := (fun _ => true)) (i := 5) (Ent.sep enn) ?_
              refine Hd.onlyH 11 rfl (by kernel_rfl) ?_
              refine Hd.callE rfl fk65 (rcopy_ct (own 5 1 a3 (cpy (flat rs1) o.f o.nn).length c3 (bsl (cpy (flat rs1) o.f o.nn)) :: own 5 1 a bb.length c (bsl bb) :: Ch b1 0 rs1 :: Ch b2 0 rs2 :: Rf b4 0 (flat rs2) :: pt b9 (encO o) 36 :: L) b3 0 (flat rs1) hl1 o.f o.nn hff hnn) (Ent.sep enn) ?_
              rintro ⟨a2, c2, a4, c4⟩
              dsimp only
              refine Hd.pure (fun hQ4 => ?_)
              refine Hd.nil ?_
              refine Hd.thenN ?_
              refine Hd.heldK (J := (fun _ => true)) (i := 11) (Ent.sep enn) ?_
              refine Hd.takeH 13 rfl (by kernel_rfl) (by kernel_rfl) (by kernel_rfl) (by kernel_rfl) (y_assign rfl) (fun _ _ => rfl) (Ent.sep enn) ?_
              refine Hd.onlyH 12 rfl (by kernel_rfl) ?_
              refine Hd.yv (y_strOf (l := _) (by kernel_rfl) Try.underlying9 rfl (by (first | exact RdS.own pkk | exact RdS.mono hQ4 (Ent.sep enn) | exact RdS.mono hQ5 (Ent.sep enn)))) ?_
              refine Hd.nil ?_
              refine Hd.thenN ?_
              refine Hd.heldK (J := (fun _ => true)) (i := 12) (Ent.sep enn) ?_
              refine Hd.takeH 14 rfl (by kernel_rfl) (by kernel_rfl) (by kernel_rfl) (by kernel_rfl) (y_assign rfl) (fun _ _ => rfl) (Ent.sep enn) ?_
              refine Hd.endH (by kernel_rfl) ?_
              refine Hd.slots [(11, _), (13, _), (14, _), (15, _)] ⟨rfl, rfl, rfl, rfl, trivial⟩ ?_
              refine Hd.inB ?_
              clear hK1 hK2 hK3 hK4 hK5 hK6 hK7 hK8 hK10 hK12 hK13 hK14
              refine Hd.thenN ?_
              exact Hd.meet (rs1, rs2, a3, c3, cpy (flat rs1) o.f o.nn) (by repeat (first | exact trivial | refine ⟨rfl, ?_⟩)) (Ent.sep (.pure ⟨hg1, hg2, Nat.le_trans (cpy_le _ _ _) hl1⟩ (.pick pkk (.pick pkk (.pick pkk (.pick pkk (.ex (a2, c2) enn)))))))
            ·
              try simp only [decide_eq_true_eq, decide_eq_false_iff_not, Bool.and_eq_true, Bool.or_eq_true, Bool.and_eq_false_iff, Bool.or_eq_false_iff, Bool.not_eq_true', Bool.not_eq_false', Bool.not_eq_true, Bool.not_eq_false, Int.not_lt, Int.not_le, Decidable.not_not, ne_eq] at hc4
              refine Hd.seq (fun K15 hK15 => ?_)
              refine Hd.region ?_
              first | (refine Hd.yv (y_eqlT rfl rfl) ?_) | (refine Hd.yv (y_eql rfl rfl) ?_)
              refine Hd.yv (y_assign rfl) ?_
              refine Hd.nil ?_
              refine Hd.slots [(0, _), (1, _), (2, _), (3, _), (9, _), (11, _), (12, _), (13, _), (14, _), (15, _), (44, _), (105, _)] ⟨rfl, rfl, rfl, rfl, rfl, rfl, rfl, rfl, rfl, rfl, rfl, rfl, trivial⟩ ?_
              refine Hd.toK hK15 ?_
              refine Hd.cond rfl (fun hc5 => ?_) (fun hc5 => ?_)
              ·
                try simp only [decide_eq_true_eq, decide_eq_false_iff_not, Bool.and_eq_true, Bool.or_eq_true, Bool.and_eq_false_iff, Bool.or_eq_false_iff, Bool.not_eq_true', Bool.not_eq_false', Bool.not_eq_true, Bool.not_eq_false, Int.not_lt, Int.not_le, Decidable.not_not, ne_eq] at hc5
                refine Hd.seq (fun K16 hK16 => ?_)
                refine Hd.region ?_
                refine Hd.yv (y_move rfl) ?_
                first | (refine Hd.yv (y_field' (q := 3) (ft := 3) Try.underlying36 rfl sz3 rfl rfl) ?_) | (refine Hd.yv (y_fieldR (q := 3) (ft := 3) Try.underlying36 rfl sz3 rfl rfl) ?_)
                first | (refine Hd.yv (y_load1 ag3 rfl (Rd.pt1 pkk (by (first | exact ints_at hi | exact (by rw [hr0]; rfl : (lens r1)[0 * 1]? = some (V (r0.l.length : Int))) | rfl)))) ?_) | (refine Hd.yv (y_load1 ag3 rfl (Rd.seg1 pkk (by (first | exact ints_at hi | exact (by rw [hr0]; rfl : (lens r1)[0 * 1]? = some (V (r0.l.length : Int))) | rfl)))) ?_) | (refine Hd.yv (y_loadR1 ag3 rfl (by (first | exact RdS.own pkk | exact RdS.mono hQ4 (Ent.sep enn) | exact RdS.mono hQ5 (Ent.sep enn))) (by (first | exact ints_at hi | exact (by rw [hr0]; rfl : (lens r1)[0 * 1]? = some (V (r0.l.length : Int))) | rfl))) ?_)
                refine Hd.callE rfl fk21 (pull_ct (own 5 1 a bb.length c (bsl bb) :: Ch b2 0 rs2 :: Rf b3 0 (flat rs1) :: Rf b4 0 (flat rs2) :: pt b9 (encO o) 36 :: L) b1 0 rs1 hg1 o.nn hnn) (Ent.sep enn) ?_
                rintro ⟨r1, a3, c3⟩
                dsimp only
                refine Hd.pure (fun h1 => ?_)
                refine Hd.yv (y_move rfl) ?_
                refine Hd.yv (y_extract rfl rfl) ?_
                refine Hd.yv (y_extract rfl rfl) ?_
                refine Hd.yv (y_assign rfl) ?_
                refine Hd.yv (y_assign rfl) ?_
                refine Hd.nil ?_
                refine Hd.slots [(0, _), (2, _), (9, _), (11, _), (18, _), (19, _)] ⟨rfl, rfl, rfl, rfl, rfl, rfl, trivial⟩ ?_
                refine Hd.toK hK16 ?_
                refine Hd.seq (fun K17 hK17 => ?_)
                refine Hd.region ?_
                refine Hd.yv (y_move rfl) ?_
                first | (refine Hd.yv (y_field' (q := 3) (ft := 3) Try.underlying36 rfl sz3 rfl rfl) ?_) | (refine Hd.yv (y_fieldR (q := 3) (ft := 3) Try.underlying36 rfl sz3 rfl rfl) ?_)
                first | (refine Hd.yv (y_load1 ag3 rfl (Rd.pt1 pkk (by (first | exact ints_at hi | exact (by rw [hr0]; rfl : (lens r1)[0 * 1]? = some (V (r0.l.length : Int))) | rfl)))) ?_) | (refine Hd.yv (y_load1 ag3 rfl (Rd.seg1 pkk (by (first | exact ints_at hi | exact (by rw [hr0]; rfl : (lens r1)[0 * 1]? = some (V (r0.l.length : Int))) | rfl)))) ?_) | (refine Hd.yv (y_loadR1 ag3 rfl (by (first | exact RdS.own pkk | exact RdS.mono hQ4 (Ent.sep enn) | exact RdS.mono hQ5 (Ent.sep enn))) (by (first | exact ints_at hi | exact (by rw [hr0]; rfl : (lens r1)[0 * 1]? = some (V (r0.l.length : Int))) | rfl))) ?_)
                refine Hd.callE rfl fk66 (rpull_ct (own 5 1 a3 (pullB (flat rs1) o.nn).length c3 (bsl (pullB (flat rs1) o.nn)) :: own 5 1 a bb.length c (bsl bb) :: Ch b1 0 r1 :: Ch b2 0 rs2 :: Rf b4 0 (flat rs2) :: pt b9 (encO o) 36 :: L) b3 0 (flat rs1) hl1 o.nn hnn) (Ent.sep enn) ?_
                rintro ⟨a2, c2, a4, c4⟩
                dsimp only
                refine Hd.pure (fun hQ5 => ?_)
                refine Hd.yv (y_move rfl) ?_
                refine Hd.yv (y_extract rfl rfl) ?_
                refine Hd.yv (y_extract rfl rfl) ?_
                refine Hd.yv (y_assign rfl) ?_
                refine Hd.yv (y_assign rfl) ?_
                refine Hd.nil ?_
                refine Hd.slots [(0, _), (9, _), (11, _), (18, _), (19, _), (20, _), (21, _)] ⟨rfl, rfl, rfl, rfl, rfl, rfl, rfl, trivial⟩ ?_
                refine Hd.toK hK17 ?_
                refine Hd.seq (fun K18 hK18 => ?_)
                refine Hd.region ?_
                refine Hd.yv (y_move rfl) ?_
                refine Hd.callE rfl fk30 (chunksOf_ct (own 5 1 a3 (pullB (flat rs1) o.nn).length c3 (bsl (pullB (flat rs1) o.nn)) :: own 5 1 a bb.length c (bsl bb) :: Ch b2 0 rs2 :: seg b3 0 [.slice a2 (flat rs1).length c2] :: own 5 1 a2 (flat rs1).length c2 (bsl (flat rs1)) :: Rf b4 0 (flat rs2) :: pt b9 (encO o) 36 :: L) b1 0 r1 h1.1) (Ent.sep enn) ?_
                rintro ⟨a5, c5⟩
                dsimp only
                refine Hd.yv (y_assign rfl) ?_
                refine Hd.nil ?_
                refine Hd.slots [(9, _), (11, _), (18, _), (19, _), (20, _), (21, _), (22, _)] ⟨rfl, rfl, rfl, rfl, rfl, rfl, rfl, trivial⟩ ?_
                refine Hd.toK hK18 ?_
                refine Hd.seq (fun K19 hK19 => ?_)
                refine Hd.quiet mixed (by kernel_rfl) ?_
                refine Hq.yv (y_move rfl) ?_
                refine Hq.yv (y_move rfl) ?_
                refine Hq.yv (y_strOf (l := _) (by kernel_rfl) Try.underlying9 rfl (by (first | exact RdS.own pkk | exact RdS.mono hQ4 (Ent.sep enn) | exact RdS.mono hQ5 (Ent.sep enn)))) ?_
                refine Hq.yv (y_assign rfl) ?_
                refine Hq.yv (y_assign rfl) ?_
                refine Hq.nil ?_
                refine Hd.slots [(9, _), (11, _), (14, _), (15, _), (19, _), (21, _), (22, _)] ⟨rfl, rfl, rfl, rfl, rfl, rfl, rfl, trivial⟩ ?_
                refine Hd.toK hK19 ?_
                refine Hd.quiet mixed (by kernel_rfl) ?_
                refine Hq.yv (y_move rfl) ?_
                refine Hq.yv (y_move rfl) ?_
                first | (refine Hq.yv (y_to (y_eqlT rfl rfl) (congrArg Value.bool (decide_eq_true (rfl)))) ?_) | (refine Hq.yv (y_to (y_eql rfl rfl) (congrArg Value.bool (decide_eq_true (rfl)))) ?_)
                refine Hq.yv (y_move rfl) ?_
                refine Hq.yg rfl rfl (y_move rfl) ?_
                refine Hq.yg rfl rfl (y_neq rfl rfl) ?_
                refine Hq.yg rfl rfl (y_move rfl) ?_
                refine Hq.part (gd := 132) rfl (fun hg24_132 => ?_) (fun hg24_132 => ?_)
                ·
                  try simp only [decide_eq_true_eq, decide_eq_false_iff_not, Bool.and_eq_true, Bool.or_eq_true, Bool.and_eq_false_iff, Bool.or_eq_false_iff, Bool.not_eq_true', Bool.not_eq_false', Bool.not_eq_true, Bool.not_eq_false, Int.not_lt, Int.not_le, Decidable.not_not, ne_eq] at hg24_132
                  refine Hq.ng rfl rfl rfl ?_
                  refine Hq.ng rfl rfl rfl ?_
                  refine Hq.ng rfl rfl rfl ?_
                  first | (refine Hq.yg rfl rfl (y_pickT rfl rfl) ?_) | (refine Hq.yg rfl rfl (y_pickF rfl rfl) ?_) | (refine Hq.yg rfl rfl (y_pickb rfl rfl rfl) ?_) | (refine Hq.yg rfl rfl (y_pick rfl rfl rfl) ?_)
                  refine Hq.yg rfl rfl (y_move rfl) ?_
                  refine Hq.part (gd := 137) rfl (fun hg24_137 => ?_) (fun hg24_137 => ?_)
                  ·
                    try simp only [decide_eq_true_eq, decide_eq_false_iff_not, Bool.and_eq_true, Bool.or_eq_true, Bool.and_eq_false_iff, Bool.or_eq_false_iff, Bool.not_eq_true', Bool.not_eq_false', Bool.not_eq_true, Bool.not_eq_false, Int.not_lt, Int.not_le, Decidable.not_not, ne_eq] at hg24_137
                    refine Hq.ng rfl rfl rfl ?_
                    refine Hq.ng rfl rfl rfl ?_
                    refine Hq.ng rfl rfl rfl ?_
                    refine Hq.ng rfl rfl rfl ?_
                    refine Hq.ng rfl rfl rfl ?_
                    refine Hq.ng rfl rfl rfl ?_
                    refine Hq.ng rfl rfl rfl ?_
                    refine Hq.ng rfl rfl rfl ?_
                    refine Hq.ng rfl rfl rfl ?_
                    refine Hq.ng rfl rfl rfl ?_
                    refine Hq.ng rfl rfl rfl ?_
                    first | (refine Hq.yg rfl rfl (y_pickT rfl rfl) ?_) | (refine Hq.yg rfl rfl (y_pickF rfl rfl) ?_) | (refine Hq.yg rfl rfl (y_pickb rfl rfl rfl) ?_) | (refine Hq.yg rfl rfl (y_pick rfl rfl rfl) ?_)
                    first | (refine Hq.yv (y_pickT rfl rfl) ?_) | (refine Hq.yv (y_pickF rfl rfl) ?_) | (refine Hq.yv (y_pickb rfl rfl rfl) ?_) | (refine Hq.yv (y_pick rfl rfl rfl) ?_)
                    refine Hq.yv (y_assign rfl) ?_
                    refine Hq.nil ?_
                    refine Hd.slots [(11, _), (13, _), (14, _), (15, _)] ⟨rfl, rfl, rfl, rfl, trivial⟩ ?_
                    refine Hd.inB ?_
                    clear hK1 hK2 hK3 hK4 hK5 hK6 hK7 hK8 hK10 hK12 hK13 hK14 hK15 hK16 hK17 hK18 hK19
                    refine Hd.thenN ?_
                    exact Hd.meet (r1, rs2, a3, c3, pullB (flat rs1) o.nn) (by repeat (first | exact trivial | refine ⟨rfl, ?_⟩)) (Ent.sep (.pure ⟨h1.1, hg2, Nat.le_trans (pullB_le _ _) hl1⟩ (.pick pkk (.pick pkk (.pick pkk (.pick pkk (.ex (a2, c2) (.eq pkk (seg_eq (by rw [h1.2.1])) (.eq pkk (own_eq (by rw [h1.2.1]) (by rw [h1.2.1])) enn)))))))))
                  ·
                    try simp only [decide_eq_true_eq, decide_eq_false_iff_not, Bool.and_eq_true, Bool.or_eq_true, Bool.and_eq_false_iff, Bool.or_eq_false_iff, Bool.not_eq_true', Bool.not_eq_false', Bool.not_eq_true, Bool.not_eq_false, Int.not_lt, Int.not_le, Decidable.not_not, ne_eq] at hg24_137
                    exact absurd hg24_137 (by decide)
                ·
                  try simp only [decide_eq_true_eq, decide_eq_false_iff_not, Bool.and_eq_true, Bool.or_eq_true, Bool.and_eq_false_iff, Bool.or_eq_false_iff, Bool.not_eq_true', Bool.not_eq_false', Bool.not_eq_true, Bool.not_eq_false, Int.not_lt, Int.not_le, Decidable.not_not, ne_eq] at hg24_132
                  have hpe : pullE (flat rs1).length o.nn = 0 := by simpa using hg24_132
                  first | (refine Hq.yg rfl rfl (y_field' (q := 3) (ft := 3) Try.underlying36 rfl sz3 rfl rfl) ?_) | (refine Hq.yg rfl rfl (y_fieldR (q := 3) (ft := 3) Try.underlying36 rfl sz3 rfl rfl) ?_)
                  first | (refine Hq.yg rfl rfl (y_load1 ag3 rfl (Rd.pt1 pkk (by (first | exact ints_at hi | exact (by rw [hr0]; rfl : (lens r1)[0 * 1]? = some (V (r0.l.length : Int))) | rfl)))) ?_) | (refine Hq.yg rfl rfl (y_load1 ag3 rfl (Rd.seg1 pkk (by (first | exact ints_at hi | exact (by rw [hr0]; rfl : (lens r1)[0 * 1]? = some (V (r0.l.length : Int))) | rfl)))) ?_) | (refine Hq.yg rfl rfl (y_loadR1 ag3 rfl (by (first | exact RdS.own pkk | exact RdS.mono hQ4 (Ent.sep enn) | exact RdS.mono hQ5 (Ent.sep enn))) (by (first | exact ints_at hi | exact (by rw [hr0]; rfl : (lens r1)[0 * 1]? = some (V (r0.l.length : Int))) | rfl))) ?_)
                  first | (refine Hq.yg rfl rfl (y_eqlT rfl rfl) ?_) | (refine Hq.yg rfl rfl (y_eql rfl rfl) ?_)
                  first | (refine Hq.yg rfl rfl (y_pickT rfl rfl) ?_) | (refine Hq.yg rfl rfl (y_pickF rfl rfl) ?_) | (refine Hq.yg rfl rfl (y_pickb rfl rfl rfl) ?_) | (refine Hq.yg rfl rfl (y_pick rfl rfl rfl) ?_)
                  refine Hq.yg rfl rfl (y_move rfl) ?_
                  refine Hq.part (gd := 137) rfl (fun hg24_137 => ?_) (fun hg24_137 => ?_)
                  ·
                    try simp only [decide_eq_true_eq, decide_eq_false_iff_not, Bool.and_eq_true, Bool.or_eq_true, Bool.and_eq_false_iff, Bool.or_eq_false_iff, Bool.not_eq_true', Bool.not_eq_false', Bool.not_eq_true, Bool.not_eq_false, Int.not_lt, Int.not_le, Decidable.not_not, ne_eq] at hg24_137
                    refine Hq.ng rfl rfl rfl ?_
                    refine Hq.ng rfl rfl rfl ?_
                    refine Hq.ng rfl rfl rfl ?_
                    refine Hq.ng rfl rfl rfl ?_
                    refine Hq.ng rfl rfl rfl ?_
                    refine Hq.ng rfl rfl rfl ?_
                    refine Hq.ng rfl rfl rfl ?_
                    refine Hq.ng rfl rfl rfl ?_
                    refine Hq.ng rfl rfl rfl ?_
                    refine Hq.ng rfl rfl rfl ?_
                    refine Hq.ng rfl rfl rfl ?_
                    first | (refine Hq.yg rfl rfl (y_pickT rfl rfl) ?_) | (refine Hq.yg rfl rfl (y_pickF rfl rfl) ?_) | (refine Hq.yg rfl rfl (y_pickb rfl rfl rfl) ?_) | (refine Hq.yg rfl rfl (y_pick rfl rfl rfl) ?_)
                    first | (refine Hq.yv (y_pickT rfl rfl) ?_) | (refine Hq.yv (y_pickF rfl rfl) ?_) | (refine Hq.yv (y_pickb rfl rfl rfl) ?_) | (refine Hq.yv (y_pick rfl rfl rfl) ?_)
                    refine Hq.yv (y_assign rfl) ?_
                    refine Hq.nil ?_
                    refine Hd.slots [(11, _), (13, _), (14, _), (15, _)] ⟨rfl, rfl, rfl, rfl, trivial⟩ ?_
                    refine Hd.inB ?_
                    clear hK1 hK2 hK3 hK4 hK5 hK6 hK7 hK8 hK10 hK12 hK13 hK14 hK15 hK16 hK17 hK18 hK19
                    refine Hd.thenN ?_
                    exact Hd.meet (r1, rs2, a3, c3, pullB (flat rs1) o.nn) (by repeat (first | exact trivial | refine ⟨rfl, ?_⟩)) (Ent.sep (.pure ⟨h1.1, hg2, Nat.le_trans (pullB_le _ _) hl1⟩ (.pick pkk (.pick pkk (.pick pkk (.pick pkk (.ex (a2, c2) (.eq pkk (seg_eq (by rw [h1.2.1])) (.eq pkk (own_eq (by rw [h1.2.1]) (by rw [h1.2.1])) enn)))))))))
                  ·
                    try simp only [decide_eq_true_eq, decide_eq_false_iff_not, Bool.and_eq_true, Bool.or_eq_true, Bool.and_eq_false_iff, Bool.or_eq_false_iff, Bool.not_eq_true', Bool.not_eq_false', Bool.not_eq_true, Bool.not_eq_false, Int.not_lt, Int.not_le, Decidable.not_not, ne_eq] at hg24_137
                    have hn0 : o.nn ≠ 0 := by simpa using hg24_137
                    have hok : pullOk (flat rs1).length o.nn = true := Decidable.byContradiction fun h => by
                      unfold pullE at hpe; rw [if_neg h] at hpe; cases hpe
                    have hpos : 0 < o.nn := by
                      simp only [pullOk, Bool.and_eq_true, decide_eq_true_eq] at hok; omega
                    obtain ⟨r0, rest, hr0, hr0n⟩ := h1.2.2 hok hpos
                    have hr1l : 0 < r1.length := by rw [hr0]; simp
                    refine Hq.yg rfl rfl (y_move rfl) ?_
                    refine Hq.yg rfl rfl (y_len Try.underlying59 rfl) ?_
                    refine Hq.yg rfl rfl (y_to (y_gtr rfl rfl) (congrArg Value.bool (decide_eq_true ((by rw [hr0]; simp))))) ?_
                    refine Hq.yg rfl rfl (y_move rfl) ?_
                    refine Hq.part (gd := 141) rfl (fun hg24_141 => ?_) (fun hg24_141 => ?_)
                    ·
                      try simp only [decide_eq_true_eq, decide_eq_false_iff_not, Bool.and_eq_true, Bool.or_eq_true, Bool.and_eq_false_iff, Bool.or_eq_false_iff, Bool.not_eq_true', Bool.not_eq_false', Bool.not_eq_true, Bool.not_eq_false, Int.not_lt, Int.not_le, Decidable.not_not, ne_eq] at hg24_141
                      refine Hq.yg rfl rfl (y_move rfl) ?_
                      first | (refine Hq.yg rfl rfl (y_idxS Try.underlying59 sz3 rfl rfl (by first | exact (show (0 : Nat) < _ by omega) | omega | decide)) ?_) | (refine Hq.yg rfl rfl (y_idxR Try.underlying59 sz3 rfl rfl (by first | exact (show (0 : Nat) < _ by omega) | omega | decide) (by (first | exact RdS.own pkk | exact RdS.mono hQ4 (Ent.sep enn) | exact RdS.mono hQ5 (Ent.sep enn)))) ?_)
                      first | (refine Hq.yg rfl rfl (y_load1 ag3 rfl (Rd.pt1 pkk (by (first | exact ints_at hi | exact (by rw [hr0]; rfl : (lens r1)[0 * 1]? = some (V (r0.l.length : Int))) | rfl)))) ?_) | (refine Hq.yg rfl rfl (y_load1 ag3 rfl (Rd.seg1 pkk (by (first | exact ints_at hi | exact (by rw [hr0]; rfl : (lens r1)[0 * 1]? = some (V (r0.l.length : Int))) | rfl)))) ?_) | (refine Hq.yg rfl rfl (y_loadR1 ag3 rfl (by (first | exact RdS.own pkk | exact RdS.mono hQ4 (Ent.sep enn) | exact RdS.mono hQ5 (Ent.sep enn))) (by (first | exact ints_at hi | exact (by rw [hr0]; rfl : (lens r1)[0 * 1]? = some (V (r0.l.length : Int))) | rfl))) ?_)
                      first | (refine Hq.yg rfl rfl (y_field' (q := 3) (ft := 3) Try.underlying36 rfl sz3 rfl rfl) ?_) | (refine Hq.yg rfl rfl (y_fieldR (q := 3) (ft := 3) Try.underlying36 rfl sz3 rfl rfl) ?_)
                      first | (refine Hq.yg rfl rfl (y_load1 ag3 rfl (Rd.pt1 pkk (by (first | exact ints_at hi | exact (by rw [hr0]; rfl : (lens r1)[0 * 1]? = some (V (r0.l.length : Int))) | rfl)))) ?_) | (refine Hq.yg rfl rfl (y_load1 ag3 rfl (Rd.seg1 pkk (by (first | exact ints_at hi | exact (by rw [hr0]; rfl : (lens r1)[0 * 1]? = some (V (r0.l.length : Int))) | rfl)))) ?_) | (refine Hq.yg rfl rfl (y_loadR1 ag3 rfl (by (first | exact RdS.own pkk | exact RdS.mono hQ4 (Ent.sep enn) | exact RdS.mono hQ5 (Ent.sep enn))) (by (first | exact ints_at hi | exact (by rw [hr0]; rfl : (lens r1)[0 * 1]? = some (V (r0.l.length : Int))) | rfl))) ?_)
                      refine Hq.yg rfl rfl (y_to (y_geq rfl rfl) (congrArg Value.bool (decide_eq_true ((by omega))))) ?_
                      first | (refine Hq.yg rfl rfl (y_pickT rfl rfl) ?_) | (refine Hq.yg rfl rfl (y_pickF rfl rfl) ?_) | (refine Hq.yg rfl rfl (y_pickb rfl rfl rfl) ?_) | (refine Hq.yg rfl rfl (y_pick rfl rfl rfl) ?_)
                      first | (refine Hq.yg rfl rfl (y_pickT rfl rfl) ?_) | (refine Hq.yg rfl rfl (y_pickF rfl rfl) ?_) | (refine Hq.yg rfl rfl (y_pickb rfl rfl rfl) ?_) | (refine Hq.yg rfl rfl (y_pick rfl rfl rfl) ?_)
                      first | (refine Hq.yv (y_pickT rfl rfl) ?_) | (refine Hq.yv (y_pickF rfl rfl) ?_) | (refine Hq.yv (y_pickb rfl rfl rfl) ?_) | (refine Hq.yv (y_pick rfl rfl rfl) ?_)
                      refine Hq.yv (y_assign rfl) ?_
                      refine Hq.nil ?_
                      refine Hd.slots [(11, _), (13, _), (14, _), (15, _)] ⟨rfl, rfl, rfl, rfl, trivial⟩ ?_
                      refine Hd.inB ?_
                      clear hK1 hK2 hK3 hK4 hK5 hK6 hK7 hK8 hK10 hK12 hK13 hK14 hK15 hK16 hK17 hK18 hK19
                      refine Hd.thenN ?_
                      exact Hd.meet (r1, rs2, a3, c3, pullB (flat rs1) o.nn) (by repeat (first | exact trivial | refine ⟨rfl, ?_⟩)) (Ent.sep (.pure ⟨h1.1, hg2, Nat.le_trans (pullB_le _ _) hl1⟩ (.pick pkk (.pick pkk (.pick pkk (.pick pkk (.ex (a2, c2) (.eq pkk (seg_eq (by rw [h1.2.1])) (.eq pkk (own_eq (by rw [h1.2.1]) (by rw [h1.2.1])) enn)))))))))
                    ·
                      try simp only [decide_eq_true_eq, decide_eq_false_iff_not, Bool.and_eq_true, Bool.or_eq_true, Bool.and_eq_false_iff, Bool.or_eq_false_iff, Bool.not_eq_true', Bool.not_eq_false', Bool.not_eq_true, Bool.not_eq_false, Int.not_lt, Int.not_le, Decidable.not_not, ne_eq] at hg24_141
                      exact absurd hg24_141 (by decide)
              ·
                try simp only [decide_eq_true_eq, decide_eq_false_iff_not, Bool.and_eq_true, Bool.or_eq_true, Bool.and_eq_false_iff, Bool.or_eq_false_iff, Bool.not_eq_true', Bool.not_eq_false', Bool.not_eq_true, Bool.not_eq_false, Int.not_lt, Int.not_le, Decidable.not_not, ne_eq] at hc5
                refine Hd.seq (fun K20 hK20 => ?_)
                refine Hd.region ?_
                first | (refine Hd.yv (y_eqlT rfl rfl) ?_) | (refine Hd.yv (y_eql rfl rfl) ?_)
                refine Hd.yv (y_assign rfl) ?_
                refine Hd.nil ?_
                refine Hd.slots [(0, _), (1, _), (2, _), (3, _), (9, _), (11, _), (12, _), (13, _), (14, _), (15, _), (44, _), (151, _)] ⟨rfl, rfl, rfl, rfl, rfl, rfl, rfl, rfl, rfl, rfl, rfl, rfl, trivial⟩ ?_
                refine Hd.toK hK20 ?_
                refine Hd.cond rfl (fun hc6 => ?_) (fun hc6 => ?_)
                ·
                  try simp only [decide_eq_true_eq, decide_eq_false_iff_not, Bool.and_eq_true, Bool.or_eq_true, Bool.and_eq_false_iff, Bool.or_eq_false_iff, Bool.not_eq_true', Bool.not_eq_false', Bool.not_eq_true, Bool.not_eq_false, Int.not_lt, Int.not_le, Decidable.not_not, ne_eq] at hc6
                  refine Hd.seq (fun K21 hK21 => ?_)
                  refine Hd.region ?_
                  refine Hd.yv (y_move rfl) ?_
                  refine Hd.yv (y_move rfl) ?_
                  first | (refine Hd.yv (y_field' (q := 4) (ft := 3) Try.underlying36 rfl sz3 rfl rfl) ?_) | (refine Hd.yv (y_fieldR (q := 4) (ft := 3) Try.underlying36 rfl sz3 rfl rfl) ?_)
                  first | (refine Hd.yv (y_load1 ag3 rfl (Rd.pt1 pkk (by (first | exact ints_at hi | exact (by rw [hr0]; rfl : (lens r1)[0 * 1]? = some (V (r0.l.length : Int))) | rfl)))) ?_) | (refine Hd.yv (y_load1 ag3 rfl (Rd.seg1 pkk (by (first | exact ints_at hi | exact (by rw [hr0]; rfl : (lens r1)[0 * 1]? = some (V (r0.l.length : Int))) | rfl)))) ?_) | (refine Hd.yv (y_loadR1 ag3 rfl (by (first | exact RdS.own pkk | exact RdS.mono hQ4 (Ent.sep enn) | exact RdS.mono hQ5 (Ent.sep enn))) (by (first | exact ints_at hi | exact (by rw [hr0]; rfl : (lens r1)[0 * 1]? = some (V (r0.l.length : Int))) | rfl))) ?_)
                  refine Hd.callE rfl fk20 (find_ct (own 5 1 a bb.length c (bsl bb) :: Ch b2 0 rs2 :: Rf b3 0 (flat rs1) :: Rf b4 0 (flat rs2) :: pt b9 (encO o) 36 :: L) b1 0 rs1 hg1 a c bb (RdS.own .here) (by omega) o.f hff) (Ent.sep enn) ?_
                  intro r
                  refine Hd.pure (fun h1 => ?_)
                  refine Hd.yv (y_move rfl) ?_
                  refine Hd.yv (y_extract rfl rfl) ?_
                  refine Hd.yv (y_extract rfl rfl) ?_
                  refine Hd.yv (y_assign rfl) ?_
                  refine Hd.yv (y_assign rfl) ?_
                  refine Hd.nil ?_
                  refine Hd.slots [(2, _), (9, _), (11, _), (12, _), (14, _), (15, _), (23, _), (24, _)] ⟨rfl, rfl, rfl, rfl, rfl, rfl, rfl, rfl, trivial⟩ ?_
                  refine Hd.toK hK21 ?_
                  refine Hd.seq (fun K22 hK22 => ?_)
                  refine Hd.region ?_
                  refine Hd.yv (y_move rfl) ?_
                  refine Hd.yv (y_move rfl) ?_
                  refine Hd.bytesOf Try.underlying9 Try.underlying22 Try.underlying5 rfl (by first | assumption | (simp only [maxLen]; omega)) (fun ad164 cap164 => ?_)
                  first | (refine Hd.yv (y_field' (q := 4) (ft := 3) Try.underlying36 rfl sz3 rfl rfl) ?_) | (refine Hd.yv (y_fieldR (q := 4) (ft := 3) Try.underlying36 rfl sz3 rfl rfl) ?_)
                  first | (refine Hd.yv (y_load1 ag3 rfl (Rd.pt1 pkk (by (first | exact ints_at hi | exact (by rw [hr0]; rfl : (lens r1)[0 * 1]? = some (V (r0.l.length : Int))) | rfl)))) ?_) | (refine Hd.yv (y_load1 ag3 rfl (Rd.seg1 pkk (by (first | exact ints_at hi | exact (by rw [hr0]; rfl : (lens r1)[0 * 1]? = some (V (r0.l.length : Int))) | rfl)))) ?_) | (refine Hd.yv (y_loadR1 ag3 rfl (by (first | exact RdS.own pkk | exact RdS.mono hQ4 (Ent.sep enn) | exact RdS.mono hQ5 (Ent.sep enn))) (by (first | exact ints_at hi | exact (by rw [hr0]; rfl : (lens r1)[0 * 1]? = some (V (r0.l.length : Int))) | rfl))) ?_)
                  refine Hd.callE rfl fk67 (rfind_ct (own 5 1 a bb.length c (bsl bb) :: Ch b1 0 rs1 :: Ch b2 0 rs2 :: Rf b4 0 (flat rs2) :: pt b9 (encO o) 36 :: own 5 1 ad164 bb.length cap164 (bsl bb) :: L) b3 0 (flat rs1) hl1 ad164 cap164 bb (RdS.own pkk) (by omega) o.f hff) (Ent.sep enn) ?_
                  intro r'
                  refine Hd.pure (fun h2 => ?_)
                  obtain rfl := fnd_one h1 h2
                  refine Hd.yv (y_move rfl) ?_
                  refine Hd.yv (y_extract rfl rfl) ?_
                  refine Hd.yv (y_extract rfl rfl) ?_
                  refine Hd.yv (y_assign rfl) ?_
                  refine Hd.yv (y_assign rfl) ?_
                  refine Hd.nil ?_
                  refine Hd.slots [(11, _), (14, _), (15, _), (23, _), (24, _), (25, _), (26, _)] ⟨rfl, rfl, rfl, rfl, rfl, rfl, rfl, trivial⟩ ?_
                  refine Hd.toK hK22 ?_
                  refine Hd.region ?_
                  refine Hd.yv (y_move rfl) ?_
                  refine Hd.yv (y_move rfl) ?_
                  first | (refine Hd.yv (y_to (y_eqlT rfl rfl) (congrArg Value.bool (decide_eq_true (rfl)))) ?_) | (refine Hd.yv (y_to (y_eql rfl rfl) (congrArg Value.bool (decide_eq_true (rfl)))) ?_)
                  refine Hd.yv (y_move rfl) ?_
                  refine Hd.yg rfl rfl (y_move rfl) ?_
                  refine Hd.yg rfl rfl (y_move rfl) ?_
                  refine Hd.yg rfl rfl (y_to (v' := .bool true) (y_eqlb Try.underlying4 rfl rfl) (by simp)) ?_
                  first | (refine Hd.yv (y_pickT rfl rfl) ?_) | (refine Hd.yv (y_pickF rfl rfl) ?_) | (refine Hd.yv (y_pickb rfl rfl rfl) ?_) | (refine Hd.yv (y_pick rfl rfl rfl) ?_)
                  refine Hd.yv (y_assign rfl) ?_
                  refine Hd.nil ?_
                  refine Hd.slots [(11, _), (13, _), (14, _), (15, _)] ⟨rfl, rfl, rfl, rfl, trivial⟩ ?_
                  refine Hd.inB ?_
                  clear hK1 hK2 hK3 hK4 hK5 hK6 hK7 hK8 hK10 hK12 hK13 hK14 hK15 hK20 hK21 hK22
                  refine Hd.thenN ?_
                  exact Hd.meet (rs1, rs2, none, 0, []) (by repeat (first | exact trivial | refine ⟨rfl, ?_⟩)) (Ent.sep (.pure ⟨hg1, hg2, Nat.zero_le _⟩ (.ownNil enn)))
                ·
                  try simp only [decide_eq_true_eq, decide_eq_false_iff_not, Bool.and_eq_true, Bool.or_eq_true, Bool.and_eq_false_iff, Bool.or_eq_false_iff, Bool.not_eq_true', Bool.not_eq_false', Bool.not_eq_true, Bool.not_eq_false, Int.not_lt, Int.not_le, Decidable.not_not, ne_eq] at hc6
                  refine Hd.seq (fun K23 hK23 => ?_)
                  refine Hd.region ?_
                  first | (refine Hd.yv (y_eqlT rfl rfl) ?_) | (refine Hd.yv (y_eql rfl rfl) ?_)
                  refine Hd.yv (y_assign rfl) ?_
                  refine Hd.nil ?_
                  refine Hd.slots [(0, _), (1, _), (2, _), (3, _), (9, _), (11, _), (13, _), (14, _), (15, _), (44, _), (178, _)] ⟨rfl, rfl, rfl, rfl, rfl, rfl, rfl, rfl, rfl, rfl, rfl, trivial⟩ ?_
                  refine Hd.toK hK23 ?_
                  refine Hd.cond rfl (fun hc7 => ?_) (fun hc7 => ?_)
                  ·
                    try simp only [decide_eq_true_eq, decide_eq_false_iff_not, Bool.and_eq_true, Bool.or_eq_true, Bool.and_eq_false_iff, Bool.or_eq_false_iff, Bool.not_eq_true', Bool.not_eq_false', Bool.not_eq_true, Bool.not_eq_false, Int.not_lt, Int.not_le, Decidable.not_not, ne_eq] at hc7
                    refine Hd.seq (fun K24 hK24 => ?_)
                    refine Hd.region ?_
                    refine Hd.yv (y_move rfl) ?_
                    refine Hd.callE rfl fk25 (line_ct (own 5 1 a bb.length c (bsl bb) :: Ch b2 0 rs2 :: Rf b3 0 (flat rs1) :: Rf b4 0 (flat rs2) :: L) b1 0 rs1 hg1) (Ent.sep enn) ?_
                    rintro ⟨r, r1, a3, c3⟩
                    dsimp only
                    refine Hd.pure (fun h1 => ?_)
                    refine Hd.yv (y_move rfl) ?_
                    refine Hd.yv (y_extract rfl rfl) ?_
                    refine Hd.yv (y_extract rfl rfl) ?_
                    refine Hd.yv (y_assign rfl) ?_
                    refine Hd.yv (y_assign rfl) ?_
                    refine Hd.nil ?_
                    refine Hd.slots [(2, _), (11, _), (27, _), (28, _)] ⟨rfl, rfl, rfl, rfl, trivial⟩ ?_
                    refine Hd.toK hK24 ?_
                    refine Hd.seq (fun K25 hK25 => ?_)
                    refine Hd.region ?_
                    refine Hd.yv (y_move rfl) ?_
                    refine Hd.callE rfl fk68 (rline_ct (own 5 1 a3 ((flat rs1).take (r.getD 0)).length c3 (bsl ((flat rs1).take (r.getD 0))) :: own 5 1 a bb.length c (bsl bb) :: Ch b1 0 r1 :: Ch b2 0 rs2 :: Rf b4 0 (flat rs2) :: L) b3 0 (flat rs1) hl1) (Ent.sep enn) ?_
                    rintro ⟨r', a4, c4⟩
                    dsimp only
                    refine Hd.pure (fun h2 => ?_)
                    obtain rfl := fnd_one h1.1 h2
                    have h3 : flat r1 = (flat rs1).drop (lnK r) := h1.2.1
                    refine Hd.yv (y_move rfl) ?_
                    refine Hd.yv (y_extract rfl rfl) ?_
                    refine Hd.yv (y_extract rfl rfl) ?_
                    refine Hd.yv (y_assign rfl) ?_
                    refine Hd.yv (y_assign rfl) ?_
                    refine Hd.nil ?_
                    refine Hd.slots [(11, _), (27, _), (28, _), (29, _), (30, _)] ⟨rfl, rfl, rfl, rfl, rfl, trivial⟩ ?_
                    refine Hd.toK hK25 ?_
                    refine Hd.seq (fun K26 hK26 => ?_)
                    refine Hd.quiet mixed (by kernel_rfl) ?_
                    refine Hq.yv (y_move rfl) ?_
                    refine Hq.yv (y_move rfl) ?_
                    refine Hq.yv (y_strOf (l := _) (by kernel_rfl) Try.underlying9 rfl (by (first | exact RdS.own pkk | exact RdS.mono hQ4 (Ent.sep enn) | exact RdS.mono hQ5 (Ent.sep enn)))) ?_
                    refine Hq.yv (y_assign rfl) ?_
                    refine Hq.yv (y_assign rfl) ?_
                    refine Hq.nil ?_
                    refine Hd.slots [(11, _), (14, _), (15, _), (28, _), (30, _)] ⟨rfl, rfl, rfl, rfl, rfl, trivial⟩ ?_
                    refine Hd.toK hK26 ?_
                    refine Hd.region ?_
                    refine Hd.yv (y_move rfl) ?_
                    refine Hd.yv (y_move rfl) ?_
                    refine Hd.yv (y_to (v' := .bool true) (y_eqlb Try.underlying4 rfl rfl) (by simp)) ?_
                    refine Hd.yv (y_assign rfl) ?_
                    refine Hd.nil ?_
                    refine Hd.slots [(11, _), (13, _), (14, _), (15, _)] ⟨rfl, rfl, rfl, rfl, trivial⟩ ?_
                    refine Hd.inB ?_
                    clear hK1 hK2 hK3 hK4 hK5 hK6 hK7 hK8 hK10 hK12 hK13 hK14 hK15 hK20 hK23 hK24 hK25 hK26
                    refine Hd.thenN ?_
                    exact Hd.meet (r1, rs2, a3, c3, (flat rs1).take (r.getD 0)) (by repeat (first | exact trivial | refine ⟨rfl, ?_⟩)) (Ent.sep (.pure ⟨h1.2.2, hg2, Nat.le_trans (cpy_len_le _ _) hl1⟩ (.pick pkk (.pick pkk (.pick pkk (.pick pkk (.eq pkk (rf_eq h3.symm) enn)))))))
                  ·
                    try simp only [decide_eq_true_eq, decide_eq_false_iff_not, Bool.and_eq_true, Bool.or_eq_true, Bool.and_eq_false_iff, Bool.or_eq_false_iff, Bool.not_eq_true', Bool.not_eq_false', Bool.not_eq_true, Bool.not_eq_false, Int.not_lt, Int.not_le, Decidable.not_not, ne_eq] at hc7
                    refine Hd.seq (fun K27 hK27 => ?_)
                    refine Hd.region ?_
                    first | (refine Hd.yv (y_eqlT rfl rfl) ?_) | (refine Hd.yv (y_eql rfl rfl) ?_)
                    refine Hd.yv (y_assign rfl) ?_
                    refine Hd.nil ?_
                    refine Hd.slots [(0, _), (1, _), (2, _), (3, _), (9, _), (11, _), (13, _), (14, _), (15, _), (44, _), (196, _)] ⟨rfl, rfl, rfl, rfl, rfl, rfl, rfl, rfl, rfl, rfl, rfl, trivial⟩ ?_
                    refine Hd.toK hK27 ?_
                    refine Hd.cond rfl (fun hc8 => ?_) (fun hc8 => ?_)
                    ·
                      try simp only [decide_eq_true_eq, decide_eq_false_iff_not, Bool.and_eq_true, Bool.or_eq_true, Bool.and_eq_false_iff, Bool.or_eq_false_iff, Bool.not_eq_true', Bool.not_eq_false', Bool.not_eq_true, Bool.not_eq_false, Int.not_lt, Int.not_le, Decidable.not_not, ne_eq] at hc8
                      refine Hd.seq (fun K28 hK28 => ?_)
                      refine Hd.region ?_
                      refine Hd.yv (y_move rfl) ?_
                      refine Hd.yv (y_move rfl) ?_
                      first | (refine Hd.yv (y_field' (q := 3) (ft := 3) Try.underlying36 rfl sz3 rfl rfl) ?_) | (refine Hd.yv (y_fieldR (q := 3) (ft := 3) Try.underlying36 rfl sz3 rfl rfl) ?_)
                      first | (refine Hd.yv (y_load1 ag3 rfl (Rd.pt1 pkk (by (first | exact ints_at hi | exact (by rw [hr0]; rfl : (lens r1)[0 * 1]? = some (V (r0.l.length : Int))) | rfl)))) ?_) | (refine Hd.yv (y_load1 ag3 rfl (Rd.seg1 pkk (by (first | exact ints_at hi | exact (by rw [hr0]; rfl : (lens r1)[0 * 1]? = some (V (r0.l.length : Int))) | rfl)))) ?_) | (refine Hd.yv (y_loadR1 ag3 rfl (by (first | exact RdS.own pkk | exact RdS.mono hQ4 (Ent.sep enn) | exact RdS.mono hQ5 (Ent.sep enn))) (by (first | exact ints_at hi | exact (by rw [hr0]; rfl : (lens r1)[0 * 1]? = some (V (r0.l.length : Int))) | rfl))) ?_)
                      refine Hd.callE rfl fk24 (move_ct (own 5 1 a bb.length c (bsl bb) :: Rf b3 0 (flat rs1) :: Rf b4 0 (flat rs2) :: pt b9 (encO o) 36 :: L) b1 0 b2 0 rs1 rs2 hg1 hg2 o.nn hnn (NeP.mono hne (Ent.sep enn))) (Ent.sep enn) ?_
                      rintro ⟨r1, r2⟩
                      dsimp only
                      refine Hd.pure (fun h1 => ?_)
                      refine Hd.yv (y_move rfl) ?_
                      refine Hd.yv (y_extract rfl rfl) ?_
                      refine Hd.yv (y_extract rfl rfl) ?_
                      refine Hd.yv (y_assign rfl) ?_
                      refine Hd.yv (y_assign rfl) ?_
                      refine Hd.nil ?_
                      refine Hd.slots [(2, _), (3, _), (9, _), (11, _), (14, _), (15, _), (31, _), (32, _)] ⟨rfl, rfl, rfl, rfl, rfl, rfl, rfl, rfl, trivial⟩ ?_
                      refine Hd.toK hK28 ?_
                      refine Hd.seq (fun K29 hK29 => ?_)
                      refine Hd.region ?_
                      refine Hd.yv (y_move rfl) ?_
                      refine Hd.yv (y_move rfl) ?_
                      first | (refine Hd.yv (y_field' (q := 3) (ft := 3) Try.underlying36 rfl sz3 rfl rfl) ?_) | (refine Hd.yv (y_fieldR (q := 3) (ft := 3) Try.underlying36 rfl sz3 rfl rfl) ?_)
                      first | (refine Hd.yv (y_load1 ag3 rfl (Rd.pt1 pkk (by (first | exact ints_at hi | exact (by rw [hr0]; rfl : (lens r1)[0 * 1]? = some (V (r0.l.length : Int))) | rfl)))) ?_) | (refine Hd.yv (y_load1 ag3 rfl (Rd.seg1 pkk (by (first | exact ints_at hi | exact (by rw [hr0]; rfl : (lens r1)[0 * 1]? = some (V (r0.l.length : Int))) | rfl)))) ?_) | (refine Hd.yv (y_loadR1 ag3 rfl (by (first | exact RdS.own pkk | exact RdS.mono hQ4 (Ent.sep enn) | exact RdS.mono hQ5 (Ent.sep enn))) (by (first | exact ints_at hi | exact (by rw [hr0]; rfl : (lens r1)[0 * 1]? = some (V (r0.l.length : Int))) | rfl))) ?_)
                      refine Hd.callE rfl fk69 (rmove_ct (own 5 1 a bb.length c (bsl bb) :: Ch b1 0 r1 :: Ch b2 0 r2 :: pt b9 (encO o) 36 :: L) b3 0 (flat rs1) hl1 b4 0 (flat rs2) hl2 o.nn hnn) (Ent.sep enn) ?_
                      intro _
                      refine Hd.yv (y_move rfl) ?_
                      refine Hd.yv (y_extract rfl rfl) ?_
                      refine Hd.yv (y_extract rfl rfl) ?_
                      refine Hd.yv (y_assign rfl) ?_
                      refine Hd.yv (y_assign rfl) ?_
                      refine Hd.nil ?_
                      refine Hd.slots [(11, _), (14, _), (15, _), (31, _), (32, _), (33, _), (34, _)] ⟨rfl, rfl, rfl, rfl, rfl, rfl, rfl, trivial⟩ ?_
                      refine Hd.toK hK29 ?_
                      refine Hd.region ?_
                      refine Hd.yv (y_move rfl) ?_
                      refine Hd.yv (y_move rfl) ?_
                      first | (refine Hd.yv (y_to (y_eqlT rfl rfl) (congrArg Value.bool (decide_eq_true (rfl)))) ?_) | (refine Hd.yv (y_to (y_eql rfl rfl) (congrArg Value.bool (decide_eq_true (rfl)))) ?_)
                      refine Hd.yv (y_move rfl) ?_
                      refine Hd.yg rfl rfl (y_move rfl) ?_
                      refine Hd.yg rfl rfl (y_move rfl) ?_
                      first | (refine Hd.yg rfl rfl (y_to (y_eqlT rfl rfl) (congrArg Value.bool (decide_eq_true (rfl)))) ?_) | (refine Hd.yg rfl rfl (y_to (y_eql rfl rfl) (congrArg Value.bool (decide_eq_true (rfl)))) ?_)
                      first | (refine Hd.yv (y_pickT rfl rfl) ?_) | (refine Hd.yv (y_pickF rfl rfl) ?_) | (refine Hd.yv (y_pickb rfl rfl rfl) ?_) | (refine Hd.yv (y_pick rfl rfl rfl) ?_)
                      refine Hd.yv (y_assign rfl) ?_
                      refine Hd.nil ?_
                      refine Hd.slots [(11, _), (13, _), (14, _), (15, _)] ⟨rfl, rfl, rfl, rfl, trivial⟩ ?_
                      refine Hd.inB ?_
                      clear hK1 hK2 hK3 hK4 hK5 hK6 hK7 hK8 hK10 hK12 hK13 hK14 hK15 hK20 hK23 hK27 hK28 hK29
                      refine Hd.thenN ?_
                      exact Hd.meet (r1, r2, none, 0, []) (by repeat (first | exact trivial | refine ⟨rfl, ?_⟩)) (Ent.sep (.pure ⟨h1.1, h1.2.1, Nat.zero_le _⟩ (.ownNil (.pick pkk (.pick pkk (.pick pkk (.eq pkk (rf_eq h1.2.2.1.symm) (.eq pkk (rf_eq h1.2.2.2.symm) enn))))))))
                    ·
                      try simp only [decide_eq_true_eq, decide_eq_false_iff_not, Bool.and_eq_true, Bool.or_eq_true, Bool.and_eq_false_iff, Bool.or_eq_false_iff, Bool.not_eq_true', Bool.not_eq_false', Bool.not_eq_true, Bool.not_eq_false, Int.not_lt, Int.not_le, Decidable.not_not, ne_eq] at hc8
                      refine Hd.seq (fun K30 hK30 => ?_)
                      refine Hd.region ?_
                      first | (refine Hd.yv (y_eqlT rfl rfl) ?_) | (refine Hd.yv (y_eql rfl rfl) ?_)
                      refine Hd.yv (y_assign rfl) ?_
                      refine Hd.nil ?_
                      refine Hd.slots [(0, _), (9, _), (11, _), (13, _), (14, _), (15, _), (222, _)] ⟨rfl, rfl, rfl, rfl, rfl, rfl, rfl, trivial⟩ ?_
                      refine Hd.toK hK30 ?_
                      refine Hd.cond rfl (fun hc9 => ?_) (fun hc9 => ?_)
                      ·
                        try simp only [decide_eq_true_eq, decide_eq_false_iff_not, Bool.and_eq_true, Bool.or_eq_true, Bool.and_eq_false_iff, Bool.or_eq_false_iff, Bool.not_eq_true', Bool.not_eq_false', Bool.not_eq_true, Bool.not_eq_false, Int.not_lt, Int.not_le, Decidable.not_not, ne_eq] at hc9
                        refine Hd.seq (fun K31 hK31 => ?_)
                        refine Hd.region ?_
                        refine Hd.yv (y_move rfl) ?_
                        refine Hd.yv (y_move rfl) ?_
                        first | (refine Hd.yv (y_field' (q := 3) (ft := 3) Try.underlying36 rfl sz3 rfl rfl) ?_) | (refine Hd.yv (y_fieldR (q := 3) (ft := 3) Try.underlying36 rfl sz3 rfl rfl) ?_)
                        first | (refine Hd.yv (y_load1 ag3 rfl (Rd.pt1 pkk (by (first | exact ints_at hi | exact (by rw [hr0]; rfl : (lens r1)[0 * 1]? = some (V (r0.l.length : Int))) | rfl)))) ?_) | (refine Hd.yv (y_load1 ag3 rfl (Rd.seg1 pkk (by (first | exact ints_at hi | exact (by rw [hr0]; rfl : (lens r1)[0 * 1]? = some (V (r0.l.length : Int))) | rfl)))) ?_) | (refine Hd.yv (y_loadR1 ag3 rfl (by (first | exact RdS.own pkk | exact RdS.mono hQ4 (Ent.sep enn) | exact RdS.mono hQ5 (Ent.sep enn))) (by (first | exact ints_at hi | exact (by rw [hr0]; rfl : (lens r1)[0 * 1]? = some (V (r0.l.length : Int))) | rfl))) ?_)
                        refine Hd.call rfl fk24 (moveSelf_ct _ b1 0 o.nn) ?_
                        intro _
                        refine Hd.yv (y_move rfl) ?_
                        refine Hd.yv (y_extract rfl rfl) ?_
                        refine Hd.yv (y_extract rfl rfl) ?_
                        refine Hd.yv (y_assign rfl) ?_
                        refine Hd.yv (y_assign rfl) ?_
                        refine Hd.nil ?_
                        refine Hd.slots [(11, _), (14, _), (15, _), (35, _), (36, _)] ⟨rfl, rfl, rfl, rfl, rfl, trivial⟩ ?_
                        refine Hd.toK hK31 ?_
                        refine Hd.region ?_
                        refine Hd.yv (y_move rfl) ?_
                        first | (refine Hd.yv (y_to (y_eqlT rfl rfl) (congrArg Value.bool (decide_eq_true (rfl)))) ?_) | (refine Hd.yv (y_to (y_eql rfl rfl) (congrArg Value.bool (decide_eq_true (rfl)))) ?_)
                        refine Hd.yv (y_move rfl) ?_
                        refine Hd.yg rfl rfl (y_move rfl) ?_
                        first | (refine Hd.yg rfl rfl (y_to (y_eqlT rfl rfl) (congrArg Value.bool (decide_eq_true (rfl)))) ?_) | (refine Hd.yg rfl rfl (y_to (y_eql rfl rfl) (congrArg Value.bool (decide_eq_true (rfl)))) ?_)
                        first | (refine Hd.yv (y_pickT rfl rfl) ?_) | (refine Hd.yv (y_pickF rfl rfl) ?_) | (refine Hd.yv (y_pickb rfl rfl rfl) ?_) | (refine Hd.yv (y_pick rfl rfl rfl) ?_)
                        refine Hd.yv (y_assign rfl) ?_
                        refine Hd.nil ?_
                        refine Hd.slots [(11, _), (13, _), (14, _), (15, _)] ⟨rfl, rfl, rfl, rfl, trivial⟩ ?_
                        refine Hd.inB ?_
                        clear hK1 hK2 hK3 hK4 hK5 hK6 hK7 hK8 hK10 hK12 hK13 hK14 hK15 hK20 hK23 hK27 hK30 hK31
                        refine Hd.thenN ?_
                        exact Hd.meet (rs1, rs2, none, 0, []) (by repeat (first | exact trivial | refine ⟨rfl, ?_⟩)) (Ent.sep (.pure ⟨hg1, hg2, Nat.zero_le _⟩ (.ownNil enn)))
                      ·
                        try simp only [decide_eq_true_eq, decide_eq_false_iff_not, Bool.and_eq_true, Bool.or_eq_true, Bool.and_eq_false_iff, Bool.or_eq_false_iff, Bool.not_eq_true', Bool.not_eq_false', Bool.not_eq_true, Bool.not_eq_false, Int.not_lt, Int.not_le, Decidable.not_not, ne_eq] at hc9
                        refine Hd.skip ?_
                        refine Hd.inB ?_
                        clear hK1 hK2 hK3 hK4 hK5 hK6 hK7 hK8 hK10 hK12 hK13 hK14 hK15 hK20 hK23 hK27 hK30
                        refine Hd.thenN ?_
                        exact Hd.meet (rs1, rs2, none, 0, []) (by repeat (first | exact trivial | refine ⟨rfl, ?_⟩)) (Ent.sep (.pure ⟨hg1, hg2, Nat.zero_le _⟩ (.ownNil enn)))
  ·
    rintro ⟨r1, r2, a3, c3, gl⟩
    dsimp only
    refine Hd.pure (fun hj => ?_)
    obtain ⟨hj1, hj2, hgl⟩ := hj
    refine Hd.seq (fun K32 hK32 => ?_)
    refine Hd.region ?_
    refine Hd.yv (y_move rfl) ?_
    refine Hd.yv (y_move rfl) ?_
    refine Hd.yg rfl rfl (y_move rfl) ?_
    refine Hd.yg rfl rfl (y_strOf (l := _) (by kernel_rfl) Try.underlying9 rfl (by (first | exact RdS.own pkk | exact RdS.mono hQ4 (Ent.sep enn) | exact RdS.mono hQ5 (Ent.sep enn)))) ?_
    refine Hd.yg rfl rfl (y_move rfl) ?_
    refine Hd.yg rfl rfl (y_to (y_eqlstr rfl rfl) (congrArg Value.bool (decide_eq_true (rfl)))) ?_
    first | (refine Hd.yv (y_pickT rfl rfl) ?_) | (refine Hd.yv (y_pickF rfl rfl) ?_) | (refine Hd.yv (y_pickb rfl rfl rfl) ?_) | (refine Hd.yv (y_pick rfl rfl rfl) ?_)
    refine Hd.yv (y_assign rfl) ?_
    refine Hd.nil ?_
    refine Hd.slots [(11, _), (13, _), (14, _)] ⟨rfl, rfl, rfl, trivial⟩ ?_
    refine Hd.toK hK32 ?_
    refine Hd.seq (fun K33 hK33 => ?_)
    refine Hd.seq (fun K34 hK34 => ?_)
    refine Hd.region ?_
    refine Hd.yv (y_move rfl) ?_
    refine Hd.yv (y_len Try.underlying22 rfl) ?_
    refine Hd.yv (y_move rfl) ?_
    refine Hd.nil ?_
    refine Hd.slots [(11, _), (13, _), (14, _), (246, _), (247, _)] ⟨rfl, rfl, rfl, rfl, rfl, trivial⟩ ?_
    refine Hd.toK hK34 ?_
    refine Hd.block ?_
    refine Hd.loopK (ι := Nat × List Int) [(11, _), (13, _), (14, _), (246, _)] (fun q_ => [(247, .int .i64 (q_.1 : Int))]) (fun q_ => pu (q_.1 ≤ gl.length ∧ q_.2.length = gl.length) :: own 5 1 a3 gl.length c3 (q_.2.map (Value.int .u8)) :: own 5 1 a bb.length c (bsl bb) :: Ch b1 0 r1 :: Ch b2 0 r2 :: Rf b3 0 (flat r1) :: Rf b4 0 (flat r2) :: L) (fun q_ => gl.length - q_.1) (0, gl.map fun x => ((x.toNat : Nat) : Int)) (by repeat (first | exact trivial | refine ⟨rfl, ?_⟩)) (by repeat (first | exact trivial | refine ⟨rfl, ?_⟩)) (Ent.sep (.pure ⟨Nat.zero_le _, by simp⟩ (.eq pkk (own_eq rfl (bsl_ints gl)) enn))) ?_
    rintro ⟨i, zs⟩
    try dsimp only
    refine Hd.pure (fun hp0 => ?_)
    try dsimp only at hp0
    refine Hd.seq (fun K35 hK35 => ?_)
    refine Hd.region ?_
    refine Hd.yv (y_lss rfl rfl) ?_
    refine Hd.nil ?_
    refine Hd.slots [(11, _), (13, _), (14, _), (246, _), (247, _), (248, _)] ⟨rfl, rfl, rfl, rfl, rfl, rfl, trivial⟩ ?_
    refine Hd.toK hK35 ?_
    refine Hd.seq (fun K36 hK36 => ?_)
    refine Hd.cond rfl (fun hc10 => ?_) (fun hc10 => ?_)
    ·
      try simp only [decide_eq_true_eq, decide_eq_false_iff_not, Bool.and_eq_true, Bool.or_eq_true, Bool.and_eq_false_iff, Bool.or_eq_false_iff, Bool.not_eq_true', Bool.not_eq_false', Bool.not_eq_true, Bool.not_eq_false, Int.not_lt, Int.not_le, Decidable.not_not, ne_eq] at hc10
      have hi : i < zs.length := by omega
      refine Hd.skip ?_
      refine Hd.toK hK36 ?_
      refine Hd.seq (fun K37 hK37 => ?_)
      refine Hd.block ?_
      refine Hd.seq (fun K38 hK38 => ?_)
      refine Hd.region ?_
      refine Hd.yv (y_move rfl) ?_
      refine Hd.yv (y_assign rfl) ?_
      refine Hd.nil ?_
      refine Hd.slots [(11, _), (13, _), (14, _), (37, _), (246, _), (247, _)] ⟨rfl, rfl, rfl, rfl, rfl, rfl, trivial⟩ ?_
      refine Hd.toK hK38 ?_
      refine Hd.region ?_
      refine Hd.yv (y_move rfl) ?_
      refine Hd.yv (y_move rfl) ?_
      refine Hd.yv (y_move rfl) ?_
      refine Hd.yv (y_move rfl) ?_
      first | (refine Hd.yv (y_idxS Try.underlying22 sz5 rfl rfl (by first | omega | decide)) ?_) | (refine Hd.yv (y_idxR Try.underlying22 sz5 rfl rfl (by first | omega | decide) (by (first | exact RdS.own pkk | exact RdS.mono hQ4 (Ent.sep enn) | exact RdS.mono hQ5 (Ent.sep enn)))) ?_)
      first | (refine Hd.yv (y_load1 ag5 rfl (Rd.pt1 pkk (by (first | exact ints_at hi | exact (by rw [hr0]; rfl : (lens r1)[0 * 1]? = some (V (r0.l.length : Int))) | rfl)))) ?_) | (refine Hd.yv (y_load1 ag5 rfl (Rd.seg1 pkk (by (first | exact ints_at hi | exact (by rw [hr0]; rfl : (lens r1)[0 * 1]? = some (V (r0.l.length : Int))) | rfl)))) ?_) | (refine Hd.yv (y_loadR1 ag5 rfl (by (first | exact RdS.own pkk | exact RdS.mono hQ4 (Ent.sep enn) | exact RdS.mono hQ5 (Ent.sep enn))) (by (first | exact ints_at hi | exact (by rw [hr0]; rfl : (lens r1)[0 * 1]? = some (V (r0.l.length : Int))) | rfl))) ?_)
      first | (refine Hd.yv (y_addn rfl rfl (by simp only [InK]; omega)) ?_) | (refine Hd.yv (y_add rfl rfl) ?_)
      first | (refine Hd.yv (y_idxS Try.underlying22 sz5 rfl rfl (by first | omega | decide)) ?_) | (refine Hd.yv (y_idxR Try.underlying22 sz5 rfl rfl (by first | omega | decide) (by (first | exact RdS.own pkk | exact RdS.mono hQ4 (Ent.sep enn) | exact RdS.mono hQ5 (Ent.sep enn)))) ?_)
      first | (refine Hd.store1 sz5 rfl rfl rfl pkk (by first | decide | (simp; done) | (simp; omega)) ?_) | (refine Hd.storeG1 sz5 rfl rfl rfl pkk (by first | decide | (simp; done) | (simp; omega)) ?_) | (refine Hd.storeO1 sz5 rfl rfl rfl pkk (by first | omega | (simp; done) | (simp; omega)) ?_)
      try simp only [List.set_cons_zero, List.set_cons_succ]
      refine Hd.nil ?_
      refine Hd.slots [(11, _), (13, _), (14, _), (246, _), (247, _)] ⟨rfl, rfl, rfl, rfl, rfl, trivial⟩ ?_
      refine Hd.inB ?_
      refine Hd.toK hK37 ?_
      refine Hd.region ?_
      first | (refine Hd.yv (y_addn rfl rfl (by simp only [InK]; omega)) ?_) | (refine Hd.yv (y_add rfl rfl) ?_)
      refine Hd.yv (y_move rfl) ?_
      refine Hd.nil ?_
      refine Hd.slots [(11, _), (13, _), (14, _), (246, _), (247, _)] ⟨rfl, rfl, rfl, rfl, rfl, trivial⟩ ?_
      clear hK1 hK2 hK3 hK4 hK5 hK6 hK32 hK33 hK34 hK35 hK36 hK37 hK38
      refine Hd.thenN ?_
      exact Hd.again (i + 1, zs.set i (IntKind.u8.wrap (zs[i] + 1))) (by first | omega | (simp only; omega) | (simp; omega)) (by repeat (first | exact trivial | refine ⟨rfl, ?_⟩)) (Ent.sep (.pure ⟨by omega, by rw [List.length_set]; exact hp0.2⟩ (.eq pkk (own_eq rfl (by rw [List.map_set, Nat.mul_one])) enn)))
    ·
      try simp only [decide_eq_true_eq, decide_eq_false_iff_not, Bool.and_eq_true, Bool.or_eq_true, Bool.and_eq_false_iff, Bool.or_eq_false_iff, Bool.not_eq_true', Bool.not_eq_false', Bool.not_eq_true, Bool.not_eq_false, Int.not_lt, Int.not_le, Decidable.not_not, ne_eq] at hc10
      refine Hd.exit ?_
      refine Hd.thenExit ?_
      refine Hd.thenExit ?_
      refine Hd.inBexit ?_
      refine Hd.toK hK33 ?_
      refine Hd.seq (fun K39 hK39 => ?_)
      refine Hd.seq (fun K40 hK40 => ?_)
      refine Hd.region ?_
      refine Hd.yv (y_move rfl) ?_
      refine Hd.yv (y_len Try.underlying22 rfl) ?_
      refine Hd.yv (y_move rfl) ?_
      refine Hd.nil ?_
      refine Hd.slots [(11, _), (13, _), (260, _), (261, _)] ⟨rfl, rfl, rfl, rfl, trivial⟩ ?_
      refine Hd.toK hK40 ?_
      refine Hd.block ?_
      refine Hd.loopK (ι := Nat × List Int) [(11, _), (13, _), (260, _)] (fun q_ => [(261, .int .i64 (q_.1 : Int))]) (fun q_ => pu (q_.1 ≤ bb.length ∧ q_.2.length = bb.length) :: own 5 1 a bb.length c (q_.2.map (Value.int .u8)) :: Ch b1 0 r1 :: Ch b2 0 r2 :: Rf b3 0 (flat r1) :: Rf b4 0 (flat r2) :: L) (fun q_ => bb.length - q_.1) (0, bb.map fun x => ((x.toNat : Nat) : Int)) (by repeat (first | exact trivial | refine ⟨rfl, ?_⟩)) (by repeat (first | exact trivial | refine ⟨rfl, ?_⟩)) (Ent.sep (.pure ⟨Nat.zero_le _, by simp⟩ (.eq pkk (own_eq rfl (bsl_ints bb)) enn))) ?_
      rintro ⟨i, zs⟩
      try dsimp only
      refine Hd.pure (fun hp1 => ?_)
      try dsimp only at hp1
      refine Hd.seq (fun K41 hK41 => ?_)
      refine Hd.region ?_
      refine Hd.yv (y_lss rfl rfl) ?_
      refine Hd.nil ?_
      refine Hd.slots [(11, _), (13, _), (260, _), (261, _), (262, _)] ⟨rfl, rfl, rfl, rfl, rfl, trivial⟩ ?_
      refine Hd.toK hK41 ?_
      refine Hd.seq (fun K42 hK42 => ?_)
      refine Hd.cond rfl (fun hc11 => ?_) (fun hc11 => ?_)
      ·
        try simp only [decide_eq_true_eq, decide_eq_false_iff_not, Bool.and_eq_true, Bool.or_eq_true, Bool.and_eq_false_iff, Bool.or_eq_false_iff, Bool.not_eq_true', Bool.not_eq_false', Bool.not_eq_true, Bool.not_eq_false, Int.not_lt, Int.not_le, Decidable.not_not, ne_eq] at hc11
        have hi : i < zs.length := by omega
        refine Hd.skip ?_
        refine Hd.toK hK42 ?_
        refine Hd.seq (fun K43 hK43 => ?_)
        refine Hd.block ?_
        refine Hd.seq (fun K44 hK44 => ?_)
        refine Hd.region ?_
        refine Hd.yv (y_move rfl) ?_
        refine Hd.yv (y_assign rfl) ?_
        refine Hd.nil ?_
        refine Hd.slots [(11, _), (13, _), (38, _), (260, _), (261, _)] ⟨rfl, rfl, rfl, rfl, rfl, trivial⟩ ?_
        refine Hd.toK hK44 ?_
        refine Hd.region ?_
        refine Hd.yv (y_move rfl) ?_
        refine Hd.yv (y_move rfl) ?_
        refine Hd.yv (y_move rfl) ?_
        refine Hd.yv (y_move rfl) ?_
        first | (refine Hd.yv (y_idxS Try.underlying22 sz5 rfl rfl (by first | omega | decide)) ?_) | (refine Hd.yv (y_idxR Try.underlying22 sz5 rfl rfl (by first | omega | decide) (by (first | exact RdS.own pkk | exact RdS.mono hQ4 (Ent.sep enn) | exact RdS.mono hQ5 (Ent.sep enn)))) ?_)
        first | (refine Hd.yv (y_load1 ag5 rfl (Rd.pt1 pkk (by (first | exact ints_at hi | exact (by rw [hr0]; rfl : (lens r1)[0 * 1]? = some (V (r0.l.length : Int))) | rfl)))) ?_) | (refine Hd.yv (y_load1 ag5 rfl (Rd.seg1 pkk (by (first | exact ints_at hi | exact (by rw [hr0]; rfl : (lens r1)[0 * 1]? = some (V (r0.l.length : Int))) | rfl)))) ?_) | (refine Hd.yv (y_loadR1 ag5 rfl (by (first | exact RdS.own pkk | exact RdS.mono hQ4 (Ent.sep enn) | exact RdS.mono hQ5 (Ent.sep enn))) (by (first | exact ints_at hi | exact (by rw [hr0]; rfl : (lens r1)[0 * 1]? = some (V (r0.l.length : Int))) | rfl))) ?_)
        first | (refine Hd.yv (y_addn rfl rfl (by simp only [InK]; omega)) ?_) | (refine Hd.yv (y_add rfl rfl) ?_)
        first | (refine Hd.yv (y_idxS Try.underlying22 sz5 rfl rfl (by first | omega | decide)) ?_) | (refine Hd.yv (y_idxR Try.underlying22 sz5 rfl rfl (by first | omega | decide) (by (first | exact RdS.own pkk | exact RdS.mono hQ4 (Ent.sep enn) | exact RdS.mono hQ5 (Ent.sep enn)))) ?_)
        first | (refine Hd.store1 sz5 rfl rfl rfl pkk (by first | decide | (simp; done) | (simp; omega)) ?_) | (refine Hd.storeG1 sz5 rfl rfl rfl pkk (by first | decide | (simp; done) | (simp; omega)) ?_) | (refine Hd.storeO1 sz5 rfl rfl rfl pkk (by first | omega | (simp; done) | (simp; omega)) ?_)
        try simp only [List.set_cons_zero, List.set_cons_succ]
        refine Hd.nil ?_
        refine Hd.slots [(11, _), (13, _), (260, _), (261, _)] ⟨rfl, rfl, rfl, rfl, trivial⟩ ?_
        refine Hd.inB ?_
        refine Hd.toK hK43 ?_
        refine Hd.region ?_
        first | (refine Hd.yv (y_addn rfl rfl (by simp only [InK]; omega)) ?_) | (refine Hd.yv (y_add rfl rfl) ?_)
        refine Hd.yv (y_move rfl) ?_
        refine Hd.nil ?_
        refine Hd.slots [(11, _), (13, _), (260, _), (261, _)] ⟨rfl, rfl, rfl, rfl, trivial⟩ ?_
        clear hK1 hK2 hK3 hK4 hK5 hK6 hK32 hK33 hK34 hK35 hK36 hK39 hK40 hK41 hK42 hK43 hK44
        refine Hd.thenN ?_
        exact Hd.again (i + 1, zs.set i (IntKind.u8.wrap (zs[i] + 1))) (by first | omega | (simp only; omega) | (simp; omega)) (by repeat (first | exact trivial | refine ⟨rfl, ?_⟩)) (Ent.sep (.pure ⟨by omega, by rw [List.length_set]; exact hp1.2⟩ (.eq pkk (own_eq rfl (by rw [List.map_set, Nat.mul_one])) enn)))
      ·
        try simp only [decide_eq_true_eq, decide_eq_false_iff_not, Bool.and_eq_true, Bool.or_eq_true, Bool.and_eq_false_iff, Bool.or_eq_false_iff, Bool.not_eq_true', Bool.not_eq_false', Bool.not_eq_true, Bool.not_eq_false, Int.not_lt, Int.not_le, Decidable.not_not, ne_eq] at hc11
        refine Hd.exit ?_
        refine Hd.thenExit ?_
        refine Hd.thenExit ?_
        refine Hd.inBexit ?_
        refine Hd.toK hK39 ?_
        refine Hd.seq (fun K45 hK45 => ?_)
        refine Hd.region ?_
        refine Hd.yv (y_move rfl) ?_
        refine Hd.yv (y_assign rfl) ?_
        refine Hd.nil ?_
        refine Hd.slots [(10, _)] ⟨rfl, trivial⟩ ?_
        refine Hd.toK hK45 ?_
        refine Hd.ret ?_
        clear hK1 hK2 hK3 hK4 hK5 hK6 hK32 hK33 hK34 hK35 hK36 hK39 hK40 hK41 hK42 hK45
        exact Hd.ret1 rfl (r1, r2) rfl (Ent.sep (.pure ⟨hj1, hj2⟩ enn))
end Bc
end Go.Proofs.Ytgifpkpkkgkfeaa
