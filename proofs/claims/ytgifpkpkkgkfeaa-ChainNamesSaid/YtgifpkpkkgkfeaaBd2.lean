/-
  The document's chain (roundhouseref07): Find, Line, Move.
-/
import Derived.Test.YtgifpkpkkgkfeaaBd1
namespace Go.Proofs.Ytgifpkpkkgkfeaa
set_option linter.unusedSimpArgs false
set_option linter.unusedVariables false
set_option linter.unnecessarySimpa false
open Go.RX Fx
namespace Bc
set_option maxHeartbeats 2000000 in
theorem rfind_ct (L : List SP) (b o : Nat) (l : List UInt8) (hlen : l.length ≤ 1048576) (wa : Option Addr) (wc : Nat) (w : List UInt8) (hW : RdS L 1 wa w.length (bsl w)) (hwl : w.length ≤ 70368744177664) (f : Int) (hf : InK .i64 f) : Ct Try.prog 67 #[.pointer (some ⟨b, o, none⟩), .slice wa w.length wc, .int .i64 f] (Rf b o l :: L) (fun r : Option Nat => .tuple #[.int .i64 ((r.getD 0 : Nat) : Int), .bool r.isSome]) (fun r : Option Nat => pu (FndS l w f r) :: Rf b o l :: L) := by
  refine Ct.of (vs := [.pointer (some ⟨b, o, none⟩), .slice wa w.length wc, .int .i64 f]) Try.func67 rfl rfl [(0, .pointer (some ⟨b, o, none⟩)), (1, .slice wa w.length wc), (2, .int .i64 f)] (by repeat (first | exact trivial | refine ⟨rfl, ?_⟩)) ?_
  intro E
  show Hd E 39 _ _ _ _
  simp only [InK] at hf
  refine Hd.exs pkk ?_
  rintro ⟨ad, cap⟩
  simp only [List.cons_append, List.nil_append]
  refine Hd.ownCap (e := 5) (ad := ad) (m := l.length) (cap := cap) pkk (fun hcap => ?_)
  refine Hd.seq (fun K1 hK1 => ?_)
  refine Hd.region ?_
  refine Hd.yv (y_assign rfl) ?_
  refine Hd.yv (y_assign rfl) ?_
  refine Hd.nil ?_
  refine Hd.slots [(0, _), (1, _), (2, _)] ⟨rfl, rfl, rfl, trivial⟩ ?_
  refine Hd.toK hK1 ?_
  refine Hd.seq (fun K2 hK2 => ?_)
  refine Hd.seq (fun K3 hK3 => ?_)
  refine Hd.region ?_
  refine Hd.yv (y_move rfl) ?_
  refine Hd.yv (y_lss rfl rfl) ?_
  refine Hd.nil ?_
  refine Hd.slots [(0, _), (1, _), (2, _), (10, _)] ⟨rfl, rfl, rfl, rfl, trivial⟩ ?_
  refine Hd.toK hK3 ?_
  refine Hd.cond rfl (fun hc0 => ?_) (fun hc0 => ?_)
  ·
    try simp only [decide_eq_true_eq, decide_eq_false_iff_not, Bool.and_eq_true, Bool.or_eq_true, Bool.and_eq_false_iff, Bool.or_eq_false_iff, Bool.not_eq_true', Bool.not_eq_false', Bool.not_eq_true, Bool.not_eq_false, Int.not_lt, Int.not_le, Decidable.not_not, ne_eq] at hc0
    refine Hd.seq (fun K4 hK4 => ?_)
    refine Hd.region ?_
    refine Hd.yv (y_assign rfl) ?_
    refine Hd.yv (y_assign rfl) ?_
    refine Hd.nil ?_
    refine Hd.slots [(6, _), (7, _)] ⟨rfl, rfl, trivial⟩ ?_
    refine Hd.toK hK4 ?_
    refine Hd.ret ?_
    refine Hd.thenRet ?_
    clear hK1 hK2 hK3 hK4
    exact Hd.ret2 rfl none rfl rfl rfl (Ent.sep (.pure (.inl hc0) (.ex (ad, cap) enn)))
  ·
    try simp only [decide_eq_true_eq, decide_eq_false_iff_not, Bool.and_eq_true, Bool.or_eq_true, Bool.and_eq_false_iff, Bool.or_eq_false_iff, Bool.not_eq_true', Bool.not_eq_false', Bool.not_eq_true, Bool.not_eq_false, Int.not_lt, Int.not_le, Decidable.not_not, ne_eq] at hc0
    have hf0 : 0 ≤ f := by omega
    refine Hd.skip ?_
    refine Hd.toK hK2 ?_
    refine Hd.seq (fun K5 hK5 => ?_)
    refine Hd.seq (fun K6 hK6 => ?_)
    refine Hd.region ?_
    refine Hd.yv (y_move rfl) ?_
    refine Hd.yv (y_assign rfl) ?_
    refine Hd.nil ?_
    refine Hd.slots [(0, _), (1, _), (8, _)] ⟨rfl, rfl, rfl, trivial⟩ ?_
    refine Hd.toK hK6 ?_
    refine Hd.block ?_
    refine Hd.name (b := ((f.toNat : Nat) : Int)) 8 rfl (by omega) ?_
    refine Hd.loopK (ι := Nat) [(0, _), (1, _)] (fun a => [(8, .int .i64 (a : Int))]) (fun a => pu (f ≤ (a : Int) ∧ (∀ j : Nat, f ≤ (j : Int) → j < a → ¬ Mt l w j)) :: seg b o [.slice ad l.length cap] :: own 5 1 ad l.length cap (bsl l) :: L) (fun a => l.length + 1 - a) (f.toNat) (by repeat (first | exact trivial | refine ⟨rfl, ?_⟩)) (by repeat (first | exact trivial | refine ⟨rfl, ?_⟩)) (Ent.sep (.pure ⟨by omega, fun j hj hj2 => by omega⟩ enn)) ?_
    intro a
    try dsimp only
    refine Hd.pure (fun hp0 => ?_)
    try dsimp only at hp0
    refine Hd.seq (fun K7 hK7 => ?_)
    refine Hd.seq (fun K8 hK8 => ?_)
    refine Hd.region ?_
    refine Hd.yv (y_move rfl) ?_
    refine Hd.yv (y_move rfl) ?_
    refine Hd.yv (y_nilp rfl) ?_
    first | (refine Hd.yv (y_field' (q := 0) (ft := 22) Try.underlying55 rfl sz22 rfl rfl) ?_) | (refine Hd.yv (y_fieldR (q := 0) (ft := 22) Try.underlying55 rfl sz22 rfl rfl) ?_)
    first | (refine Hd.yv (y_load1 ag22 rfl (Rd.pt1 pkk (by (first | rfl)))) ?_) | (refine Hd.yv (y_load1 ag22 rfl (Rd.seg1 pkk (by (first | rfl)))) ?_) | (refine Hd.yv (y_loadR1 ag22 rfl (by (first | exact RdS.own pkk | exact RdS.mono (rd_part (RdS.own (.there .here)) (Nat.le_add_right a w.length) ha1 (Nat.le_trans ha1 hcap)) (Ent.sep enn) | exact RdS.mono hW (Ent.sep enn))) (by (first | rfl))) ?_)
    refine Hd.yv (y_len Try.underlying22 rfl) ?_
    refine Hd.yv (y_move rfl) ?_
    refine Hd.yv (y_len Try.underlying22 rfl) ?_
    first | (refine Hd.yv (y_subn rfl rfl (by simp only [InK]; omega)) ?_) | (refine Hd.yv (y_sub rfl rfl) ?_)
    refine Hd.yv (y_leq rfl rfl) ?_
    refine Hd.nil ?_
    refine Hd.slots [(0, _), (1, _), (8, _), (21, _)] ⟨rfl, rfl, rfl, rfl, trivial⟩ ?_
    refine Hd.toK hK8 ?_
    refine Hd.cond rfl (fun hc1 => ?_) (fun hc1 => ?_)
    ·
      try simp only [decide_eq_true_eq, decide_eq_false_iff_not, Bool.and_eq_true, Bool.or_eq_true, Bool.and_eq_false_iff, Bool.or_eq_false_iff, Bool.not_eq_true', Bool.not_eq_false', Bool.not_eq_true, Bool.not_eq_false, Int.not_lt, Int.not_le, Decidable.not_not, ne_eq] at hc1
      have ha1 : a + w.length ≤ l.length := by omega
      refine Hd.skip ?_
      refine Hd.toK hK7 ?_
      refine Hd.seq (fun K9 hK9 => ?_)
      refine Hd.block ?_
      refine Hd.seq (fun K10 hK10 => ?_)
      refine Hd.drawsH (seg b o [.slice ad l.length cap] :: own 5 1 ad l.length cap (bsl l) :: L) (fun _ => true) mixed ?_
      simp only [List.length, Nat.zero_add, Nat.reduceAdd]
      refine Hd.takeH 0 rfl (by kernel_rfl) (by kernel_rfl) (by kernel_rfl) (by kernel_rfl) (y_move rfl) (fun _ _ => rfl) (Ent.sep enn) ?_
      refine Hd.takeH 1 rfl (by kernel_rfl) (by kernel_rfl) (by kernel_rfl) (by kernel_rfl) (y_nilp rfl) (fun _ _ => rfl) (Ent.sep enn) ?_
      first | (refine Hd.takeH 2 rfl (by kernel_rfl) (by kernel_rfl) (by kernel_rfl) (by kernel_rfl) (y_field' (q := 0) (ft := 22) Try.underlying55 rfl sz22 rfl rfl) (fun _ _ => rfl) (Ent.sep enn) ?_) | (refine Hd.takeH 2 rfl (by kernel_rfl) (by kernel_rfl) (by kernel_rfl) (by kernel_rfl) (y_fieldR (q := 0) (ft := 22) Try.underlying55 rfl sz22 rfl rfl) (fun _ _ => rfl) (Ent.sep enn) ?_)
      first | (refine Hd.takeH 3 rfl (by kernel_rfl) (by kernel_rfl) (by kernel_rfl) (by kernel_rfl) (y_load1 ag22 rfl (Rd.pt1 pkk (by (first | rfl)))) (fun _ _ => rfl) (Ent.sep enn) ?_) | (refine Hd.takeH 3 rfl (by kernel_rfl) (by kernel_rfl) (by kernel_rfl) (by kernel_rfl) (y_load1 ag22 rfl (Rd.seg1 pkk (by (first | rfl)))) (fun _ _ => rfl) (Ent.sep enn) ?_) | (refine Hd.takeH 3 rfl (by kernel_rfl) (by kernel_rfl) (by kernel_rfl) (by kernel_rfl) (y_loadR1 ag22 rfl (by (first | exact RdS.own pkk | exact RdS.mono (rd_part (RdS.own (.there .here)) (Nat.le_add_right a w.length) ha1 (Nat.le_trans ha1 hcap)) (Ent.sep enn) | exact RdS.mono hW (Ent.sep enn))) (by (first | rfl))) (fun _ _ => rfl) (Ent.sep enn) ?_)
      refine Hd.takeH 4 rfl (by kernel_rfl) (by kernel_rfl) (by kernel_rfl) (by kernel_rfl) (y_move rfl) (fun _ _ => rfl) (Ent.sep enn) ?_
      refine Hd.takeH 5 rfl (by kernel_rfl) (by kernel_rfl) (by kernel_rfl) (by kernel_rfl) (y_move rfl) (fun _ _ => rfl) (Ent.sep enn) ?_
      refine Hd.takeH 6 rfl (by kernel_rfl) (by kernel_rfl) (by kernel_rfl) (by kernel_rfl) (y_move rfl) (fun _ _ => rfl) (Ent.sep enn) ?_
      refine Hd.takeH 7 rfl (by kernel_rfl) (by kernel_rfl) (by kernel_rfl) (by kernel_rfl) (y_len Try.underlying22 rfl) (fun _ _ => rfl) (Ent.sep enn) ?_
      first | (refine Hd.takeH 8 rfl (by kernel_rfl) (by kernel_rfl) (by kernel_rfl) (by kernel_rfl) (y_addn rfl rfl (by simp only [InK]; omega)) (fun _ _ => rfl) (Ent.sep enn) ?_) | (refine Hd.takeH 8 rfl (by kernel_rfl) (by kernel_rfl) (by kernel_rfl) (by kernel_rfl) (y_add rfl rfl) (fun _ _ => rfl) (Ent.sep enn) ?_)
      refine Hd.name (b := ((a + w.length : Nat) : Int)) 32 rfl (by omega) ?_
      first | (refine Hd.takeH 9 rfl (by kernel_rfl) (by kernel_rfl) (by kernel_rfl) (by kernel_rfl) (y_slo_ooxN Try.underlying22 sz5 rfl rfl rfl (by first | omega | (simp; done) | decide) (by first | omega | (simp; done) | decide)) (fun _ _ => rfl) (Ent.sep enn) ?_) | (refine Hd.takeH 9 rfl (by kernel_rfl) (by kernel_rfl) (by kernel_rfl) (by kernel_rfl) (y_slo_oox Try.underlying22 sz5 rfl rfl rfl (by first | omega | (simp; done) | decide) (by first | omega | (simp; done) | decide) (by first | omega | (simp; done) | decide)) (fun _ _ => rfl) (Ent.sep enn) ?_)
      refine Hd.takeH 10 rfl (by kernel_rfl) (by kernel_rfl) (by kernel_rfl) (by kernel_rfl) (y_strOf (l := _) (by kernel_rfl) Try.underlying9 rfl (by (first | exact RdS.own pkk | exact RdS.mono (rd_part (RdS.own (.there .here)) (Nat.le_add_right a w.length) ha1 (Nat.le_trans ha1 hcap)) (Ent.sep enn) | exact RdS.mono hW (Ent.sep enn)))) (fun _ _ => rfl) (Ent.sep enn) ?_
      refine Hd.takeH 11 rfl (by kernel_rfl) (by kernel_rfl) (by kernel_rfl) (by kernel_rfl) (y_move rfl) (fun _ _ => rfl) (Ent.sep enn) ?_
      refine Hd.takeH 12 rfl (by kernel_rfl) (by kernel_rfl) (by kernel_rfl) (by kernel_rfl) (y_strOf (l := _) (by kernel_rfl) Try.underlying9 rfl (by (first | exact RdS.own pkk | exact RdS.mono (rd_part (RdS.own (.there .here)) (Nat.le_add_right a w.length) ha1 (Nat.le_trans ha1 hcap)) (Ent.sep enn) | exact RdS.mono hW (Ent.sep enn)))) (fun _ _ => rfl) (Ent.sep enn) ?_
      refine Hd.takeH 13 rfl (by kernel_rfl) (by kernel_rfl) (by kernel_rfl) (by kernel_rfl) (y_eqlstr rfl rfl) (fun _ _ => rfl) (Ent.sep enn) ?_
      refine Hd.endH (by kernel_rfl) ?_
      refine Hd.slots [(0, _), (1, _), (8, _), (37, _)] ⟨rfl, rfl, rfl, rfl, trivial⟩ ?_
      refine Hd.toK hK10 ?_
      refine Hd.cond rfl (fun hc2 => ?_) (fun hc2 => ?_)
      ·
        try simp only [decide_eq_true_eq, decide_eq_false_iff_not, Bool.and_eq_true, Bool.or_eq_true, Bool.and_eq_false_iff, Bool.or_eq_false_iff, Bool.not_eq_true', Bool.not_eq_false', Bool.not_eq_true, Bool.not_eq_false, Int.not_lt, Int.not_le, Decidable.not_not, ne_eq] at hc2
        refine Hd.seq (fun K11 hK11 => ?_)
        refine Hd.region ?_
        refine Hd.yv (y_move rfl) ?_
        refine Hd.yv (y_assign rfl) ?_
        refine Hd.yv (y_assign rfl) ?_
        refine Hd.nil ?_
        refine Hd.slots [(6, _), (7, _)] ⟨rfl, rfl, trivial⟩ ?_
        refine Hd.toK hK11 ?_
        refine Hd.ret ?_
        refine Hd.inBret ?_
        refine Hd.thenRet ?_
        refine Hd.thenRet ?_
        refine Hd.inBret ?_
        refine Hd.thenRet ?_
        clear hK1 hK2 hK3 hK5 hK6 hK7 hK8 hK9 hK10 hK11
        exact Hd.ret2 rfl (some a) rfl rfl rfl (Ent.sep (.pure ⟨hf0, hp0.1, ha1, by rw [Nat.add_sub_cancel_left] at hc2; exact hc2, hp0.2⟩ (.ex (ad, cap) enn)))
      ·
        try simp only [decide_eq_true_eq, decide_eq_false_iff_not, Bool.and_eq_true, Bool.or_eq_true, Bool.and_eq_false_iff, Bool.or_eq_false_iff, Bool.not_eq_true', Bool.not_eq_false', Bool.not_eq_true, Bool.not_eq_false, Int.not_lt, Int.not_le, Decidable.not_not, ne_eq] at hc2
        refine Hd.skip ?_
        refine Hd.inB ?_
        refine Hd.toK hK9 ?_
        refine Hd.region ?_
        refine Hd.yv (y_move rfl) ?_
        first | (refine Hd.yv (y_addn rfl rfl (by simp only [InK]; omega)) ?_) | (refine Hd.yv (y_add rfl rfl) ?_)
        refine Hd.yv (y_assign rfl) ?_
        refine Hd.nil ?_
        refine Hd.slots [(0, _), (1, _), (8, _)] ⟨rfl, rfl, rfl, trivial⟩ ?_
        clear hK1 hK2 hK3 hK5 hK6 hK7 hK8 hK9 hK10
        refine Hd.thenN ?_
        have hstep : ∀ j : Nat, f ≤ (j : Int) → j < a + 1 → ¬ Mt l w j := by
          intro j h1 h2
          rcases Nat.lt_succ_iff_lt_or_eq.1 h2 with h | h
          · exact hp0.2 j h1 h
          · rw [h]; rw [Nat.add_sub_cancel_left] at hc2; exact hc2
        exact Hd.again (a + 1) (show l.length + 1 - (a + 1) < l.length + 1 - a by omega) (by repeat (first | exact trivial | refine ⟨rfl, ?_⟩)) (Ent.sep (.pure ⟨by omega, hstep⟩ enn))
    ·
      try simp only [decide_eq_true_eq, decide_eq_false_iff_not, Bool.and_eq_true, Bool.or_eq_true, Bool.and_eq_false_iff, Bool.or_eq_false_iff, Bool.not_eq_true', Bool.not_eq_false', Bool.not_eq_true, Bool.not_eq_false, Int.not_lt, Int.not_le, Decidable.not_not, ne_eq] at hc1
      refine Hd.exit ?_
      refine Hd.thenExit ?_
      refine Hd.thenExit ?_
      refine Hd.inBexit ?_
      refine Hd.toK hK5 ?_
      refine Hd.seq (fun K12 hK12 => ?_)
      refine Hd.region ?_
      refine Hd.yv (y_assign rfl) ?_
      refine Hd.yv (y_assign rfl) ?_
      refine Hd.nil ?_
      refine Hd.slots [(6, _), (7, _)] ⟨rfl, rfl, trivial⟩ ?_
      refine Hd.toK hK12 ?_
      refine Hd.ret ?_
      clear hK1 hK2 hK3 hK5 hK6 hK7 hK8 hK12
      exact Hd.ret2 rfl none rfl rfl rfl (Ent.sep (.pure (.inr fun j h1 h2 => hp0.2 j h1 (by omega)) (.ex (ad, cap) enn)))
def lnK (r : Option Nat) : Nat := match r with | some a => a + 1 | none => 0
set_option maxHeartbeats 2000000 in
theorem rline_ct (L : List SP) (b o : Nat) (l : List UInt8) (hlen : l.length ≤ 1048576) : Ct Try.prog 68 #[.pointer (some ⟨b, o, none⟩)] (Rf b o l :: L) (fun q_ : Option Nat × Option Addr × Nat => .tuple #[.slice q_.2.1 (l.take (q_.1.getD 0)).length q_.2.2, .bool q_.1.isSome]) (fun q_ : Option Nat × Option Addr × Nat => pu (FndS l [10] 0 q_.1) :: own 5 1 q_.2.1 (l.take (q_.1.getD 0)).length (l.take (q_.1.getD 0)).length (bsl (l.take (q_.1.getD 0))) :: Rf b o (l.drop (lnK q_.1)) :: L) := by
  refine Ct.of (vs := [.pointer (some ⟨b, o, none⟩)]) Try.func68 rfl rfl [(0, .pointer (some ⟨b, o, none⟩))] (by repeat (first | exact trivial | refine ⟨rfl, ?_⟩)) ?_
  intro E
  show Hd E 32 _ _ _ _
  refine Hd.seq (fun K1 hK1 => ?_)
  refine Hd.region ?_
  refine Hd.yv (y_assign rfl) ?_
  refine Hd.yv (y_assign rfl) ?_
  refine Hd.nil ?_
  refine Hd.slots [(0, _)] ⟨rfl, trivial⟩ ?_
  refine Hd.toK hK1 ?_
  refine Hd.seq (fun K2 hK2 => ?_)
  refine Hd.region ?_
  refine Hd.yv (y_move rfl) ?_
  refine Hd.bslice (vs := [(0, _)]) rfl (by first | exact bs68_9 .. | kernel_rfl) (fun b9 => ?_)
  refine Hd.callE rfl fk67 (rfind_ct (pt b9 [.int .u8 10] 5 :: L) b o l hlen (some ⟨b9, 0, none⟩) 1 [10] (RdS.rd (Rd.pt pkk (fun j v e => by rw [Nat.zero_add]; exact e)) rfl) (by simp) 0 (by simp [InK])) (Ent.sep enn) ?_
  intro r
  refine Hd.pure (fun hr => ?_)
  refine Hd.yv (y_move rfl) ?_
  refine Hd.yv (y_extract rfl rfl) ?_
  refine Hd.yv (y_extract rfl rfl) ?_
  refine Hd.yv (y_assign rfl) ?_
  refine Hd.yv (y_assign rfl) ?_
  refine Hd.nil ?_
  refine Hd.slots [(0, _), (4, _), (5, _)] ⟨rfl, rfl, rfl, trivial⟩ ?_
  refine Hd.toK hK2 ?_
  refine Hd.seq (fun K3 hK3 => ?_)
  refine Hd.seq (fun K4 hK4 => ?_)
  refine Hd.region ?_
  refine Hd.yv (y_move rfl) ?_
  refine Hd.yv (y_not rfl) ?_
  refine Hd.nil ?_
  refine Hd.slots [(0, _), (4, _), (14, _)] ⟨rfl, rfl, rfl, trivial⟩ ?_
  refine Hd.toK hK4 ?_
  refine Hd.cond rfl (fun hc0 => ?_) (fun hc0 => ?_)
  ·
    try simp only [decide_eq_true_eq, decide_eq_false_iff_not, Bool.and_eq_true, Bool.or_eq_true, Bool.and_eq_false_iff, Bool.or_eq_false_iff, Bool.not_eq_true', Bool.not_eq_false', Bool.not_eq_true, Bool.not_eq_false, Int.not_lt, Int.not_le, Decidable.not_not, ne_eq] at hc0
    obtain rfl : r = none := by cases r <;> simp_all
    refine Hd.seq (fun K5 hK5 => ?_)
    refine Hd.region ?_
    refine Hd.yv (y_assign rfl) ?_
    refine Hd.yv (y_assign rfl) ?_
    refine Hd.nil ?_
    refine Hd.slots [(2, _), (3, _)] ⟨rfl, rfl, trivial⟩ ?_
    refine Hd.toK hK5 ?_
    refine Hd.ret ?_
    refine Hd.thenRet ?_
    clear hK1 hK2 hK3 hK4 hK5
    exact Hd.ret2 rfl (none, none, 0) rfl rfl rfl (Ent.sep (.pure hr (.ownNil (.eq pkk (rf_eq (l' := l.drop (lnK none)) List.drop_zero.symm) enn))))
  ·
    try simp only [decide_eq_true_eq, decide_eq_false_iff_not, Bool.and_eq_true, Bool.or_eq_true, Bool.and_eq_false_iff, Bool.or_eq_false_iff, Bool.not_eq_true', Bool.not_eq_false', Bool.not_eq_true, Bool.not_eq_false, Int.not_lt, Int.not_le, Decidable.not_not, ne_eq] at hc0
    obtain ⟨a, rfl⟩ : ∃ a, r = some a := by cases r <;> simp_all
    have ha1 : a + 1 ≤ l.length := hr.2.2.1
    refine Hd.name (b := ((a : Nat) : Int)) 4 rfl rfl ?_
    refine Hd.exs pkk ?_
    rintro ⟨ad, cap⟩
    simp only [List.cons_append, List.nil_append]
    refine Hd.ownCap (e := 5) (ad := ad) (m := l.length) (cap := cap) pkk (fun hcap => ?_)
    refine Hd.skip ?_
    refine Hd.toK hK3 ?_
    refine Hd.seq (fun K6 hK6 => ?_)
    refine Hd.region ?_
    refine Hd.yv (y_move rfl) ?_
    refine Hd.yv (y_nilp rfl) ?_
    first | (refine Hd.yv (y_field' (q := 0) (ft := 22) Try.underlying55 rfl sz22 rfl rfl) ?_) | (refine Hd.yv (y_fieldR (q := 0) (ft := 22) Try.underlying55 rfl sz22 rfl rfl) ?_)
    first | (refine Hd.yv (y_load1 ag22 rfl (Rd.pt1 pkk (by (first | rfl)))) ?_) | (refine Hd.yv (y_load1 ag22 rfl (Rd.seg1 pkk (by (first | rfl)))) ?_) | (refine Hd.yv (y_loadR1 ag22 rfl (by (first | exact RdS.own pkk)) (by (first | rfl))) ?_)
    refine Hd.yv (y_move rfl) ?_
    first | (refine Hd.yv (y_slo_xoxN Try.underlying22 sz5 rfl rfl (by first | omega | (simp; done) | decide)) ?_) | (refine Hd.yv (y_slo_xox Try.underlying22 sz5 rfl rfl (by first | omega | (simp; done) | decide) (by first | omega | (simp; done) | decide)) ?_)
    refine Hd.yv (y_assign rfl) ?_
    refine Hd.nil ?_
    refine Hd.slots [(0, _), (4, _), (6, _)] ⟨rfl, rfl, rfl, trivial⟩ ?_
    refine Hd.toK hK6 ?_
    refine Hd.seq (fun K7 hK7 => ?_)
    refine Hd.region ?_
    refine Hd.yv (y_move rfl) ?_
    refine Hd.yv (y_move rfl) ?_
    refine Hd.yv (y_nilp rfl) ?_
    first | (refine Hd.yv (y_field' (q := 0) (ft := 22) Try.underlying55 rfl sz22 rfl rfl) ?_) | (refine Hd.yv (y_fieldR (q := 0) (ft := 22) Try.underlying55 rfl sz22 rfl rfl) ?_)
    first | (refine Hd.yv (y_load1 ag22 rfl (Rd.pt1 pkk (by (first | rfl)))) ?_) | (refine Hd.yv (y_load1 ag22 rfl (Rd.seg1 pkk (by (first | rfl)))) ?_) | (refine Hd.yv (y_loadR1 ag22 rfl (by (first | exact RdS.own pkk)) (by (first | rfl))) ?_)
    refine Hd.yv (y_move rfl) ?_
    first | (refine Hd.yv (y_addn rfl rfl (by simp only [InK]; omega)) ?_) | (refine Hd.yv (y_add rfl rfl) ?_)
    refine Hd.name (b := ((a + 1 : Nat) : Int)) 27 rfl (by omega) ?_
    first | (refine Hd.yv (y_slo_oxxN Try.underlying22 sz5 rfl rfl (by first | omega | (simp; done) | decide)) ?_) | (refine Hd.yv (y_slo_oxx Try.underlying22 sz5 rfl rfl (by first | omega | (simp; done) | decide) (by first | omega | (simp; done) | decide)) ?_)
    refine Hd.yv (y_nilp rfl) ?_
    first | (refine Hd.yv (y_field' (q := 0) (ft := 22) Try.underlying55 rfl sz22 rfl rfl) ?_) | (refine Hd.yv (y_fieldR (q := 0) (ft := 22) Try.underlying55 rfl sz22 rfl rfl) ?_)
    first | (refine Hd.store1 sz22 rfl rfl rfl pkk (by first | decide | (simp; done) | (simp; omega)) ?_) | (refine Hd.storeG1 sz22 rfl rfl rfl pkk (by first | decide | (simp; done) | (simp; omega)) ?_) | (refine Hd.storeO1 sz22 rfl rfl rfl pkk (by first | omega | (simp; done) | (simp; omega)) ?_)
    try simp only [List.set_cons_zero, List.set_cons_succ]
    refine Hd.nil ?_
    refine Hd.slots [(6, _)] ⟨rfl, trivial⟩ ?_
    refine Hd.toK hK7 ?_
    refine Hd.seq (fun K8 hK8 => ?_)
    refine Hd.region ?_
    refine Hd.yv (y_move rfl) ?_
    refine Hd.yv (y_assign rfl) ?_
    refine Hd.yv (y_assign rfl) ?_
    refine Hd.nil ?_
    refine Hd.slots [(2, _), (3, _)] ⟨rfl, rfl, trivial⟩ ?_
    refine Hd.toK hK8 ?_
    refine Hd.ret ?_
    clear hK1 hK2 hK3 hK4 hK6 hK7 hK8
    have e3 : (l.take a).length = a := by rw [List.length_take]; omega
    refine Hd.ownSplit (e := 5) (ad := ad) (m := l.length) (cap := cap) pkk (a + 1) (bsl (l.take (a + 1))) (bsl (l.drop (a + 1))) ha1 (by rw [← List.map_append, List.take_append_drop]) (by simp; omega) ?_
    refine Hd.ownSplit (e := 5) (ad := ad) (m := a + 1) (cap := a + 1) pkk a (bsl (l.take a)) (bsl ((l.take (a + 1)).drop a)) (Nat.le_succ a) (by rw [← List.map_append]; congr 1; rw [show l.take a = (l.take (a + 1)).take a by rw [List.take_take]; congr 1; omega, List.take_append_drop]) (by simp; omega) ?_
    exact Hd.ret2 rfl (some a, ad, cap) rfl rfl (by show Value.tuple #[.slice ad (l.take a).length cap, .bool true] = _; rw [e3]) (Ent.sep (.pure hr (.eq pkk (own_eq3 (us := bsl (l.take a)) e3.symm e3.symm rfl) (.ex (cutA ad 1 (a + 1) cap, cap - (a + 1)) (.eq pkk (seg_eq (by simp [lnK])) (.eq pkk (own_eq (us := bsl (l.drop (a + 1))) (by simp [lnK]) rfl) enn))))))
set_option maxHeartbeats 2000000 in
theorem rmove_ct (L : List SP) (b o : Nat) (l : List UInt8) (hlen : l.length ≤ 1048576) (b2 o2 : Nat) (l2 : List UInt8) (hlen2 : l2.length ≤ 1048576) (n : Int) (hn : InK .i64 n) : Ct Try.prog 69 #[.pointer (some ⟨b, o, none⟩), .pointer (some ⟨b2, o2, none⟩), .int .i64 n] (Rf b o l :: Rf b2 o2 l2 :: L) (fun _ : Unit => .tuple #[.int .i64 ((mvK l.length l2.length n : Nat) : Int), .int .i64 (mvE l.length l2.length n)]) (fun _ : Unit => Rf b o (l.drop (mvK l.length l2.length n)) :: Rf b2 o2 (l2 ++ l.take (mvK l.length l2.length n)) :: L) := by
  refine Ct.of (vs := [.pointer (some ⟨b, o, none⟩), .pointer (some ⟨b2, o2, none⟩), .int .i64 n]) Try.func69 rfl rfl [(0, .pointer (some ⟨b, o, none⟩)), (1, .pointer (some ⟨b2, o2, none⟩)), (2, .int .i64 n)] (by repeat (first | exact trivial | refine ⟨rfl, ?_⟩)) ?_
  intro E
  show Hd E 44 _ _ _ _
  simp only [InK] at hn
  refine Hd.seq (fun K1 hK1 => ?_)
  refine Hd.region ?_
  refine Hd.yv (y_assign rfl) ?_
  refine Hd.yv (y_assign rfl) ?_
  refine Hd.nil ?_
  refine Hd.slots [(0, _), (1, _), (2, _)] ⟨rfl, rfl, rfl, trivial⟩ ?_
  refine Hd.toK hK1 ?_
  refine Hd.seq (fun K2 hK2 => ?_)
  refine Hd.seq (fun K3 hK3 => ?_)
  refine Hd.region ?_
  refine Hd.yv (y_move rfl) ?_
  refine Hd.yv (y_lss rfl rfl) ?_
  refine Hd.nil ?_
  refine Hd.slots [(0, _), (1, _), (2, _), (10, _)] ⟨rfl, rfl, rfl, rfl, trivial⟩ ?_
  refine Hd.toK hK3 ?_
  refine Hd.cond rfl (fun hc0 => ?_) (fun hc0 => ?_)
  ·
    try simp only [decide_eq_true_eq, decide_eq_false_iff_not, Bool.and_eq_true, Bool.or_eq_true, Bool.and_eq_false_iff, Bool.or_eq_false_iff, Bool.not_eq_true', Bool.not_eq_false', Bool.not_eq_true, Bool.not_eq_false, Int.not_lt, Int.not_le, Decidable.not_not, ne_eq] at hc0
    refine Hd.seq (fun K4 hK4 => ?_)
    refine Hd.region ?_
    refine Hd.yv (y_assign rfl) ?_
    refine Hd.yv (y_assign rfl) ?_
    refine Hd.nil ?_
    refine Hd.slots [(6, _), (7, _)] ⟨rfl, rfl, trivial⟩ ?_
    refine Hd.toK hK4 ?_
    refine Hd.ret ?_
    refine Hd.thenRet ?_
    clear hK1 hK2 hK3 hK4
    have e1 : mvE l.length l2.length n = 2 := by unfold mvE; rw [if_pos hc0]
    have e2 : mvK l.length l2.length n = 0 := by unfold mvK; rw [e1]; rfl
    rw [e1, e2]
    exact Hd.ret2 rfl () rfl rfl rfl (Ent.sep (.eq pkk (rf_eq (l' := l.drop 0) List.drop_zero.symm) (.eq pkk (rf_eq (l' := l2 ++ l.take 0) (by rw [List.take_zero, List.append_nil])) enn)))
  ·
    try simp only [decide_eq_true_eq, decide_eq_false_iff_not, Bool.and_eq_true, Bool.or_eq_true, Bool.and_eq_false_iff, Bool.or_eq_false_iff, Bool.not_eq_true', Bool.not_eq_false', Bool.not_eq_true, Bool.not_eq_false, Int.not_lt, Int.not_le, Decidable.not_not, ne_eq] at hc0
    have hn0 : 0 ≤ n := by omega
    have eE : mvE l.length l2.length n = mayE l2.length (min n.toNat l.length) := by unfold mvE; rw [if_neg (by omega)]
    refine Hd.exs pkk ?_
    rintro ⟨ad, cap⟩
    simp only [List.cons_append, List.nil_append]
    refine Hd.skip ?_
    refine Hd.toK hK2 ?_
    refine Hd.cutK (ι := Unit) [(0, _), (1, _)] (fun _ => [(2, .int .i64 ((min n.toNat l.length : Nat) : Int))]) (fun _ => Rf b2 o2 l2 :: (RfA b o ad cap l ++ L)) ?_ ?_ ⟨rfl, rfl, trivial⟩
    ·
      refine Hd.seq (fun K5 hK5 => ?_)
      refine Hd.region ?_
      refine Hd.yv (y_move rfl) ?_
      refine Hd.yv (y_move rfl) ?_
      refine Hd.yv (y_nilp rfl) ?_
      first | (refine Hd.yv (y_field' (q := 0) (ft := 22) Try.underlying55 rfl sz22 rfl rfl) ?_) | (refine Hd.yv (y_fieldR (q := 0) (ft := 22) Try.underlying55 rfl sz22 rfl rfl) ?_)
      first | (refine Hd.yv (y_load1 ag22 rfl (Rd.pt1 pkk (by (first | rfl)))) ?_) | (refine Hd.yv (y_load1 ag22 rfl (Rd.seg1 pkk (by (first | rfl)))) ?_) | (refine Hd.yv (y_loadR1 ag22 rfl (by (first | exact RdS.own pkk)) (by (first | rfl))) ?_)
      refine Hd.yv (y_len Try.underlying22 rfl) ?_
      refine Hd.yv (y_gtr rfl rfl) ?_
      refine Hd.nil ?_
      refine Hd.slots [(0, _), (1, _), (2, _), (17, _)] ⟨rfl, rfl, rfl, rfl, trivial⟩ ?_
      refine Hd.toK hK5 ?_
      refine Hd.cond rfl (fun hc1 => ?_) (fun hc1 => ?_)
      ·
        try simp only [decide_eq_true_eq, decide_eq_false_iff_not, Bool.and_eq_true, Bool.or_eq_true, Bool.and_eq_false_iff, Bool.or_eq_false_iff, Bool.not_eq_true', Bool.not_eq_false', Bool.not_eq_true, Bool.not_eq_false, Int.not_lt, Int.not_le, Decidable.not_not, ne_eq] at hc1
        refine Hd.region ?_
        refine Hd.yv (y_move rfl) ?_
        refine Hd.yv (y_nilp rfl) ?_
        first | (refine Hd.yv (y_field' (q := 0) (ft := 22) Try.underlying55 rfl sz22 rfl rfl) ?_) | (refine Hd.yv (y_fieldR (q := 0) (ft := 22) Try.underlying55 rfl sz22 rfl rfl) ?_)
        first | (refine Hd.yv (y_load1 ag22 rfl (Rd.pt1 pkk (by (first | rfl)))) ?_) | (refine Hd.yv (y_load1 ag22 rfl (Rd.seg1 pkk (by (first | rfl)))) ?_) | (refine Hd.yv (y_loadR1 ag22 rfl (by (first | exact RdS.own pkk)) (by (first | rfl))) ?_)
        refine Hd.yv (y_len Try.underlying22 rfl) ?_
        refine Hd.yv (y_assign rfl) ?_
        refine Hd.nil ?_
        refine Hd.slots [(0, _), (1, _), (2, _)] ⟨rfl, rfl, rfl, trivial⟩ ?_
        clear hK1 hK2 hK3 hK5
        refine Hd.thenN ?_
        refine Hd.name (b := ((min n.toNat l.length : Nat) : Int)) 2 rfl (by omega) ?_
        exact Hd.meet () (by repeat (first | exact trivial | refine ⟨rfl, ?_⟩)) (Ent.sep enn)
      ·
        try simp only [decide_eq_true_eq, decide_eq_false_iff_not, Bool.and_eq_true, Bool.or_eq_true, Bool.and_eq_false_iff, Bool.or_eq_false_iff, Bool.not_eq_true', Bool.not_eq_false', Bool.not_eq_true, Bool.not_eq_false, Int.not_lt, Int.not_le, Decidable.not_not, ne_eq] at hc1
        refine Hd.skip ?_
        clear hK1 hK2 hK3 hK5
        refine Hd.thenN ?_
        refine Hd.name (b := ((min n.toNat l.length : Nat) : Int)) 2 rfl (by omega) ?_
        exact Hd.meet () (by repeat (first | exact trivial | refine ⟨rfl, ?_⟩)) (Ent.sep enn)
    ·
      intro _
      simp only [List.cons_append, List.nil_append]
      refine Hd.ownCap (e := 5) (ad := ad) (m := l.length) (cap := cap) pkk (fun hcap => ?_)
      have hmn : min n.toNat l.length ≤ l.length := Nat.min_le_right _ _
      have e3 : (l.take (min n.toNat l.length)).length = min n.toNat l.length := by rw [List.length_take]; omega
      refine Hd.seq (fun K6 hK6 => ?_)
      refine Hd.region ?_
      refine Hd.yv (y_move rfl) ?_
      refine Hd.yv (y_move rfl) ?_
      refine Hd.yv (y_nilp rfl) ?_
      first | (refine Hd.yv (y_field' (q := 0) (ft := 22) Try.underlying55 rfl sz22 rfl rfl) ?_) | (refine Hd.yv (y_fieldR (q := 0) (ft := 22) Try.underlying55 rfl sz22 rfl rfl) ?_)
      first | (refine Hd.yv (y_load1 ag22 rfl (Rd.pt1 pkk (by (first | rfl)))) ?_) | (refine Hd.yv (y_load1 ag22 rfl (Rd.seg1 pkk (by (first | rfl)))) ?_) | (refine Hd.yv (y_loadR1 ag22 rfl (by (first | exact RdS.own pkk)) (by (first | rfl))) ?_)
      refine Hd.yv (y_move rfl) ?_
      first | (refine Hd.yv (y_slo_xoxN Try.underlying22 sz5 rfl rfl (by first | omega | (simp; done) | decide)) ?_) | (refine Hd.yv (y_slo_xox Try.underlying22 sz5 rfl rfl (by first | omega | (simp; done) | decide) (by first | omega | (simp; done) | decide)) ?_)
      refine Hd.callE rfl fk62 ((by have h := radd_ct (RfA b o ad cap l ++ L) b2 o2 l2 hlen2 ad cap (l.take (min n.toNat l.length)) (by rw [e3]; exact rd_head (RdS.own (.there .here)) hmn) (by omega); rwa [e3] at h)) (Ent.sep enn) ?_
      intro l3
      refine Hd.pure (fun h3 => ?_)
      simp only [List.cons_append, List.nil_append]
      refine Hd.yv (y_assign rfl) ?_
      refine Hd.nil ?_
      refine Hd.slots [(0, _), (2, _), (8, _)] ⟨rfl, rfl, rfl, trivial⟩ ?_
      refine Hd.toK hK6 ?_
      refine Hd.seq (fun K7 hK7 => ?_)
      refine Hd.seq (fun K8 hK8 => ?_)
      refine Hd.region ?_
      refine Hd.yv (y_move rfl) ?_
      refine Hd.yv (y_neq rfl rfl) ?_
      refine Hd.nil ?_
      refine Hd.slots [(0, _), (2, _), (8, _), (32, _)] ⟨rfl, rfl, rfl, rfl, trivial⟩ ?_
      refine Hd.toK hK8 ?_
      refine Hd.cond rfl (fun hc2 => ?_) (fun hc2 => ?_)
      ·
        try simp only [decide_eq_true_eq, decide_eq_false_iff_not, Bool.and_eq_true, Bool.or_eq_true, Bool.and_eq_false_iff, Bool.or_eq_false_iff, Bool.not_eq_true', Bool.not_eq_false', Bool.not_eq_true, Bool.not_eq_false, Int.not_lt, Int.not_le, Decidable.not_not, ne_eq] at hc2
        refine Hd.seq (fun K9 hK9 => ?_)
        refine Hd.region ?_
        refine Hd.yv (y_move rfl) ?_
        refine Hd.yv (y_assign rfl) ?_
        refine Hd.yv (y_assign rfl) ?_
        refine Hd.nil ?_
        refine Hd.slots [(6, _), (7, _)] ⟨rfl, rfl, trivial⟩ ?_
        refine Hd.toK hK9 ?_
        refine Hd.ret ?_
        refine Hd.thenRet ?_
        clear hK1 hK2 hK3 hK6 hK7 hK8 hK9
        have hno : ¬ min n.toNat l.length ≤ 1048576 - l2.length := fun h => hc2 (by rw [mayE_ok h])
        rw [if_neg hno] at h3
        have e2 : mvK l.length l2.length n = 0 := by unfold mvK; rw [eE, if_neg (fun h => hno (mayE_zero.1 h))]
        rw [e2, eE, h3]
        exact Hd.ret2 rfl () rfl rfl rfl (Ent.sep (.ex (ad, cap) (.eq pkk (seg_eq (by rw [List.drop_zero])) (.eq pkk (own_eq (by rw [List.drop_zero]) (by rw [List.drop_zero])) (.eq pkk (rf_eq (l' := l2 ++ l.take 0) (by rw [List.take_zero, List.append_nil])) enn)))))
      ·
        try simp only [decide_eq_true_eq, decide_eq_false_iff_not, Bool.and_eq_true, Bool.or_eq_true, Bool.and_eq_false_iff, Bool.or_eq_false_iff, Bool.not_eq_true', Bool.not_eq_false', Bool.not_eq_true, Bool.not_eq_false, Int.not_lt, Int.not_le, Decidable.not_not, ne_eq] at hc2
        have hyes : min n.toNat l.length ≤ 1048576 - l2.length := Decidable.byContradiction fun h => by
          have hq : mayE l2.length (min n.toNat l.length) = 70 := by unfold mayE; rw [if_neg h]
          omega
        rw [if_pos hyes] at h3
        have e2 : mvK l.length l2.length n = min n.toNat l.length := by unfold mvK; rw [eE, if_pos (mayE_ok hyes)]
        refine Hd.skip ?_
        refine Hd.toK hK7 ?_
        refine Hd.seq (fun K10 hK10 => ?_)
        refine Hd.region ?_
        refine Hd.yv (y_move rfl) ?_
        refine Hd.yv (y_move rfl) ?_
        refine Hd.yv (y_nilp rfl) ?_
        first | (refine Hd.yv (y_field' (q := 0) (ft := 22) Try.underlying55 rfl sz22 rfl rfl) ?_) | (refine Hd.yv (y_fieldR (q := 0) (ft := 22) Try.underlying55 rfl sz22 rfl rfl) ?_)
        first | (refine Hd.yv (y_load1 ag22 rfl (Rd.pt1 pkk (by (first | rfl)))) ?_) | (refine Hd.yv (y_load1 ag22 rfl (Rd.seg1 pkk (by (first | rfl)))) ?_) | (refine Hd.yv (y_loadR1 ag22 rfl (by (first | exact RdS.own pkk)) (by (first | rfl))) ?_)
        refine Hd.yv (y_move rfl) ?_
        first | (refine Hd.yv (y_slo_oxxN Try.underlying22 sz5 rfl rfl (by first | omega | (simp; done) | decide)) ?_) | (refine Hd.yv (y_slo_oxx Try.underlying22 sz5 rfl rfl (by first | omega | (simp; done) | decide) (by first | omega | (simp; done) | decide)) ?_)
        refine Hd.yv (y_nilp rfl) ?_
        first | (refine Hd.yv (y_field' (q := 0) (ft := 22) Try.underlying55 rfl sz22 rfl rfl) ?_) | (refine Hd.yv (y_fieldR (q := 0) (ft := 22) Try.underlying55 rfl sz22 rfl rfl) ?_)
        first | (refine Hd.store1 sz22 rfl rfl rfl pkk (by first | decide | (simp; done) | (simp; omega)) ?_) | (refine Hd.storeG1 sz22 rfl rfl rfl pkk (by first | decide | (simp; done) | (simp; omega)) ?_) | (refine Hd.storeO1 sz22 rfl rfl rfl pkk (by first | omega | (simp; done) | (simp; omega)) ?_)
        try simp only [List.set_cons_zero, List.set_cons_succ]
        refine Hd.nil ?_
        refine Hd.slots [(2, _)] ⟨rfl, trivial⟩ ?_
        refine Hd.toK hK10 ?_
        refine Hd.seq (fun K11 hK11 => ?_)
        refine Hd.region ?_
        refine Hd.yv (y_move rfl) ?_
        refine Hd.yv (y_assign rfl) ?_
        refine Hd.yv (y_assign rfl) ?_
        refine Hd.nil ?_
        refine Hd.slots [(6, _), (7, _)] ⟨rfl, rfl, trivial⟩ ?_
        refine Hd.toK hK11 ?_
        refine Hd.ret ?_
        clear hK1 hK2 hK3 hK6 hK7 hK8 hK10 hK11
        rw [e2, eE, mayE_ok hyes, h3]
        refine Hd.ownDrop (e := 5) (ad := ad) (m := l.length) (cap := cap) pkk (min n.toNat l.length) (bsl (l.take (min n.toNat l.length))) (bsl (l.drop (min n.toNat l.length))) hmn (by rw [← List.map_append, List.take_append_drop]) (by rw [List.length_map, e3, Nat.mul_one]) ?_
        exact Hd.ret2 rfl () rfl rfl rfl (Ent.sep (.ex (cutA ad 1 (min n.toNat l.length) cap, cap - min n.toNat l.length) (.eq pkk (seg_eq (by simp)) (.eq pkk (own_eq (by simp) rfl) enn))))
end Bc
end Go.Proofs.Ytgifpkpkkgkfeaa
