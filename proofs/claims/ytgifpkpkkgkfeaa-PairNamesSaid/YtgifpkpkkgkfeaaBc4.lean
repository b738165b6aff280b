/-
  Chains: Ahead, Len, cut, Take, Drain.
-/
import Derived.Test.YtgifpkpkkgkfeaaBc3
namespace Go.Proofs.Ytgifpkpkkgkfeaa
set_option linter.unusedSimpArgs false
set_option linter.unusedVariables false
set_option linter.unnecessarySimpa false
open Go.RX Fx
namespace Bc
theorem joinRows_sep {L L' L2 : List SP} {a b : List Row} (p1 : Pick L (rows a) L') (p2 : Pick L' (rows b) L2) (k : PH) (s : sep L k) : sep (rows (a ++ b) :: L2) k :=
  rows_join (Ent.imp' .here (fun _ x => x) (fun k s => p2.sep s) (p1.sep s))
set_option maxHeartbeats 2000000 in
theorem ahead_ct (L : List SP) (b o : Nat) (rs : List Row) (hg : Good rs) (ad : Option Addr) (m cap : Nat) (l : List UInt8) (hD : RdS L 1 ad m (bsl l)) (hmc : m ≤ cap) (hm : m ≤ 70368744177664) : Ct Try.prog 16 #[.pointer (some ⟨b, o, none⟩), .slice ad m cap] (Ch b o rs :: L) (fun rs' : List Row => .int .i64 (mayE (flat rs).length m)) (fun rs' : List Row => pu (Good rs' ∧ flat rs' = if m ≤ 1048576 - (flat rs).length then l ++ flat rs else flat rs) :: Ch b o rs' :: L) := by
  refine Ct.ofM (vs := [.pointer (some ⟨b, o, none⟩), .slice ad m cap]) Try.func16 rfl rfl [(0, .pointer (some ⟨b, o, none⟩)), (1, .slice ad m cap)] (by repeat (first | exact trivial | refine ⟨rfl, ?_⟩)) ?_
  intro E
  show Hd E 41 _ _ _ _
  obtain ⟨hfull, hlen⟩ := hg
  have hrl := full_len hfull
  refine Hd.exs pkk ?_
  rintro ⟨ha, hcp⟩
  simp only [List.cons_append, List.nil_append]
  refine Hd.rdsF (RdS.mono hD (Ent.sep enn)) (fun hlm hnil => ?_)
  have hl : l.length = m := by simpa using hlm
  refine Hd.seq (fun K1 hK1 => ?_)
  refine Hd.region ?_
  refine Hd.yv (y_assign rfl) ?_
  refine Hd.nil ?_
  refine Hd.slots [(0, _), (1, _)] ⟨rfl, rfl, trivial⟩ ?_
  refine Hd.toK hK1 ?_
  refine Hd.seq (fun K2 hK2 => ?_)
  refine Hd.seq (fun K3 hK3 => ?_)
  refine Hd.region ?_
  refine Hd.yv (y_move rfl) ?_
  refine Hd.yv (y_move rfl) ?_
  refine Hd.yv (y_len Try.underlying22 rfl) ?_
  refine Hd.callE rfl fk53 (may_ct _ b o _ (flat rs).length m hlen) (Ent.sep enn) ?_
  intro _
  refine Hd.yv (y_assign rfl) ?_
  refine Hd.nil ?_
  refine Hd.slots [(0, _), (1, _), (5, _)] ⟨rfl, rfl, rfl, trivial⟩ ?_
  refine Hd.toK hK3 ?_
  refine Hd.seq (fun K4 hK4 => ?_)
  refine Hd.region ?_
  refine Hd.yv (y_move rfl) ?_
  refine Hd.yv (y_neq rfl rfl) ?_
  refine Hd.nil ?_
  refine Hd.slots [(0, _), (1, _), (5, _), (13, _)] ⟨rfl, rfl, rfl, rfl, trivial⟩ ?_
  refine Hd.toK hK4 ?_
  refine Hd.cond rfl (fun hc0 => ?_) (fun hc0 => ?_)
  ·
    try simp only [decide_eq_true_eq, decide_eq_false_iff_not, Bool.and_eq_true, Bool.or_eq_true, Bool.and_eq_false_iff, Bool.or_eq_false_iff, Bool.not_eq_true', Bool.not_eq_false', Bool.not_eq_true, Bool.not_eq_false, Int.not_lt, Int.not_le, Decidable.not_not, ne_eq] at hc0
    have hno : ¬ m ≤ 1048576 - (flat rs).length := fun h => hc0 (by simp [mayE, h])
    refine Hd.seq (fun K5 hK5 => ?_)
    refine Hd.region ?_
    refine Hd.yv (y_move rfl) ?_
    refine Hd.yv (y_assign rfl) ?_
    refine Hd.nil ?_
    refine Hd.slots [(4, _)] ⟨rfl, trivial⟩ ?_
    refine Hd.toK hK5 ?_
    refine Hd.ret ?_
    refine Hd.thenRet ?_
    clear hK1 hK2 hK3 hK4 hK5
    exact Hd.retM (fun a fr => Lv.end1 fr rfl rs rfl (Ent.sep (.pure ⟨⟨hfull, hlen⟩, by rw [if_neg hno]⟩ (.ex (ha, hcp) enn))))
  ·
    try simp only [decide_eq_true_eq, decide_eq_false_iff_not, Bool.and_eq_true, Bool.or_eq_true, Bool.and_eq_false_iff, Bool.or_eq_false_iff, Bool.not_eq_true', Bool.not_eq_false', Bool.not_eq_true, Bool.not_eq_false, Int.not_lt, Int.not_le, Decidable.not_not, ne_eq] at hc0
    have hyes : m ≤ 1048576 - (flat rs).length := by
      refine Decidable.byContradiction fun h => ?_
      simp [mayE, h] at hc0
    refine Hd.skip ?_
    refine Hd.toK hK2 ?_
    refine Hd.seq (fun K6 hK6 => ?_)
    refine Hd.region ?_
    refine Hd.yv (y_move rfl) ?_
    refine Hd.yv (y_nilp rfl) ?_
    first | (refine Hd.yv (y_field' (q := 1) (ft := 3) Try.underlying27 rfl sz3 rfl rfl) ?_) | (refine Hd.yv (y_fieldR (q := 1) (ft := 3) Try.underlying27 rfl sz3 rfl rfl) ?_)
    first | (refine Hd.yv (y_load1 ag3 rfl (Rd.pt1 pkk (by (first | rfl)))) ?_) | (refine Hd.yv (y_load1 ag3 rfl (Rd.seg1 pkk (by (first | rfl)))) ?_) | (refine Hd.yv (y_loadR1 ag3 rfl (by (first | exact RdS.own pkk)) (by (first | rfl))) ?_)
    refine Hd.yv (y_move rfl) ?_
    refine Hd.yv (y_len Try.underlying22 rfl) ?_
    first | (refine Hd.yv (y_addn rfl rfl (by simp only [InK]; omega)) ?_) | (refine Hd.yv (y_add rfl rfl) ?_)
    refine Hd.yv (y_nilp rfl) ?_
    first | (refine Hd.yv (y_field' (q := 1) (ft := 3) Try.underlying27 rfl sz3 rfl rfl) ?_) | (refine Hd.yv (y_fieldR (q := 1) (ft := 3) Try.underlying27 rfl sz3 rfl rfl) ?_)
    first | (refine Hd.store1 sz3 rfl rfl rfl pkk (by first | decide | (simp; done) | (simp; omega)) ?_) | (refine Hd.storeG1 sz3 rfl rfl rfl pkk (by first | decide | (simp; done) | (simp; omega)) ?_) | (refine Hd.storeO1 sz3 rfl rfl rfl pkk (by first | omega | (simp; done) | (simp; omega)) ?_)
    try simp only [List.set_cons_zero, List.set_cons_succ]
    refine Hd.nil ?_
    refine Hd.slots [(0, _), (1, _)] ⟨rfl, rfl, trivial⟩ ?_
    refine Hd.toK hK6 ?_
    refine Hd.seq (fun K7 hK7 => ?_)
    refine Hd.region ?_
    refine Hd.alloc zr25 (fun b6 => ?_)
    refine Hd.nil ?_
    refine Hd.slots [(0, _), (1, _), (6, _)] ⟨rfl, rfl, rfl, trivial⟩ ?_
    refine Hd.toK hK7 ?_
    refine Hd.seq (fun K8 hK8 => ?_)
    refine Hd.seq (fun K9 hK9 => ?_)
    refine Hd.region ?_
    refine Hd.yv (y_move rfl) ?_
    refine Hd.callE rfl fk54 (chunk_ct _ (.slice ad m cap) rfl) (Ent.sep enn) ?_
    rintro ⟨c2, c3⟩
    dsimp only
    refine Hd.nil ?_
    refine Hd.slots [(0, _), (6, _), (25, _)] ⟨rfl, rfl, rfl, trivial⟩ ?_
    refine Hd.toK hK9 ?_
    refine Hd.block ?_
    refine Hd.rangeF (enc := encP ad) (S := fun xs => xs = pcs m (npc m)) (Sp := SpP m)
      (fun pre => (RX.ex fun i : List Row × Option Addr × Nat => [pu (flat i.1 = l.take (pre.length * 256) ∧ Full i.1), pt b6 [.slice i.2.1 i.1.length i.2.2] 25, own 22 1 i.2.1 i.1.length i.2.2 (i.1.map hdr), rows i.1]) :: seg b o [.slice ha rs.length hcp, .int .i64 (((flat rs).length : Int) + (m : Int))] :: own 22 1 ha rs.length hcp (rs.map hdr) :: rows rs :: L) (fun _ _ => [pu False])
      rfl (by kernel_rfl) (fun _ => rfl) rfl (chunk_it [] c2 c3 ad m cap hmc (by omega)) (fun k s => Ent.sep (.ex ([], none, 0) (.pure ⟨by simp [flat], fun r hr => by simp at hr⟩ (.eq pkk (pt_eq (by rfl)) (.ownNil (.pick pkk (.pick pkk (.pick pkk (.pick pkk .two)))))))) k (rows_nil s)) ?_ ?_ ?_
    ·
      intro E l' R pre c N hR hG
      obtain ⟨q, rfl, rfl, hq⟩ := spP_last hG
      unfold Rnd
      simp only [List.cons_append, List.nil_append, pz, encP]
      refine Hd.region ?_
      refine Hd.yv (y_assign rfl) ?_
      refine Hd.nil ?_
      refine Hd.slots [(0, _), (6, _), (7, _)] ⟨rfl, rfl, rfl, trivial⟩ ?_
      refine Hd.thenN ?_
      refine Hd.begin hR pkk ?_
      refine Hd.block ?_
      refine Hd.exs pkk ?_
      rintro ⟨rs2, a6, c6⟩
      simp only [List.cons_append, List.nil_append]
      refine Hd.pure (fun hrs2 => ?_)
      obtain ⟨hf2, hfull2⟩ := hrs2
      rw [pcs_len] at hf2
      have hrl2 := full_len hfull2
      have hbig : (flat rs2).length ≤ 1048576 := by
        rw [hf2]
        simp only [List.length_take]
        omega
      have hR2 : RdS (L ++ N) 1 (cutA ad 1 (q * 256) (q * 256 + min 256 (m - q * 256))) (q * 256 + min 256 (m - q * 256) - q * 256) (bsl ((l.drop (q * 256)).take (min 256 (m - q * 256)))) := by
        have := RdS.part (mx := q * 256 + min 256 (m - q * 256)) hD (show q * 256 ≤ q * 256 + min 256 (m - q * 256) by omega) (by omega) (Nat.le_refl _)
        rw [Nat.mul_one, Nat.mul_one, ← List.map_drop, ← List.map_take] at this
        rw [show q * 256 + min 256 (m - q * 256) - q * 256 = min 256 (m - q * 256) by omega] at this ⊢
        exact RdS.mono this (Ent.sep .left)
      refine Hd.drawsH ([pt b6 [.slice a6 rs2.length c6] 25]) (fun j => !([5].contains j)) mixed ?_
      simp only [List.length, Nat.zero_add, Nat.reduceAdd]
      first | (refine Hd.takeH 0 rfl (by kernel_rfl) (by kernel_rfl) (by kernel_rfl) (by kernel_rfl) (y_load1 ag25 rfl (Rd.pt1 pkk (by (first | rfl)))) (fun _ _ => rfl) (Ent.sep enn) ?_) | (refine Hd.takeH 0 rfl (by kernel_rfl) (by kernel_rfl) (by kernel_rfl) (by kernel_rfl) (y_load1 ag25 rfl (Rd.seg1 pkk (by (first | rfl)))) (fun _ _ => rfl) (Ent.sep enn) ?_) | (refine Hd.takeH 0 rfl (by kernel_rfl) (by kernel_rfl) (by kernel_rfl) (by kernel_rfl) (y_loadR1 ag25 rfl (by (first | exact RdS.own pkk)) (by (first | rfl))) (fun _ _ => rfl) (Ent.sep enn) ?_)
      refine Hd.takeH 1 rfl (by kernel_rfl) (by kernel_rfl) (by kernel_rfl) (by kernel_rfl) (y_move rfl) (fun _ _ => rfl) (Ent.sep enn) ?_
      refine Hd.onlyH 2 rfl (by kernel_rfl) ?_
      refine Hd.call rfl fk55 (clone_ct _ _ _ _ _ (RdS.mono hR2 (Ent.sep enn)) (by omega)) ?_
      rintro ⟨ad72, cap72⟩
      dsimp only
      refine Hd.nil ?_
      refine Hd.thenN ?_
      refine Hd.heldK (J := (fun j => !([5].contains j))) (i := 2) (Ent.sep enn) ?_
      refine Hd.onlyH 3 rfl (by kernel_rfl) ?_
      refine Hd.bslice (vs := [(0, _)]) rfl (by first | exact bs16_30 .. | kernel_rfl) (fun b30 => ?_)
      refine Hd.nil ?_
      refine Hd.thenN ?_
      refine Hd.heldK (J := (fun j => !([5].contains j))) (i := 3) (Ent.sep enn) ?_
      refine Hd.onlyH 4 rfl (by kernel_rfl) ?_
      refine Hd.append Try.underlying25 ty22 rfl rfl rfl pkk (by first | exact RdS.rd (Rd.pt pkk (fun j v e => by simpa using e)) rfl | (first | exact RdS.own pkk)) (by first | (simp [Value.oneCell']; done) | assumption) (by first | (simp only [maxLen]; omega) | assumption) (by omega) (fun ad31 cap31 => ?_)
      refine Hd.nil ?_
      refine Hd.thenN ?_
      refine Hd.heldK (J := (fun j => !([5].contains j))) (i := 4) (Ent.sep enn) ?_
      refine Hd.onlyH 5 rfl (by kernel_rfl) ?_
      first | (refine Hd.store1 sz25 rfl rfl rfl pkk (by first | decide | (simp; done) | (simp; omega)) ?_) | (refine Hd.storeG1 sz25 rfl rfl rfl pkk (by first | decide | (simp; done) | (simp; omega)) ?_) | (refine Hd.storeO1 sz25 rfl rfl rfl pkk (by first | omega | (simp; done) | (simp; omega)) ?_)
      try simp only [List.set_cons_zero, List.set_cons_succ]
      refine Hd.nil ?_
      refine Hd.thenN ?_
      refine Hd.heldN (J := (fun j => !([5].contains j))) (i := 5) rfl ?_
      refine Hd.endH (by kernel_rfl) ?_
      refine Hd.slots [(0, _), (6, _)] ⟨rfl, rfl, trivial⟩ ?_
      refine Hd.inB ?_
      clear hK1 hK2 hK3 hK4 hK6 hK7 hK8 hK9
      refine Hd.reN ?_
      simp only [List.cons_append, List.nil_append]
      have hpl : ((l.drop (q * 256)).take (min 256 (m - q * 256))).length = q * 256 + min 256 (m - q * 256) - q * 256 := by simp [hl]
      intro k s
      have s2 := addRow_sep (rs := rs2) ((l.drop (q * 256)).take (min 256 (m - q * 256))) pkk pkk hpl rfl k s
      refine Ent.sep (.pick pkk (.ex (rs2 ++ [⟨ad72, cap72, (l.drop (q * 256)).take (min 256 (m - q * 256))⟩], ad31, cap31) (.pure ⟨?_, ?_⟩ (.eq pkk (pt_eq ?_) (.eq pkk (own_eq ?_ ?_) (.pick pkk enn)))))) k s2
      · simp
      · simp
      · simp [hl]
      · rw [flat_app, flat_one, hf2, List.length_append, pcs_len]
        have := take_piece (l := l) (k := q) (by omega)
        rw [hl] at this
        rw [← this]; rfl
      · exact full_app hfull2 (full_one (by rw [hpl]; omega))
    ·
      intro r0 xs hxs
      have hxs' : xs = pcs m (npc m) := hxs
      simp only [List.cons_append, List.nil_append]
      refine Hd.inB ?_
      refine Hd.toK hK8 ?_
      refine Hd.seq (fun K10 hK10 => ?_)
      refine Hd.exs pkk ?_
      rintro ⟨rs2, a6, c6⟩
      simp only [List.cons_append, List.nil_append]
      refine Hd.pure (fun hrs2 => ?_)
      obtain ⟨hf2, hfull2⟩ := hrs2
      have e2 : flat rs2 = l := by
        rw [hf2, hxs', pcs_len, List.take_of_length_le (by simp only [npc]; omega)]
      have hrl2 := full_len hfull2
      rw [e2, hl] at hrl2
      have e3 : ((flat (rs2 ++ rs)).length : Int) = ((flat rs).length : Int) + (m : Int) := by rw [flat_app, e2, List.length_append, hl]; omega
      refine Hd.drawsH ([pt b6 [.slice a6 rs2.length c6] 25, seg b o [.slice ha rs.length hcp, .int .i64 (((flat rs).length : Int) + (m : Int))]]) (fun j => !([9].contains j)) mixed ?_
      simp only [List.length, Nat.zero_add, Nat.reduceAdd]
      refine Hd.takeH 0 rfl (by kernel_rfl) (by kernel_rfl) (by kernel_rfl) (by kernel_rfl) (y_move rfl) (fun _ _ => rfl) (Ent.sep enn) ?_
      first | (refine Hd.takeH 1 rfl (by kernel_rfl) (by kernel_rfl) (by kernel_rfl) (by kernel_rfl) (y_load1 ag25 rfl (Rd.pt1 pkk (by (first | rfl)))) (fun _ _ => rfl) (Ent.sep enn) ?_) | (refine Hd.takeH 1 rfl (by kernel_rfl) (by kernel_rfl) (by kernel_rfl) (by kernel_rfl) (y_load1 ag25 rfl (Rd.seg1 pkk (by (first | rfl)))) (fun _ _ => rfl) (Ent.sep enn) ?_) | (refine Hd.takeH 1 rfl (by kernel_rfl) (by kernel_rfl) (by kernel_rfl) (by kernel_rfl) (y_loadR1 ag25 rfl (by (first | exact RdS.own pkk)) (by (first | rfl))) (fun _ _ => rfl) (Ent.sep enn) ?_)
      refine Hd.takeH 2 rfl (by kernel_rfl) (by kernel_rfl) (by kernel_rfl) (by kernel_rfl) (y_move rfl) (fun _ _ => rfl) (Ent.sep enn) ?_
      refine Hd.takeH 3 rfl (by kernel_rfl) (by kernel_rfl) (by kernel_rfl) (by kernel_rfl) (y_nilp rfl) (fun _ _ => rfl) (Ent.sep enn) ?_
      first | (refine Hd.takeH 4 rfl (by kernel_rfl) (by kernel_rfl) (by kernel_rfl) (by kernel_rfl) (y_field' (q := 0) (ft := 25) Try.underlying27 rfl sz25 rfl rfl) (fun _ _ => rfl) (Ent.sep enn) ?_) | (refine Hd.takeH 4 rfl (by kernel_rfl) (by kernel_rfl) (by kernel_rfl) (by kernel_rfl) (y_fieldR (q := 0) (ft := 25) Try.underlying27 rfl sz25 rfl rfl) (fun _ _ => rfl) (Ent.sep enn) ?_)
      first | (refine Hd.takeH 5 rfl (by kernel_rfl) (by kernel_rfl) (by kernel_rfl) (by kernel_rfl) (y_load1 ag25 rfl (Rd.pt1 pkk (by (first | rfl)))) (fun _ _ => rfl) (Ent.sep enn) ?_) | (refine Hd.takeH 5 rfl (by kernel_rfl) (by kernel_rfl) (by kernel_rfl) (by kernel_rfl) (y_load1 ag25 rfl (Rd.seg1 pkk (by (first | rfl)))) (fun _ _ => rfl) (Ent.sep enn) ?_) | (refine Hd.takeH 5 rfl (by kernel_rfl) (by kernel_rfl) (by kernel_rfl) (by kernel_rfl) (y_loadR1 ag25 rfl (by (first | exact RdS.own pkk)) (by (first | rfl))) (fun _ _ => rfl) (Ent.sep enn) ?_)
      refine Hd.onlyH 6 rfl (by kernel_rfl) ?_
      refine Hd.append Try.underlying25 ty22 rfl rfl rfl pkk (by first | exact RdS.rd (Rd.pt pkk (fun j v e => by simpa using e)) rfl | (first | exact RdS.own pkk)) (by first | (simp [Value.oneCell']; done) | assumption) (by first | (simp only [maxLen]; omega) | assumption) (by omega) (fun ad38 cap38 => ?_)
      refine Hd.nil ?_
      refine Hd.thenN ?_
      refine Hd.heldK (J := (fun j => !([9].contains j))) (i := 6) (Ent.sep enn) ?_
      refine Hd.onlyH 7 rfl (by kernel_rfl) ?_
      refine Hd.yv (y_nilp rfl) ?_
      refine Hd.nil ?_
      refine Hd.thenN ?_
      refine Hd.heldK (J := (fun j => !([9].contains j))) (i := 7) (Ent.sep enn) ?_
      first | (refine Hd.takeH 8 rfl (by kernel_rfl) (by kernel_rfl) (by kernel_rfl) (by kernel_rfl) (y_field' (q := 0) (ft := 25) Try.underlying27 rfl sz25 rfl rfl) (fun _ _ => rfl) (Ent.sep enn) ?_) | (refine Hd.takeH 8 rfl (by kernel_rfl) (by kernel_rfl) (by kernel_rfl) (by kernel_rfl) (y_fieldR (q := 0) (ft := 25) Try.underlying27 rfl sz25 rfl rfl) (fun _ _ => rfl) (Ent.sep enn) ?_)
      refine Hd.onlyH 9 rfl (by kernel_rfl) ?_
      first | (refine Hd.store1 sz25 rfl rfl rfl pkk (by first | decide | (simp; done) | (simp; omega)) ?_) | (refine Hd.storeG1 sz25 rfl rfl rfl pkk (by first | decide | (simp; done) | (simp; omega)) ?_) | (refine Hd.storeO1 sz25 rfl rfl rfl pkk (by first | omega | (simp; done) | (simp; omega)) ?_)
      try simp only [List.set_cons_zero, List.set_cons_succ]
      refine Hd.nil ?_
      refine Hd.thenN ?_
      refine Hd.heldN (J := (fun j => !([9].contains j))) (i := 9) rfl ?_
      refine Hd.endH (by kernel_rfl) ?_
      refine Hd.slots [] trivial ?_
      refine Hd.toK hK10 ?_
      refine Hd.seq (fun K11 hK11 => ?_)
      refine Hd.region ?_
      refine Hd.yv (y_assign rfl) ?_
      refine Hd.nil ?_
      refine Hd.slots [(4, _)] ⟨rfl, trivial⟩ ?_
      refine Hd.toK hK11 ?_
      refine Hd.ret ?_
      clear hK1 hK2 hK3 hK4 hK6 hK7 hK8 hK9 hK10 hK11
      have hv : mayE (flat rs).length m = 0 := by simp [mayE, hyes]
      refine Hd.retM (fun a fr => Lv.mark pkk (Lv.end1 fr rfl (rs2 ++ rs) (by rw [hv]; rfl) ?_))
      intro k s
      have s2 := joinRows_sep (a := rs2) (b := rs) pkk pkk k s
      refine Ent.sep (.pure ⟨⟨full_app hfull2 hfull, ?_⟩, ?_⟩ (.ex (ad38, cap38) (.eq pkk (seg_eq ?_) (.eq pkk (own_eq ?_ ?_) (.pick pkk enn))))) k s2
      · rw [e3]; simp
      · simp
      · simp
      · rw [flat_app, e2, List.length_append, hl]; omega
      · rw [if_pos hyes, flat_app, e2]
    ·
      rintro r0_0 (_ | id0) pre0 hG0
      ·
        exact Hd.absurd (by first | exact id | simp)
      ·
        exact Hd.absurd (by first | exact id | simp)
set_option maxHeartbeats 2000000 in
theorem len_ct (L : List SP) (b o : Nat) (v : Value) (k : Int) : Ct Try.prog 23 #[.pointer (some ⟨b, o, none⟩)] (seg b o [v, .int .i64 k] :: L) (fun _ : Unit => .int .i64 k) (fun _ : Unit => seg b o [v, .int .i64 k] :: L) := by
  refine Ct.of (vs := [.pointer (some ⟨b, o, none⟩)]) Try.func23 rfl rfl [(0, .pointer (some ⟨b, o, none⟩))] (by repeat (first | exact trivial | refine ⟨rfl, ?_⟩)) ?_
  intro E
  show Hd E 9 _ _ _ _
  refine Hd.seq (fun K1 hK1 => ?_)
  refine Hd.region ?_
  refine Hd.yv (y_assign rfl) ?_
  refine Hd.nil ?_
  refine Hd.slots [(0, _)] ⟨rfl, trivial⟩ ?_
  refine Hd.toK hK1 ?_
  refine Hd.seq (fun K2 hK2 => ?_)
  refine Hd.seq (fun K3 hK3 => ?_)
  refine Hd.region ?_
  refine Hd.yv (y_move rfl) ?_
  first | (refine Hd.yv (y_eql_pointer Try.underlying24 rfl rfl) ?_) | (refine Hd.yv (y_eql_one Try.underlying24 sz27 rfl rfl rfl) ?_)
  refine Hd.nil ?_
  refine Hd.slots [(0, _), (4, _)] ⟨rfl, rfl, trivial⟩ ?_
  refine Hd.toK hK3 ?_
  refine Hd.condF rfl ?_
  refine Hd.skip ?_
  refine Hd.toK hK2 ?_
  refine Hd.seq (fun K4 hK4 => ?_)
  refine Hd.region ?_
  refine Hd.yv (y_move rfl) ?_
  refine Hd.yv (y_nilp rfl) ?_
  first | (refine Hd.yv (y_field' (q := 1) (ft := 3) Try.underlying27 rfl sz3 rfl rfl) ?_) | (refine Hd.yv (y_fieldR (q := 1) (ft := 3) Try.underlying27 rfl sz3 rfl rfl) ?_)
  first | (refine Hd.yv (y_load1 ag3 rfl (Rd.pt1 pkk (by (first | rfl)))) ?_) | (refine Hd.yv (y_load1 ag3 rfl (Rd.seg1 pkk (by (first | rfl)))) ?_) | (refine Hd.yv (y_loadR1 ag3 rfl (by (first | exact RdS.own pkk)) (by (first | rfl))) ?_)
  refine Hd.yv (y_assign rfl) ?_
  refine Hd.nil ?_
  refine Hd.slots [(2, _)] ⟨rfl, trivial⟩ ?_
  refine Hd.toK hK4 ?_
  refine Hd.ret ?_
  clear hK1 hK2 hK3 hK4
  exact Hd.ret1 rfl () (by first | rfl | (simp only [*]; done) | (simp [*]; done)) (Ent.sep enn)
end Bc
end Go.Proofs.Ytgifpkpkkgkfeaa
