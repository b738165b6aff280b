/-
  Worlds: the wire whose other end is outside; Put, Take, PeerShut, PeerClose, Shut. Loops, and ways that meet, in which ranges over functions stand: each leaves a mark; the marks are kept beside. No program is named here. Signals: which are pending; Handle, Raise, Take. Signals: Handle, Raise, Take. Worlds: Handle, Raise, Signals, Notice.
-/
import Derived.Test.YtbfddabjbkohdaaZKquNamesG
namespace Go.Proofs.Ytbfddabjbkohdaa
set_option linter.unusedSimpArgs false
set_option linter.unusedVariables false
set_option linter.unnecessarySimpa false
open Go.RX Fx
namespace Wo
set_option maxRecDepth 8000
theorem wol_back {wb n b : Nat} {w : WA} {i : WoI} {x : WireA} {L : List SP} (hb : i.rs[n]? = some (b, x)) : ∀ h, sep (WireP b x :: WoR wb n w i L) h → sep (WoL wb w i L) h := by
  intro h s
  obtain ⟨hn, e⟩ := List.getElem?_eq_some_iff.1 hb
  have h1 : sep (WireP b x :: Wires (i.rs.take n) :: Wires (i.rs.drop (n + 1)) :: WoH wb w.at w i.rs.length i :: own 81 1 i.wa i.rs.length i.wc (pws i.rs) :: SigP i.sb w.hd w.ct :: L) h := Ent.sep enn h s
  have h2 := ws_in hn h1
  rw [← e, List.set_getElem_self] at h2
  exact Ent.sep enn h h2
def outB (i : WoI) (w : WA) (n : Int) : Option Nat := if (outW w n).isSome then (i.rs[n.toNat]?).map Prod.fst else none
def outE (w : WA) (n : Int) : Int := if (outW w n).isSome then 0 else 116
theorem outW_nat {w : WA} {n : Nat} {x : WireA} (hx : w.ws[n]? = some x) : outW w (n : Int) = if (x.e 1).what = 2 then some x else none := by
  unfold outW
  rw [if_neg (by omega), Int.toNat_natCast, hx]
theorem outW_off {w : WA} {n : Int} (h : n < 0 ∨ (w.ws.length : Int) ≤ n) : outW w n = none := by
  unfold outW
  split
  · rfl
  · rw [List.getElem?_eq_none (by omega)]
set_option maxHeartbeats 2000000 in
theorem outer1_ct (L : List SP) (wb : Nat) (w : WA) (i : WoI) (hw : WOk w) (hrs : i.rs.map Prod.snd = w.ws) (n b : Nat) (x : WireA) (hb : i.rs[n]? = some (b, x)) : Ct Try.prog 42 #[.pointer (some ⟨wb, 0, none⟩), .int .i64 (n : Int)] (WoL wb w i L) (fun _ : Unit => .tuple #[ptr (if (x.e 1).what = 2 then some b else none), .int .i64 (if (x.e 1).what = 2 then 0 else 116)]) (fun _ : Unit => WoL wb w i L) := by
  refine Ct.of (vs := [.pointer (some ⟨wb, 0, none⟩), .int .i64 (n : Int)]) Try.func42 rfl rfl [(0, .pointer (some ⟨wb, 0, none⟩)), (1, .int .i64 (n : Int))] (by repeat (first | exact trivial | refine ⟨rfl, ?_⟩)) ?_
  intro E
  show Hd E 43 _ _ _ _
  have hn := (List.getElem?_eq_some_iff.1 hb).1
  refine Hd.seq (fun K1 hK1 => ?_)
  refine Hd.region ?_
  refine Hd.yv (y_assign rfl) ?_
  refine Hd.yv (y_assign rfl) ?_
  refine Hd.nil ?_
  refine Hd.slots [(0, _), (1, _)] ⟨rfl, rfl, trivial⟩ ?_
  refine Hd.toK hK1 ?_
  refine Hd.seq (fun K2 hK2 => ?_)
  refine Hd.block ?_
  refine Hd.seq (fun K3 hK3 => ?_)
  refine Hd.region ?_
  refine Hd.yv (y_move rfl) ?_
  refine Hd.callE rfl fk52 (wnone_ct _ wb w.at w i.rs.length i) (Ent.sep enn) ?_
  intro _
  refine Hd.yv (y_assign rfl) ?_
  refine Hd.nil ?_
  refine Hd.slots [(0, _), (1, _), (6, _)] ⟨rfl, rfl, rfl, trivial⟩ ?_
  refine Hd.toK hK3 ?_
  refine Hd.condF rfl ?_
  refine Hd.seq (fun K4 hK4 => ?_)
  refine Hd.wOut pkk hb ?_
  refine Hd.wire .here 1 (by omega) (fun i2 hi => ?_)
  refine Hd.region ?_
  refine Hd.yv (y_move rfl) ?_
  refine Hd.yv (y_lss rfl rfl) ?_
  refine Hd.yv (y_move rfl) ?_
  apply Hd.org 8 12 20 [(0, _), (1, _)] rfl ⟨rfl, rfl, trivial⟩
  · intro hg3_12
    try simp only [decide_eq_true_eq, decide_eq_false_iff_not, Bool.and_eq_true, Bool.or_eq_true, Bool.and_eq_false_iff, Bool.or_eq_false_iff, Bool.not_eq_true', Bool.not_eq_false', Bool.not_eq_true, Bool.not_eq_false, Int.not_lt, Int.not_le, Decidable.not_not, ne_eq] at hg3_12
    simp only [List.take]
    refine Hd.ng rfl rfl rfl ?_
    refine Hd.ng rfl rfl rfl ?_
    refine Hd.ng rfl rfl rfl ?_
    refine Hd.ng rfl rfl rfl ?_
    refine Hd.ng rfl rfl rfl ?_
    refine Hd.ng rfl rfl rfl ?_
    refine Hd.ng rfl rfl rfl ?_
    first | (refine Hd.yv (y_pickT rfl rfl) ?_) | (refine Hd.yv (y_pickF rfl rfl) ?_) | (refine Hd.yv (y_pickb rfl rfl rfl) ?_) | (refine Hd.yv (y_pick rfl rfl rfl) ?_)
    refine Hd.nil ?_
    exact Hd.mend (by repeat (first | exact trivial | refine ⟨rfl, ?_⟩)) (Ent.sep enn)
  · intro hg3_12
    try simp only [decide_eq_true_eq, decide_eq_false_iff_not, Bool.and_eq_true, Bool.or_eq_true, Bool.and_eq_false_iff, Bool.or_eq_false_iff, Bool.not_eq_true', Bool.not_eq_false', Bool.not_eq_true, Bool.not_eq_false, Int.not_lt, Int.not_le, Decidable.not_not, ne_eq] at hg3_12
    simp only [List.take]
    refine Hd.yg rfl rfl (y_move rfl) ?_
    refine Hd.yg rfl rfl (y_move rfl) ?_
    refine Hd.yg rfl rfl (y_nilp rfl) ?_
    first | (refine Hd.yg rfl rfl (y_field' (q := 288) (ft := 77) Try.underlying80 rfl sz77 rfl rfl) ?_) | (refine Hd.yg rfl rfl (y_fieldR (q := 288) (ft := 77) Try.underlying80 rfl sz77 rfl rfl) ?_)
    first | (refine Hd.yg rfl rfl (y_load1 ag77 rfl (Rd.pt1 pkk (by (first | exact woT_at (j := 0) (by omega) rfl | exact pws_at hb | rfl)))) ?_) | (refine Hd.yg rfl rfl (y_load1 ag77 rfl (Rd.seg1 pkk (by (first | exact woT_at (j := 0) (by omega) rfl | exact pws_at hb | rfl)))) ?_) | (refine Hd.yg rfl rfl (y_loadR1 ag77 rfl (by (first | exact RdS.own pkk)) (by (first | exact woT_at (j := 0) (by omega) rfl | exact pws_at hb | rfl))) ?_)
    refine Hd.yg rfl rfl (y_len Try.underlying77 rfl) ?_
    refine Hd.yg rfl rfl (y_geq rfl rfl) ?_
    first | (refine Hd.yv (y_pickT rfl rfl) ?_) | (refine Hd.yv (y_pickF rfl rfl) ?_) | (refine Hd.yv (y_pickb rfl rfl rfl) ?_) | (refine Hd.yv (y_pick rfl rfl rfl) ?_)
    refine Hd.nil ?_
    exact Hd.mend (by repeat (first | exact trivial | refine ⟨rfl, ?_⟩)) (Ent.sep enn)
  simp only [List.drop]
  refine Hd.yv (y_move rfl) ?_
  apply Hd.org (q := decide ((x.e 1).what ≠ 2)) 14 21 35 [(0, _), (1, _)] rfl ⟨rfl, rfl, trivial⟩
  · intro hg3_21
    try simp only [decide_eq_true_eq, decide_eq_false_iff_not, Bool.and_eq_true, Bool.or_eq_true, Bool.and_eq_false_iff, Bool.or_eq_false_iff, Bool.not_eq_true', Bool.not_eq_false', Bool.not_eq_true, Bool.not_eq_false, Int.not_lt, Int.not_le, Decidable.not_not, ne_eq] at hg3_21
    simp only [List.take]
    refine Hd.ng rfl rfl rfl ?_
    refine Hd.ng rfl rfl rfl ?_
    refine Hd.ng rfl rfl rfl ?_
    refine Hd.ng rfl rfl rfl ?_
    refine Hd.ng rfl rfl rfl ?_
    refine Hd.ng rfl rfl rfl ?_
    refine Hd.ng rfl rfl rfl ?_
    refine Hd.ng rfl rfl rfl ?_
    refine Hd.ng rfl rfl rfl ?_
    refine Hd.ng rfl rfl rfl ?_
    refine Hd.ng rfl rfl rfl ?_
    refine Hd.ng rfl rfl rfl ?_
    refine Hd.ng rfl rfl rfl ?_
    first | (refine Hd.yv (y_pickT rfl rfl) ?_) | (refine Hd.yv (y_pickF rfl rfl) ?_) | (refine Hd.yv (y_pickb rfl rfl rfl) ?_) | (refine Hd.yv (y_pick rfl rfl rfl) ?_)
    refine Hd.nil ?_
    exact Hd.mend (by repeat (first | exact trivial | refine ⟨rfl, ?_⟩)) (Ent.sep enn)
  · intro hg3_21
    try simp only [decide_eq_true_eq, decide_eq_false_iff_not, Bool.and_eq_true, Bool.or_eq_true, Bool.and_eq_false_iff, Bool.or_eq_false_iff, Bool.not_eq_true', Bool.not_eq_false', Bool.not_eq_true, Bool.not_eq_false, Int.not_lt, Int.not_le, Decidable.not_not, ne_eq] at hg3_21
    simp only [List.take]
    refine Hd.yg rfl rfl (y_move rfl) ?_
    refine Hd.yg rfl rfl (y_nilp rfl) ?_
    first | (refine Hd.yg rfl rfl (y_field' (q := 288) (ft := 77) Try.underlying80 rfl sz77 rfl rfl) ?_) | (refine Hd.yg rfl rfl (y_fieldR (q := 288) (ft := 77) Try.underlying80 rfl sz77 rfl rfl) ?_)
    first | (refine Hd.yg rfl rfl (y_load1 ag77 rfl (Rd.pt1 pkk (by (first | exact woT_at (j := 0) (by omega) rfl | exact pws_at hb | rfl)))) ?_) | (refine Hd.yg rfl rfl (y_load1 ag77 rfl (Rd.seg1 pkk (by (first | exact woT_at (j := 0) (by omega) rfl | exact pws_at hb | rfl)))) ?_) | (refine Hd.yg rfl rfl (y_loadR1 ag77 rfl (by (first | exact RdS.own pkk)) (by (first | exact woT_at (j := 0) (by omega) rfl | exact pws_at hb | rfl))) ?_)
    refine Hd.yg rfl rfl (y_move rfl) ?_
    first | (refine Hd.yg rfl rfl (y_idxS Try.underlying77 sz81 rfl rfl (by first | omega | decide)) ?_) | (refine Hd.yg rfl rfl (y_idxR Try.underlying77 sz81 rfl rfl (by first | omega | decide) (by (first | exact RdS.own pkk))) ?_)
    first | (refine Hd.yg rfl rfl (y_load1 ag81 rfl (Rd.pt1 pkk (by (first | exact woT_at (j := 0) (by omega) rfl | exact pws_at hb | rfl)))) ?_) | (refine Hd.yg rfl rfl (y_load1 ag81 rfl (Rd.seg1 pkk (by (first | exact woT_at (j := 0) (by omega) rfl | exact pws_at hb | rfl)))) ?_) | (refine Hd.yg rfl rfl (y_loadR1 ag81 rfl (by (first | exact RdS.own pkk)) (by (first | exact woT_at (j := 0) (by omega) rfl | exact pws_at hb | rfl))) ?_)
    refine Hd.yg rfl rfl (y_nilp rfl) ?_
    first | (refine Hd.yg rfl rfl (y_field' (q := 0) (ft := 86) Try.underlying88 rfl sz86 rfl rfl) ?_) | (refine Hd.yg rfl rfl (y_fieldR (q := 0) (ft := 86) Try.underlying88 rfl sz86 rfl rfl) ?_)
    first | (refine Hd.yg rfl rfl (y_idxA Try.underlying86 sz85 rfl rfl (by first | omega | decide)) ?_) | (refine Hd.yg rfl rfl (y_idxAR Try.underlying86 sz85 rfl rfl (by first | omega | decide)) ?_)
    first | (refine Hd.yg rfl rfl (y_field' (q := 0) (ft := 3) Try.underlying85 rfl sz3 rfl rfl) ?_) | (refine Hd.yg rfl rfl (y_fieldR (q := 0) (ft := 3) Try.underlying85 rfl sz3 rfl rfl) ?_)
    first | (refine Hd.yg rfl rfl (y_load1 ag3 rfl (Rd.pt1 pkk (by (first | exact woT_at (j := 0) (by omega) rfl | exact pws_at hb | rfl)))) ?_) | (refine Hd.yg rfl rfl (y_load1 ag3 rfl (Rd.seg1 pkk (by (first | exact woT_at (j := 0) (by omega) rfl | exact pws_at hb | rfl)))) ?_) | (refine Hd.yg rfl rfl (y_loadR1 ag3 rfl (by (first | exact RdS.own pkk)) (by (first | exact woT_at (j := 0) (by omega) rfl | exact pws_at hb | rfl))) ?_)
    refine Hd.yg rfl rfl (y_neq rfl rfl) ?_
    first | (refine Hd.yv (y_pickT rfl rfl) ?_) | (refine Hd.yv (y_pickF rfl rfl) ?_) | (refine Hd.yv (y_pickb rfl rfl rfl) ?_) | (refine Hd.yv (y_pick rfl rfl rfl) ?_)
    refine Hd.nil ?_
    exact Hd.mend (by repeat (first | exact trivial | refine ⟨rfl, ?_⟩)) (Ent.sep enn)
  simp only [List.drop]
  refine Hd.yv (y_assign rfl) ?_
  refine Hd.nil ?_
  refine Hd.slots [(0, _), (1, _), (9, _)] ⟨rfl, rfl, rfl, trivial⟩ ?_
  refine Hd.toK hK4 ?_
  refine Hd.cond rfl (fun hc1 => ?_) (fun hc1 => ?_)
  ·
    try simp only [decide_eq_true_eq, decide_eq_false_iff_not, Bool.and_eq_true, Bool.or_eq_true, Bool.and_eq_false_iff, Bool.or_eq_false_iff, Bool.not_eq_true', Bool.not_eq_false', Bool.not_eq_true, Bool.not_eq_false, Int.not_lt, Int.not_le, Decidable.not_not, ne_eq] at hc1
    refine Hd.seq (fun K5 hK5 => ?_)
    refine Hd.region ?_
    refine Hd.yv (y_assign rfl) ?_
    refine Hd.yv (y_assign rfl) ?_
    refine Hd.nil ?_
    refine Hd.slots [(4, _), (5, _)] ⟨rfl, rfl, trivial⟩ ?_
    refine Hd.toK hK5 ?_
    refine Hd.ret ?_
    refine Hd.inBret ?_
    refine Hd.thenRet ?_
    clear hK1 hK2 hK3 hK4 hK5
    have h2 : ¬ ((x.e 1).what = 2) := by
      rcases hc1 with h | h
      · omega
      · exact h
    rw [if_neg h2, if_neg h2]
    exact Hd.ret2 rfl () rfl rfl rfl (fun q s => wol_back hb q (wire_fold (k := 1) hi (by omega) q (Ent.sep enn q s)))
  ·
    try simp only [decide_eq_true_eq, decide_eq_false_iff_not, Bool.and_eq_true, Bool.or_eq_true, Bool.and_eq_false_iff, Bool.or_eq_false_iff, Bool.not_eq_true', Bool.not_eq_false', Bool.not_eq_true, Bool.not_eq_false, Int.not_lt, Int.not_le, Decidable.not_not, ne_eq] at hc1
    refine Hd.skip ?_
    refine Hd.inB ?_
    refine Hd.toK hK2 ?_
    refine Hd.seq (fun K6 hK6 => ?_)
    refine Hd.region ?_
    refine Hd.yv (y_move rfl) ?_
    refine Hd.yv (y_nilp rfl) ?_
    first | (refine Hd.yv (y_field' (q := 288) (ft := 77) Try.underlying80 rfl sz77 rfl rfl) ?_) | (refine Hd.yv (y_fieldR (q := 288) (ft := 77) Try.underlying80 rfl sz77 rfl rfl) ?_)
    first | (refine Hd.yv (y_load1 ag77 rfl (Rd.pt1 pkk (by (first | exact woT_at (j := 0) (by omega) rfl | exact pws_at hb | rfl)))) ?_) | (refine Hd.yv (y_load1 ag77 rfl (Rd.seg1 pkk (by (first | exact woT_at (j := 0) (by omega) rfl | exact pws_at hb | rfl)))) ?_) | (refine Hd.yv (y_loadR1 ag77 rfl (by (first | exact RdS.own pkk)) (by (first | exact woT_at (j := 0) (by omega) rfl | exact pws_at hb | rfl))) ?_)
    refine Hd.yv (y_move rfl) ?_
    first | (refine Hd.yv (y_idxS Try.underlying77 sz81 rfl rfl (by first | omega | decide)) ?_) | (refine Hd.yv (y_idxR Try.underlying77 sz81 rfl rfl (by first | omega | decide) (by (first | exact RdS.own pkk))) ?_)
    first | (refine Hd.yv (y_load1 ag81 rfl (Rd.pt1 pkk (by (first | exact woT_at (j := 0) (by omega) rfl | exact pws_at hb | rfl)))) ?_) | (refine Hd.yv (y_load1 ag81 rfl (Rd.seg1 pkk (by (first | exact woT_at (j := 0) (by omega) rfl | exact pws_at hb | rfl)))) ?_) | (refine Hd.yv (y_loadR1 ag81 rfl (by (first | exact RdS.own pkk)) (by (first | exact woT_at (j := 0) (by omega) rfl | exact pws_at hb | rfl))) ?_)
    refine Hd.yv (y_assign rfl) ?_
    refine Hd.yv (y_assign rfl) ?_
    refine Hd.nil ?_
    refine Hd.slots [(4, _), (5, _)] ⟨rfl, rfl, trivial⟩ ?_
    refine Hd.toK hK6 ?_
    refine Hd.ret ?_
    clear hK1 hK2 hK3 hK4 hK6
    rw [if_pos hc1.2, if_pos hc1.2]
    exact Hd.ret2 rfl () rfl rfl rfl (fun q s => wol_back hb q (wire_fold (k := 1) hi (by omega) q (Ent.sep enn q s)))
set_option maxHeartbeats 2000000 in
theorem outer0_ct (L : List SP) (wb : Nat) (w : WA) (i : WoI) (n : Int) (hn : n < 0 ∨ (i.rs.length : Int) ≤ n) : Ct Try.prog 42 #[.pointer (some ⟨wb, 0, none⟩), .int .i64 n] (WoL wb w i L) (fun _ : Unit => .tuple #[ptr none, .int .i64 116]) (fun _ : Unit => WoL wb w i L) := by
  refine Ct.of (vs := [.pointer (some ⟨wb, 0, none⟩), .int .i64 n]) Try.func42 rfl rfl [(0, .pointer (some ⟨wb, 0, none⟩)), (1, .int .i64 n)] (by repeat (first | exact trivial | refine ⟨rfl, ?_⟩)) ?_
  intro E
  show Hd E 43 _ _ _ _
  refine Hd.seq (fun K1 hK1 => ?_)
  refine Hd.region ?_
  refine Hd.yv (y_assign rfl) ?_
  refine Hd.yv (y_assign rfl) ?_
  refine Hd.nil ?_
  refine Hd.slots [(0, _), (1, _)] ⟨rfl, rfl, trivial⟩ ?_
  refine Hd.toK hK1 ?_
  refine Hd.seq (fun K2 hK2 => ?_)
  refine Hd.block ?_
  refine Hd.seq (fun K3 hK3 => ?_)
  refine Hd.region ?_
  refine Hd.yv (y_move rfl) ?_
  refine Hd.callE rfl fk52 (wnone_ct _ wb w.at w i.rs.length i) (Ent.sep enn) ?_
  intro _
  refine Hd.yv (y_assign rfl) ?_
  refine Hd.nil ?_
  refine Hd.slots [(0, _), (1, _), (6, _)] ⟨rfl, rfl, rfl, trivial⟩ ?_
  refine Hd.toK hK3 ?_
  refine Hd.condF rfl ?_
  refine Hd.seq (fun K4 hK4 => ?_)
  refine Hd.region ?_
  refine Hd.yv (y_move rfl) ?_
  refine Hd.yv (y_lss rfl rfl) ?_
  refine Hd.yv (y_move rfl) ?_
  refine Hd.part (gd := 12) rfl (fun hg3_12 => ?_) (fun hg3_12 => ?_)
  ·
    try simp only [decide_eq_true_eq, decide_eq_false_iff_not, Bool.and_eq_true, Bool.or_eq_true, Bool.and_eq_false_iff, Bool.or_eq_false_iff, Bool.not_eq_true', Bool.not_eq_false', Bool.not_eq_true, Bool.not_eq_false, Int.not_lt, Int.not_le, Decidable.not_not, ne_eq] at hg3_12
    refine Hd.ng rfl rfl rfl ?_
    refine Hd.ng rfl rfl rfl ?_
    refine Hd.ng rfl rfl rfl ?_
    refine Hd.ng rfl rfl rfl ?_
    refine Hd.ng rfl rfl rfl ?_
    refine Hd.ng rfl rfl rfl ?_
    refine Hd.ng rfl rfl rfl ?_
    first | (refine Hd.yv (y_pickT rfl rfl) ?_) | (refine Hd.yv (y_pickF rfl rfl) ?_) | (refine Hd.yv (y_pickb rfl rfl rfl) ?_) | (refine Hd.yv (y_pick rfl rfl rfl) ?_)
    refine Hd.yv (y_move rfl) ?_
    refine Hd.part (gd := 21) rfl (fun hg3_21 => ?_) (fun hg3_21 => ?_)
    ·
      try simp only [decide_eq_true_eq, decide_eq_false_iff_not, Bool.and_eq_true, Bool.or_eq_true, Bool.and_eq_false_iff, Bool.or_eq_false_iff, Bool.not_eq_true', Bool.not_eq_false', Bool.not_eq_true, Bool.not_eq_false, Int.not_lt, Int.not_le, Decidable.not_not, ne_eq] at hg3_21
      refine Hd.ng rfl rfl rfl ?_
      refine Hd.ng rfl rfl rfl ?_
      refine Hd.ng rfl rfl rfl ?_
      refine Hd.ng rfl rfl rfl ?_
      refine Hd.ng rfl rfl rfl ?_
      refine Hd.ng rfl rfl rfl ?_
      refine Hd.ng rfl rfl rfl ?_
      refine Hd.ng rfl rfl rfl ?_
      refine Hd.ng rfl rfl rfl ?_
      refine Hd.ng rfl rfl rfl ?_
      refine Hd.ng rfl rfl rfl ?_
      refine Hd.ng rfl rfl rfl ?_
      refine Hd.ng rfl rfl rfl ?_
      first | (refine Hd.yv (y_pickT rfl rfl) ?_) | (refine Hd.yv (y_pickF rfl rfl) ?_) | (refine Hd.yv (y_pickb rfl rfl rfl) ?_) | (refine Hd.yv (y_pick rfl rfl rfl) ?_)
      refine Hd.yv (y_assign rfl) ?_
      refine Hd.nil ?_
      refine Hd.slots [(0, _), (1, _), (9, _)] ⟨rfl, rfl, rfl, trivial⟩ ?_
      refine Hd.toK hK4 ?_
      refine Hd.cond rfl (fun hc1 => ?_) (fun hc1 => ?_)
      ·
        try simp only [decide_eq_true_eq, decide_eq_false_iff_not, Bool.and_eq_true, Bool.or_eq_true, Bool.and_eq_false_iff, Bool.or_eq_false_iff, Bool.not_eq_true', Bool.not_eq_false', Bool.not_eq_true, Bool.not_eq_false, Int.not_lt, Int.not_le, Decidable.not_not, ne_eq] at hc1
        refine Hd.seq (fun K5 hK5 => ?_)
        refine Hd.region ?_
        refine Hd.yv (y_assign rfl) ?_
        refine Hd.yv (y_assign rfl) ?_
        refine Hd.nil ?_
        refine Hd.slots [(4, _), (5, _)] ⟨rfl, rfl, trivial⟩ ?_
        refine Hd.toK hK5 ?_
        refine Hd.ret ?_
        refine Hd.inBret ?_
        refine Hd.thenRet ?_
        clear hK1 hK2 hK3 hK4 hK5
        exact Hd.ret2 rfl () rfl rfl (by first | rfl | (simp only [*]; done) | (simp [*]; done)) (Ent.sep enn)
      ·
        try simp only [decide_eq_true_eq, decide_eq_false_iff_not, Bool.and_eq_true, Bool.or_eq_true, Bool.and_eq_false_iff, Bool.or_eq_false_iff, Bool.not_eq_true', Bool.not_eq_false', Bool.not_eq_true, Bool.not_eq_false, Int.not_lt, Int.not_le, Decidable.not_not, ne_eq] at hc1
        exfalso; simp at hc1
    ·
      try simp only [decide_eq_true_eq, decide_eq_false_iff_not, Bool.and_eq_true, Bool.or_eq_true, Bool.and_eq_false_iff, Bool.or_eq_false_iff, Bool.not_eq_true', Bool.not_eq_false', Bool.not_eq_true, Bool.not_eq_false, Int.not_lt, Int.not_le, Decidable.not_not, ne_eq] at hg3_21
      exfalso
      first | omega | (simp at hg3_21; done) | (simp at hg3_21; omega)
  ·
    try simp only [decide_eq_true_eq, decide_eq_false_iff_not, Bool.and_eq_true, Bool.or_eq_true, Bool.and_eq_false_iff, Bool.or_eq_false_iff, Bool.not_eq_true', Bool.not_eq_false', Bool.not_eq_true, Bool.not_eq_false, Int.not_lt, Int.not_le, Decidable.not_not, ne_eq] at hg3_12
    refine Hd.yg rfl rfl (y_move rfl) ?_
    refine Hd.yg rfl rfl (y_move rfl) ?_
    refine Hd.yg rfl rfl (y_nilp rfl) ?_
    first | (refine Hd.yg rfl rfl (y_field' (q := 288) (ft := 77) Try.underlying80 rfl sz77 rfl rfl) ?_) | (refine Hd.yg rfl rfl (y_fieldR (q := 288) (ft := 77) Try.underlying80 rfl sz77 rfl rfl) ?_)
    first | (refine Hd.yg rfl rfl (y_load1 ag77 rfl (Rd.pt1 pkk (by (first | exact woT_at (j := 0) (by omega) rfl | rfl)))) ?_) | (refine Hd.yg rfl rfl (y_load1 ag77 rfl (Rd.seg1 pkk (by (first | exact woT_at (j := 0) (by omega) rfl | rfl)))) ?_) | (refine Hd.yg rfl rfl (y_loadR1 ag77 rfl (by (first | exact RdS.own pkk)) (by (first | exact woT_at (j := 0) (by omega) rfl | rfl))) ?_)
    refine Hd.yg rfl rfl (y_len Try.underlying77 rfl) ?_
    refine Hd.yg rfl rfl (y_geq rfl rfl) ?_
    first | (refine Hd.yv (y_pickT rfl rfl) ?_) | (refine Hd.yv (y_pickF rfl rfl) ?_) | (refine Hd.yv (y_pickb rfl rfl rfl) ?_) | (refine Hd.yv (y_pick rfl rfl rfl) ?_)
    refine Hd.yv (y_move rfl) ?_
    refine Hd.part (gd := 21) rfl (fun hg3_21 => ?_) (fun hg3_21 => ?_)
    ·
      try simp only [decide_eq_true_eq, decide_eq_false_iff_not, Bool.and_eq_true, Bool.or_eq_true, Bool.and_eq_false_iff, Bool.or_eq_false_iff, Bool.not_eq_true', Bool.not_eq_false', Bool.not_eq_true, Bool.not_eq_false, Int.not_lt, Int.not_le, Decidable.not_not, ne_eq] at hg3_21
      refine Hd.ng rfl rfl rfl ?_
      refine Hd.ng rfl rfl rfl ?_
      refine Hd.ng rfl rfl rfl ?_
      refine Hd.ng rfl rfl rfl ?_
      refine Hd.ng rfl rfl rfl ?_
      refine Hd.ng rfl rfl rfl ?_
      refine Hd.ng rfl rfl rfl ?_
      refine Hd.ng rfl rfl rfl ?_
      refine Hd.ng rfl rfl rfl ?_
      refine Hd.ng rfl rfl rfl ?_
      refine Hd.ng rfl rfl rfl ?_
      refine Hd.ng rfl rfl rfl ?_
      refine Hd.ng rfl rfl rfl ?_
      first | (refine Hd.yv (y_pickT rfl rfl) ?_) | (refine Hd.yv (y_pickF rfl rfl) ?_) | (refine Hd.yv (y_pickb rfl rfl rfl) ?_) | (refine Hd.yv (y_pick rfl rfl rfl) ?_)
      refine Hd.yv (y_assign rfl) ?_
      refine Hd.nil ?_
      refine Hd.slots [(0, _), (1, _), (9, _)] ⟨rfl, rfl, rfl, trivial⟩ ?_
      refine Hd.toK hK4 ?_
      refine Hd.cond rfl (fun hc1 => ?_) (fun hc1 => ?_)
      ·
        try simp only [decide_eq_true_eq, decide_eq_false_iff_not, Bool.and_eq_true, Bool.or_eq_true, Bool.and_eq_false_iff, Bool.or_eq_false_iff, Bool.not_eq_true', Bool.not_eq_false', Bool.not_eq_true, Bool.not_eq_false, Int.not_lt, Int.not_le, Decidable.not_not, ne_eq] at hc1
        refine Hd.seq (fun K6 hK6 => ?_)
        refine Hd.region ?_
        refine Hd.yv (y_assign rfl) ?_
        refine Hd.yv (y_assign rfl) ?_
        refine Hd.nil ?_
        refine Hd.slots [(4, _), (5, _)] ⟨rfl, rfl, trivial⟩ ?_
        refine Hd.toK hK6 ?_
        refine Hd.ret ?_
        refine Hd.inBret ?_
        refine Hd.thenRet ?_
        clear hK1 hK2 hK3 hK4 hK6
        exact Hd.ret2 rfl () rfl rfl (by first | rfl | (simp only [*]; done) | (simp [*]; done)) (Ent.sep enn)
      ·
        try simp only [decide_eq_true_eq, decide_eq_false_iff_not, Bool.and_eq_true, Bool.or_eq_true, Bool.and_eq_false_iff, Bool.or_eq_false_iff, Bool.not_eq_true', Bool.not_eq_false', Bool.not_eq_true, Bool.not_eq_false, Int.not_lt, Int.not_le, Decidable.not_not, ne_eq] at hc1
        exfalso; simp at hc1
    ·
      try simp only [decide_eq_true_eq, decide_eq_false_iff_not, Bool.and_eq_true, Bool.or_eq_true, Bool.and_eq_false_iff, Bool.or_eq_false_iff, Bool.not_eq_true', Bool.not_eq_false', Bool.not_eq_true, Bool.not_eq_false, Int.not_lt, Int.not_le, Decidable.not_not, ne_eq] at hg3_21
      exfalso
      first | omega | (simp at hg3_21; done) | (simp at hg3_21; omega)
theorem outer_ct (L : List SP) (wb : Nat) (w : WA) (i : WoI) (hw : WOk w) (hrs : i.rs.map Prod.snd = w.ws) (n : Int) :
    Ct Try.prog 42 #[.pointer (some ⟨wb, 0, none⟩), .int .i64 n] (WoL wb w i L) (fun _ : Unit => .tuple #[ptr (outB i w n), .int .i64 (outE w n)]) (fun _ => WoL wb w i L) := by
  have hrl : i.rs.length = w.ws.length := by rw [← hrs, List.length_map]
  by_cases h : n < 0 ∨ (i.rs.length : Int) ≤ n
  · have e := outW_off (w := w) (n := n) (by rw [← hrl]; exact h)
    rw [show outB i w n = none by unfold outB; rw [e]; rfl, show outE w n = 116 by unfold outE; rw [e]; rfl]
    exact outer0_ct L wb w i n h
  · obtain ⟨k, rfl⟩ : ∃ k : Nat, n = (k : Int) := ⟨n.toNat, by omega⟩
    have hk : k < w.ws.length := by omega
    obtain ⟨b, hb⟩ := rs_at hrs (List.getElem?_eq_getElem hk)
    have e := outW_nat (w := w) (n := k) (List.getElem?_eq_getElem hk)
    have := outer1_ct L wb w i hw hrs k b _ hb
    have e1 : outB i w (k : Int) = if (w.ws[k].e 1).what = 2 then some b else none := by
      unfold outB
      rw [e, Int.toNat_natCast, hb]
      by_cases h2 : (w.ws[k].e 1).what = 2
      · rw [if_pos h2, if_pos h2]; rfl
      · rw [if_neg h2, if_neg h2]; rfl
    have e2 : outE w (k : Int) = if (w.ws[k].e 1).what = 2 then 0 else 116 := by
      unfold outE
      rw [e]
      by_cases h2 : (w.ws[k].e 1).what = 2
      · rw [if_pos h2, if_pos h2]; rfl
      · rw [if_neg h2, if_neg h2]; rfl
    rw [e1, e2]
    exact this
theorem outE_no {w : WA} {n : Int} (h : outE w n ≠ 0) : outW w n = none := by
  unfold outE at h
  cases e : outW w n with
  | none => rfl
  | some x => rw [e] at h; exact absurd rfl h
theorem outE_yes {w : WA} {i : WoI} (hrs : i.rs.map Prod.snd = w.ws) {n : Int} (h : outE w n = 0) : ∃ (m b : Nat) (x : WireA), n = (m : Int) ∧ outW w n = some x ∧ w.ws[m]? = some x ∧ i.rs[m]? = some (b, x) ∧ (x.e 1).what = 2 ∧ outB i w n = some b := by
  unfold outE at h
  cases e : outW w n with
  | none => rw [e] at h; exact absurd h (by decide)
  | some x =>
    obtain ⟨h0, hx, h2⟩ := outW_some e
    obtain ⟨b, hb⟩ := rs_at hrs hx
    refine ⟨n.toNat, b, x, by omega, rfl, hx, hb, h2, ?_⟩
    unfold outB
    rw [e, hb]; rfl
set_option maxHeartbeats 2000000 in
theorem wput_ct (L : List SP) (wb : Nat) (w : WA) (n : Int) (ad : Option Addr) (m c : Nat) (bs : List UInt8) (hm : bs.length = m) (hR : RdS L 1 ad m (bsl bs)) (hml : m ≤ 70368744177664) (hmc : m ≤ c) : Ct Try.prog 12 #[.pointer (some ⟨wb, 0, none⟩), .int .i64 n, .slice ad m c] (WorldP wb w :: L) (fun _ : Unit => .tuple #[.int .i64 (putR w n bs).1.1, .int .i64 (putR w n bs).1.2]) (fun _ : Unit => WorldP wb (putR w n bs).2 :: L) := by
  refine Ct.of (vs := [.pointer (some ⟨wb, 0, none⟩), .int .i64 n, .slice ad m c]) Try.func12 rfl rfl [(0, .pointer (some ⟨wb, 0, none⟩)), (1, .int .i64 n), (2, .slice ad m c)] (by repeat (first | exact trivial | refine ⟨rfl, ?_⟩)) ?_
  intro E
  show Hd E 44 _ _ _ _
  refine Hd.world .here (fun i hw hrs => ?_)
  refine Hd.seq (fun K1 hK1 => ?_)
  refine Hd.region ?_
  refine Hd.yv (y_assign rfl) ?_
  refine Hd.yv (y_assign rfl) ?_
  refine Hd.nil ?_
  refine Hd.slots [(0, _), (1, _), (2, _)] ⟨rfl, rfl, rfl, trivial⟩ ?_
  refine Hd.toK hK1 ?_
  refine Hd.seq (fun K2 hK2 => ?_)
  refine Hd.region ?_
  refine Hd.yv (y_move rfl) ?_
  refine Hd.yv (y_move rfl) ?_
  refine Hd.callE rfl fk42 (outer_ct _ wb w i hw hrs n) (Ent.sep enn) ?_
  intro _
  refine Hd.yv (y_move rfl) ?_
  refine Hd.yv (y_to (v' := ptr (outB i w n)) (y_extract rfl rfl) (by rfl)) ?_
  refine Hd.yv (y_to (v' := .int .i64 (outE w n)) (y_extract rfl rfl) (by rfl)) ?_
  refine Hd.yv (y_assign rfl) ?_
  refine Hd.yv (y_assign rfl) ?_
  refine Hd.nil ?_
  refine Hd.slots [(2, _), (8, _), (9, _)] ⟨rfl, rfl, rfl, trivial⟩ ?_
  refine Hd.toK hK2 ?_
  refine Hd.seq (fun K3 hK3 => ?_)
  refine Hd.block ?_
  refine Hd.seq (fun K4 hK4 => ?_)
  refine Hd.region ?_
  refine Hd.yv (y_move rfl) ?_
  refine Hd.yv (y_neq rfl rfl) ?_
  refine Hd.yv (y_assign rfl) ?_
  refine Hd.nil ?_
  refine Hd.slots [(2, _), (8, _), (9, _), (16, _)] ⟨rfl, rfl, rfl, rfl, trivial⟩ ?_
  refine Hd.toK hK4 ?_
  refine Hd.cond rfl (fun hc0 => ?_) (fun hc0 => ?_)
  ·
    try simp only [decide_eq_true_eq, decide_eq_false_iff_not, Bool.and_eq_true, Bool.or_eq_true, Bool.and_eq_false_iff, Bool.or_eq_false_iff, Bool.not_eq_true', Bool.not_eq_false', Bool.not_eq_true, Bool.not_eq_false, Int.not_lt, Int.not_le, Decidable.not_not, ne_eq] at hc0
    refine Hd.seq (fun K5 hK5 => ?_)
    refine Hd.region ?_
    refine Hd.yv (y_move rfl) ?_
    refine Hd.yv (y_assign rfl) ?_
    refine Hd.yv (y_assign rfl) ?_
    refine Hd.nil ?_
    refine Hd.slots [(6, _), (7, _)] ⟨rfl, rfl, trivial⟩ ?_
    refine Hd.toK hK5 ?_
    refine Hd.ret ?_
    refine Hd.inBret ?_
    refine Hd.thenRet ?_
    clear hK1 hK2 hK3 hK4 hK5
    have e := outE_no hc0
    rw [show putR w n bs = ((0, 116), w) by unfold putR; rw [e]]
    exact Hd.ret2 rfl () rfl rfl (by unfold outE; rw [e]; rfl) (Ent.sep (.ex i (.pure ⟨hw, hrs⟩ enn)))
  ·
    try simp only [decide_eq_true_eq, decide_eq_false_iff_not, Bool.and_eq_true, Bool.or_eq_true, Bool.and_eq_false_iff, Bool.or_eq_false_iff, Bool.not_eq_true', Bool.not_eq_false', Bool.not_eq_true, Bool.not_eq_false, Int.not_lt, Int.not_le, Decidable.not_not, ne_eq] at hc0
    obtain ⟨k, b, x, rfl, hox, hx, hb, h2, hob⟩ := outE_yes hrs hc0
    have hwf := hw.wf x (List.mem_of_getElem? hx)
    have hrd : putR w k bs = if x.rs = true then ((0, 115), w) else if (x.e 1).shut = true ∨ (x.e 0).what = 3 then ((0, 114), w) else ((((putN x 1 bs : Nat) : Int), (0 : Int)), w.setW k (putW x 1 bs)) := by
      unfold putR; rw [hox]; rfl
    rw [hob]
    refine Hd.wOut pkk hb ?_
    refine Hd.wire .here 1 (by omega) (fun i2 hi => ?_)
    refine Hd.seq (fun K6 hK6 => ?_)
    refine Hd.region ?_
    refine Hd.yv (y_move rfl) ?_
    refine Hd.yv (y_nilp rfl) ?_
    first | (refine Hd.yv (y_field' (q := 14) (ft := 4) Try.underlying88 rfl sz4 rfl rfl) ?_) | (refine Hd.yv (y_fieldR (q := 14) (ft := 4) Try.underlying88 rfl sz4 rfl rfl) ?_)
    first | (refine Hd.yv (y_load1 ag4 rfl (Rd.pt1 pkk (by (first | rfl)))) ?_) | (refine Hd.yv (y_load1 ag4 rfl (Rd.seg1 pkk (by (first | rfl)))) ?_) | (refine Hd.yv (y_loadR1 ag4 rfl (by (first | exact RdS.own pkk)) (by (first | rfl))) ?_)
    refine Hd.yv (y_assign rfl) ?_
    refine Hd.nil ?_
    refine Hd.slots [(2, _), (8, _), (20, _)] ⟨rfl, rfl, rfl, trivial⟩ ?_
    refine Hd.toK hK6 ?_
    refine Hd.cond rfl (fun hc1 => ?_) (fun hc1 => ?_)
    ·
      try simp only [decide_eq_true_eq, decide_eq_false_iff_not, Bool.and_eq_true, Bool.or_eq_true, Bool.and_eq_false_iff, Bool.or_eq_false_iff, Bool.not_eq_true', Bool.not_eq_false', Bool.not_eq_true, Bool.not_eq_false, Int.not_lt, Int.not_le, Decidable.not_not, ne_eq] at hc1
      refine Hd.seq (fun K7 hK7 => ?_)
      refine Hd.region ?_
      refine Hd.yv (y_assign rfl) ?_
      refine Hd.yv (y_assign rfl) ?_
      refine Hd.nil ?_
      refine Hd.slots [(6, _), (7, _)] ⟨rfl, rfl, trivial⟩ ?_
      refine Hd.toK hK7 ?_
      refine Hd.ret ?_
      refine Hd.inBret ?_
      refine Hd.thenRet ?_
      clear hK1 hK2 hK3 hK4 hK6 hK7
      rw [hrd, if_pos hc1]
      exact Hd.ret2 rfl () rfl rfl rfl (fun q s => world_back (k := 1) hw hrs hb hi (by omega) q (Ent.sep enn q s))
    ·
      try simp only [decide_eq_true_eq, decide_eq_false_iff_not, Bool.and_eq_true, Bool.or_eq_true, Bool.and_eq_false_iff, Bool.or_eq_false_iff, Bool.not_eq_true', Bool.not_eq_false', Bool.not_eq_true, Bool.not_eq_false, Int.not_lt, Int.not_le, Decidable.not_not, ne_eq] at hc1
      rw [if_neg (by rw [hc1]; simp)] at hrd
      refine Hd.seq (fun K8 hK8 => ?_)
      refine Hd.region ?_
      refine Hd.yv (y_move rfl) ?_
      refine Hd.yv (y_nilp rfl) ?_
      first | (refine Hd.yv (y_field' (q := 0) (ft := 86) Try.underlying88 rfl sz86 rfl rfl) ?_) | (refine Hd.yv (y_fieldR (q := 0) (ft := 86) Try.underlying88 rfl sz86 rfl rfl) ?_)
      first | (refine Hd.yv (y_idxA Try.underlying86 sz85 rfl rfl (by first | omega | decide)) ?_) | (refine Hd.yv (y_idxAR Try.underlying86 sz85 rfl rfl (by first | omega | decide)) ?_)
      first | (refine Hd.yv (y_field' (q := 4) (ft := 4) Try.underlying85 rfl sz4 rfl rfl) ?_) | (refine Hd.yv (y_fieldR (q := 4) (ft := 4) Try.underlying85 rfl sz4 rfl rfl) ?_)
      first | (refine Hd.yv (y_load1 ag4 rfl (Rd.pt1 pkk (by (first | rfl)))) ?_) | (refine Hd.yv (y_load1 ag4 rfl (Rd.seg1 pkk (by (first | rfl)))) ?_) | (refine Hd.yv (y_loadR1 ag4 rfl (by (first | exact RdS.own pkk)) (by (first | rfl))) ?_)
      refine Hd.yv (y_move rfl) ?_
      apply Hd.org 8 32 40 [(2, _), (8, _)] rfl ⟨rfl, rfl, trivial⟩
      · intro hg6_32
        try simp only [decide_eq_true_eq, decide_eq_false_iff_not, Bool.and_eq_true, Bool.or_eq_true, Bool.and_eq_false_iff, Bool.or_eq_false_iff, Bool.not_eq_true', Bool.not_eq_false', Bool.not_eq_true, Bool.not_eq_false, Int.not_lt, Int.not_le, Decidable.not_not, ne_eq] at hg6_32
        simp only [List.take]
        refine Hd.ng rfl rfl rfl ?_
        refine Hd.ng rfl rfl rfl ?_
        refine Hd.ng rfl rfl rfl ?_
        refine Hd.ng rfl rfl rfl ?_
        refine Hd.ng rfl rfl rfl ?_
        refine Hd.ng rfl rfl rfl ?_
        refine Hd.ng rfl rfl rfl ?_
        first | (refine Hd.yv (y_pickT rfl rfl) ?_) | (refine Hd.yv (y_pickF rfl rfl) ?_) | (refine Hd.yv (y_pickb rfl rfl rfl) ?_) | (refine Hd.yv (y_pick rfl rfl rfl) ?_)
        refine Hd.nil ?_
        exact Hd.mend (by repeat (first | exact trivial | refine ⟨rfl, ?_⟩)) (Ent.sep enn)
      · intro hg6_32
        try simp only [decide_eq_true_eq, decide_eq_false_iff_not, Bool.and_eq_true, Bool.or_eq_true, Bool.and_eq_false_iff, Bool.or_eq_false_iff, Bool.not_eq_true', Bool.not_eq_false', Bool.not_eq_true, Bool.not_eq_false, Int.not_lt, Int.not_le, Decidable.not_not, ne_eq] at hg6_32
        simp only [List.take]
        refine Hd.yg rfl rfl (y_move rfl) ?_
        refine Hd.yg rfl rfl (y_nilp rfl) ?_
        first | (refine Hd.yg rfl rfl (y_field' (q := 0) (ft := 86) Try.underlying88 rfl sz86 rfl rfl) ?_) | (refine Hd.yg rfl rfl (y_fieldR (q := 0) (ft := 86) Try.underlying88 rfl sz86 rfl rfl) ?_)
        first | (refine Hd.yg rfl rfl (y_idxA Try.underlying86 sz85 rfl rfl (by first | omega | decide)) ?_) | (refine Hd.yg rfl rfl (y_idxAR Try.underlying86 sz85 rfl rfl (by first | omega | decide)) ?_)
        first | (refine Hd.yg rfl rfl (y_field' (q := 0) (ft := 3) Try.underlying85 rfl sz3 rfl rfl) ?_) | (refine Hd.yg rfl rfl (y_fieldR (q := 0) (ft := 3) Try.underlying85 rfl sz3 rfl rfl) ?_)
        first | (refine Hd.yg rfl rfl (y_load1 ag3 rfl (Rd.pt1 pkk (by (first | rfl)))) ?_) | (refine Hd.yg rfl rfl (y_load1 ag3 rfl (Rd.seg1 pkk (by (first | rfl)))) ?_) | (refine Hd.yg rfl rfl (y_loadR1 ag3 rfl (by (first | exact RdS.own pkk)) (by (first | rfl))) ?_)
        first | (refine Hd.yg rfl rfl (y_eqlT rfl rfl) ?_) | (refine Hd.yg rfl rfl (y_eql rfl rfl) ?_)
        first | (refine Hd.yv (y_pickT rfl rfl) ?_) | (refine Hd.yv (y_pickF rfl rfl) ?_) | (refine Hd.yv (y_pickb rfl rfl rfl) ?_) | (refine Hd.yv (y_pick rfl rfl rfl) ?_)
        refine Hd.nil ?_
        exact Hd.mend (by repeat (first | exact trivial | refine ⟨rfl, ?_⟩)) (Ent.sep enn)
      simp only [List.drop]
      refine Hd.yv (y_assign rfl) ?_
      refine Hd.nil ?_
      refine Hd.slots [(2, _), (8, _), (25, _)] ⟨rfl, rfl, rfl, trivial⟩ ?_
      refine Hd.toK hK8 ?_
      refine Hd.cond rfl (fun hc2 => ?_) (fun hc2 => ?_)
      ·
        try simp only [decide_eq_true_eq, decide_eq_false_iff_not, Bool.and_eq_true, Bool.or_eq_true, Bool.and_eq_false_iff, Bool.or_eq_false_iff, Bool.not_eq_true', Bool.not_eq_false', Bool.not_eq_true, Bool.not_eq_false, Int.not_lt, Int.not_le, Decidable.not_not, ne_eq] at hc2
        refine Hd.seq (fun K9 hK9 => ?_)
        refine Hd.region ?_
        refine Hd.yv (y_assign rfl) ?_
        refine Hd.yv (y_assign rfl) ?_
        refine Hd.nil ?_
        refine Hd.slots [(6, _), (7, _)] ⟨rfl, rfl, trivial⟩ ?_
        refine Hd.toK hK9 ?_
        refine Hd.ret ?_
        refine Hd.inBret ?_
        refine Hd.thenRet ?_
        clear hK1 hK2 hK3 hK4 hK6 hK8 hK9
        rw [hrd, if_pos hc2]
        exact Hd.ret2 rfl () rfl rfl rfl (fun q s => world_back (k := 1) hw hrs hb hi (by omega) q (Ent.sep enn q s))
      ·
        try simp only [decide_eq_true_eq, decide_eq_false_iff_not, Bool.and_eq_true, Bool.or_eq_true, Bool.and_eq_false_iff, Bool.or_eq_false_iff, Bool.not_eq_true', Bool.not_eq_false', Bool.not_eq_true, Bool.not_eq_false, Int.not_lt, Int.not_le, Decidable.not_not, ne_eq] at hc2
        rw [if_neg (by rw [hc2.1]; simpa using hc2.2)] at hrd
        refine Hd.skip ?_
        refine Hd.inB ?_
        refine Hd.toK hK3 ?_
        refine Hd.seq (fun K10 hK10 => ?_)
        refine Hd.heap (WireP b x :: WoR wb k w i L) (fun q s => wire_fold (k := 1) hi (by omega) q (Ent.sep enn q s)) ?_
        refine Hd.region ?_
        refine Hd.yv (y_move rfl) ?_
        refine Hd.yv (y_move rfl) ?_
        refine Hd.callE rfl fk43 (put_ct _ b x 1 (by omega) (hwf.ou h2).1 ad m c bs hm ?hD hml hmc) (Ent.sep enn) ?_
        case hD => exact RdS.mono hR (Ent.sep enn)
        intro _
        refine Hd.yv (y_assign rfl) ?_
        refine Hd.yv (y_assign rfl) ?_
        refine Hd.nil ?_
        refine Hd.slots [(6, _), (7, _)] ⟨rfl, rfl, trivial⟩ ?_
        refine Hd.toK hK10 ?_
        refine Hd.ret ?_
        clear hK1 hK2 hK3 hK4 hK6 hK8 hK10
        rw [hrd]
        exact Hd.ret2 rfl () rfl rfl rfl (fun q s => world_fold' hw hrs hb (smW_put hwf (by omega) bs (hwf.ou h2).1) q (Ent.sep enn q s))
theorem out_free {w : WA} (h : WOk w) {n : Nat} {x : WireA} (hx : w.ws[n]? = some x) (h2 : (x.e 1).what = 2) : ∀ k, k < 2 → (x.e k).what = 1 → ((closeW x 1).e k).what = 1 := fun k hk e => by
  rw [(close_e x (by omega) hk).1]
  split
  · rename_i e1; subst e1; rw [h2] at e; cases e
  · exact e
theorem pclose_ok {w : WA} (h : WOk w) {n : Nat} {x : WireA} (hx : w.ws[n]? = some x) (h2 : (x.e 1).what = 2) : WOk (w.setW n (closeW x 1)) ∧ (w.setW n (closeW x 1)).at = w.at := by
  have hs := sbW_close (h.wf x (List.mem_of_getElem? hx)) (k := 1) (by omega)
  have h0 : n ∈ (w.setW n (closeW x 1)).ws.flatMap WireA.wt → ((closeW x 1).e 0).what = 0 := fun e => by
    have := (flatMap_set_sub (f := WireA.wt) (x' := closeW x 1) hx hs.wt).subset e
    obtain ⟨z, hz, hz0⟩ := h.wm n this
    rw [hx] at hz; obtain rfl := Option.some.inj hz
    rw [(close_e x (by omega) (by omega)).1, if_neg (by omega)]
    exact hz0
  exact ⟨h.setS hx hs h0, h.setS_at hx hs h0 (out_free h hx h2)⟩
set_option maxHeartbeats 2000000 in
theorem pclose_ct (L : List SP) (wb : Nat) (w : WA) (n : Int) : Ct Try.prog 28 #[.pointer (some ⟨wb, 0, none⟩), .int .i64 n] (WorldP wb w :: L) (fun _ : Unit => .int .i64 (pcloseR w n).1) (fun _ : Unit => WorldP wb (pcloseR w n).2 :: L) := by
  refine Ct.of (vs := [.pointer (some ⟨wb, 0, none⟩), .int .i64 n]) Try.func28 rfl rfl [(0, .pointer (some ⟨wb, 0, none⟩)), (1, .int .i64 n)] (by repeat (first | exact trivial | refine ⟨rfl, ?_⟩)) ?_
  intro E
  show Hd E 18 _ _ _ _
  refine Hd.world .here (fun i hw hrs => ?_)
  refine Hd.seq (fun K1 hK1 => ?_)
  refine Hd.region ?_
  refine Hd.yv (y_assign rfl) ?_
  refine Hd.nil ?_
  refine Hd.slots [(0, _), (1, _)] ⟨rfl, rfl, trivial⟩ ?_
  refine Hd.toK hK1 ?_
  refine Hd.seq (fun K2 hK2 => ?_)
  refine Hd.region ?_
  refine Hd.yv (y_move rfl) ?_
  refine Hd.yv (y_move rfl) ?_
  refine Hd.callE rfl fk42 (outer_ct _ wb w i hw hrs n) (Ent.sep enn) ?_
  intro _
  refine Hd.yv (y_move rfl) ?_
  refine Hd.yv (y_to (v' := ptr (outB i w n)) (y_extract rfl rfl) (by rfl)) ?_
  refine Hd.yv (y_to (v' := .int .i64 (outE w n)) (y_extract rfl rfl) (by rfl)) ?_
  refine Hd.yv (y_assign rfl) ?_
  refine Hd.yv (y_assign rfl) ?_
  refine Hd.nil ?_
  refine Hd.slots [(5, _), (6, _)] ⟨rfl, rfl, trivial⟩ ?_
  refine Hd.toK hK2 ?_
  refine Hd.seq (fun K3 hK3 => ?_)
  refine Hd.seq (fun K4 hK4 => ?_)
  refine Hd.region ?_
  refine Hd.yv (y_move rfl) ?_
  first | (refine Hd.yv (y_eqlT rfl rfl) ?_) | (refine Hd.yv (y_eql rfl rfl) ?_)
  refine Hd.nil ?_
  refine Hd.slots [(5, _), (6, _), (14, _)] ⟨rfl, rfl, rfl, trivial⟩ ?_
  refine Hd.toK hK4 ?_
  refine Hd.cond rfl (fun hc0 => ?_) (fun hc0 => ?_)
  ·
    try simp only [decide_eq_true_eq, decide_eq_false_iff_not, Bool.and_eq_true, Bool.or_eq_true, Bool.and_eq_false_iff, Bool.or_eq_false_iff, Bool.not_eq_true', Bool.not_eq_false', Bool.not_eq_true, Bool.not_eq_false, Int.not_lt, Int.not_le, Decidable.not_not, ne_eq] at hc0
    obtain ⟨k, b, x, rfl, hox, hx, hb, h2, hob⟩ := outE_yes hrs hc0
    have hpk := pclose_ok hw hx h2
    have hrd : pcloseR w k = (0, w.setW k (closeW x 1)) := by unfold pcloseR; rw [hox]; rfl
    rw [hob]
    refine Hd.wOut pkk hb ?_
    refine Hd.region ?_
    refine Hd.yv (y_move rfl) ?_
    refine Hd.callE rfl fk47 (close_ct _ b x 1 (by omega)) (Ent.sep enn) ?_
    intro _
    refine Hd.nil ?_
    refine Hd.slots [(6, _)] ⟨rfl, trivial⟩ ?_
    refine Hd.toK hK3 ?_
    refine Hd.seq (fun K5 hK5 => ?_)
    refine Hd.region ?_
    refine Hd.yv (y_move rfl) ?_
    refine Hd.yv (y_assign rfl) ?_
    refine Hd.nil ?_
    refine Hd.slots [(4, _)] ⟨rfl, trivial⟩ ?_
    refine Hd.toK hK5 ?_
    refine Hd.ret ?_
    clear hK1 hK2 hK3 hK4 hK5
    rw [hrd]
    exact Hd.ret1 rfl () (by rw [hc0]; rfl) (fun q s => world_put hrs hb hpk.1 hpk.2 q (Ent.sep enn q s))
  ·
    try simp only [decide_eq_true_eq, decide_eq_false_iff_not, Bool.and_eq_true, Bool.or_eq_true, Bool.and_eq_false_iff, Bool.or_eq_false_iff, Bool.not_eq_true', Bool.not_eq_false', Bool.not_eq_true, Bool.not_eq_false, Int.not_lt, Int.not_le, Decidable.not_not, ne_eq] at hc0
    refine Hd.skip ?_
    refine Hd.toK hK3 ?_
    refine Hd.seq (fun K6 hK6 => ?_)
    refine Hd.region ?_
    refine Hd.yv (y_move rfl) ?_
    refine Hd.yv (y_assign rfl) ?_
    refine Hd.nil ?_
    refine Hd.slots [(4, _)] ⟨rfl, trivial⟩ ?_
    refine Hd.toK hK6 ?_
    refine Hd.ret ?_
    clear hK1 hK2 hK3 hK4 hK6
    have e := outE_no hc0
    rw [show pcloseR w n = (116, w) by unfold pcloseR; rw [e]]
    exact Hd.ret1 rfl () (by unfold outE; rw [e]; rfl) (Ent.sep (.ex i (.pure ⟨hw, hrs⟩ enn)))
end Wo
end Go.Proofs.Ytbfddabjbkohdaa
namespace Go.RX
set_option linter.unusedSimpArgs false
set_option linter.unusedVariables false
set_option linter.unnecessarySimpa false
section
variable {E : World} {n : Nat} {ds : List Deferred} {st : List (Nat × Value)} {L L' : List SP} {r : Option Nat} {P : Program} {Q : Exit → Act → World → Prop}
def MkS : List Nat → SP
  | [] => pu True
  | r0 :: rs => RX.ex fun _ : Unit => [ob r0 (.deferred (some [])), MkS rs]
theorem MkS.cons {r0 : Nat} {rs : List Nat} {L : List SP} : ∀ k, sep (ob r0 (.deferred (some [])) :: MkS rs :: L) k → sep (MkS (r0 :: rs) :: L) k :=
  fun k s => Ent.sep (.ex () (.pick (.here) (.pick .here .same))) k s
end
end Go.RX
namespace Go.Proofs.Ytbfddabjbkohdaa
set_option linter.unusedSimpArgs false
set_option linter.unusedVariables false
set_option linter.unnecessarySimpa false
open Go.RX Fx
namespace Wo
set_option maxRecDepth 8000
def mayE (s : Int) : Int := if 1 ≤ s ∧ s ≤ 31 then 0 else 100
theorem mayE_0 {s : Int} : mayE s = 0 ↔ 1 ≤ s ∧ s ≤ 31 := by unfold mayE; split <;> simp_all
set_option maxHeartbeats 2000000 in
theorem is_ct (L : List SP) (s : Int) : Ct Try.prog 102 #[.int .i64 s] (L) (fun _ : Unit => .bool (decide (s ≥ 1) && decide (s ≤ 31))) (fun _ : Unit => L) := by
  refine Ct.of (vs := [.int .i64 s]) Try.func102 rfl rfl [(0, .int .i64 s)] (by repeat (first | exact trivial | refine ⟨rfl, ?_⟩)) ?_
  intro E
  show Hd E 9 _ _ _ _
  refine Hd.seq (fun K1 hK1 => ?_)
  refine Hd.region ?_
  refine Hd.yv (y_assign rfl) ?_
  refine Hd.nil ?_
  refine Hd.slots [(0, _)] ⟨rfl, trivial⟩ ?_
  refine Hd.toK hK1 ?_
  refine Hd.seq (fun K2 hK2 => ?_)
  refine Hd.region ?_
  refine Hd.yv (y_move rfl) ?_
  refine Hd.yv (y_geq rfl rfl) ?_
  refine Hd.yv (y_move rfl) ?_
  apply Hd.andg 3 5 8 [] rfl trivial
  · intro hg1_5
    try simp only [decide_eq_true_eq, decide_eq_false_iff_not, Bool.and_eq_true, Bool.or_eq_true, Bool.and_eq_false_iff, Bool.or_eq_false_iff, Bool.not_eq_true', Bool.not_eq_false', Bool.not_eq_true, Bool.not_eq_false, Int.not_lt, Int.not_le, Decidable.not_not, ne_eq] at hg1_5
    simp only [List.take]
    refine Hd.yg rfl rfl (y_move rfl) ?_
    refine Hd.yg rfl rfl (y_leq rfl rfl) ?_
    first | (refine Hd.yv (y_pickT rfl rfl) ?_) | (refine Hd.yv (y_pickF rfl rfl) ?_) | (refine Hd.yv (y_pickb rfl rfl rfl) ?_) | (refine Hd.yv (y_pick rfl rfl rfl) ?_)
    refine Hd.nil ?_
    exact Hd.mend (by repeat (first | exact trivial | refine ⟨rfl, ?_⟩)) (Ent.sep enn)
  · intro hg1_5
    try simp only [decide_eq_true_eq, decide_eq_false_iff_not, Bool.and_eq_true, Bool.or_eq_true, Bool.and_eq_false_iff, Bool.or_eq_false_iff, Bool.not_eq_true', Bool.not_eq_false', Bool.not_eq_true, Bool.not_eq_false, Int.not_lt, Int.not_le, Decidable.not_not, ne_eq] at hg1_5
    simp only [List.take]
    refine Hd.ng rfl rfl rfl ?_
    refine Hd.ng rfl rfl rfl ?_
    first | (refine Hd.yv (y_pickT rfl rfl) ?_) | (refine Hd.yv (y_pickF rfl rfl) ?_) | (refine Hd.yv (y_pickb rfl rfl rfl) ?_) | (refine Hd.yv (y_pick rfl rfl rfl) ?_)
    refine Hd.nil ?_
    exact Hd.mend (by repeat (first | exact trivial | refine ⟨rfl, ?_⟩)) (Ent.sep enn)
  simp only [List.drop]
  refine Hd.yv (y_assign rfl) ?_
  refine Hd.nil ?_
  refine Hd.slots [(2, _)] ⟨rfl, trivial⟩ ?_
  refine Hd.toK hK2 ?_
  refine Hd.ret ?_
  clear hK1 hK2
  exact Hd.ret1 rfl () (by first | rfl | (simp only [*]; done) | (simp [*]; done)) (Ent.sep enn)
set_option maxHeartbeats 2000000 in
theorem may_ct (L : List SP) (sb : Nat) (s : Int) : Ct Try.prog 81 #[.pointer (some ⟨sb, 0, none⟩), .int .i64 s] (L) (fun _ : Unit => .int .i64 (mayE s)) (fun _ : Unit => L) := by
  refine Ct.of (vs := [.pointer (some ⟨sb, 0, none⟩), .int .i64 s]) Try.func81 rfl rfl [(0, .pointer (some ⟨sb, 0, none⟩)), (1, .int .i64 s)] (by repeat (first | exact trivial | refine ⟨rfl, ?_⟩)) ?_
  intro E
  show Hd E 12 _ _ _ _
  refine Hd.seq (fun K1 hK1 => ?_)
  refine Hd.region ?_
  refine Hd.yv (y_assign rfl) ?_
  refine Hd.nil ?_
  refine Hd.slots [(0, _), (1, _)] ⟨rfl, rfl, trivial⟩ ?_
  refine Hd.toK hK1 ?_
  refine Hd.seq (fun K2 hK2 => ?_)
  refine Hd.block ?_
  refine Hd.seq (fun K3 hK3 => ?_)
  refine Hd.region ?_
  refine Hd.yv (y_move rfl) ?_
  first | (refine Hd.yv (y_eql_pointer Try.underlying72 rfl rfl) ?_) | (refine Hd.yv (y_eql_one Try.underlying72 sz131 rfl rfl rfl) ?_)
  refine Hd.yv (y_assign rfl) ?_
  refine Hd.nil ?_
  refine Hd.slots [(1, _), (5, _)] ⟨rfl, rfl, trivial⟩ ?_
  refine Hd.toK hK3 ?_
  refine Hd.condF rfl ?_
  refine Hd.seq (fun K4 hK4 => ?_)
  refine Hd.region ?_
  refine Hd.yv (y_move rfl) ?_
  refine Hd.callE rfl fk102 (is_ct _ s) (Ent.sep enn) ?_
  intro _
  refine Hd.yv (y_not rfl) ?_
  refine Hd.yv (y_assign rfl) ?_
  refine Hd.nil ?_
  refine Hd.slots [(8, _)] ⟨rfl, trivial⟩ ?_
  refine Hd.toK hK4 ?_
  refine Hd.cond rfl (fun hc1 => ?_) (fun hc1 => ?_)
  ·
    try simp only [decide_eq_true_eq, decide_eq_false_iff_not, Bool.and_eq_true, Bool.or_eq_true, Bool.and_eq_false_iff, Bool.or_eq_false_iff, Bool.not_eq_true', Bool.not_eq_false', Bool.not_eq_true, Bool.not_eq_false, Int.not_lt, Int.not_le, Decidable.not_not, ne_eq] at hc1
    refine Hd.seq (fun K5 hK5 => ?_)
    refine Hd.region ?_
    refine Hd.yv (y_assign rfl) ?_
    refine Hd.nil ?_
    refine Hd.slots [(4, _)] ⟨rfl, trivial⟩ ?_
    refine Hd.toK hK5 ?_
    refine Hd.ret ?_
    refine Hd.inBret ?_
    refine Hd.thenRet ?_
    clear hK1 hK2 hK3 hK4 hK5
    rw [show mayE s = 100 from if_neg (by first | omega | (simp at hc1; omega))]
    exact Hd.ret1 rfl () rfl (Ent.sep enn)
  ·
    try simp only [decide_eq_true_eq, decide_eq_false_iff_not, Bool.and_eq_true, Bool.or_eq_true, Bool.and_eq_false_iff, Bool.or_eq_false_iff, Bool.not_eq_true', Bool.not_eq_false', Bool.not_eq_true, Bool.not_eq_false, Int.not_lt, Int.not_le, Decidable.not_not, ne_eq] at hc1
    refine Hd.skip ?_
    refine Hd.inB ?_
    refine Hd.toK hK2 ?_
    refine Hd.seq (fun K6 hK6 => ?_)
    refine Hd.region ?_
    refine Hd.yv (y_assign rfl) ?_
    refine Hd.nil ?_
    refine Hd.slots [(4, _)] ⟨rfl, trivial⟩ ?_
    refine Hd.toK hK6 ?_
    refine Hd.ret ?_
    clear hK1 hK2 hK3 hK4 hK6
    rw [show mayE s = 0 from if_pos (by first | omega | (simp at hc1; omega))]
    exact Hd.ret1 rfl () rfl (Ent.sep enn)
abbrev SgV (hd : List Bool) (ct : List Int) : List Value := hd.map .bool ++ ct.map (Value.int .i64)
theorem sg_hd {hd : List Bool} {ct : List Int} {s o : Nat} (hl : hd.length = 32) (hs : s < 32) (ho : o = s) : (SgV hd ct)[o]? = some (.bool (hd.getD s false)) := by
  subst ho
  rw [List.getElem?_append_left (by rw [List.length_map]; omega), List.getElem?_map, List.getD_eq_getElem?_getD, List.getElem?_eq_getElem (by omega)]; rfl
theorem sg_ct {hd : List Bool} {ct : List Int} {s o : Nat} (hl : hd.length = 32) (hc : ct.length = 32) (hs : s < 32) (ho : o = 32 + s) : (SgV hd ct)[o]? = some (.int .i64 (ct.getD s 0)) := by
  subst ho
  rw [List.getElem?_append_right (by rw [List.length_map]; omega), List.length_map, hl, Nat.add_sub_cancel_left, List.getElem?_map, List.getD_eq_getElem?_getD, List.getElem?_eq_getElem (by omega)]; rfl
theorem sg_set_hd {hd : List Bool} {ct : List Int} {s o : Nat} {v : Bool} (hl : hd.length = 32) (hs : s < 32) (ho : o = s) : (SgV hd ct).set o (.bool v) = SgV (hd.set s v) ct := by
  subst ho
  rw [List.set_append_left _ _ (by rw [List.length_map]; omega)]
  show _ = (hd.set o v).map Value.bool ++ _
  rw [List.map_set]
theorem sg_set_ct {hd : List Bool} {ct : List Int} {s o : Nat} {v : Int} (hl : hd.length = 32) (hs : s < 32) (ho : o = 32 + s) : (SgV hd ct).set o (.int .i64 v) = SgV hd (ct.set s v) := by
  subst ho
  rw [List.set_append_right _ _ (by rw [List.length_map]; omega), List.length_map, hl, Nat.add_sub_cancel_left]
  show _ = _ ++ (ct.set s v).map (Value.int .i64)
  rw [List.map_set]
theorem sg_len {hd : List Bool} {ct : List Int} (hl : hd.length = 32) (hc : ct.length = 32) : (SgV hd ct).length = 64 := by
  rw [List.length_append, List.length_map, List.length_map, hl, hc]
def cntS (ct : List Int) (s : Int) : Int := if 1 ≤ s ∧ s ≤ 31 then ct.getD s.toNat 0 else 0
set_option maxHeartbeats 2000000 in
theorem count_ct (L : List SP) (sb : Nat) (hd : List Bool) (ct : List Int) (hl : hd.length = 32) (hcl : ct.length = 32) (s : Int) : Ct Try.prog 105 #[.pointer (some ⟨sb, 0, none⟩), .int .i64 s] (SigP sb hd ct :: L) (fun _ : Unit => .int .i64 (cntS ct s)) (fun _ : Unit => SigP sb hd ct :: L) := by
  refine Ct.of (vs := [.pointer (some ⟨sb, 0, none⟩), .int .i64 s]) Try.func105 rfl rfl [(0, .pointer (some ⟨sb, 0, none⟩)), (1, .int .i64 s)] (by repeat (first | exact trivial | refine ⟨rfl, ?_⟩)) ?_
  intro E
  show Hd E 15 _ _ _ _
  refine Hd.seq (fun K1 hK1 => ?_)
  refine Hd.region ?_
  refine Hd.yv (y_assign rfl) ?_
  refine Hd.nil ?_
  refine Hd.slots [(0, _), (1, _)] ⟨rfl, rfl, trivial⟩ ?_
  refine Hd.toK hK1 ?_
  refine Hd.seq (fun K2 hK2 => ?_)
  refine Hd.seq (fun K3 hK3 => ?_)
  refine Hd.region ?_
  refine Hd.yv (y_move rfl) ?_
  refine Hd.yv (y_move rfl) ?_
  refine Hd.callE rfl fk81 (may_ct _ sb s) (Ent.sep enn) ?_
  intro _
  refine Hd.yv (y_neq rfl rfl) ?_
  refine Hd.nil ?_
  refine Hd.slots [(0, _), (1, _), (8, _)] ⟨rfl, rfl, rfl, trivial⟩ ?_
  refine Hd.toK hK3 ?_
  refine Hd.cond rfl (fun hc0 => ?_) (fun hc0 => ?_)
  ·
    try simp only [decide_eq_true_eq, decide_eq_false_iff_not, Bool.and_eq_true, Bool.or_eq_true, Bool.and_eq_false_iff, Bool.or_eq_false_iff, Bool.not_eq_true', Bool.not_eq_false', Bool.not_eq_true, Bool.not_eq_false, Int.not_lt, Int.not_le, Decidable.not_not, ne_eq] at hc0
    refine Hd.seq (fun K4 hK4 => ?_)
    refine Hd.region ?_
    refine Hd.yv (y_assign rfl) ?_
    refine Hd.nil ?_
    refine Hd.slots [(4, _)] ⟨rfl, trivial⟩ ?_
    refine Hd.toK hK4 ?_
    refine Hd.ret ?_
    refine Hd.thenRet ?_
    clear hK1 hK2 hK3 hK4
    rw [show cntS ct s = 0 from if_neg (fun h => hc0 (mayE_0.2 h))]
    exact Hd.ret1 rfl () rfl (Ent.sep enn)
  ·
    try simp only [decide_eq_true_eq, decide_eq_false_iff_not, Bool.and_eq_true, Bool.or_eq_true, Bool.and_eq_false_iff, Bool.or_eq_false_iff, Bool.not_eq_true', Bool.not_eq_false', Bool.not_eq_true, Bool.not_eq_false, Int.not_lt, Int.not_le, Decidable.not_not, ne_eq] at hc0
    have hs := mayE_0.1 hc0
    obtain ⟨k, rfl⟩ : ∃ k : Nat, s = (k : Int) := ⟨s.toNat, by omega⟩
    have hk : k < 32 := by omega
    refine Hd.skip ?_
    refine Hd.toK hK2 ?_
    refine Hd.seq (fun K5 hK5 => ?_)
    refine Hd.region ?_
    refine Hd.yv (y_move rfl) ?_
    refine Hd.yv (y_move rfl) ?_
    refine Hd.yv (y_nilp rfl) ?_
    first | (refine Hd.yv (y_field' (q := 32) (ft := 129) Try.underlying131 rfl sz129 rfl rfl) ?_) | (refine Hd.yv (y_fieldR (q := 32) (ft := 129) Try.underlying131 rfl sz129 rfl rfl) ?_)
    first | (refine Hd.yv (y_idxA Try.underlying129 sz3 rfl rfl (by first | omega | decide)) ?_) | (refine Hd.yv (y_idxAR Try.underlying129 sz3 rfl rfl (by first | omega | decide)) ?_)
    first | (refine Hd.yv (y_load1 ag3 rfl (Rd.pt1 pkk (by (first | exact sg_ct hl hcl hk (by omega) | rfl)))) ?_) | (refine Hd.yv (y_load1 ag3 rfl (Rd.seg1 pkk (by (first | exact sg_ct hl hcl hk (by omega) | rfl)))) ?_) | (refine Hd.yv (y_loadR1 ag3 rfl (by (first | exact RdS.own pkk)) (by (first | exact sg_ct hl hcl hk (by omega) | rfl))) ?_)
    refine Hd.yv (y_assign rfl) ?_
    refine Hd.nil ?_
    refine Hd.slots [(4, _)] ⟨rfl, trivial⟩ ?_
    refine Hd.toK hK5 ?_
    refine Hd.ret ?_
    clear hK1 hK2 hK3 hK5
    rw [show cntS ct (k : Int) = ct.getD k 0 from if_pos hs]
    exact Hd.ret1 rfl () rfl (Ent.sep enn)
theorem cntF_app : ∀ (a b : List Int) (i : Nat), cntF i (a ++ b) = cntF i a ++ cntF (i + a.length) b
  | [], b, i => rfl
  | c :: t, b, i => by
    show (if i = 0 ∨ c = 0 then cntF (i + 1) (t ++ b) else ((i : Int), c) :: cntF (i + 1) (t ++ b)) = (if i = 0 ∨ c = 0 then cntF (i + 1) t else ((i : Int), c) :: cntF (i + 1) t) ++ cntF (i + (t.length + 1)) b
    rw [cntF_app t b (i + 1), show i + 1 + t.length = i + (t.length + 1) by omega]
    split <;> rfl
theorem cntF_succ {ct : List Int} {i : Nat} (h : i < ct.length) : cntF 0 (ct.take (i + 1)) = cntF 0 (ct.take i) ++ (if i = 0 ∨ ct.getD i 0 = 0 then [] else [((i : Int), ct.getD i 0)]) := by
  rw [List.take_add_one, List.getElem?_eq_getElem h, Option.toList_some, cntF_app, List.length_take, Nat.min_eq_left (by omega), Nat.zero_add, List.getD_eq_getElem?_getD, List.getElem?_eq_getElem h]
  show _ ++ (if i = 0 ∨ ct[i] = 0 then cntF (i + 1) [] else ((i : Int), ct[i]) :: cntF (i + 1) []) = _
  rfl
theorem cntF_pre (ct : List Int) (i : Nat) : cntF 0 (ct.take i) <+: cntF 0 ct := by
  conv => rhs; rw [← List.take_append_drop i ct]
  rw [cntF_app]; exact List.prefix_append _ _
theorem cntF_le : ∀ (l : List Int) (i : Nat), (cntF i l).length ≤ l.length
  | [], _ => Nat.le_refl _
  | c :: t, i => by
    have := cntF_le t (i + 1)
    show (if i = 0 ∨ c = 0 then cntF (i + 1) t else ((i : Int), c) :: cntF (i + 1) t).length ≤ _
    split <;> simp only [List.length_cons] <;> omega
abbrev encCn (p : Int × Int) : List Value := [.int .i64 p.1, .int .i64 p.2]
abbrev encCA (p : Int × Int) : List Value := [.agg (encCn p).toArray]
abbrev SgX (bx sb : Nat) (hd : List Bool) (ct : List Int) (L : List SP) : List SP := pt bx [.pointer (some ⟨sb, 0, none⟩)] 72 :: SigP sb hd ct :: L
set_option maxHeartbeats 2000000 in
theorem counts_ct (L : List SP) (sb : Nat) : Ct Try.prog 84 #[.pointer (some ⟨sb, 0, none⟩)] (L) (fun bx : Nat => .func (.func 104) #[] #[.pointer (some ⟨bx, 0, none⟩)]) (fun bx : Nat => pt bx [.pointer (some ⟨sb, 0, none⟩)] 72 :: L) := by
  refine Ct.of (vs := [.pointer (some ⟨sb, 0, none⟩)]) Try.func84 rfl rfl [(0, .pointer (some ⟨sb, 0, none⟩))] (by repeat (first | exact trivial | refine ⟨rfl, ?_⟩)) ?_
  intro E
  show Hd E 4 _ _ _ _
  refine Hd.seq (fun K1 hK1 => ?_)
  refine Hd.region ?_
  refine Hd.box rfl rfl (fun b1 => ?_)
  refine Hd.yv (y_assign rfl) ?_
  refine Hd.nil ?_
  refine Hd.slots [(1, _)] ⟨rfl, trivial⟩ ?_
  refine Hd.toK hK1 ?_
  refine Hd.seq (fun K2 hK2 => ?_)
  refine Hd.region ?_
  refine Hd.yv (y_mkf (fv := []) (cv := [_]) rfl rfl) ?_
  refine Hd.yv (y_assign rfl) ?_
  refine Hd.nil ?_
  refine Hd.slots [(2, _)] ⟨rfl, trivial⟩ ?_
  refine Hd.toK hK2 ?_
  refine Hd.ret ?_
  clear hK1 hK2
  exact Hd.ret1 rfl b1 rfl (Ent.sep enn)
theorem counts_it (bx sb : Nat) (hd : List Bool) (ct : List Int) (hl : hd.length = 32) (hcl : ct.length = 32) : RX.It Try.prog 104 [.pointer (some ⟨bx, 0, none⟩)] encCA (fun ys => ys = cntF 0 ct) (fun ys => ys <+: cntF 0 ct)
    (SgX bx sb hd ct []) (SgX bx sb hd ct []) := by
  intro l J X hy
  refine Ct.of (vs := [.func (.yield l) #[] #[], .pointer (some ⟨bx, 0, none⟩)]) Try.func104 rfl rfl [(0, .func (.yield l) #[] #[]), (1, .pointer (some ⟨bx, 0, none⟩))] ⟨rfl, rfl, trivial⟩ ?_
  intro E
  show Hd E 20 _ _ _ _
  refine Hd.heap (SgX bx sb hd ct (J [])) (fun k h => by have := sep_app h; exact this) ?_
  refine Hd.scope ?_
  refine Hd.seq (fun K1 hK1 => ?_)
  refine Hd.label ?_
  refine Hd.toK hK1 ?_
  refine Hd.seq (fun K2 hK2 => ?_)
  refine Hd.region ?_
  refine Hd.yv (y_move rfl) ?_
  refine Hd.nil ?_
  refine Hd.slots [(0, _), (1, _), (5, _)] ⟨rfl, rfl, rfl, trivial⟩ ?_
  refine Hd.toK hK2 ?_
  refine Hd.block ?_
  refine Hd.loopK (ι := Nat) [(0, _), (1, _)] (fun i => [(5, .int .i64 (i : Int))]) (fun i => pu (i ≤ 32) :: SgX bx sb hd ct (J (cntF 0 (ct.take i)))) (fun i => 32 - i) 0 (by repeat (first | exact trivial | refine ⟨rfl, ?_⟩)) (by repeat (first | exact trivial | refine ⟨rfl, ?_⟩)) (Ent.sep (.pure (by first | omega | (simp; done) | (simp; omega) | exact ⟨by simp, by simp⟩) enn)) ?_
  intro i
  try dsimp only
  refine Hd.pure (fun hp0 => ?_)
  try dsimp only at hp0
  refine Hd.seq (fun K3 hK3 => ?_)
  refine Hd.region ?_
  refine Hd.yv (y_lss rfl rfl) ?_
  refine Hd.nil ?_
  refine Hd.slots [(0, _), (1, _), (5, _), (6, _)] ⟨rfl, rfl, rfl, rfl, trivial⟩ ?_
  refine Hd.toK hK3 ?_
  refine Hd.seq (fun K4 hK4 => ?_)
  refine Hd.cond rfl (fun hc0 => ?_) (fun hc0 => ?_)
  ·
    try simp only [decide_eq_true_eq, decide_eq_false_iff_not, Bool.and_eq_true, Bool.or_eq_true, Bool.and_eq_false_iff, Bool.or_eq_false_iff, Bool.not_eq_true', Bool.not_eq_false', Bool.not_eq_true, Bool.not_eq_false, Int.not_lt, Int.not_le, Decidable.not_not, ne_eq] at hc0
    have hi : i < 32 := by omega
    have hsc := cntF_succ (ct := ct) (i := i) (by omega)
    have hpr := cntF_pre ct (i + 1)
    refine Hd.skip ?_
    refine Hd.toK hK4 ?_
    refine Hd.seq (fun K5 hK5 => ?_)
    refine Hd.block ?_
    refine Hd.seq (fun K6 hK6 => ?_)
    refine Hd.region ?_
    refine Hd.yv (y_move rfl) ?_
    refine Hd.yv (y_assign rfl) ?_
    refine Hd.nil ?_
    refine Hd.slots [(0, _), (1, _), (3, _), (5, _)] ⟨rfl, rfl, rfl, rfl, trivial⟩ ?_
    refine Hd.toK hK6 ?_
    refine Hd.seq (fun K7 hK7 => ?_)
    refine Hd.region ?_
    first | (refine Hd.yv (y_load1 ag72 rfl (Rd.pt1 pkk (by (first | rfl)))) ?_) | (refine Hd.yv (y_load1 ag72 rfl (Rd.seg1 pkk (by (first | rfl)))) ?_) | (refine Hd.yv (y_loadR1 ag72 rfl (by (first | exact RdS.own pkk)) (by (first | rfl))) ?_)
    refine Hd.yv (y_move rfl) ?_
    refine Hd.callE rfl fk105 (count_ct _ sb hd ct hl hcl (i : Int)) (Ent.sep enn) ?_
    intro _
    refine Hd.yv (y_assign rfl) ?_
    refine Hd.nil ?_
    refine Hd.slots [(0, _), (1, _), (3, _), (4, _), (5, _)] ⟨rfl, rfl, rfl, rfl, rfl, trivial⟩ ?_
    refine Hd.toK hK7 ?_
    refine Hd.seq (fun K8 hK8 => ?_)
    refine Hd.seq (fun K9 hK9 => ?_)
    refine Hd.region ?_
    refine Hd.yv (y_move rfl) ?_
    first | (refine Hd.yv (y_eqlT rfl rfl) ?_) | (refine Hd.yv (y_eql rfl rfl) ?_)
    refine Hd.nil ?_
    refine Hd.slots [(0, _), (1, _), (3, _), (4, _), (5, _), (12, _)] ⟨rfl, rfl, rfl, rfl, rfl, rfl, trivial⟩ ?_
    refine Hd.toK hK9 ?_
    refine Hd.cond rfl (fun hc1 => ?_) (fun hc1 => ?_)
    ·
      try simp only [decide_eq_true_eq, decide_eq_false_iff_not, Bool.and_eq_true, Bool.or_eq_true, Bool.and_eq_false_iff, Bool.or_eq_false_iff, Bool.not_eq_true', Bool.not_eq_false', Bool.not_eq_true, Bool.not_eq_false, Int.not_lt, Int.not_le, Decidable.not_not, ne_eq] at hc1
      refine Hd.exit ?_
      refine Hd.thenExit ?_
      refine Hd.inBexit ?_
      refine Hd.toK hK5 ?_
      refine Hd.region ?_
      first | (refine Hd.yv (y_addn rfl rfl (by simp only [InK]; omega)) ?_) | (refine Hd.yv (y_add rfl rfl) ?_)
      refine Hd.yv (y_move rfl) ?_
      refine Hd.nil ?_
      refine Hd.slots [(0, _), (1, _), (5, _)] ⟨rfl, rfl, rfl, trivial⟩ ?_
      clear hK1 hK2 hK3 hK4 hK5 hK6 hK7 hK8 hK9
      refine Hd.thenN ?_
      rw [if_pos (by
        unfold cntS at hc1
        by_cases h0 : i = 0
        · exact .inl h0
        · rw [if_pos (by omega), Int.toNat_natCast] at hc1; exact .inr hc1), List.append_nil] at hsc
      rw [← hsc]
      exact Hd.again (i + 1) (by first | omega | (simp only; omega) | (simp; omega)) (by repeat (first | exact trivial | refine ⟨rfl, ?_⟩)) (Ent.sep (.pure (by first | omega | (simp; done) | (simp; omega) | (dsimp only; omega)) enn))
    ·
      try simp only [decide_eq_true_eq, decide_eq_false_iff_not, Bool.and_eq_true, Bool.or_eq_true, Bool.and_eq_false_iff, Bool.or_eq_false_iff, Bool.not_eq_true', Bool.not_eq_false', Bool.not_eq_true, Bool.not_eq_false, Int.not_lt, Int.not_le, Decidable.not_not, ne_eq] at hc1
      have hi0 : i ≠ 0 := fun h => by subst h; exact hc1 rfl
      have hcv : cntS ct (i : Int) = ct.getD i 0 := by unfold cntS; rw [if_pos (by omega), Int.toNat_natCast]
      rw [hcv] at hc1
      rw [if_neg (by rintro (h | h); exact hi0 h; exact hc1 h)] at hsc
      rw [hsc] at hpr
      rw [hcv]
      refine Hd.skip ?_
      refine Hd.toK hK8 ?_
      refine Hd.seq (fun K10 hK10 => ?_)
      refine Hd.region ?_
      refine Hd.yv (y_move rfl) ?_
      refine Hd.yv (y_move rfl) ?_
      refine Hd.yv (y_move rfl) ?_
      refine Hd.yv (y_build (vs := [(0, _), (1, _)]) rfl (by first | exact bd104_16 .. | kernel_rfl)) ?_
      refine Hd.yield (pre := cntF 0 (ct.take i)) (c := ((i : Int), ct.getD i 0)) (M := SgX bx sb hd ct []) hy rfl rfl hpr (fun k' h => sep_app (show sep ((SgX bx sb hd ct []) ++ J (cntF 0 (ct.take i))) k' from Ent.sep enn k' h)) ?_
      intro yb
      refine Hd.yv (y_not rfl) ?_
      refine Hd.nil ?_
      refine Hd.slots [(0, _), (1, _), (5, _), (18, _)] ⟨rfl, rfl, rfl, rfl, trivial⟩ ?_
      refine Hd.toK hK10 ?_
      refine Hd.cond rfl (fun hc2 => ?_) (fun hc2 => ?_)
      ·
        try simp only [decide_eq_true_eq, decide_eq_false_iff_not, Bool.and_eq_true, Bool.or_eq_true, Bool.and_eq_false_iff, Bool.or_eq_false_iff, Bool.not_eq_true', Bool.not_eq_false', Bool.not_eq_true, Bool.not_eq_false, Int.not_lt, Int.not_le, Decidable.not_not, ne_eq] at hc2
        subst hc2
        simp only [cond_false]
        refine Hd.ret ?_
        refine Hd.inBret ?_
        refine Hd.thenRet ?_
        refine Hd.thenRet ?_
        refine Hd.inBret ?_
        refine Hd.scRet ?_
        clear hK1 hK2 hK3 hK4 hK5 hK6 hK7 hK8 hK9 hK10
        exact Hd.ret0 rfl (cntF 0 (ct.take i) ++ [((i : Int), ct.getD i 0)], false) rfl (fun k' h => Ent.sep (.pure hpr .same) k' h)
      ·
        try simp only [decide_eq_true_eq, decide_eq_false_iff_not, Bool.and_eq_true, Bool.or_eq_true, Bool.and_eq_false_iff, Bool.or_eq_false_iff, Bool.not_eq_true', Bool.not_eq_false', Bool.not_eq_true, Bool.not_eq_false, Int.not_lt, Int.not_le, Decidable.not_not, ne_eq] at hc2
        subst hc2
        simp only [cond_true]
        refine Hd.heap (SgX bx sb hd ct (J (cntF 0 (ct.take i) ++ [((i : Int), ct.getD i 0)]))) (fun k' h => sep_app h) ?_
        rw [← hsc]
        refine Hd.skip ?_
        refine Hd.inB ?_
        refine Hd.toK hK5 ?_
        refine Hd.region ?_
        first | (refine Hd.yv (y_addn rfl rfl (by simp only [InK]; omega)) ?_) | (refine Hd.yv (y_add rfl rfl) ?_)
        refine Hd.yv (y_move rfl) ?_
        refine Hd.nil ?_
        refine Hd.slots [(0, _), (1, _), (5, _)] ⟨rfl, rfl, rfl, trivial⟩ ?_
        clear hK1 hK2 hK3 hK4 hK5 hK6 hK7 hK8 hK9 hK10
        refine Hd.thenN ?_
        exact Hd.again (i + 1) (by first | omega | (simp only; omega) | (simp; omega)) (by repeat (first | exact trivial | refine ⟨rfl, ?_⟩)) (Ent.sep (.pure (by first | omega | (simp; done) | (simp; omega) | (dsimp only; omega)) enn))
  ·
    try simp only [decide_eq_true_eq, decide_eq_false_iff_not, Bool.and_eq_true, Bool.or_eq_true, Bool.and_eq_false_iff, Bool.or_eq_false_iff, Bool.not_eq_true', Bool.not_eq_false', Bool.not_eq_true, Bool.not_eq_false, Int.not_lt, Int.not_le, Decidable.not_not, ne_eq] at hc0
    refine Hd.exit ?_
    refine Hd.thenExit ?_
    refine Hd.thenExit ?_
    refine Hd.inBexit ?_
    refine Hd.scNorm ?_
    clear hK1 hK2 hK3 hK4
    obtain rfl : i = 32 := by omega
    rw [show ct.take 32 = ct from List.take_of_length_le (by omega)]
    exact Hd.end0 rfl (cntF 0 ct, true) rfl (fun k' h => Ent.sep (.pure rfl .same) k' (sep_app (M := SgX bx sb hd ct []) (N := J (cntF 0 ct)) (Ent.sep enn k' h)))
theorem cntF_mem : ∀ (l : List Int) (i : Nat) (p : Int × Int), p ∈ cntF i l → ∃ j : Nat, l[j]? = some p.2 ∧ p.1 = ((i + j : Nat) : Int) ∧ 0 < i + j
  | [], _, _, h => by cases h
  | c :: t, i, p, h => by
    have h' : p ∈ (if i = 0 ∨ c = 0 then cntF (i + 1) t else ((i : Int), c) :: cntF (i + 1) t) := h
    have rec_ : p ∈ cntF (i + 1) t → ∃ j : Nat, (c :: t)[j]? = some p.2 ∧ p.1 = ((i + j : Nat) : Int) ∧ 0 < i + j := fun h => by
      obtain ⟨j, h1, h2, h3⟩ := cntF_mem t (i + 1) p h
      exact ⟨j + 1, by simpa using h1, by rw [h2]; congr 1; omega, by omega⟩
    split at h'
    · exact rec_ h'
    · rename_i hn
      rcases List.mem_cons.1 h' with rfl | h'
      · exact ⟨0, rfl, rfl, by omega⟩
      · exact rec_ h'
theorem cntF_sum : ∀ (l : List Int) (i : Nat), 0 < i → ((cntF i l).map Prod.snd).sum = l.sum
  | [], _, _ => rfl
  | c :: t, i, h => by
    show ((if i = 0 ∨ c = 0 then cntF (i + 1) t else ((i : Int), c) :: cntF (i + 1) t).map Prod.snd).sum = c + t.sum
    have ih := cntF_sum t (i + 1) (by omega)
    split
    · rename_i h1
      rw [ih]; omega
    · show c + ((cntF (i + 1) t).map Prod.snd).sum = _
      rw [ih]
theorem cntF_sum0 (ct : List Int) : ((cntF 0 ct).map Prod.snd).sum = (ct.drop 1).sum := by
  cases ct with
  | nil => rfl
  | cons c t =>
    show ((if 0 = 0 ∨ c = 0 then cntF 1 t else (((0 : Nat) : Int), c) :: cntF 1 t).map Prod.snd).sum = t.sum
    rw [if_pos (.inl rfl)]
    exact cntF_sum t 1 (by omega)
theorem sum_bd {l : List (Int × Int)} {K : Int} (h : ∀ p ∈ l, 0 ≤ p.2 ∧ p.2 ≤ K) : 0 ≤ (l.map Prod.snd).sum ∧ (l.map Prod.snd).sum ≤ l.length * K := by
  induction l with
  | nil => simp
  | cons p t ih =>
    have h1 := h p List.mem_cons_self
    have h2 := ih fun q hq => h q (List.mem_cons_of_mem _ hq)
    simp only [List.map_cons, List.sum_cons, List.length_cons]
    have : ((t.length + 1 : Nat) : Int) * K = (t.length : Int) * K + K := by
      rw [Int.natCast_add, Int.add_mul]; simp
    omega
set_option maxHeartbeats 2000000 in
theorem pending_ct (L : List SP) (sb : Nat) (hd : List Bool) (ct : List Int) (hl : hd.length = 32) (hcl : ct.length = 32) (hb : ∀ c ∈ ct, 0 ≤ c ∧ c ≤ 2000000000) : Ct Try.prog 82 #[.pointer (some ⟨sb, 0, none⟩)] (SigP sb hd ct :: L) (fun _ : Unit => .int .i64 (ct.drop 1).sum) (fun _ : Unit => SigP sb hd ct :: L) := by
  refine Ct.ofM (vs := [.pointer (some ⟨sb, 0, none⟩)]) Try.func82 rfl rfl [(0, .pointer (some ⟨sb, 0, none⟩))] (by repeat (first | exact trivial | refine ⟨rfl, ?_⟩)) ?_
  intro E
  show Hd E 13 _ _ _ _
  have hmb : ∀ p ∈ cntF 0 ct, 0 ≤ p.2 ∧ p.2 ≤ 2000000000 := fun p hp => by
    obtain ⟨j, hj, _, _⟩ := cntF_mem ct 0 p hp
    exact hb _ (List.mem_of_getElem? hj)
  have hcle := cntF_le ct 0
  refine Hd.seq (fun K1 hK1 => ?_)
  refine Hd.region ?_
  refine Hd.yv (y_assign rfl) ?_
  refine Hd.nil ?_
  refine Hd.slots [(0, _)] ⟨rfl, trivial⟩ ?_
  refine Hd.toK hK1 ?_
  refine Hd.seq (fun K2 hK2 => ?_)
  refine Hd.region ?_
  refine Hd.alloc zr3 (fun b3 => ?_)
  first | (refine Hd.store1 sz3 rfl rfl rfl pkk (by first | decide | (simp; done) | (simp; omega)) ?_) | (refine Hd.storeG1 sz3 rfl rfl rfl pkk (by first | decide | (simp; done) | (simp; omega)) ?_) | (refine Hd.storeO1 sz3 rfl rfl rfl pkk (by first | omega | (simp; done) | (simp; omega)) ?_)
  try simp only [List.set_cons_zero, List.set_cons_succ]
  refine Hd.nil ?_
  refine Hd.slots [(0, _), (3, _)] ⟨rfl, rfl, trivial⟩ ?_
  refine Hd.toK hK2 ?_
  refine Hd.seq (fun K3 hK3 => ?_)
  refine Hd.seq (fun K4 hK4 => ?_)
  refine Hd.region ?_
  refine Hd.yv (y_move rfl) ?_
  refine Hd.callE rfl fk84 (counts_ct _ sb) (Ent.sep enn) ?_
  intro bx
  refine Hd.nil ?_
  refine Hd.slots [(3, _), (6, _)] ⟨rfl, rfl, trivial⟩ ?_
  refine Hd.toK hK4 ?_
  refine Hd.block ?_
  refine Hd.rangeF (enc := encCA) (S := fun ys => ys = cntF 0 ct) (Sp := fun ys => ys <+: cntF 0 ct)
    (fun pre => pt b3 [.int .i64 (pre.map Prod.snd).sum] 3 :: L) (fun _ _ => [pu False])
    rfl (by kernel_rfl) (fun _ => rfl) rfl (counts_it bx sb hd ct hl hcl) (by refine Ent.sep ?_; refine Ent.eq pkk (pt_eq (by rfl)) ?_; exact Ent.swap (L := [_, _])) ?_ ?_ ?_
  ·
    intro E l' R pre c N hR hG
    have hpl := hG.length_le
    have hs1 := sum_bd (l := pre) (K := 2000000000) fun p hp => hmb p (hG.subset (List.mem_append_left _ hp))
    have hc1 := hmb c (hG.subset (by simp))
    rw [List.length_append] at hpl
    have hpl2 : pre.length ≤ 32 := by simp at hpl; omega
    unfold Rnd
    simp only [List.cons_append, List.nil_append, pz, encCA]
    refine Hd.region ?_
    refine Hd.alloc zr153 (fun b4 => ?_)
    refine Hd.storeA (us := encCn c) sz153 rfl rfl rfl (by simp [Value.oneCell']) pkk (by exact rfl) ?_
    refine Hd.nil ?_
    refine Hd.slots [(3, _), (4, _)] ⟨rfl, rfl, trivial⟩ ?_
    refine Hd.thenN ?_
    refine Hd.begin hR pkk ?_
    refine Hd.block ?_
    refine Hd.region ?_
    first | (refine Hd.yv (y_load1 ag3 rfl (Rd.pt1 pkk (by (first | rfl)))) ?_) | (refine Hd.yv (y_load1 ag3 rfl (Rd.seg1 pkk (by (first | rfl)))) ?_) | (refine Hd.yv (y_loadR1 ag3 rfl (by (first | exact RdS.own pkk)) (by (first | rfl))) ?_)
    first | (refine Hd.yv (y_field' (q := 1) (ft := 3) Try.underlying153 rfl sz3 rfl rfl) ?_) | (refine Hd.yv (y_fieldR (q := 1) (ft := 3) Try.underlying153 rfl sz3 rfl rfl) ?_)
    first | (refine Hd.yv (y_load1 ag3 rfl (Rd.pt1 pkk (by (first | rfl)))) ?_) | (refine Hd.yv (y_load1 ag3 rfl (Rd.seg1 pkk (by (first | rfl)))) ?_) | (refine Hd.yv (y_loadR1 ag3 rfl (by (first | exact RdS.own pkk)) (by (first | rfl))) ?_)
    first | (refine Hd.yv (y_addn rfl rfl (by simp only [InK]; omega)) ?_) | (refine Hd.yv (y_add rfl rfl) ?_)
    first | (refine Hd.store1 sz3 rfl rfl rfl pkk (by first | decide | (simp; done) | (simp; omega)) ?_) | (refine Hd.storeG1 sz3 rfl rfl rfl pkk (by first | decide | (simp; done) | (simp; omega)) ?_) | (refine Hd.storeO1 sz3 rfl rfl rfl pkk (by first | omega | (simp; done) | (simp; omega)) ?_)
    try simp only [List.set_cons_zero, List.set_cons_succ]
    refine Hd.nil ?_
    refine Hd.slots [(3, _)] ⟨rfl, trivial⟩ ?_
    refine Hd.inB ?_
    clear hK1 hK2 hK3 hK4
    refine Hd.reN ?_
    simp only [List.cons_append, List.nil_append]
    exact Ent.sep (.pick pkk (.eq pkk (pt_eq (by simp)) enn))
  ·
    intro r0 ys hys
    obtain rfl : ys = cntF 0 ct := hys
    try simp only [List.cons_append, List.nil_append]
    refine Hd.inB ?_
    refine Hd.toK hK3 ?_
    refine Hd.seq (fun K5 hK5 => ?_)
    refine Hd.region ?_
    first | (refine Hd.yv (y_load1 ag3 rfl (Rd.pt1 pkk (by (first | rfl)))) ?_) | (refine Hd.yv (y_load1 ag3 rfl (Rd.seg1 pkk (by (first | rfl)))) ?_) | (refine Hd.yv (y_loadR1 ag3 rfl (by (first | exact RdS.own pkk)) (by (first | rfl))) ?_)
    refine Hd.yv (y_assign rfl) ?_
    refine Hd.nil ?_
    refine Hd.slots [(2, _)] ⟨rfl, trivial⟩ ?_
    refine Hd.toK hK5 ?_
    refine Hd.ret ?_
    clear hK1 hK2 hK3 hK4 hK5
    rw [← cntF_sum0]
    exact Hd.retM (fun a fr => Lv.mark pkk (Lv.end1 fr rfl () rfl (Ent.sep enn)))
  ·
    rintro r0_0 (_ | id0) pre0 hG0
    ·
      exact Hd.absurd (by first | exact id | simp)
    ·
      exact Hd.absurd (by first | exact id | simp)
end Wo
end Go.Proofs.Ytbfddabjbkohdaa
namespace Go.Proofs.Ytbfddabjbkohdaa
set_option linter.unusedSimpArgs false
set_option linter.unusedVariables false
set_option linter.unnecessarySimpa false
open Go.RX Fx
namespace Wo
set_option maxRecDepth 8000
theorem sig_open {s : Int} (h : mayE s = 0) : ∃ k : Nat, s = (k : Int) ∧ 1 ≤ k ∧ k < 32 := by
  have := mayE_0.1 h
  exact ⟨s.toNat, by omega, by omega, by omega⟩
set_option maxHeartbeats 2000000 in
theorem shandle_ct (L : List SP) (sb : Nat) (hd : List Bool) (ct : List Int) (hl : hd.length = 32) (hcl : ct.length = 32) (s : Int) (on : Bool) : Ct Try.prog 53 #[.pointer (some ⟨sb, 0, none⟩), .int .i64 s, .bool on] (SigP sb hd ct :: L) (fun _ : Unit => .int .i64 (mayE s)) (fun _ : Unit => SigP sb (if mayE s = 0 then hd.set s.toNat on else hd) (if mayE s = 0 ∧ on = false then ct.set s.toNat 0 else ct) :: L) := by
  refine Ct.of (vs := [.pointer (some ⟨sb, 0, none⟩), .int .i64 s, .bool on]) Try.func53 rfl rfl [(0, .pointer (some ⟨sb, 0, none⟩)), (1, .int .i64 s), (2, .bool on)] (by repeat (first | exact trivial | refine ⟨rfl, ?_⟩)) ?_
  intro E
  show Hd E 27 _ _ _ _
  refine Hd.seq (fun K1 hK1 => ?_)
  refine Hd.region ?_
  refine Hd.yv (y_assign rfl) ?_
  refine Hd.nil ?_
  refine Hd.slots [(0, _), (1, _), (2, _)] ⟨rfl, rfl, rfl, trivial⟩ ?_
  refine Hd.toK hK1 ?_
  refine Hd.seq (fun K2 hK2 => ?_)
  refine Hd.seq (fun K3 hK3 => ?_)
  refine Hd.region ?_
  refine Hd.yv (y_move rfl) ?_
  refine Hd.yv (y_move rfl) ?_
  refine Hd.callE rfl fk81 (may_ct _ sb s) (Ent.sep enn) ?_
  intro _
  refine Hd.yv (y_assign rfl) ?_
  refine Hd.nil ?_
  refine Hd.slots [(0, _), (1, _), (2, _), (7, _)] ⟨rfl, rfl, rfl, rfl, trivial⟩ ?_
  refine Hd.toK hK3 ?_
  refine Hd.seq (fun K4 hK4 => ?_)
  refine Hd.region ?_
  refine Hd.yv (y_move rfl) ?_
  refine Hd.yv (y_neq rfl rfl) ?_
  refine Hd.nil ?_
  refine Hd.slots [(0, _), (1, _), (2, _), (7, _), (12, _)] ⟨rfl, rfl, rfl, rfl, rfl, trivial⟩ ?_
  refine Hd.toK hK4 ?_
  refine Hd.cond rfl (fun hc0 => ?_) (fun hc0 => ?_)
  ·
    try simp only [decide_eq_true_eq, decide_eq_false_iff_not, Bool.and_eq_true, Bool.or_eq_true, Bool.and_eq_false_iff, Bool.or_eq_false_iff, Bool.not_eq_true', Bool.not_eq_false', Bool.not_eq_true, Bool.not_eq_false, Int.not_lt, Int.not_le, Decidable.not_not, ne_eq] at hc0
    refine Hd.seq (fun K5 hK5 => ?_)
    refine Hd.region ?_
    refine Hd.yv (y_move rfl) ?_
    refine Hd.yv (y_assign rfl) ?_
    refine Hd.nil ?_
    refine Hd.slots [(6, _)] ⟨rfl, trivial⟩ ?_
    refine Hd.toK hK5 ?_
    refine Hd.ret ?_
    refine Hd.thenRet ?_
    clear hK1 hK2 hK3 hK4 hK5
    rw [if_neg hc0, if_neg (fun h => hc0 h.1)]
    exact Hd.ret1 rfl () rfl (Ent.sep enn)
  ·
    try simp only [decide_eq_true_eq, decide_eq_false_iff_not, Bool.and_eq_true, Bool.or_eq_true, Bool.and_eq_false_iff, Bool.or_eq_false_iff, Bool.not_eq_true', Bool.not_eq_false', Bool.not_eq_true, Bool.not_eq_false, Int.not_lt, Int.not_le, Decidable.not_not, ne_eq] at hc0
    obtain ⟨k, rfl, hk1, hk⟩ := sig_open hc0
    refine Hd.skip ?_
    refine Hd.toK hK2 ?_
    refine Hd.seq (fun K6 hK6 => ?_)
    refine Hd.seq (fun K7 hK7 => ?_)
    refine Hd.region ?_
    refine Hd.yv (y_move rfl) ?_
    refine Hd.yv (y_move rfl) ?_
    refine Hd.yv (y_move rfl) ?_
    refine Hd.yv (y_nilp rfl) ?_
    first | (refine Hd.yv (y_field' (q := 0) (ft := 128) Try.underlying131 rfl sz128 rfl rfl) ?_) | (refine Hd.yv (y_fieldR (q := 0) (ft := 128) Try.underlying131 rfl sz128 rfl rfl) ?_)
    first | (refine Hd.yv (y_idxA Try.underlying128 sz4 rfl rfl (by first | omega | decide)) ?_) | (refine Hd.yv (y_idxAR Try.underlying128 sz4 rfl rfl (by first | omega | decide)) ?_)
    first | (refine Hd.store1 sz4 rfl rfl rfl pkk (by first | (rw [sg_len hl hcl]; omega) | (rw [sg_len (by rw [List.length_set]; exact hl) hcl]; omega) | decide | (simp; done) | (simp; omega)) ?_) | (refine Hd.storeG1 sz4 rfl rfl rfl pkk (by first | (rw [sg_len hl hcl]; omega) | (rw [sg_len (by rw [List.length_set]; exact hl) hcl]; omega) | decide | (simp; done) | (simp; omega)) ?_) | (refine Hd.storeO1 sz4 rfl rfl rfl pkk (by first | (rw [sg_len hl hcl]; omega) | (rw [sg_len (by rw [List.length_set]; exact hl) hcl]; omega) | omega | (simp; done) | (simp; omega)) ?_)
    try simp only [List.set_cons_zero, List.set_cons_succ]
    refine Hd.nil ?_
    rw [show (hd.map Value.bool ++ ct.map (Value.int .i64)).set (0 + 0 + k * 1) (.bool on) = SgV (hd.set k on) ct from sg_set_hd hl hk (by omega)]
    refine Hd.slots [(0, _), (1, _), (2, _)] ⟨rfl, rfl, rfl, trivial⟩ ?_
    refine Hd.toK hK7 ?_
    refine Hd.seq (fun K8 hK8 => ?_)
    refine Hd.region ?_
    refine Hd.yv (y_move rfl) ?_
    refine Hd.yv (y_not rfl) ?_
    refine Hd.nil ?_
    refine Hd.slots [(0, _), (1, _), (21, _)] ⟨rfl, rfl, rfl, trivial⟩ ?_
    refine Hd.toK hK8 ?_
    refine Hd.cond rfl (fun hc1 => ?_) (fun hc1 => ?_)
    ·
      try simp only [decide_eq_true_eq, decide_eq_false_iff_not, Bool.and_eq_true, Bool.or_eq_true, Bool.and_eq_false_iff, Bool.or_eq_false_iff, Bool.not_eq_true', Bool.not_eq_false', Bool.not_eq_true, Bool.not_eq_false, Int.not_lt, Int.not_le, Decidable.not_not, ne_eq] at hc1
      refine Hd.region ?_
      refine Hd.yv (y_move rfl) ?_
      refine Hd.yv (y_move rfl) ?_
      refine Hd.yv (y_nilp rfl) ?_
      first | (refine Hd.yv (y_field' (q := 32) (ft := 129) Try.underlying131 rfl sz129 rfl rfl) ?_) | (refine Hd.yv (y_fieldR (q := 32) (ft := 129) Try.underlying131 rfl sz129 rfl rfl) ?_)
      first | (refine Hd.yv (y_idxA Try.underlying129 sz3 rfl rfl (by first | omega | decide)) ?_) | (refine Hd.yv (y_idxAR Try.underlying129 sz3 rfl rfl (by first | omega | decide)) ?_)
      first | (refine Hd.store1 sz3 rfl rfl rfl pkk (by first | (rw [sg_len hl hcl]; omega) | (rw [sg_len (by rw [List.length_set]; exact hl) hcl]; omega) | decide | (simp; done) | (simp; omega)) ?_) | (refine Hd.storeG1 sz3 rfl rfl rfl pkk (by first | (rw [sg_len hl hcl]; omega) | (rw [sg_len (by rw [List.length_set]; exact hl) hcl]; omega) | decide | (simp; done) | (simp; omega)) ?_) | (refine Hd.storeO1 sz3 rfl rfl rfl pkk (by first | (rw [sg_len hl hcl]; omega) | (rw [sg_len (by rw [List.length_set]; exact hl) hcl]; omega) | omega | (simp; done) | (simp; omega)) ?_)
      try simp only [List.set_cons_zero, List.set_cons_succ]
      refine Hd.nil ?_
      rw [show (SgV (hd.set k on) ct).set (0 + 32 + k * 1) (.int .i64 0) = SgV (hd.set k on) (ct.set k 0) from sg_set_ct (by rw [List.length_set]; exact hl) hk (by omega)]
      refine Hd.slots [] trivial ?_
      refine Hd.toK hK6 ?_
      refine Hd.seq (fun K9 hK9 => ?_)
      refine Hd.region ?_
      refine Hd.yv (y_assign rfl) ?_
      refine Hd.nil ?_
      refine Hd.slots [(6, _)] ⟨rfl, trivial⟩ ?_
      refine Hd.toK hK9 ?_
      refine Hd.ret ?_
      clear hK1 hK2 hK3 hK4 hK6 hK7 hK8 hK9
      rw [if_pos hc0, if_pos ⟨hc0, by simpa using hc1⟩]
      exact Hd.ret1 rfl () (by rw [hc0]; rfl) (Ent.sep enn)
    ·
      try simp only [decide_eq_true_eq, decide_eq_false_iff_not, Bool.and_eq_true, Bool.or_eq_true, Bool.and_eq_false_iff, Bool.or_eq_false_iff, Bool.not_eq_true', Bool.not_eq_false', Bool.not_eq_true, Bool.not_eq_false, Int.not_lt, Int.not_le, Decidable.not_not, ne_eq] at hc1
      refine Hd.skip ?_
      refine Hd.toK hK6 ?_
      refine Hd.seq (fun K10 hK10 => ?_)
      refine Hd.region ?_
      refine Hd.yv (y_assign rfl) ?_
      refine Hd.nil ?_
      refine Hd.slots [(6, _)] ⟨rfl, trivial⟩ ?_
      refine Hd.toK hK10 ?_
      refine Hd.ret ?_
      clear hK1 hK2 hK3 hK4 hK6 hK7 hK8 hK10
      rw [if_pos hc0, if_neg (fun h => by rw [h.2] at hc1; simp at hc1)]
      exact Hd.ret1 rfl () (by rw [hc0]; rfl) (Ent.sep enn)
set_option maxHeartbeats 2000000 in
theorem sraise_ct (L : List SP) (sb : Nat) (hd : List Bool) (ct : List Int) (hl : hd.length = 32) (hcl : ct.length = 32) (hb : ∀ c ∈ ct, 0 ≤ c ∧ c ≤ 2000000000) (s : Int) : Ct Try.prog 55 #[.pointer (some ⟨sb, 0, none⟩), .int .i64 s] (SigP sb hd ct :: L) (fun _ : Unit => .int .i64 (mayE s)) (fun _ : Unit => SigP sb hd (if mayE s = 0 ∧ hd.getD s.toNat false = true then ct.set s.toNat (ct.getD s.toNat 0 + 1) else ct) :: L) := by
  refine Ct.of (vs := [.pointer (some ⟨sb, 0, none⟩), .int .i64 s]) Try.func55 rfl rfl [(0, .pointer (some ⟨sb, 0, none⟩)), (1, .int .i64 s)] (by repeat (first | exact trivial | refine ⟨rfl, ?_⟩)) ?_
  intro E
  show Hd E 36 _ _ _ _
  refine Hd.seq (fun K1 hK1 => ?_)
  refine Hd.region ?_
  refine Hd.yv (y_assign rfl) ?_
  refine Hd.nil ?_
  refine Hd.slots [(0, _), (1, _)] ⟨rfl, rfl, trivial⟩ ?_
  refine Hd.toK hK1 ?_
  refine Hd.seq (fun K2 hK2 => ?_)
  refine Hd.seq (fun K3 hK3 => ?_)
  refine Hd.region ?_
  refine Hd.yv (y_move rfl) ?_
  refine Hd.yv (y_move rfl) ?_
  refine Hd.callE rfl fk81 (may_ct _ sb s) (Ent.sep enn) ?_
  intro _
  refine Hd.yv (y_assign rfl) ?_
  refine Hd.nil ?_
  refine Hd.slots [(0, _), (1, _), (5, _)] ⟨rfl, rfl, rfl, trivial⟩ ?_
  refine Hd.toK hK3 ?_
  refine Hd.seq (fun K4 hK4 => ?_)
  refine Hd.region ?_
  refine Hd.yv (y_move rfl) ?_
  refine Hd.yv (y_neq rfl rfl) ?_
  refine Hd.nil ?_
  refine Hd.slots [(0, _), (1, _), (5, _), (10, _)] ⟨rfl, rfl, rfl, rfl, trivial⟩ ?_
  refine Hd.toK hK4 ?_
  refine Hd.cond rfl (fun hc0 => ?_) (fun hc0 => ?_)
  ·
    try simp only [decide_eq_true_eq, decide_eq_false_iff_not, Bool.and_eq_true, Bool.or_eq_true, Bool.and_eq_false_iff, Bool.or_eq_false_iff, Bool.not_eq_true', Bool.not_eq_false', Bool.not_eq_true, Bool.not_eq_false, Int.not_lt, Int.not_le, Decidable.not_not, ne_eq] at hc0
    refine Hd.seq (fun K5 hK5 => ?_)
    refine Hd.region ?_
    refine Hd.yv (y_move rfl) ?_
    refine Hd.yv (y_assign rfl) ?_
    refine Hd.nil ?_
    refine Hd.slots [(4, _)] ⟨rfl, trivial⟩ ?_
    refine Hd.toK hK5 ?_
    refine Hd.ret ?_
    refine Hd.thenRet ?_
    clear hK1 hK2 hK3 hK4 hK5
    rw [if_neg (fun h => hc0 h.1)]
    exact Hd.ret1 rfl () rfl (Ent.sep enn)
  ·
    try simp only [decide_eq_true_eq, decide_eq_false_iff_not, Bool.and_eq_true, Bool.or_eq_true, Bool.and_eq_false_iff, Bool.or_eq_false_iff, Bool.not_eq_true', Bool.not_eq_false', Bool.not_eq_true, Bool.not_eq_false, Int.not_lt, Int.not_le, Decidable.not_not, ne_eq] at hc0
    obtain ⟨k, rfl, hk1, hk⟩ := sig_open hc0
    have hcb : 0 ≤ ct.getD k 0 ∧ ct.getD k 0 ≤ 2000000000 := by
      rw [List.getD_eq_getElem?_getD, List.getElem?_eq_getElem (by omega)]
      exact hb _ (List.getElem_mem _)
    refine Hd.skip ?_
    refine Hd.toK hK2 ?_
    refine Hd.seq (fun K6 hK6 => ?_)
    refine Hd.seq (fun K7 hK7 => ?_)
    refine Hd.region ?_
    refine Hd.yv (y_move rfl) ?_
    refine Hd.yv (y_move rfl) ?_
    refine Hd.yv (y_nilp rfl) ?_
    first | (refine Hd.yv (y_field' (q := 0) (ft := 128) Try.underlying131 rfl sz128 rfl rfl) ?_) | (refine Hd.yv (y_fieldR (q := 0) (ft := 128) Try.underlying131 rfl sz128 rfl rfl) ?_)
    first | (refine Hd.yv (y_idxA Try.underlying128 sz4 rfl rfl (by first | omega | decide)) ?_) | (refine Hd.yv (y_idxAR Try.underlying128 sz4 rfl rfl (by first | omega | decide)) ?_)
    first | (refine Hd.yv (y_load1 ag4 rfl (Rd.pt1 pkk (by (first | exact sg_hd hl hk (by omega) | exact sg_ct hl hcl hk (by omega) | rfl)))) ?_) | (refine Hd.yv (y_load1 ag4 rfl (Rd.seg1 pkk (by (first | exact sg_hd hl hk (by omega) | exact sg_ct hl hcl hk (by omega) | rfl)))) ?_) | (refine Hd.yv (y_loadR1 ag4 rfl (by (first | exact RdS.own pkk)) (by (first | exact sg_hd hl hk (by omega) | exact sg_ct hl hcl hk (by omega) | rfl))) ?_)
    refine Hd.nil ?_
    refine Hd.slots [(0, _), (1, _), (17, _)] ⟨rfl, rfl, rfl, trivial⟩ ?_
    refine Hd.toK hK7 ?_
    refine Hd.cond rfl (fun hc1 => ?_) (fun hc1 => ?_)
    ·
      try simp only [decide_eq_true_eq, decide_eq_false_iff_not, Bool.and_eq_true, Bool.or_eq_true, Bool.and_eq_false_iff, Bool.or_eq_false_iff, Bool.not_eq_true', Bool.not_eq_false', Bool.not_eq_true, Bool.not_eq_false, Int.not_lt, Int.not_le, Decidable.not_not, ne_eq] at hc1
      refine Hd.tail 18 mixed (by kernel_rfl) ?_
      simp only [List.take, List.drop]
      refine Ht.yv (y_move rfl) ?_
      refine Ht.yv (y_move rfl) ?_
      refine Ht.yv (y_nilp rfl) ?_
      first | (refine Ht.yv (y_field' (q := 32) (ft := 129) Try.underlying131 rfl sz129 rfl rfl) ?_) | (refine Ht.yv (y_fieldR (q := 32) (ft := 129) Try.underlying131 rfl sz129 rfl rfl) ?_)
      first | (refine Ht.yv (y_idxA Try.underlying129 sz3 rfl rfl (by first | omega | decide)) ?_) | (refine Ht.yv (y_idxAR Try.underlying129 sz3 rfl rfl (by first | omega | decide)) ?_)
      first | (refine Ht.yv (y_load1 ag3 rfl (Rd.pt1 pkk (by (first | exact sg_hd hl hk (by omega) | exact sg_ct hl hcl hk (by omega) | rfl)))) ?_) | (refine Ht.yv (y_load1 ag3 rfl (Rd.seg1 pkk (by (first | exact sg_hd hl hk (by omega) | exact sg_ct hl hcl hk (by omega) | rfl)))) ?_) | (refine Ht.yv (y_loadR1 ag3 rfl (by (first | exact RdS.own pkk)) (by (first | exact sg_hd hl hk (by omega) | exact sg_ct hl hcl hk (by omega) | rfl))) ?_)
      refine Ht.yv (y_move rfl) ?_
      refine Ht.yv (y_move rfl) ?_
      refine Ht.yv (y_nilp rfl) ?_
      first | (refine Ht.yv (y_field' (q := 32) (ft := 129) Try.underlying131 rfl sz129 rfl rfl) ?_) | (refine Ht.yv (y_fieldR (q := 32) (ft := 129) Try.underlying131 rfl sz129 rfl rfl) ?_)
      first | (refine Ht.yv (y_idxA Try.underlying129 sz3 rfl rfl (by first | omega | decide)) ?_) | (refine Ht.yv (y_idxAR Try.underlying129 sz3 rfl rfl (by first | omega | decide)) ?_)
      first | (refine Ht.yv (y_load1 ag3 rfl (Rd.pt1 pkk (by (first | exact sg_hd hl hk (by omega) | exact sg_ct hl hcl hk (by omega) | rfl)))) ?_) | (refine Ht.yv (y_load1 ag3 rfl (Rd.seg1 pkk (by (first | exact sg_hd hl hk (by omega) | exact sg_ct hl hcl hk (by omega) | rfl)))) ?_) | (refine Ht.yv (y_loadR1 ag3 rfl (by (first | exact RdS.own pkk)) (by (first | exact sg_hd hl hk (by omega) | exact sg_ct hl hcl hk (by omega) | rfl))) ?_)
      first | (refine Ht.yv (y_subn rfl rfl (by simp only [InK]; omega)) ?_) | (refine Ht.yv (y_sub rfl rfl) ?_)
      refine Ht.yv (y_min rfl rfl) ?_
      first | (refine Ht.yv (y_to (v' := .int .i64 (ct.getD k 0 + 1)) (y_addn rfl rfl (by simp only [InK]; omega)) (by (congr 1; omega))) ?_) | (refine Ht.yv (y_to (v' := .int .i64 (ct.getD k 0 + 1)) (y_add rfl rfl) (by (congr 1; omega))) ?_)
      refine Ht.yv (y_nilp rfl) ?_
      first | (refine Ht.yv (y_field' (q := 32) (ft := 129) Try.underlying131 rfl sz129 rfl rfl) ?_) | (refine Ht.yv (y_fieldR (q := 32) (ft := 129) Try.underlying131 rfl sz129 rfl rfl) ?_)
      first | (refine Ht.yv (y_idxA Try.underlying129 sz3 rfl rfl (by first | omega | decide)) ?_) | (refine Ht.yv (y_idxAR Try.underlying129 sz3 rfl rfl (by first | omega | decide)) ?_)
      refine Ht.nil ?_
      first | (refine Hd.store1 sz3 rfl rfl rfl pkk (by first | (rw [sg_len hl hcl]; omega) | decide | (simp; done) | (simp; omega)) ?_) | (refine Hd.storeG1 sz3 rfl rfl rfl pkk (by first | (rw [sg_len hl hcl]; omega) | decide | (simp; done) | (simp; omega)) ?_) | (refine Hd.storeO1 sz3 rfl rfl rfl pkk (by first | (rw [sg_len hl hcl]; omega) | omega | (simp; done) | (simp; omega)) ?_)
      try simp only [List.set_cons_zero, List.set_cons_succ]
      refine Hd.nil ?_
      rw [show (hd.map Value.bool ++ ct.map (Value.int .i64)).set (0 + 32 + k * 1) (.int .i64 (ct.getD k 0 + 1)) = SgV hd (ct.set k (ct.getD k 0 + 1)) from sg_set_ct hl hk (by omega)]
      refine Hd.slots [] trivial ?_
      refine Hd.toK hK6 ?_
      refine Hd.seq (fun K8 hK8 => ?_)
      refine Hd.region ?_
      refine Hd.yv (y_assign rfl) ?_
      refine Hd.nil ?_
      refine Hd.slots [(4, _)] ⟨rfl, trivial⟩ ?_
      refine Hd.toK hK8 ?_
      refine Hd.ret ?_
      clear hK1 hK2 hK3 hK4 hK6 hK7 hK8
      rw [if_pos ⟨hc0, hc1⟩]
      exact Hd.ret1 rfl () (by rw [hc0]; rfl) (Ent.sep enn)
    ·
      try simp only [decide_eq_true_eq, decide_eq_false_iff_not, Bool.and_eq_true, Bool.or_eq_true, Bool.and_eq_false_iff, Bool.or_eq_false_iff, Bool.not_eq_true', Bool.not_eq_false', Bool.not_eq_true, Bool.not_eq_false, Int.not_lt, Int.not_le, Decidable.not_not, ne_eq] at hc1
      refine Hd.skip ?_
      refine Hd.toK hK6 ?_
      refine Hd.seq (fun K9 hK9 => ?_)
      refine Hd.region ?_
      refine Hd.yv (y_assign rfl) ?_
      refine Hd.nil ?_
      refine Hd.slots [(4, _)] ⟨rfl, trivial⟩ ?_
      refine Hd.toK hK9 ?_
      refine Hd.ret ?_
      clear hK1 hK2 hK3 hK4 hK6 hK7 hK9
      rw [if_neg (fun h => by rw [show ((k : Int)).toNat = k from Int.toNat_natCast k] at h; rw [h.2] at hc1; cases hc1)]
      exact Hd.ret1 rfl () (by rw [hc0]; rfl) (Ent.sep enn)
abbrev OutCn (b : Nat) (l : List (Int × Int)) : SP := RX.ex fun i : Option Addr × Nat => [pt b [.slice i.1 l.length i.2] 62, own 153 2 i.1 l.length i.2 (l.flatMap encCn)]
def zerF (ct : List Int) (l : List (Int × Int)) : List Int := l.foldl (fun ct p => ct.set p.1.toNat 0) ct
theorem zerF_len (l : List (Int × Int)) (ct : List Int) : (zerF ct l).length = ct.length := by
  induction l generalizing ct with
  | nil => rfl
  | cons p t ih => show (zerF (ct.set p.1.toNat 0) t).length = _; rw [ih, List.length_set]
theorem zerF_snoc (ct : List Int) (l : List (Int × Int)) (p : Int × Int) : zerF ct (l ++ [p]) = (zerF ct l).set p.1.toNat 0 := by unfold zerF; rw [List.foldl_append]; rfl
theorem zerF_at : ∀ (l : List (Int × Int)) (ct : List Int) (j : Nat), j < ct.length → (zerF ct l)[j]? = if ∃ p ∈ l, p.1.toNat = j then some 0 else ct[j]?
  | [], ct, j, _ => by simp [zerF]
  | p :: t, ct, j, h => by
    show (zerF (ct.set p.1.toNat 0) t)[j]? = _
    rw [zerF_at t _ j (by rw [List.length_set]; exact h)]
    by_cases h1 : ∃ q ∈ t, q.1.toNat = j
    · rw [if_pos h1, if_pos]
      obtain ⟨q, hq, e⟩ := h1
      exact ⟨q, List.mem_cons_of_mem _ hq, e⟩
    · rw [if_neg h1]
      by_cases h2 : p.1.toNat = j
      · rw [if_pos ⟨p, List.mem_cons_self, h2⟩, h2, List.getElem?_set_self h]
      · rw [List.getElem?_set_ne h2, if_neg]
        rintro ⟨q, hq, e⟩
        rcases List.mem_cons.1 hq with rfl | hq
        · exact h2 e
        · exact h1 ⟨q, hq, e⟩
theorem cntF_has : ∀ (l : List Int) (i j : Nat) (c : Int), l[j]? = some c → c ≠ 0 → 0 < i + j → (((i + j : Nat) : Int), c) ∈ cntF i l
  | [], _, _, _, h, _, _ => by simp at h
  | a :: t, i, 0, c, h, hc, hi => by
    obtain rfl : a = c := by simpa using h
    show _ ∈ (if i = 0 ∨ a = 0 then cntF (i + 1) t else ((i : Int), a) :: cntF (i + 1) t)
    rw [if_neg (by rintro (h | h); omega; exact hc h)]
    exact List.mem_cons_self
  | a :: t, i, j + 1, c, h, hc, hi => by
    have := cntF_has t (i + 1) j c (by simpa using h) hc (by omega)
    rw [show i + 1 + j = i + (j + 1) by omega] at this
    show _ ∈ (if i = 0 ∨ a = 0 then cntF (i + 1) t else ((i : Int), a) :: cntF (i + 1) t)
    split
    · exact this
    · exact List.mem_cons_of_mem _ this
def zer1 : List Int → List Int
  | [] => []
  | c :: t => c :: t.map fun _ => 0
theorem zerF_all (ct : List Int) : zerF ct (cntF 0 ct) = zer1 ct := by
  apply List.ext_getElem?
  intro j
  by_cases hj : j < ct.length
  · rw [zerF_at _ _ _ hj]
    cases ct with
    | nil => simp at hj
    | cons c t =>
      cases j with
      | zero =>
        rw [if_neg]
        · rfl
        · rintro ⟨p, hp, e⟩
          obtain ⟨k, _, h2, h3⟩ := cntF_mem _ _ _ hp
          omega
      | succ j =>
        have hjt : j < t.length := by simpa using hj
        show _ = (t.map fun _ => (0 : Int))[j]?
        rw [List.getElem?_map, List.getElem?_eq_getElem hjt]
        by_cases hz : t[j] = 0
        · have e : (c :: t)[j + 1]? = some 0 := by rw [List.getElem?_cons_succ, List.getElem?_eq_getElem hjt, hz]
          rw [e]; split <;> rfl
        · rw [if_pos]
          · rfl
          · refine ⟨_, cntF_has (c :: t) 0 (j + 1) t[j] (by rw [List.getElem?_cons_succ, List.getElem?_eq_getElem hjt]) hz (by omega), ?_⟩
            show ((0 + (j + 1) : Nat) : Int).toNat = j + 1
            omega
  · rw [List.getElem?_eq_none (by rw [zerF_len]; omega), List.getElem?_eq_none]
    cases ct with
    | nil => exact Nat.zero_le _
    | cons c t => simp [zer1] at hj ⊢; omega
set_option maxHeartbeats 2000000 in
theorem stake_ct (L : List SP) (sb : Nat) (hd : List Bool) (ct : List Int) (hl : hd.length = 32) (hcl : ct.length = 32) : Ct Try.prog 56 #[.pointer (some ⟨sb, 0, none⟩)] (SigP sb hd ct :: L) (fun q_ : Option Addr × Nat => .slice q_.1 (cntF 0 ct).length q_.2) (fun q_ : Option Addr × Nat => own 153 2 q_.1 (cntF 0 ct).length q_.2 ((cntF 0 ct).flatMap encCn) :: SigP sb hd (zer1 ct) :: L) := by
  refine Ct.ofM (vs := [.pointer (some ⟨sb, 0, none⟩)]) Try.func56 rfl rfl [(0, .pointer (some ⟨sb, 0, none⟩))] (by repeat (first | exact trivial | refine ⟨rfl, ?_⟩)) ?_
  intro E
  show Hd E 28 _ _ _ _
  have hcle := cntF_le ct 0
  refine Hd.seq (fun K1 hK1 => ?_)
  refine Hd.region ?_
  refine Hd.yv (y_assign rfl) ?_
  refine Hd.nil ?_
  refine Hd.slots [(0, _)] ⟨rfl, trivial⟩ ?_
  refine Hd.toK hK1 ?_
  refine Hd.seq (fun K2 hK2 => ?_)
  refine Hd.region ?_
  refine Hd.alloc zr62 (fun b3 => ?_)
  refine Hd.nil ?_
  refine Hd.slots [(0, _), (3, _)] ⟨rfl, rfl, trivial⟩ ?_
  refine Hd.toK hK2 ?_
  refine Hd.seq (fun K3 hK3 => ?_)
  refine Hd.seq (fun K4 hK4 => ?_)
  refine Hd.region ?_
  refine Hd.yv (y_move rfl) ?_
  refine Hd.callE rfl fk84 (counts_ct _ sb) (Ent.sep enn) ?_
  intro bx
  refine Hd.nil ?_
  refine Hd.slots [(0, _), (3, _), (8, _)] ⟨rfl, rfl, rfl, trivial⟩ ?_
  refine Hd.toK hK4 ?_
  refine Hd.block ?_
  refine Hd.rangeF (enc := encCA) (S := fun ys => ys = cntF 0 ct) (Sp := fun ys => ys <+: cntF 0 ct)
    (fun pre => OutCn b3 pre :: L) (fun _ _ => [pu False])
    rfl (by kernel_rfl) (fun _ => rfl) rfl (counts_it bx sb hd ct hl hcl) (by refine Ent.sep ?_; refine Ent.ex (none, 0) ?_; refine Ent.eq pkk (pt_eq (by rfl)) ?_; refine Ent.ownNil ?_; exact Ent.swap (L := [_, _])) ?_ ?_ ?_
  ·
    intro E l' R pre c N hR hG
    have hpl : pre.length + 1 ≤ 32 := by have h1 := hG.length_le; simp at h1; omega
    unfold Rnd
    simp only [List.cons_append, List.nil_append, pz, encCA]
    refine Hd.region ?_
    refine Hd.alloc zr153 (fun b4 => ?_)
    refine Hd.storeA (us := encCn c) sz153 rfl rfl rfl (by simp [Value.oneCell']) pkk (by exact rfl) ?_
    refine Hd.nil ?_
    refine Hd.slots [(0, _), (3, _), (4, _)] ⟨rfl, rfl, rfl, trivial⟩ ?_
    refine Hd.thenN ?_
    refine Hd.begin hR pkk ?_
    refine Hd.block ?_
    refine Hd.exs pkk ?_
    rintro ⟨a3, c3⟩
    simp only [List.cons_append, List.nil_append]
    refine Hd.region ?_
    first | (refine Hd.yv (y_load1 ag62 rfl (Rd.pt1 pkk (by (first | rfl)))) ?_) | (refine Hd.yv (y_load1 ag62 rfl (Rd.seg1 pkk (by (first | rfl)))) ?_) | (refine Hd.yv (y_loadR1 ag62 rfl (by (first | exact RdS.own pkk)) (by (first | rfl))) ?_)
    refine Hd.yv (y_loadn (us := encCn c) ag153 rfl (Rd.pt pkk (fun j v e => by rw [Nat.zero_add]; exact e)) (by exact sz153)) ?_
    refine Hd.bslice (vs := [(0, _)]) rfl (by first | exact bs56_12 .. | kernel_rfl) (fun b12 => ?_)
    refine Hd.append Try.underlying62 ty153 rfl rfl rfl pkk (by first | exact RdS.rd (Rd.pt pkk (fun j v e => by simpa using e)) rfl | (first | exact RdS.own pkk)) (by first | (simp [Value.oneCell']; done) | assumption) (by first | (simp only [maxLen]; omega) | assumption) (by omega) (fun ad13 cap13 => ?_)
    first | (refine Hd.store1 sz62 rfl rfl rfl pkk (by first | (rw [sg_len hl (by rw [zerF_len]; exact hcl)]; omega) | decide | (simp; done) | (simp; omega)) ?_) | (refine Hd.storeG1 sz62 rfl rfl rfl pkk (by first | (rw [sg_len hl (by rw [zerF_len]; exact hcl)]; omega) | decide | (simp; done) | (simp; omega)) ?_) | (refine Hd.storeO1 sz62 rfl rfl rfl pkk (by first | (rw [sg_len hl (by rw [zerF_len]; exact hcl)]; omega) | omega | (simp; done) | (simp; omega)) ?_)
    try simp only [List.set_cons_zero, List.set_cons_succ]
    refine Hd.nil ?_
    refine Hd.slots [(0, _), (3, _)] ⟨rfl, rfl, trivial⟩ ?_
    refine Hd.inB ?_
    clear hK1 hK2 hK3 hK4
    refine Hd.reN ?_
    simp only [List.cons_append, List.nil_append]
    exact Ent.sep (.pick pkk (.ex (ad13, cap13) (.eq pkk (pt_eq (by simp)) (.eq pkk (own_eq (by simp) (by simp)) enn))))
  ·
    intro r0 ys hys
    obtain rfl : ys = cntF 0 ct := hys
    try simp only [List.cons_append, List.nil_append]
    refine Hd.inB ?_
    refine Hd.toK hK3 ?_
    refine Hd.seq (fun K5 hK5 => ?_)
    refine Hd.seq (fun K6 hK6 => ?_)
    refine Hd.exs pkk ?_
    rintro ⟨a3, c3⟩
    simp only [List.cons_append, List.nil_append]
    refine Hd.region ?_
    first | (refine Hd.yv (y_load1 ag62 rfl (Rd.pt1 pkk (by (first | rfl)))) ?_) | (refine Hd.yv (y_load1 ag62 rfl (Rd.seg1 pkk (by (first | rfl)))) ?_) | (refine Hd.yv (y_loadR1 ag62 rfl (by (first | exact RdS.own pkk)) (by (first | rfl))) ?_)
    refine Hd.yv (y_len Try.underlying62 rfl) ?_
    refine Hd.yv (y_move rfl) ?_
    refine Hd.nil ?_
    refine Hd.slots [(0, _), (3, _), (14, _), (15, _), (16, _)] ⟨rfl, rfl, rfl, rfl, rfl, trivial⟩ ?_
    refine Hd.toK hK6 ?_
    refine Hd.block ?_
    refine Hd.loopK (ι := Nat) [(0, _), (3, _), (14, _), (15, _)] (fun j => [(16, .int .i64 (j : Int))]) (fun j => pu (j ≤ (cntF 0 ct).length) :: ob r0 (Obj.deferred (some [])) :: pt b3 [.slice a3 (cntF 0 ct).length c3] 62 :: own 153 2 a3 (cntF 0 ct).length c3 ((cntF 0 ct).flatMap encCn) :: SigP sb hd (zerF ct ((cntF 0 ct).take j)) :: L) (fun j => (cntF 0 ct).length - j) 0 (by repeat (first | exact trivial | refine ⟨rfl, ?_⟩)) (by repeat (first | exact trivial | refine ⟨rfl, ?_⟩)) (Ent.sep (.pure (Nat.zero_le _) (.pick pkk (.pick pkk (.pick pkk (.eq pkk (show SigP sb hd ct = SigP sb hd (zerF ct ((cntF 0 ct).take 0)) from rfl) enn)))))) ?_
    intro j
    try dsimp only
    refine Hd.pure (fun hp0 => ?_)
    try dsimp only at hp0
    refine Hd.seq (fun K7 hK7 => ?_)
    refine Hd.region ?_
    refine Hd.yv (y_lss rfl rfl) ?_
    refine Hd.nil ?_
    refine Hd.slots [(0, _), (3, _), (14, _), (15, _), (16, _), (17, _)] ⟨rfl, rfl, rfl, rfl, rfl, rfl, trivial⟩ ?_
    refine Hd.toK hK7 ?_
    refine Hd.seq (fun K8 hK8 => ?_)
    refine Hd.cond rfl (fun hc0 => ?_) (fun hc0 => ?_)
    ·
      try simp only [decide_eq_true_eq, decide_eq_false_iff_not, Bool.and_eq_true, Bool.or_eq_true, Bool.and_eq_false_iff, Bool.or_eq_false_iff, Bool.not_eq_true', Bool.not_eq_false', Bool.not_eq_true, Bool.not_eq_false, Int.not_lt, Int.not_le, Decidable.not_not, ne_eq] at hc0
      have hj : j < (cntF 0 ct).length := by omega
      have hgj : (cntF 0 ct)[j]? = some (cntF 0 ct)[j] := List.getElem?_eq_getElem hj
      obtain ⟨s, hs1, hs2, hs3⟩ := cntF_mem ct 0 _ (List.getElem_mem hj)
      have hsl : s < 32 := by rw [← hcl]; exact (List.getElem?_eq_some_iff.1 hs1).1
      have hsc : (cntF 0 ct).take (j + 1) = (cntF 0 ct).take j ++ [(cntF 0 ct)[j]] := by rw [List.take_add_one, hgj]; rfl
      rw [Nat.zero_add] at hs2
      refine Hd.skip ?_
      refine Hd.toK hK8 ?_
      refine Hd.seq (fun K9 hK9 => ?_)
      refine Hd.block ?_
      refine Hd.seq (fun K10 hK10 => ?_)
      refine Hd.region ?_
      first | (refine Hd.yv (y_idxS Try.underlying62 sz153 rfl rfl (by first | omega | decide)) ?_) | (refine Hd.yv (y_idxR Try.underlying62 sz153 rfl rfl (by first | omega | decide) (by (first | exact RdS.own pkk))) ?_)
      refine Hd.yv (y_loadRn (vs := encCn (cntF 0 ct)[j]) ag153 rfl (RdS.own (ad := a3) (us := (cntF 0 ct).flatMap encCn) pkk) (flat_cells encCn 2 (fun _ => rfl) hgj) (by exact sz153) (by simp)) ?_
      refine Hd.alloc zr153 (fun b6 => ?_)
      refine Hd.storeA (us := encCn (cntF 0 ct)[j]) sz153 rfl rfl rfl (by simp [Value.oneCell']) pkk (by exact rfl) ?_
      refine Hd.nil ?_
      refine Hd.slots [(0, _), (3, _), (6, _), (14, _), (15, _), (16, _)] ⟨rfl, rfl, rfl, rfl, rfl, rfl, trivial⟩ ?_
      refine Hd.toK hK10 ?_
      refine Hd.tail 6 mixed (by kernel_rfl) ?_
      simp only [List.take, List.drop]
      refine Ht.yv (y_move rfl) ?_
      first | (refine Ht.yv (y_field' (q := 0) (ft := 3) Try.underlying153 rfl sz3 rfl rfl) ?_) | (refine Ht.yv (y_fieldR (q := 0) (ft := 3) Try.underlying153 rfl sz3 rfl rfl) ?_)
      first | (refine Ht.yv (y_to (v' := .int .i64 (s : Int)) (y_load1 ag3 rfl (Rd.pt1 pkk (by (first | rfl)))) (by rw [hs2])) ?_) | (refine Ht.yv (y_to (v' := .int .i64 (s : Int)) (y_load1 ag3 rfl (Rd.seg1 pkk (by (first | rfl)))) (by rw [hs2])) ?_) | (refine Ht.yv (y_to (v' := .int .i64 (s : Int)) (y_loadR1 ag3 rfl (by (first | exact RdS.own pkk)) (by (first | rfl))) (by rw [hs2])) ?_)
      refine Ht.yv (y_nilp rfl) ?_
      first | (refine Ht.yv (y_field' (q := 32) (ft := 129) Try.underlying131 rfl sz129 rfl rfl) ?_) | (refine Ht.yv (y_fieldR (q := 32) (ft := 129) Try.underlying131 rfl sz129 rfl rfl) ?_)
      first | (refine Ht.yv (y_idxA Try.underlying129 sz3 rfl rfl (by first | omega | decide)) ?_) | (refine Ht.yv (y_idxAR Try.underlying129 sz3 rfl rfl (by first | omega | decide)) ?_)
      refine Ht.nil ?_
      first | (refine Hd.store1 sz3 rfl rfl rfl pkk (by first | (rw [sg_len hl (by rw [zerF_len]; exact hcl)]; omega) | decide | (simp; done) | (simp; omega)) ?_) | (refine Hd.storeG1 sz3 rfl rfl rfl pkk (by first | (rw [sg_len hl (by rw [zerF_len]; exact hcl)]; omega) | decide | (simp; done) | (simp; omega)) ?_) | (refine Hd.storeO1 sz3 rfl rfl rfl pkk (by first | (rw [sg_len hl (by rw [zerF_len]; exact hcl)]; omega) | omega | (simp; done) | (simp; omega)) ?_)
      try simp only [List.set_cons_zero, List.set_cons_succ]
      refine Hd.nil ?_
      rw [show (hd.map Value.bool ++ (zerF ct ((cntF 0 ct).take j)).map (Value.int .i64)).set (0 + 32 + s * 1) (.int .i64 0) = SgV hd (zerF ct ((cntF 0 ct).take (j + 1))) from by
        rw [hsc, zerF_snoc, show (cntF 0 ct)[j].1.toNat = s by rw [hs2]; exact Int.toNat_natCast s]
        exact sg_set_ct hl hsl (by omega)]
      refine Hd.slots [(0, _), (3, _), (14, _), (15, _), (16, _)] ⟨rfl, rfl, rfl, rfl, rfl, trivial⟩ ?_
      refine Hd.inB ?_
      refine Hd.toK hK9 ?_
      refine Hd.region ?_
      first | (refine Hd.yv (y_addn rfl rfl (by simp only [InK]; omega)) ?_) | (refine Hd.yv (y_add rfl rfl) ?_)
      refine Hd.yv (y_move rfl) ?_
      refine Hd.nil ?_
      refine Hd.slots [(0, _), (3, _), (14, _), (15, _), (16, _)] ⟨rfl, rfl, rfl, rfl, rfl, trivial⟩ ?_
      clear hK1 hK2 hK3 hK4 hK5 hK6 hK7 hK8 hK9 hK10
      refine Hd.thenN ?_
      exact Hd.again (j + 1) (by first | omega | (simp only; omega) | (simp; omega)) (by repeat (first | exact trivial | refine ⟨rfl, ?_⟩)) (Ent.sep (.pure (by first | omega | (simp; done) | (simp; omega) | (dsimp only; omega)) enn))
    ·
      try simp only [decide_eq_true_eq, decide_eq_false_iff_not, Bool.and_eq_true, Bool.or_eq_true, Bool.and_eq_false_iff, Bool.or_eq_false_iff, Bool.not_eq_true', Bool.not_eq_false', Bool.not_eq_true, Bool.not_eq_false, Int.not_lt, Int.not_le, Decidable.not_not, ne_eq] at hc0
      obtain rfl : j = (cntF 0 ct).length := by omega
      rw [List.take_length, zerF_all]
      refine Hd.exit ?_
      refine Hd.thenExit ?_
      refine Hd.thenExit ?_
      refine Hd.inBexit ?_
      refine Hd.toK hK5 ?_
      refine Hd.seq (fun K11 hK11 => ?_)
      refine Hd.region ?_
      first | (refine Hd.yv (y_load1 ag62 rfl (Rd.pt1 pkk (by (first | rfl)))) ?_) | (refine Hd.yv (y_load1 ag62 rfl (Rd.seg1 pkk (by (first | rfl)))) ?_) | (refine Hd.yv (y_loadR1 ag62 rfl (by (first | exact RdS.own pkk)) (by (first | rfl))) ?_)
      refine Hd.yv (y_assign rfl) ?_
      refine Hd.nil ?_
      refine Hd.slots [(2, _)] ⟨rfl, trivial⟩ ?_
      refine Hd.toK hK11 ?_
      refine Hd.ret ?_
      clear hK1 hK2 hK3 hK4 hK5 hK6 hK7 hK8 hK11
      exact Hd.retM (fun a fr => Lv.mark pkk (Lv.end1 fr rfl (a3, c3) rfl (Ent.sep enn)))
  ·
    rintro r0_0 (_ | id0) pre0 hG0
    ·
      exact Hd.absurd (by first | exact id | simp)
    ·
      exact Hd.absurd (by first | exact id | simp)
theorem plc_o {o : Option (Nat × Nat)} : plc o = [.bool o.isSome, .int .i64 (match o with | none => 0 | some p => (p.1 : Int)), .int .i64 (match o with | none => 0 | some p => (p.2 : Int))] := by
  cases o with
  | none => rfl
  | some p => rfl
theorem woT_nt {t : Int → Option (Nat × Nat)} {w : WA} {n j o : Nat} {i : WoI} {v : Value} (ho : o = 291 + j) (hv : (plc w.nt)[j]? = some v) : (fdC t ++ woT w n i)[o]? = some v := by
  refine woT_at (j := 3 + j) (by omega) ?_
  show ([.slice i.wa n i.wc, ptr (some i.sb), .int .u64 w.now] ++ plc w.nt)[3 + j]? = _
  rw [List.getElem?_append_right (by simp), show 3 + j - List.length ([.slice i.wa n i.wc, ptr (some i.sb), .int .u64 w.now] : List Value) = j by simp]
  exact hv
theorem wire_ring_same {b : Nat} {x : WireA} {i : WI} {k rb : Nat} {L : List SP} (hi : WIOk x i) (hk : k < 2) (hrb : i.p k = some rb) : ∀ h, sep (WireH b x i :: Rg rb x.cap (x.e k).b :: RgO (i.p (1 - k)) x.cap (x.e (1 - k)).b :: own 3 1 i.wa x.wt.length i.wc (nats x.wt) :: L) h → sep (WireP b x :: L) h := fun h s => by
  have := wire_ring (l' := (x.e k).b) hi hk hrb h s
  rwa [show (x.up k fun e => { e with b := (x.e k).b }) = x from up_id rfl] at this
set_option maxHeartbeats 2000000 in
theorem noticed_ct (L : List SP) (wb : Nat) (w : WA) (hb : ∀ c ∈ w.ct, 0 ≤ c ∧ c ≤ 2000000000) : Ct Try.prog 54 #[.pointer (some ⟨wb, 0, none⟩)] (WorldP wb w :: L) (fun _ : Unit => .tuple #[]) (fun _ : Unit => WorldP wb (ntcR w) :: L) := by
  refine Ct.of (vs := [.pointer (some ⟨wb, 0, none⟩)]) Try.func54 rfl rfl [(0, .pointer (some ⟨wb, 0, none⟩))] (by repeat (first | exact trivial | refine ⟨rfl, ?_⟩)) ?_
  intro E
  show Hd E 57 _ _ _ _
  refine Hd.world .here (fun i hw hrs => ?_)
  refine Hd.seq (fun K1 hK1 => ?_)
  refine Hd.seq (fun K2 hK2 => ?_)
  refine Hd.region ?_
  refine Hd.yv (y_move rfl) ?_
  refine Hd.yv (y_nilp rfl) ?_
  first | (refine Hd.yv (y_field' (q := 291) (ft := 75) Try.underlying80 rfl sz75 rfl rfl) ?_) | (refine Hd.yv (y_fieldR (q := 291) (ft := 75) Try.underlying80 rfl sz75 rfl rfl) ?_)
  first | (refine Hd.yv (y_field' (q := 0) (ft := 4) Try.underlying75 rfl sz4 rfl rfl) ?_) | (refine Hd.yv (y_fieldR (q := 0) (ft := 4) Try.underlying75 rfl sz4 rfl rfl) ?_)
  refine Hd.yv (y_load1 (v := .bool w.nt.isSome) ag4 rfl (Rd.pt1 pkk (woT_nt (j := 0) (by omega) (by rw [plc_o]; rfl)))) ?_
  refine Hd.yv (y_not rfl) ?_
  refine Hd.nil ?_
  refine Hd.slots [(0, _), (10, _)] ⟨rfl, rfl, trivial⟩ ?_
  refine Hd.toK hK2 ?_
  refine Hd.cond rfl (fun hc0 => ?_) (fun hc0 => ?_)
  ·
    try simp only [decide_eq_true_eq, decide_eq_false_iff_not, Bool.and_eq_true, Bool.or_eq_true, Bool.and_eq_false_iff, Bool.or_eq_false_iff, Bool.not_eq_true', Bool.not_eq_false', Bool.not_eq_true, Bool.not_eq_false, Int.not_lt, Int.not_le, Decidable.not_not, ne_eq] at hc0
    refine Hd.ret ?_
    refine Hd.thenRet ?_
    clear hK1 hK2
    have hn : w.nt = none := by cases h : w.nt with | none => rfl | some p => rw [h] at hc0; cases hc0
    rw [show ntcR w = w by unfold ntcR; rw [hn]]
    exact Hd.ret0 rfl () rfl (Ent.sep (.ex i (.pure ⟨hw, hrs⟩ enn)))
  ·
    try simp only [decide_eq_true_eq, decide_eq_false_iff_not, Bool.and_eq_true, Bool.or_eq_true, Bool.and_eq_false_iff, Bool.or_eq_false_iff, Bool.not_eq_true', Bool.not_eq_false', Bool.not_eq_true, Bool.not_eq_false, Int.not_lt, Int.not_le, Decidable.not_not, ne_eq] at hc0
    obtain ⟨n, k, hnt⟩ : ∃ n k, w.nt = some (n, k) := by cases h : w.nt with | none => rw [h] at hc0; cases hc0 | some p => exact ⟨p.1, p.2, rfl⟩
    obtain ⟨hk, x, hx, z0, z1⟩ := hw.nt n k hnt
    obtain ⟨b, hb'⟩ := rs_at hrs hx
    have hwf := hw.wf x (List.mem_of_getElem? hx)
    have hnl : n < i.rs.length := (List.getElem?_eq_some_iff.1 hb').1
    have hk1 : 1 - k < 2 := by omega
    have hrd : ∀ j, j < 2 → (x.e j).rd = true := fun j hj => by
      rcases (show j = 0 ∨ j = 1 by omega) with rfl | rfl
      · exact z0
      · exact z1
    have hsum : (w.ct.drop 1).sum = pendN w := rfl
    have hR : ntcR w = if pendN w = 0 then w.setW n (takeW x k (x.e k).b.length) else if (x.e k).b = [] then w.setW n (putW x (1 - k) [1]) else w := by
      unfold ntcR; rw [hnt]; dsimp only; rw [hx]
    refine Hd.skip ?_
    refine Hd.toK hK1 ?_
    refine Hd.seq (fun K3 hK3 => ?_)
    refine Hd.quiet mixed (by kernel_rfl) ?_
    refine Hq.yv (y_move rfl) ?_
    refine Hq.yv (y_nilp rfl) ?_
    first | (refine Hq.yv (y_field' (q := 288) (ft := 77) Try.underlying80 rfl sz77 rfl rfl) ?_) | (refine Hq.yv (y_fieldR (q := 288) (ft := 77) Try.underlying80 rfl sz77 rfl rfl) ?_)
    first | (refine Hq.yv (y_load1 ag77 rfl (Rd.pt1 pkk (by (first | exact woT_at (j := 0) (by omega) rfl | exact woT_at (j := 1) (by omega) rfl | exact woT_nt (j := 1) (by omega) (by rw [hnt]; rfl) | exact woT_nt (j := 2) (by omega) (by rw [hnt]; rfl) | exact pws_at hb' | exact enc_at 2 hk (by omega) (by omega) rfl | rfl)))) ?_) | (refine Hq.yv (y_load1 ag77 rfl (Rd.seg1 pkk (by (first | exact woT_at (j := 0) (by omega) rfl | exact woT_at (j := 1) (by omega) rfl | exact woT_nt (j := 1) (by omega) (by rw [hnt]; rfl) | exact woT_nt (j := 2) (by omega) (by rw [hnt]; rfl) | exact pws_at hb' | exact enc_at 2 hk (by omega) (by omega) rfl | rfl)))) ?_) | (refine Hq.yv (y_loadR1 ag77 rfl (by (first | exact RdS.own pkk)) (by (first | exact woT_at (j := 0) (by omega) rfl | exact woT_at (j := 1) (by omega) rfl | exact woT_nt (j := 1) (by omega) (by rw [hnt]; rfl) | exact woT_nt (j := 2) (by omega) (by rw [hnt]; rfl) | exact pws_at hb' | exact enc_at 2 hk (by omega) (by omega) rfl | rfl))) ?_)
    refine Hq.yv (y_move rfl) ?_
    refine Hq.yv (y_nilp rfl) ?_
    first | (refine Hq.yv (y_field' (q := 291) (ft := 75) Try.underlying80 rfl sz75 rfl rfl) ?_) | (refine Hq.yv (y_fieldR (q := 291) (ft := 75) Try.underlying80 rfl sz75 rfl rfl) ?_)
    first | (refine Hq.yv (y_field' (q := 1) (ft := 3) Try.underlying75 rfl sz3 rfl rfl) ?_) | (refine Hq.yv (y_fieldR (q := 1) (ft := 3) Try.underlying75 rfl sz3 rfl rfl) ?_)
    first | (refine Hq.yv (y_load1 ag3 rfl (Rd.pt1 pkk (by (first | exact woT_at (j := 0) (by omega) rfl | exact woT_at (j := 1) (by omega) rfl | exact woT_nt (j := 1) (by omega) (by rw [hnt]; rfl) | exact woT_nt (j := 2) (by omega) (by rw [hnt]; rfl) | exact pws_at hb' | exact enc_at 2 hk (by omega) (by omega) rfl | rfl)))) ?_) | (refine Hq.yv (y_load1 ag3 rfl (Rd.seg1 pkk (by (first | exact woT_at (j := 0) (by omega) rfl | exact woT_at (j := 1) (by omega) rfl | exact woT_nt (j := 1) (by omega) (by rw [hnt]; rfl) | exact woT_nt (j := 2) (by omega) (by rw [hnt]; rfl) | exact pws_at hb' | exact enc_at 2 hk (by omega) (by omega) rfl | rfl)))) ?_) | (refine Hq.yv (y_loadR1 ag3 rfl (by (first | exact RdS.own pkk)) (by (first | exact woT_at (j := 0) (by omega) rfl | exact woT_at (j := 1) (by omega) rfl | exact woT_nt (j := 1) (by omega) (by rw [hnt]; rfl) | exact woT_nt (j := 2) (by omega) (by rw [hnt]; rfl) | exact pws_at hb' | exact enc_at 2 hk (by omega) (by omega) rfl | rfl))) ?_)
    first | (refine Hq.yv (y_idxS Try.underlying77 sz81 rfl rfl (by first | omega | decide)) ?_) | (refine Hq.yv (y_idxR Try.underlying77 sz81 rfl rfl (by first | omega | decide) (by (first | exact RdS.own pkk))) ?_)
    first | (refine Hq.yv (y_load1 ag81 rfl (Rd.pt1 pkk (by (first | exact woT_at (j := 0) (by omega) rfl | exact woT_at (j := 1) (by omega) rfl | exact woT_nt (j := 1) (by omega) (by rw [hnt]; rfl) | exact woT_nt (j := 2) (by omega) (by rw [hnt]; rfl) | exact pws_at hb' | exact enc_at 2 hk (by omega) (by omega) rfl | rfl)))) ?_) | (refine Hq.yv (y_load1 ag81 rfl (Rd.seg1 pkk (by (first | exact woT_at (j := 0) (by omega) rfl | exact woT_at (j := 1) (by omega) rfl | exact woT_nt (j := 1) (by omega) (by rw [hnt]; rfl) | exact woT_nt (j := 2) (by omega) (by rw [hnt]; rfl) | exact pws_at hb' | exact enc_at 2 hk (by omega) (by omega) rfl | rfl)))) ?_) | (refine Hq.yv (y_loadR1 ag81 rfl (by (first | exact RdS.own pkk)) (by (first | exact woT_at (j := 0) (by omega) rfl | exact woT_at (j := 1) (by omega) rfl | exact woT_nt (j := 1) (by omega) (by rw [hnt]; rfl) | exact woT_nt (j := 2) (by omega) (by rw [hnt]; rfl) | exact pws_at hb' | exact enc_at 2 hk (by omega) (by omega) rfl | rfl))) ?_)
    refine Hq.yv (y_move rfl) ?_
    refine Hq.yv (y_nilp rfl) ?_
    first | (refine Hq.yv (y_field' (q := 291) (ft := 75) Try.underlying80 rfl sz75 rfl rfl) ?_) | (refine Hq.yv (y_fieldR (q := 291) (ft := 75) Try.underlying80 rfl sz75 rfl rfl) ?_)
    first | (refine Hq.yv (y_field' (q := 2) (ft := 3) Try.underlying75 rfl sz3 rfl rfl) ?_) | (refine Hq.yv (y_fieldR (q := 2) (ft := 3) Try.underlying75 rfl sz3 rfl rfl) ?_)
    first | (refine Hq.yv (y_load1 ag3 rfl (Rd.pt1 pkk (by (first | exact woT_at (j := 0) (by omega) rfl | exact woT_at (j := 1) (by omega) rfl | exact woT_nt (j := 1) (by omega) (by rw [hnt]; rfl) | exact woT_nt (j := 2) (by omega) (by rw [hnt]; rfl) | exact pws_at hb' | exact enc_at 2 hk (by omega) (by omega) rfl | rfl)))) ?_) | (refine Hq.yv (y_load1 ag3 rfl (Rd.seg1 pkk (by (first | exact woT_at (j := 0) (by omega) rfl | exact woT_at (j := 1) (by omega) rfl | exact woT_nt (j := 1) (by omega) (by rw [hnt]; rfl) | exact woT_nt (j := 2) (by omega) (by rw [hnt]; rfl) | exact pws_at hb' | exact enc_at 2 hk (by omega) (by omega) rfl | rfl)))) ?_) | (refine Hq.yv (y_loadR1 ag3 rfl (by (first | exact RdS.own pkk)) (by (first | exact woT_at (j := 0) (by omega) rfl | exact woT_at (j := 1) (by omega) rfl | exact woT_nt (j := 1) (by omega) (by rw [hnt]; rfl) | exact woT_nt (j := 2) (by omega) (by rw [hnt]; rfl) | exact pws_at hb' | exact enc_at 2 hk (by omega) (by omega) rfl | rfl))) ?_)
    refine Hq.yv (y_assign rfl) ?_
    refine Hq.yv (y_assign rfl) ?_
    refine Hq.nil ?_
    refine Hd.slots [(0, _), (2, _), (3, _)] ⟨rfl, rfl, rfl, trivial⟩ ?_
    refine Hd.toK hK3 ?_
    refine Hd.seq (fun K4 hK4 => ?_)
    refine Hd.wOut pkk hb' ?_
    refine Hd.wireR .here k hk (hrd k hk) (fun i2 rb hi hrb => ?_)
    refine Hd.region ?_
    refine Hd.yv (y_move rfl) ?_
    refine Hd.yv (y_move rfl) ?_
    refine Hd.yv (y_nilp rfl) ?_
    first | (refine Hd.yv (y_field' (q := 0) (ft := 86) Try.underlying88 rfl sz86 rfl rfl) ?_) | (refine Hd.yv (y_fieldR (q := 0) (ft := 86) Try.underlying88 rfl sz86 rfl rfl) ?_)
    first | (refine Hd.yv (y_idxA Try.underlying86 sz85 rfl rfl (by first | omega | decide)) ?_) | (refine Hd.yv (y_idxAR Try.underlying86 sz85 rfl rfl (by first | omega | decide)) ?_)
    first | (refine Hd.yv (y_field' (q := 2) (ft := 83) Try.underlying85 rfl sz83 rfl rfl) ?_) | (refine Hd.yv (y_fieldR (q := 2) (ft := 83) Try.underlying85 rfl sz83 rfl rfl) ?_)
    first | (refine Hd.yv (y_to (v' := .pointer (some ⟨rb, 0, none⟩)) (y_load1 ag83 rfl (Rd.pt1 pkk (by (first | exact woT_at (j := 0) (by omega) rfl | exact woT_at (j := 1) (by omega) rfl | exact woT_nt (j := 1) (by omega) (by rw [hnt]; rfl) | exact woT_nt (j := 2) (by omega) (by rw [hnt]; rfl) | exact pws_at hb' | exact enc_at 2 hk (by omega) (by omega) rfl | rfl)))) (by (show ptr (i2.p k) = _; rw [hrb]; rfl))) ?_) | (refine Hd.yv (y_to (v' := .pointer (some ⟨rb, 0, none⟩)) (y_load1 ag83 rfl (Rd.seg1 pkk (by (first | exact woT_at (j := 0) (by omega) rfl | exact woT_at (j := 1) (by omega) rfl | exact woT_nt (j := 1) (by omega) (by rw [hnt]; rfl) | exact woT_nt (j := 2) (by omega) (by rw [hnt]; rfl) | exact pws_at hb' | exact enc_at 2 hk (by omega) (by omega) rfl | rfl)))) (by (show ptr (i2.p k) = _; rw [hrb]; rfl))) ?_) | (refine Hd.yv (y_to (v' := .pointer (some ⟨rb, 0, none⟩)) (y_loadR1 ag83 rfl (by (first | exact RdS.own pkk)) (by (first | exact woT_at (j := 0) (by omega) rfl | exact woT_at (j := 1) (by omega) rfl | exact woT_nt (j := 1) (by omega) (by rw [hnt]; rfl) | exact woT_nt (j := 2) (by omega) (by rw [hnt]; rfl) | exact pws_at hb' | exact enc_at 2 hk (by omega) (by omega) rfl | rfl))) (by (show ptr (i2.p k) = _; rw [hrb]; rfl))) ?_)
    refine Hd.yv (y_assign rfl) ?_
    refine Hd.nil ?_
    refine Hd.slots [(0, _), (2, _), (3, _), (4, _)] ⟨rfl, rfl, rfl, rfl, trivial⟩ ?_
    refine Hd.toK hK4 ?_
    refine Hd.block ?_
    refine Hd.seq (fun K5 hK5 => ?_)
    refine Hd.region ?_
    refine Hd.yv (y_move rfl) ?_
    refine Hd.yv (y_nilp rfl) ?_
    first | (refine Hd.yv (y_field' (q := 289) (ft := 72) Try.underlying80 rfl sz72 rfl rfl) ?_) | (refine Hd.yv (y_fieldR (q := 289) (ft := 72) Try.underlying80 rfl sz72 rfl rfl) ?_)
    first | (refine Hd.yv (y_load1 ag72 rfl (Rd.pt1 pkk (by (first | exact woT_at (j := 0) (by omega) rfl | exact woT_at (j := 1) (by omega) rfl | exact woT_nt (j := 1) (by omega) (by rw [hnt]; rfl) | exact woT_nt (j := 2) (by omega) (by rw [hnt]; rfl) | exact pws_at hb' | exact enc_at 2 hk (by omega) (by omega) rfl | rfl)))) ?_) | (refine Hd.yv (y_load1 ag72 rfl (Rd.seg1 pkk (by (first | exact woT_at (j := 0) (by omega) rfl | exact woT_at (j := 1) (by omega) rfl | exact woT_nt (j := 1) (by omega) (by rw [hnt]; rfl) | exact woT_nt (j := 2) (by omega) (by rw [hnt]; rfl) | exact pws_at hb' | exact enc_at 2 hk (by omega) (by omega) rfl | rfl)))) ?_) | (refine Hd.yv (y_loadR1 ag72 rfl (by (first | exact RdS.own pkk)) (by (first | exact woT_at (j := 0) (by omega) rfl | exact woT_at (j := 1) (by omega) rfl | exact woT_nt (j := 1) (by omega) (by rw [hnt]; rfl) | exact woT_nt (j := 2) (by omega) (by rw [hnt]; rfl) | exact pws_at hb' | exact enc_at 2 hk (by omega) (by omega) rfl | rfl))) ?_)
    refine Hd.callE rfl fk82 (pending_ct _ i.sb w.hd w.ct hw.hdl hw.ctl hb) (Ent.sep enn) ?_
    intro _
    first | (refine Hd.yv (y_eqlT rfl rfl) ?_) | (refine Hd.yv (y_eql rfl rfl) ?_)
    refine Hd.yv (y_assign rfl) ?_
    refine Hd.nil ?_
    refine Hd.slots [(2, _), (3, _), (4, _), (34, _)] ⟨rfl, rfl, rfl, rfl, trivial⟩ ?_
    refine Hd.toK hK5 ?_
    refine Hd.cond rfl (fun hc1 => ?_) (fun hc1 => ?_)
    ·
      try simp only [decide_eq_true_eq, decide_eq_false_iff_not, Bool.and_eq_true, Bool.or_eq_true, Bool.and_eq_false_iff, Bool.or_eq_false_iff, Bool.not_eq_true', Bool.not_eq_false', Bool.not_eq_true, Bool.not_eq_false, Int.not_lt, Int.not_le, Decidable.not_not, ne_eq] at hc1
      rw [if_pos (show pendN w = 0 from hc1)] at hR
      refine Hd.region ?_
      refine Hd.yv (y_move rfl) ?_
      refine Hd.yv (y_move rfl) ?_
      first | (refine Hd.yv (y_to (v' := .int .i64 ((1 - k : Nat) : Int)) (y_subn rfl rfl (by simp only [InK]; omega)) (by (congr 1; omega))) ?_) | (refine Hd.yv (y_to (v' := .int .i64 ((1 - k : Nat) : Int)) (y_sub rfl rfl) (by (congr 1; omega))) ?_)
      refine Hd.yv (y_move rfl) ?_
      refine Hd.callE rfl fk83 (rclear_ct _ rb x.cap (x.e k).b) (Ent.sep enn) ?_
      intro _
      refine Hd.heap (WireP b (x.up k fun e => { e with b := [] }) :: WoR wb n w i L) (fun q s => wire_ring (l' := []) hi hk hrb q (Ent.sep enn q s)) ?_
      refine Hd.yv (y_to (v' := .bool (decide (0 < ((x.e k).b.take (x.e k).b.length).length))) (y_gtr rfl rfl) (by (congr 1; rw [List.take_length]; simp only [decide_eq_decide]; omega))) ?_
      refine Hd.callE rfl fk76 (came_ct _ b (x.up k fun e => { e with b := [] }) (1 - k) hk1 false (decide (0 < ((x.e k).b.take (x.e k).b.length).length))) (Ent.sep enn) ?_
      intro _
      refine Hd.nil ?_
      refine Hd.slots [] trivial ?_
      refine Hd.inB ?_
      clear hK1 hK2 hK3 hK4 hK5
      have e : (x.up k fun e => { e with b := [] }).up (1 - k) (riseE false (decide (0 < ((x.e k).b.take (x.e k).b.length).length))) = takeW x k (x.e k).b.length := by
        unfold takeW
        congr 1
        exact up_eq (by rw [List.drop_length])
      rw [hR, e]
      exact Hd.end0 rfl () rfl (fun q s => world_fold' hw hrs hb' (smW_take hwf hk (hrd k hk)) q (Ent.sep enn q s))
    ·
      try simp only [decide_eq_true_eq, decide_eq_false_iff_not, Bool.and_eq_true, Bool.or_eq_true, Bool.and_eq_false_iff, Bool.or_eq_false_iff, Bool.not_eq_true', Bool.not_eq_false', Bool.not_eq_true, Bool.not_eq_false, Int.not_lt, Int.not_le, Decidable.not_not, ne_eq] at hc1
      rw [if_neg (show ¬ pendN w = 0 from hc1)] at hR
      refine Hd.seq (fun K6 hK6 => ?_)
      refine Hd.region ?_
      refine Hd.yv (y_move rfl) ?_
      refine Hd.callE rfl fk68 (rlen_ct _ rb x.cap (x.e k).b) (Ent.sep enn) ?_
      intro _
      first | (refine Hd.yv (y_eqlT rfl rfl) ?_) | (refine Hd.yv (y_eql rfl rfl) ?_)
      refine Hd.yv (y_assign rfl) ?_
      refine Hd.nil ?_
      refine Hd.slots [(2, _), (3, _), (48, _)] ⟨rfl, rfl, rfl, trivial⟩ ?_
      refine Hd.toK hK6 ?_
      refine Hd.cond rfl (fun hc2 => ?_) (fun hc2 => ?_)
      ·
        try simp only [decide_eq_true_eq, decide_eq_false_iff_not, Bool.and_eq_true, Bool.or_eq_true, Bool.and_eq_false_iff, Bool.or_eq_false_iff, Bool.not_eq_true', Bool.not_eq_false', Bool.not_eq_true, Bool.not_eq_false, Int.not_lt, Int.not_le, Decidable.not_not, ne_eq] at hc2
        have hnil : (x.e k).b = [] := List.eq_nil_of_length_eq_zero (by omega)
        rw [if_pos hnil] at hR
        refine Hd.region ?_
        refine Hd.yv (y_move rfl) ?_
        refine Hd.yv (y_move rfl) ?_
        first | (refine Hd.yv (y_to (v' := .int .i64 ((1 - k : Nat) : Int)) (y_subn rfl rfl (by simp only [InK]; omega)) (by (congr 1; omega))) ?_) | (refine Hd.yv (y_to (v' := .int .i64 ((1 - k : Nat) : Int)) (y_sub rfl rfl) (by (congr 1; omega))) ?_)
        refine Hd.bslice (vs := [(0, _)]) rfl (by first | exact bs54_55 .. | kernel_rfl) (fun b55 => ?_)
        refine Hd.heap (WireP b x :: pt b55 [.int .u8 1] 5 :: WoR wb n w i L) (fun q s => wire_ring_same hi hk hrb q (Ent.sep enn q s)) ?_
        refine Hd.callE rfl fk43 (put_ct _ b x (1 - k) hk1 (hrd (1 - (1 - k)) (by omega)) (some ⟨b55, 0, none⟩) 1 1 [1] rfl ?hD (by omega) (by omega)) (Ent.sep enn) ?_
        case hD => exact RdS.rd (Rd.pt pkk (fun j v e => by rw [Nat.zero_add]; exact e)) rfl
        intro _
        refine Hd.nil ?_
        refine Hd.slots [] trivial ?_
        refine Hd.inB ?_
        clear hK1 hK2 hK3 hK4 hK5 hK6
        rw [hR]
        exact Hd.end0 rfl () rfl (fun q s => world_fold' hw hrs hb' (smW_put hwf hk1 [1] (hrd (1 - (1 - k)) (by omega))) q (Ent.sep enn q s))
      ·
        try simp only [decide_eq_true_eq, decide_eq_false_iff_not, Bool.and_eq_true, Bool.or_eq_true, Bool.and_eq_false_iff, Bool.or_eq_false_iff, Bool.not_eq_true', Bool.not_eq_false', Bool.not_eq_true, Bool.not_eq_false, Int.not_lt, Int.not_le, Decidable.not_not, ne_eq] at hc2
        rw [if_neg (fun h => hc2 (by rw [h]; rfl))] at hR
        refine Hd.skip ?_
        refine Hd.inB ?_
        clear hK1 hK2 hK3 hK4 hK5 hK6
        rw [hR]
        exact Hd.end0 rfl () rfl (fun q s => world_same hw hrs hb' q (wire_ring_same hi hk hrb q (Ent.sep enn q s)))
end Wo
end Go.Proofs.Ytbfddabjbkohdaa
namespace Go.Proofs.Ytbfddabjbkohdaa
set_option linter.unusedSimpArgs false
set_option linter.unusedVariables false
set_option linter.unnecessarySimpa false
open Go.RX Fx
namespace Wo
set_option maxRecDepth 8000
theorem world_ct {wb : Nat} {w : WA} {i : WoI} {hd : List Bool} {ct : List Int} {L : List SP} (hw : WOk w) (hrs : i.rs.map Prod.snd = w.ws) (h1 : hd.length = 32) (h2 : ct.length = 32) :
    ∀ h, sep (SigP i.sb hd ct :: WoH wb w.at w i.rs.length i :: own 81 1 i.wa i.rs.length i.wc (pws i.rs) :: Wires i.rs :: L) h → sep (WorldP wb { w with hd := hd, ct := ct } :: L) h := fun h s => by
  refine Ent.sep (.ex i (.pure ⟨ct_ok hw h1 h2, hrs⟩ ?_)) h s
  show Ent _ (WoH wb w.at w i.rs.length i :: own 81 1 i.wa i.rs.length i.wc (pws i.rs) :: Wires i.rs :: SigP i.sb hd ct :: L)
  exact enn
set_option maxHeartbeats 2000000 in
theorem whandle_ct (L : List SP) (wb : Nat) (w : WA) (hb : ∀ c ∈ w.ct, 0 ≤ c ∧ c ≤ 2000000000) (s : Int) (on : Bool) : Ct Try.prog 22 #[.pointer (some ⟨wb, 0, none⟩), .int .i64 s, .bool on] (WorldP wb w :: L) (fun _ : Unit => .int .i64 (hanR w s on).1) (fun _ : Unit => WorldP wb (hanR w s on).2 :: L) := by
  refine Ct.of (vs := [.pointer (some ⟨wb, 0, none⟩), .int .i64 s, .bool on]) Try.func22 rfl rfl [(0, .pointer (some ⟨wb, 0, none⟩)), (1, .int .i64 s), (2, .bool on)] (by repeat (first | exact trivial | refine ⟨rfl, ?_⟩)) ?_
  intro E
  show Hd E 20 _ _ _ _
  refine Hd.world .here (fun i hw hrs => ?_)
  refine Hd.seq (fun K1 hK1 => ?_)
  refine Hd.region ?_
  refine Hd.yv (y_assign rfl) ?_
  refine Hd.nil ?_
  refine Hd.slots [(0, _), (1, _), (2, _)] ⟨rfl, rfl, rfl, trivial⟩ ?_
  refine Hd.toK hK1 ?_
  refine Hd.seq (fun K2 hK2 => ?_)
  refine Hd.seq (fun K3 hK3 => ?_)
  refine Hd.region ?_
  refine Hd.yv (y_move rfl) ?_
  refine Hd.callE rfl fk52 (wnone_ct _ wb w.at w i.rs.length i) (Ent.sep enn) ?_
  intro _
  refine Hd.nil ?_
  refine Hd.slots [(0, _), (1, _), (2, _), (9, _)] ⟨rfl, rfl, rfl, rfl, trivial⟩ ?_
  refine Hd.toK hK3 ?_
  refine Hd.condF rfl ?_
  refine Hd.skip ?_
  refine Hd.toK hK2 ?_
  refine Hd.seq (fun K4 hK4 => ?_)
  refine Hd.region ?_
  refine Hd.yv (y_move rfl) ?_
  refine Hd.yv (y_nilp rfl) ?_
  first | (refine Hd.yv (y_field' (q := 289) (ft := 72) Try.underlying80 rfl sz72 rfl rfl) ?_) | (refine Hd.yv (y_fieldR (q := 289) (ft := 72) Try.underlying80 rfl sz72 rfl rfl) ?_)
  first | (refine Hd.yv (y_load1 ag72 rfl (Rd.pt1 pkk (by (first | exact woT_at (j := 1) (by omega) rfl | rfl)))) ?_) | (refine Hd.yv (y_load1 ag72 rfl (Rd.seg1 pkk (by (first | exact woT_at (j := 1) (by omega) rfl | rfl)))) ?_) | (refine Hd.yv (y_loadR1 ag72 rfl (by (first | exact RdS.own pkk)) (by (first | exact woT_at (j := 1) (by omega) rfl | rfl))) ?_)
  refine Hd.yv (y_move rfl) ?_
  refine Hd.yv (y_move rfl) ?_
  refine Hd.callE rfl fk53 (shandle_ct _ i.sb w.hd w.ct hw.hdl hw.ctl s on) (Ent.sep enn) ?_
  intro _
  obtain ⟨hd', hhd⟩ : ∃ z, z = if mayE s = 0 then w.hd.set s.toNat on else w.hd := ⟨_, rfl⟩
  obtain ⟨ct', hct⟩ : ∃ z, z = if mayE s = 0 ∧ on = false then w.ct.set s.toNat 0 else w.ct := ⟨_, rfl⟩
  rw [← hhd, ← hct]
  have hb' : ∀ c ∈ ct', 0 ≤ c ∧ c ≤ 2000000000 := fun c hc => by
    rw [hct] at hc
    split at hc
    · rcases List.mem_or_eq_of_mem_set hc with h | rfl
      · exact hb c h
      · decide
    · exact hb c hc
  have hR : hanR w s on = (mayE s, ntcR { w with hd := hd', ct := ct' }) := by
    unfold hanR
    by_cases h : s < 1 ∨ 31 < s
    · have h0 : mayE s = 100 := if_neg (by omega)
      rw [if_pos h, hhd, hct, h0, if_neg (by decide), if_neg (fun h => absurd h.1 (by decide))]
    · have h0 : mayE s = 0 := if_pos (by omega)
      rw [if_neg h, hhd, hct, h0, if_pos rfl]
      cases on with
      | true => rw [if_pos rfl, if_neg (by simp)]
      | false => rw [if_neg (by simp), if_pos ⟨rfl, rfl⟩]
  refine Hd.heap (WorldP wb { w with hd := hd', ct := ct' } :: L) (fun q t => world_ct hw hrs (by rw [hhd]; split; rw [List.length_set]; exact hw.hdl; exact hw.hdl) (by rw [hct]; split; rw [List.length_set]; exact hw.ctl; exact hw.ctl) q (Ent.sep enn q t)) ?_
  refine Hd.yv (y_assign rfl) ?_
  refine Hd.nil ?_
  refine Hd.slots [(0, _), (7, _)] ⟨rfl, rfl, trivial⟩ ?_
  refine Hd.toK hK4 ?_
  refine Hd.seq (fun K5 hK5 => ?_)
  refine Hd.region ?_
  refine Hd.yv (y_move rfl) ?_
  refine Hd.callE rfl fk54 (noticed_ct _ wb { w with hd := hd', ct := ct' } hb') (Ent.sep enn) ?_
  intro _
  refine Hd.nil ?_
  refine Hd.slots [(7, _)] ⟨rfl, trivial⟩ ?_
  refine Hd.toK hK5 ?_
  refine Hd.seq (fun K6 hK6 => ?_)
  refine Hd.region ?_
  refine Hd.yv (y_move rfl) ?_
  refine Hd.yv (y_assign rfl) ?_
  refine Hd.nil ?_
  refine Hd.slots [(6, _)] ⟨rfl, trivial⟩ ?_
  refine Hd.toK hK6 ?_
  refine Hd.ret ?_
  clear hK1 hK2 hK3 hK4 hK5 hK6
  rw [hR]
  exact Hd.ret1 rfl () rfl (Ent.sep enn)
set_option maxHeartbeats 2000000 in
theorem wraise_ct (L : List SP) (wb : Nat) (w : WA) (hb : ∀ c ∈ w.ct, 0 ≤ c ∧ c ≤ 1000000000) (s : Int) : Ct Try.prog 23 #[.pointer (some ⟨wb, 0, none⟩), .int .i64 s] (WorldP wb w :: L) (fun _ : Unit => .int .i64 (raiR w s).1) (fun _ : Unit => WorldP wb (raiR w s).2 :: L) := by
  refine Ct.of (vs := [.pointer (some ⟨wb, 0, none⟩), .int .i64 s]) Try.func23 rfl rfl [(0, .pointer (some ⟨wb, 0, none⟩)), (1, .int .i64 s)] (by repeat (first | exact trivial | refine ⟨rfl, ?_⟩)) ?_
  intro E
  show Hd E 17 _ _ _ _
  refine Hd.world .here (fun i hw hrs => ?_)
  refine Hd.seq (fun K1 hK1 => ?_)
  refine Hd.region ?_
  refine Hd.yv (y_assign rfl) ?_
  refine Hd.nil ?_
  refine Hd.slots [(0, _), (1, _)] ⟨rfl, rfl, trivial⟩ ?_
  refine Hd.toK hK1 ?_
  refine Hd.seq (fun K2 hK2 => ?_)
  refine Hd.seq (fun K3 hK3 => ?_)
  refine Hd.region ?_
  refine Hd.yv (y_move rfl) ?_
  refine Hd.callE rfl fk52 (wnone_ct _ wb w.at w i.rs.length i) (Ent.sep enn) ?_
  intro _
  refine Hd.nil ?_
  refine Hd.slots [(0, _), (1, _), (7, _)] ⟨rfl, rfl, rfl, trivial⟩ ?_
  refine Hd.toK hK3 ?_
  refine Hd.condF rfl ?_
  refine Hd.skip ?_
  refine Hd.toK hK2 ?_
  refine Hd.seq (fun K4 hK4 => ?_)
  refine Hd.region ?_
  refine Hd.yv (y_move rfl) ?_
  refine Hd.yv (y_nilp rfl) ?_
  first | (refine Hd.yv (y_field' (q := 289) (ft := 72) Try.underlying80 rfl sz72 rfl rfl) ?_) | (refine Hd.yv (y_fieldR (q := 289) (ft := 72) Try.underlying80 rfl sz72 rfl rfl) ?_)
  first | (refine Hd.yv (y_load1 ag72 rfl (Rd.pt1 pkk (by (first | exact woT_at (j := 1) (by omega) rfl | rfl)))) ?_) | (refine Hd.yv (y_load1 ag72 rfl (Rd.seg1 pkk (by (first | exact woT_at (j := 1) (by omega) rfl | rfl)))) ?_) | (refine Hd.yv (y_loadR1 ag72 rfl (by (first | exact RdS.own pkk)) (by (first | exact woT_at (j := 1) (by omega) rfl | rfl))) ?_)
  refine Hd.yv (y_move rfl) ?_
  refine Hd.callE rfl fk55 (sraise_ct _ i.sb w.hd w.ct hw.hdl hw.ctl (fun c hc => by have := hb c hc; omega) s) (Ent.sep enn) ?_
  intro _
  obtain ⟨ct', hct⟩ : ∃ z, z = if mayE s = 0 ∧ w.hd.getD s.toNat false = true then w.ct.set s.toNat (w.ct.getD s.toNat 0 + 1) else w.ct := ⟨_, rfl⟩
  rw [← hct]
  have hb' : ∀ c ∈ ct', 0 ≤ c ∧ c ≤ 2000000000 := fun c hc => by
    rw [hct] at hc
    split at hc
    · rename_i hm
      rcases List.mem_or_eq_of_mem_set hc with h | rfl
      · have := hb c h; omega
      · obtain ⟨k, rfl, hk1, hk⟩ := sig_open hm.1
        obtain ⟨v, hv⟩ : ∃ v, w.ct[k]? = some v := ⟨_, List.getElem?_eq_getElem (by rw [hw.ctl]; omega)⟩
        rw [Int.toNat_natCast, List.getD_eq_getElem?_getD, hv]
        have := hb v (List.mem_of_getElem? hv)
        show 0 ≤ v + 1 ∧ v + 1 ≤ 2000000000
        omega
    · have := hb c hc; omega
  have hR : raiR w s = (mayE s, ntcR { w with hd := w.hd, ct := ct' }) := by
    unfold raiR
    by_cases h : s < 1 ∨ 31 < s
    · have h0 : mayE s = 100 := if_neg (by omega)
      rw [if_pos h, hct, h0, if_neg (fun h => absurd h.1 (by decide))]
    · have h0 : mayE s = 0 := if_pos (by omega)
      rw [if_neg h, hct, h0]
      by_cases hh : w.hd.getD s.toNat false = true
      · rw [if_pos hh, if_pos ⟨rfl, hh⟩]
      · rw [if_neg hh, if_neg (fun h => hh h.2)]
  refine Hd.heap (WorldP wb { w with hd := w.hd, ct := ct' } :: L) (fun q t => world_ct hw hrs hw.hdl (by rw [hct]; split; rw [List.length_set]; exact hw.ctl; exact hw.ctl) q (Ent.sep enn q t)) ?_
  refine Hd.yv (y_assign rfl) ?_
  refine Hd.nil ?_
  refine Hd.slots [(0, _), (5, _)] ⟨rfl, rfl, trivial⟩ ?_
  refine Hd.toK hK4 ?_
  refine Hd.seq (fun K5 hK5 => ?_)
  refine Hd.region ?_
  refine Hd.yv (y_move rfl) ?_
  refine Hd.callE rfl fk54 (noticed_ct _ wb { w with hd := w.hd, ct := ct' } hb') (Ent.sep enn) ?_
  intro _
  refine Hd.nil ?_
  refine Hd.slots [(5, _)] ⟨rfl, trivial⟩ ?_
  refine Hd.toK hK5 ?_
  refine Hd.seq (fun K6 hK6 => ?_)
  refine Hd.region ?_
  refine Hd.yv (y_move rfl) ?_
  refine Hd.yv (y_assign rfl) ?_
  refine Hd.nil ?_
  refine Hd.slots [(4, _)] ⟨rfl, trivial⟩ ?_
  refine Hd.toK hK6 ?_
  refine Hd.ret ?_
  clear hK1 hK2 hK3 hK4 hK5 hK6
  rw [hR]
  exact Hd.ret1 rfl () rfl (Ent.sep enn)
theorem zer1_len (l : List Int) : (zer1 l).length = l.length := by cases l <;> simp [zer1]
theorem zer1_mem {l : List Int} {c : Int} (h : c ∈ zer1 l) : c ∈ l ∨ c = 0 := by
  cases l with
  | nil => cases h
  | cons a t =>
    rcases List.mem_cons.1 h with rfl | h
    · exact .inl List.mem_cons_self
    · obtain ⟨_, _, rfl⟩ := List.mem_map.1 h; exact .inr rfl
theorem sigR_eq (w : WA) : sigR w = (cntF 0 w.ct, ntcR { w with hd := w.hd, ct := zer1 w.ct }) := by
  unfold sigR zer1
  cases w.ct <;> rfl
set_option maxHeartbeats 2000000 in
theorem wsignals_ct (L : List SP) (wb : Nat) (w : WA) (hb : ∀ c ∈ w.ct, 0 ≤ c ∧ c ≤ 2000000000) : Ct Try.prog 25 #[.pointer (some ⟨wb, 0, none⟩)] (WorldP wb w :: L) (fun q_ : Option Addr × Nat => .slice q_.1 (sigR w).1.length q_.2) (fun q_ : Option Addr × Nat => own 153 2 q_.1 (sigR w).1.length q_.2 ((sigR w).1.flatMap encCn) :: WorldP wb (sigR w).2 :: L) := by
  refine Ct.of (vs := [.pointer (some ⟨wb, 0, none⟩)]) Try.func25 rfl rfl [(0, .pointer (some ⟨wb, 0, none⟩))] (by repeat (first | exact trivial | refine ⟨rfl, ?_⟩)) ?_
  intro E
  show Hd E 14 _ _ _ _
  refine Hd.world .here (fun i hw hrs => ?_)
  refine Hd.seq (fun K1 hK1 => ?_)
  refine Hd.region ?_
  refine Hd.yv (y_assign rfl) ?_
  refine Hd.nil ?_
  refine Hd.slots [(0, _)] ⟨rfl, trivial⟩ ?_
  refine Hd.toK hK1 ?_
  refine Hd.seq (fun K2 hK2 => ?_)
  refine Hd.seq (fun K3 hK3 => ?_)
  refine Hd.region ?_
  refine Hd.yv (y_move rfl) ?_
  refine Hd.callE rfl fk52 (wnone_ct _ wb w.at w i.rs.length i) (Ent.sep enn) ?_
  intro _
  refine Hd.nil ?_
  refine Hd.slots [(0, _), (5, _)] ⟨rfl, rfl, trivial⟩ ?_
  refine Hd.toK hK3 ?_
  refine Hd.condF rfl ?_
  refine Hd.skip ?_
  refine Hd.toK hK2 ?_
  refine Hd.seq (fun K4 hK4 => ?_)
  refine Hd.region ?_
  refine Hd.yv (y_move rfl) ?_
  refine Hd.yv (y_nilp rfl) ?_
  first | (refine Hd.yv (y_field' (q := 289) (ft := 72) Try.underlying80 rfl sz72 rfl rfl) ?_) | (refine Hd.yv (y_fieldR (q := 289) (ft := 72) Try.underlying80 rfl sz72 rfl rfl) ?_)
  first | (refine Hd.yv (y_load1 ag72 rfl (Rd.pt1 pkk (by (first | exact woT_at (j := 1) (by omega) rfl | rfl)))) ?_) | (refine Hd.yv (y_load1 ag72 rfl (Rd.seg1 pkk (by (first | exact woT_at (j := 1) (by omega) rfl | rfl)))) ?_) | (refine Hd.yv (y_loadR1 ag72 rfl (by (first | exact RdS.own pkk)) (by (first | exact woT_at (j := 1) (by omega) rfl | rfl))) ?_)
  refine Hd.callE rfl fk56 (stake_ct _ i.sb w.hd w.ct hw.hdl hw.ctl) (Ent.sep enn) ?_
  rintro ⟨ad, c⟩
  dsimp only
  refine Hd.heap (WorldP wb { w with hd := w.hd, ct := zer1 w.ct } :: own 153 2 ad (cntF 0 w.ct).length c ((cntF 0 w.ct).flatMap encCn) :: L) (fun q t => world_ct hw hrs hw.hdl (by rw [zer1_len]; exact hw.ctl) q (Ent.sep enn q t)) ?_
  refine Hd.yv (y_assign rfl) ?_
  refine Hd.nil ?_
  refine Hd.slots [(0, _), (3, _)] ⟨rfl, rfl, trivial⟩ ?_
  refine Hd.toK hK4 ?_
  refine Hd.seq (fun K5 hK5 => ?_)
  refine Hd.region ?_
  refine Hd.yv (y_move rfl) ?_
  refine Hd.callE rfl fk54 (noticed_ct _ wb { w with hd := w.hd, ct := zer1 w.ct } (fun c hc => by rcases zer1_mem hc with h | rfl; exact hb c h; decide)) (Ent.sep enn) ?_
  intro _
  refine Hd.nil ?_
  refine Hd.slots [(3, _)] ⟨rfl, trivial⟩ ?_
  refine Hd.toK hK5 ?_
  refine Hd.seq (fun K6 hK6 => ?_)
  refine Hd.region ?_
  refine Hd.yv (y_move rfl) ?_
  refine Hd.yv (y_assign rfl) ?_
  refine Hd.nil ?_
  refine Hd.slots [(2, _)] ⟨rfl, trivial⟩ ?_
  refine Hd.toK hK6 ?_
  refine Hd.ret ?_
  clear hK1 hK2 hK3 hK4 hK5 hK6
  rw [sigR_eq]
  exact Hd.ret1 rfl (ad, c) rfl (Ent.sep enn)
end Wo
end Go.Proofs.Ytbfddabjbkohdaa
