/-
  Worlds: the wire whose other end is outside; Put, Take, PeerShut, PeerClose, Shut. Loops, and ways that meet, in which ranges over functions stand: each leaves a mark; the marks are kept beside. No program is named here. Signals: which are pending; Handle, Raise, Take. Signals: Handle, Raise, Take. Worlds: Handle, Raise, Signals, Notice. Kqueue: Notes; what is told of a note. Kqueue: what is due.
-/
import Derived.Test.YtbfddabjbkohdaaGreatZKquAgainF
namespace Go.Proofs.YtbfddabjbkohdaaGreat
set_option maxHeartbeats 2000000
open Go.RX.Hd (yv y2 n1 fk sk sr tH callE heldK onlyH endH thenN slots)
set_option linter.unusedSimpArgs false
set_option linter.unusedVariables false
set_option linter.unnecessarySimpa false
open Go.RX Fx
namespace Wo
set_option maxRecDepth 8000
theorem wol_back {wb n b : Nat} {w : WA} {i : WoI} {x : WireA} {L : List SP} (hb : i.rs[n]? = some (b, x)) : ∀ h, sep (WireP b x :: WoR wb n w i L) h → sep (WoL wb w i L) h := by
 intro h s
 obtain ⟨hn, e⟩ := List.getElem?_eq_some_iff.1 hb
 have h1 : sep (WireP b x :: Wires (i.rs.take n) :: Wires (i.rs.drop (n + 1)) :: WoH wb w.at w i.rs.length i :: own 191 1 i.wa i.rs.length i.wc (pws i.rs) :: SigP i.sb w.hd w.ct :: L) h := Ent.sep enn h s
 have h2 := ws_in hn h1
 rw [← e, List.set_getElem_self] at h2; exact Ent.sep enn h h2
def outB (i : WoI) (w : WA) (n : Int) : Option Nat := if (outW w n).isSome then (i.rs[n.toNat]?).map Prod.fst else none
def outE (w : WA) (n : Int) : Int := if (outW w n).isSome then 0 else 116
theorem outW_nat {w : WA} {n : Nat} {x : WireA} (hx : w.ws[n]? = some x) : outW w (n : Int) = if (x.e 1).what = 2 then some x else none := by
 unfold outW; rw [if_neg (by omega), Int.toNat_natCast, hx]
theorem outW_off {w : WA} {n : Int} (h : n < 0 ∨ (w.ws.length : Int) ≤ n) : outW w n = none := by
 unfold outW
 split
 ·rfl
 ·rw [List.getElem?_eq_none (by omega)]
theorem outer1_ct (L : List SP) (wb : Nat) (w : WA) (i : WoI) (hw : WOk w) (hrs : i.rs.map Prod.snd = w.ws) (n b : Nat) (x : WireA) (hb : i.rs[n]? = some (b, x)) : Ct Tryz.prog 111 #[.pointer (some ⟨wb, 0, none⟩), .int .i64 (n : Int)] (WoL wb w i L) (fun _ : Unit => .tuple #[ptr (if (x.e 1).what = 2 then some b else none), .int .i64 (if (x.e 1).what = 2 then 0 else 116)]) (fun _ : Unit => WoL wb w i L) := by
 refine Ct.o2 Tryz.func111 ?_; intro E
 show Hd E 43 _ _ _ _
 have hn := (List.getElem?_eq_some_iff.1 hb).1
 refine sr fun _ hK1 => ?_
 refine yv y_as <| yv y_as <| fk [(0, _), (1, _)] hK1 ?_; refine Hd.seq fun _ hK2 => ?_
 refine Hd.block <| sr fun _ hK3 => ?_
 refine yv y_mv <| callE rfl fk113 (wnone_ct _ wb w.at w i.rs.length i) sq ?_; intro _; refine yv y_as <| fk [(0, _), (1, _), (6, _)] hK3 ?_; refine Hd.condF rfl ?_; refine Hd.seq fun _ hK4 => ?_
 refine Hd.wOut pkk hb ?_; refine Hd.wire .here 1 (by omega) (fun i2 hi => ?_); refine Hd.region <| yv y_mv <| yv (y_lss rfl rfl) ?_; refine yv y_mv ?_; apply Hd.org 8 12 20 [(0, _), (1, _)] rfl sbq
 ·intro _
  simp only [List.take]; refine n1 <| n1 <| n1 <| n1 <| n1 <| n1 <| n1 <| yv (y_pickT rfl rfl) ?_; refine Hd.nil ?_; exact Hd.mq
 ·intro hg3_12
  try simp only [hyA, hyB, hyC, ne_eq] at hg3_12
  simp only [List.take]; refine y2 y_mv <| y2 y_mv <| y2 y_np <| y2 (y_f 288 208 Tryz.underlying210 sz208) ?_; refine y2 (y_load1 ag208 rfl (Rd.pt1 pkk (by exact woT_at (j := 0) (by omega) rfl))) ?_; refine y2 (y_len Tryz.underlying208 rfl) ?_; refine y2 (y_geq rfl rfl) ?_; refine yv (y_pickF rfl rfl) ?_; refine Hd.nil ?_; exact Hd.mq
 simp only [List.drop]; refine yv y_mv ?_; apply Hd.org (q := decide ((x.e 1).what ≠ 2)) 14 21 35 [(0, _), (1, _)] rfl sbq
 ·intro _
  simp only [List.take]; refine n1 <| n1 <| n1 <| n1 <| n1 <| n1 <| n1 <| n1 <| n1 <| n1 <| n1 <| n1 <| n1 <| yv (y_pickT rfl rfl) ?_; refine Hd.nil ?_; exact Hd.mq
 ·intro hg3_21
  try simp only [hyA, hyB, hyC, ne_eq] at hg3_21
  simp only [List.take]; refine y2 y_mv <| y2 y_np <| y2 (y_f 288 208 Tryz.underlying210 sz208) ?_; refine y2 (y_load1 ag208 rfl (Rd.pt1 pkk (by exact woT_at (j := 0) (by omega) rfl))) ?_; refine y2 y_mv <| y2 (y_idxR Tryz.underlying208 sz191 rfl rfl (by omega) (by exact RdS.own pkk)) ?_; refine y2 (y_loadR1 ag191 rfl (by exact RdS.own pkk) (by exact pws_at hb)) ?_; refine y2 y_np <| y2 (y_f 0 197 Tryz.underlying199 sz197) ?_; refine y2 (y_idxA Tryz.underlying197 sz196 rfl rfl (by decide)) ?_; refine y2 (y_f 0 3 Tryz.underlying196 sz3) ?_; refine y2 (y_l1 ag3 rfl) ?_; refine y2 (y_neq rfl rfl) ?_; refine yv (y_pickF rfl rfl) ?_; refine Hd.nil ?_; exact Hd.mq
 simp only [List.drop]; refine yv y_as <| fk [(0, _), (1, _), (9, _)] hK4 ?_; refine Hd.cond rfl (fun hc1 => ?_) (fun hc1 => ?_)
 ·try simp only [hyA, hyB, hyC, ne_eq] at hc1
  refine sr fun _ hK5 => ?_
  refine yv y_as <| yv y_as <| fk [(4, _), (5, _)] hK5 ?_; refine Hd.ret <| Hd.inBret <| Hd.thenRet ?_
  have h2 : ¬ ((x.e 1).what = 2) := by
   rcases hc1 with h | h
   ·omega
   ·exact h
  rw [if_neg h2, if_neg h2]; exact Hd.ret2 rfl () rfl rfl rfl (fun q s => wol_back hb q (wire_fold (k := 1) hi (by omega) q (Ent.sep enn q s)))
 ·try simp only [hyA, hyB, hyC, ne_eq] at hc1
  refine Hd.skip <| Hd.inB <| Hd.toK hK2 ?_; refine sr fun _ hK6 => ?_
  refine yv y_mv <| yv y_np <| yv (y_f 288 208 Tryz.underlying210 sz208) ?_; refine yv (y_load1 ag208 rfl (Rd.pt1 pkk (by exact woT_at (j := 0) (by omega) rfl))) ?_; refine yv y_mv <| yv (y_idxR Tryz.underlying208 sz191 rfl rfl (by omega) (by exact RdS.own pkk)) ?_; refine yv (y_loadR1 ag191 rfl (by exact RdS.own pkk) (by exact pws_at hb)) ?_; refine yv y_as <| yv y_as <| fk [(4, _), (5, _)] hK6 ?_; refine Hd.ret ?_; rw [if_pos hc1.2, if_pos hc1.2]; exact Hd.ret2 rfl () rfl rfl rfl (fun q s => wol_back hb q (wire_fold (k := 1) hi (by omega) q (Ent.sep enn q s)))
theorem outer0_ct (L : List SP) (wb : Nat) (w : WA) (i : WoI) (n : Int) (hn : n < 0 ∨ (i.rs.length : Int) ≤ n) : Ct Tryz.prog 111 #[.pointer (some ⟨wb, 0, none⟩), .int .i64 n] (WoL wb w i L) (fun _ : Unit => .tuple #[ptr none, .int .i64 116]) (fun _ : Unit => WoL wb w i L) := by
 refine Ct.o2 Tryz.func111 ?_; intro E
 show Hd E 43 _ _ _ _
 refine sr fun _ hK1 => ?_
 refine yv y_as <| yv y_as <| fk [(0, _), (1, _)] hK1 ?_; refine Hd.seq fun _ hK2 => ?_
 refine Hd.block <| sr fun _ hK3 => ?_
 refine yv y_mv <| callE rfl fk113 (wnone_ct _ wb w.at w i.rs.length i) sq ?_; intro _; refine yv y_as <| fk [(0, _), (1, _), (6, _)] hK3 ?_; refine Hd.condF rfl ?_; refine sr fun _ hK4 => ?_
 refine yv y_mv <| yv (y_lss rfl rfl) ?_; refine yv y_mv <| Hd.part (gd := 12) rfl (fun hg3_12 => ?_) (fun hg3_12 => ?_)
 ·try simp only [hyA, hyB, hyC, ne_eq] at hg3_12
  refine n1 <| n1 <| n1 <| n1 <| n1 <| n1 <| n1 <| yv (y_pickT rfl rfl) ?_; refine yv y_mv <| Hd.part (gd := 21) rfl (fun hg3_21 => ?_) (fun hg3_21 => ?_)
  ·try simp only [hyA, hyB, hyC, ne_eq] at hg3_21
   refine n1 <| n1 <| n1 <| n1 <| n1 <| n1 <| n1 <| n1 <| n1 <| n1 <| n1 <| n1 <| n1 <| yv (y_pickT rfl rfl) ?_; refine yv y_as <| fk [(0, _), (1, _), (9, _)] hK4 ?_; refine Hd.cond rfl (fun hc1 => ?_) (fun hc1 => ?_)
   ·try simp only [hyA, hyB, hyC, ne_eq] at hc1
    refine sr fun _ hK5 => ?_
    refine yv y_as <| yv y_as <| fk [(4, _), (5, _)] hK5 ?_; refine Hd.ret <| Hd.inBret <| Hd.thenRet ?_; exact Hd.ret2 rfl () rfl rfl (by rfl) sq
   ·try simp only [hyA, hyB, hyC, ne_eq] at hc1
    exfalso; simp at hc1
  ·try simp only [hyA, hyB, hyC, ne_eq] at hg3_21
   exfalso; simp at hg3_21; done
 ·try simp only [hyA, hyB, hyC, ne_eq] at hg3_12
  refine y2 y_mv <| y2 y_mv <| y2 y_np <| y2 (y_f 288 208 Tryz.underlying210 sz208) ?_; refine y2 (y_load1 ag208 rfl (Rd.pt1 pkk (by exact woT_at (j := 0) (by omega) rfl))) ?_; refine y2 (y_len Tryz.underlying208 rfl) ?_; refine y2 (y_geq rfl rfl) ?_; refine yv (y_pickF rfl rfl) ?_; refine yv y_mv <| Hd.part (gd := 21) rfl (fun hg3_21 => ?_) (fun hg3_21 => ?_)
  ·try simp only [hyA, hyB, hyC, ne_eq] at hg3_21
   refine n1 <| n1 <| n1 <| n1 <| n1 <| n1 <| n1 <| n1 <| n1 <| n1 <| n1 <| n1 <| n1 <| yv (y_pickT rfl rfl) ?_; refine yv y_as <| fk [(0, _), (1, _), (9, _)] hK4 ?_; refine Hd.cond rfl (fun hc1 => ?_) (fun hc1 => ?_)
   ·try simp only [hyA, hyB, hyC, ne_eq] at hc1
    refine sr fun _ hK6 => ?_
    refine yv y_as <| yv y_as <| fk [(4, _), (5, _)] hK6 ?_; refine Hd.ret <| Hd.inBret <| Hd.thenRet ?_; exact Hd.ret2 rfl () rfl rfl (by rfl) sq
   ·try simp only [hyA, hyB, hyC, ne_eq] at hc1
    exfalso; simp at hc1
  ·try simp only [hyA, hyB, hyC, ne_eq] at hg3_21
   exfalso; omega
theorem outer_ct (L : List SP) (wb : Nat) (w : WA) (i : WoI) (hw : WOk w) (hrs : i.rs.map Prod.snd = w.ws) (n : Int) :
  Ct Tryz.prog 111 #[.pointer (some ⟨wb, 0, none⟩), .int .i64 n] (WoL wb w i L) (fun _ : Unit => .tuple #[ptr (outB i w n), .int .i64 (outE w n)]) (fun _ => WoL wb w i L) := by
 have hrl : i.rs.length = w.ws.length := by rw [← hrs, List.length_map]
 by_cases h : n < 0 ∨ (i.rs.length : Int) ≤ n
 ·have e := outW_off (w := w) (n := n) (by rw [← hrl]; exact h)
  rw [show outB i w n = none by unfold outB; rw [e]; rfl, show outE w n = 116 by unfold outE; rw [e]; rfl]; exact outer0_ct L wb w i n h
 ·obtain ⟨k, rfl⟩ : ∃ k : Nat, n = (k : Int) := ⟨n.toNat, by omega⟩
  have hk : k < w.ws.length := by omega
  obtain ⟨b, hb⟩ := rs_at hrs (List.getElem?_eq_getElem hk)
  have e := outW_nat (w := w) (n := k) (List.getElem?_eq_getElem hk)
  have := outer1_ct L wb w i hw hrs k b _ hb
  have e1 : outB i w (k : Int) = if (w.ws[k].e 1).what = 2 then some b else none := by
   unfold outB; rw [e, Int.toNat_natCast, hb]
   by_cases h2 : (w.ws[k].e 1).what = 2
   ·rw [if_pos h2, if_pos h2]; rfl
   ·rw [if_neg h2, if_neg h2]; rfl
  have e2 : outE w (k : Int) = if (w.ws[k].e 1).what = 2 then 0 else 116 := by
   unfold outE; rw [e]
   by_cases h2 : (w.ws[k].e 1).what = 2
   ·rw [if_pos h2, if_pos h2]; rfl
   ·rw [if_neg h2, if_neg h2]; rfl
  rw [e1, e2]; exact this
theorem outE_no {w : WA} {n : Int} (h : outE w n ≠ 0) : outW w n = none := by
 unfold outE at h
 cases e : outW w n with
 | none => rfl
 | some x => rw [e] at h; exact absurd rfl h
theorem outE_yes {w : WA} {i : WoI} (hrs : i.rs.map Prod.snd = w.ws) {n : Int} (h : outE w n = 0) : ∃ (m b : Nat) (x : WireA), n = (m : Int) ∧ outW w n = some x ∧ w.ws[m]? = some x ∧ i.rs[m]? = some (b, x) ∧ (x.e 1).what = 2 ∧ outB i w n = some b := by
 unfold outE at h
 cases e : outW w n with
 | none => rw [e] at h; exact absurd h (by decide)
 | some x =>
  obtain ⟨h0, hx, h2⟩ := outW_some e
  obtain ⟨b, hb⟩ := rs_at hrs hx
  refine ⟨n.toNat, b, x, by omega, rfl, hx, hb, h2, ?_⟩; unfold outB; rw [e, hb]; rfl
theorem wput_ct (L : List SP) (wb : Nat) (w : WA) (n : Int) (ad : Option Addr) (m c : Nat) (bs : List UInt8) (hm : bs.length = m) (hR : RdS L 1 ad m (bsl bs)) (hml : m ≤ 70368744177664) (hmc : m ≤ c) : Ct Tryz.prog 52 #[.pointer (some ⟨wb, 0, none⟩), .int .i64 n, .slice ad m c] (WorldP wb w :: L) (fun _ : Unit => .tuple #[.int .i64 (putR w n bs).1.1, .int .i64 (putR w n bs).1.2]) (fun _ : Unit => WorldP wb (putR w n bs).2 :: L) := by
 refine Ct.o3 Tryz.func52 ?_; intro E
 show Hd E 44 _ _ _ _
 refine Hd.world .here (fun i hw hrs => ?_); refine sr fun _ hK1 => ?_
 refine yv y_as <| yv y_as <| fk [(0, _), (1, _), (2, _)] hK1 ?_; refine sr fun _ hK2 => ?_
 refine yv y_mv <| yv y_mv <| callE rfl fk111 (outer_ct _ wb w i hw hrs n) sq ?_; intro _; refine yv y_mv <| yv (y_to (v' := ptr (outB i w n)) y_ex (by rfl)) ?_; refine yv (y_to (v' := .int .i64 (outE w n)) y_ex (by rfl)) ?_; refine yv y_as <| yv y_as <| fk [(2, _), (8, _), (9, _)] hK2 ?_; refine Hd.seq fun _ hK3 => ?_
 refine Hd.block <| sr fun _ hK4 => ?_
 refine yv y_mv <| yv (y_neq rfl rfl) ?_; refine yv y_as <| fk [(2, _), (8, _), (9, _), (16, _)] hK4 ?_; refine Hd.cond rfl (fun hc0 => ?_) (fun hc0 => ?_)
 ·try simp only [hyA, hyB, hyC, ne_eq] at hc0
  refine sr fun _ hK5 => ?_
  refine yv y_mv <| yv y_as <| yv y_as <| fk [(6, _), (7, _)] hK5 ?_; refine Hd.ret <| Hd.inBret <| Hd.thenRet ?_
  have e := outE_no hc0
  rw [show putR w n bs = ((0, 116), w) by unfold putR; rw [e]]; exact Hd.ret2 rfl () rfl rfl (by unfold outE; rw [e]; rfl) (Ent.sep (.ex i (.pure ⟨hw, hrs⟩ enn)))
 ·try simp only [hyA, hyB, hyC, ne_eq] at hc0
  obtain ⟨k, b, x, rfl, hox, hx, hb, h2, hob⟩ := outE_yes hrs hc0
  have hwf := hw.wf x (List.mem_of_getElem? hx)
  have hrd : putR w k bs = if x.rs = true then ((0, 115), w) else if (x.e 1).shut = true ∨ (x.e 0).what = 3 then ((0, 114), w) else ((((putN x 1 bs : Nat) : Int), (0 : Int)), w.setW k (putW x 1 bs)) := by
   unfold putR; rw [hox]; rfl
  rw [hob]; refine Hd.wOut pkk hb ?_; refine Hd.wire .here 1 (by omega) (fun i2 hi => ?_); refine sr fun _ hK6 => ?_
  refine yv y_mv <| yv y_np <| yv (y_f 14 4 Tryz.underlying199 sz4) ?_; refine yv (y_l1 ag4 rfl) ?_; refine yv y_as <| fk [(2, _), (8, _), (20, _)] hK6 ?_; refine Hd.cond rfl (fun hc1 => ?_) (fun hc1 => ?_)
  ·try simp only [hyA, hyB, hyC, ne_eq] at hc1
   refine sr fun _ hK7 => ?_
   refine yv y_as <| yv y_as <| fk [(6, _), (7, _)] hK7 ?_; refine Hd.ret <| Hd.inBret <| Hd.thenRet ?_; rw [hrd, if_pos hc1]; exact Hd.ret2 rfl () rfl rfl rfl (fun q s => world_back (k := 1) hw hrs hb hi (by omega) q (Ent.sep enn q s))
  ·try simp only [hyA, hyB, hyC, ne_eq] at hc1
   rw [if_neg (by rw [hc1]; simp)] at hrd; refine sr fun _ hK8 => ?_
   refine yv y_mv <| yv y_np <| yv (y_f 0 197 Tryz.underlying199 sz197) ?_; refine yv (y_idxA Tryz.underlying197 sz196 rfl rfl (by decide)) ?_; refine yv (y_f 4 4 Tryz.underlying196 sz4) ?_; refine yv (y_l1 ag4 rfl) ?_; refine yv y_mv ?_; apply Hd.org 8 32 40 [(2, _), (8, _)] rfl sbq
   ·intro _
    simp only [List.take]; refine n1 <| n1 <| n1 <| n1 <| n1 <| n1 <| n1 <| yv (y_pickT rfl rfl) ?_; refine Hd.nil ?_; exact Hd.mq
   ·intro hg6_32
    try simp only [hyA, hyB, hyC, ne_eq] at hg6_32
    simp only [List.take]; refine y2 y_mv <| y2 y_np <| y2 (y_f 0 197 Tryz.underlying199 sz197) ?_; refine y2 (y_idxA Tryz.underlying197 sz196 rfl rfl (by decide)) ?_; refine y2 (y_f 0 3 Tryz.underlying196 sz3) ?_; refine y2 (y_l1 ag3 rfl) ?_; refine y2 (y_eql rfl rfl) ?_; refine yv (y_pickF rfl rfl) ?_; refine Hd.nil ?_; exact Hd.mq
   simp only [List.drop]; refine yv y_as <| fk [(2, _), (8, _), (25, _)] hK8 ?_; refine Hd.cond rfl (fun hc2 => ?_) (fun hc2 => ?_)
   ·try simp only [hyA, hyB, hyC, ne_eq] at hc2
    refine sr fun _ hK9 => ?_
    refine yv y_as <| yv y_as <| fk [(6, _), (7, _)] hK9 ?_; refine Hd.ret <| Hd.inBret <| Hd.thenRet ?_; rw [hrd, if_pos hc2]; exact Hd.ret2 rfl () rfl rfl rfl (fun q s => world_back (k := 1) hw hrs hb hi (by omega) q (Ent.sep enn q s))
   ·try simp only [hyA, hyB, hyC, ne_eq] at hc2
    rw [if_neg (by rw [hc2.1]; simpa using hc2.2)] at hrd; refine Hd.skip <| Hd.inB <| Hd.toK hK3 ?_; refine Hd.seq fun _ hK10 => ?_
    refine Hd.heap (WireP b x :: WoR wb k w i L) (fun q s => wire_fold (k := 1) hi (by omega) q (Ent.sep enn q s)) ?_; refine Hd.region <| yv y_mv <| yv y_mv <| callE rfl fk112 (put_ct _ b x 1 (by omega) (hwf.ou h2).1 ad m c bs hm ?hD hml hmc) sq ?_
    case hD => exact RdS.mono hR sq
    intro _; refine yv y_as <| yv y_as <| fk [(6, _), (7, _)] hK10 ?_; refine Hd.ret ?_; rw [hrd]; exact Hd.ret2 rfl () rfl rfl rfl (fun q s => world_fold' hw hrs hb (smW_put hwf (by omega) bs (hwf.ou h2).1) q (Ent.sep enn q s))
theorem wtake_ct (L : List SP) (wb : Nat) (w : WA) (n m : Int) : Ct Tryz.prog 125 #[.pointer (some ⟨wb, 0, none⟩), .int .i64 n, .int .i64 m] (WorldP wb w :: L) (fun q_ : Option Addr × Nat => .tuple #[.slice q_.1 (takR w n m).1.1.length q_.2, .int .i64 (takR w n m).1.2]) (fun q_ : Option Addr × Nat => own 5 1 q_.1 (takR w n m).1.1.length q_.2 (bsl (takR w n m).1.1) :: WorldP wb (takR w n m).2 :: L) := by
 refine Ct.o3 Tryz.func125 ?_; intro E
 show Hd E 31 _ _ _ _
 refine Hd.world .here (fun i hw hrs => ?_); refine sr fun _ hK1 => ?_
 refine yv y_as <| yv y_as <| fk [(0, _), (1, _), (2, _)] hK1 ?_; refine sr fun _ hK2 => ?_
 refine yv y_mv <| yv y_mv <| callE rfl fk111 (outer_ct _ wb w i hw hrs n) sq ?_; intro _; refine yv y_mv <| yv (y_to (v' := ptr (outB i w n)) y_ex (by rfl)) ?_; refine yv (y_to (v' := .int .i64 (outE w n)) y_ex (by rfl)) ?_; refine yv y_as <| yv y_as <| fk [(2, _), (8, _), (9, _)] hK2 ?_; refine Hd.seq fun _ hK3 => ?_
 refine Hd.block <| sr fun _ hK4 => ?_
 refine yv y_mv <| yv (y_neq rfl rfl) ?_; refine yv y_as <| fk [(2, _), (8, _), (9, _), (16, _)] hK4 ?_; refine Hd.cond rfl (fun hc0 => ?_) (fun hc0 => ?_)
 ·try simp only [hyA, hyB, hyC, ne_eq] at hc0
  refine sr fun _ hK5 => ?_
  refine yv y_mv <| yv y_as <| yv y_as <| fk [(6, _), (7, _)] hK5 ?_; refine Hd.ret <| Hd.inBret <| Hd.thenRet ?_
  have e := outE_no hc0
  rw [show takR w n m = (([], 116), w) by unfold takR; rw [e]]; exact Hd.ret2 rfl (none, 0) rfl rfl (by unfold outE; rw [e]; rfl) (Ent.sep (.ownNil (.ex i (.pure ⟨hw, hrs⟩ enn))))
 ·try simp only [hyA, hyB, hyC, ne_eq] at hc0
  obtain ⟨k, b, x, rfl, hox, hx, hb, h2, hob⟩ := outE_yes hrs hc0
  have hwf := hw.wf x (List.mem_of_getElem? hx)
  have hrd : takR w k m = if m < 0 then (([], 2), w) else if x.rs = true then (([], 115), w) else (((x.e 1).b.take m.toNat, 0), w.setW k (takeW x 1 m.toNat)) := by
   unfold takR; rw [hox]; rfl
  rw [hob]; refine Hd.wOut pkk hb ?_; refine Hd.wire .here 1 (by omega) (fun i2 hi => ?_); refine sr fun _ hK6 => ?_
  refine yv y_mv <| yv (y_lss rfl rfl) ?_; refine yv y_as <| fk [(2, _), (8, _), (20, _)] hK6 ?_; refine Hd.cond rfl (fun hc1 => ?_) (fun hc1 => ?_)
  ·try simp only [hyA, hyB, hyC, ne_eq] at hc1
   refine sr fun _ hK7 => ?_
   refine yv y_as <| yv y_as <| fk [(6, _), (7, _)] hK7 ?_; refine Hd.ret <| Hd.inBret <| Hd.thenRet ?_; rw [hrd, if_pos hc1]; exact Hd.ret2 rfl (none, 0) rfl rfl rfl (Ent.sep (.ownNil .same) |> fun h q s => h q (world_back (k := 1) hw hrs hb hi (by omega) q (Ent.sep enn q s)))
  ·try simp only [hyA, hyB, hyC, ne_eq] at hc1
   rw [if_neg (by omega)] at hrd; refine sr fun _ hK8 => ?_
   refine yv y_mv <| yv y_np <| yv (y_f 14 4 Tryz.underlying199 sz4) ?_; refine yv (y_l1 ag4 rfl) ?_; refine yv y_as <| fk [(2, _), (8, _), (23, _)] hK8 ?_; refine Hd.cond rfl (fun hc2 => ?_) (fun hc2 => ?_)
   ·try simp only [hyA, hyB, hyC, ne_eq] at hc2
    refine sr fun _ hK9 => ?_
    refine yv y_as <| yv y_as <| fk [(6, _), (7, _)] hK9 ?_; refine Hd.ret <| Hd.inBret <| Hd.thenRet ?_; rw [hrd, if_pos hc2]; exact Hd.ret2 rfl (none, 0) rfl rfl rfl (Ent.sep (.ownNil .same) |> fun h q s => h q (world_back (k := 1) hw hrs hb hi (by omega) q (Ent.sep enn q s)))
   ·try simp only [hyA, hyB, hyC, ne_eq] at hc2
    rw [if_neg (by rw [hc2]; simp)] at hrd; refine Hd.skip <| Hd.inB <| Hd.toK hK3 ?_; refine Hd.seq fun _ hK10 => ?_
    refine Hd.heap (WireP b x :: WoR wb k w i L) (fun q s => wire_fold (k := 1) hi (by omega) q (Ent.sep enn q s)) ?_; refine Hd.region <| yv y_mv <| yv y_mv <| callE rfl fk117 (take_ct _ b x 1 (by omega) (hwf.ou h2).2 m) sq ?_; rintro ⟨ad, c⟩; dsimp only; refine yv y_as <| yv y_as <| fk [(6, _), (7, _)] hK10 ?_; refine Hd.ret ?_; rw [hrd]; exact Hd.ret2 rfl (ad, c) rfl rfl rfl (fun q s => Ent.sep (show Ent (WorldP wb (w.setW k (takeW x 1 m.toNat)) :: own 5 1 ad ((x.e 1).b.take m.toNat).length c (bsl ((x.e 1).b.take m.toNat)) :: L) (own 5 1 ad ((x.e 1).b.take m.toNat).length c (bsl ((x.e 1).b.take m.toNat)) :: WorldP wb (w.setW k (takeW x 1 m.toNat)) :: L) from enn) q (world_fold' hw hrs hb (smW_take hwf (by omega) (hwf.ou h2).2) q (Ent.sep enn q s)))
theorem pshut_ct (L : List SP) (wb : Nat) (w : WA) (n : Int) : Ct Tryz.prog 127 #[.pointer (some ⟨wb, 0, none⟩), .int .i64 n] (WorldP wb w :: L) (fun _ : Unit => .int .i64 (pshutR w n).1) (fun _ : Unit => WorldP wb (pshutR w n).2 :: L) := by
 refine Ct.o2 Tryz.func127 ?_; intro E
 show Hd E 18 _ _ _ _
 refine Hd.world .here (fun i hw hrs => ?_); refine sr fun _ hK1 => ?_
 refine yv y_as <| fk [(0, _), (1, _)] hK1 ?_; refine sr fun _ hK2 => ?_
 refine yv y_mv <| yv y_mv <| callE rfl fk111 (outer_ct _ wb w i hw hrs n) sq ?_; intro _; refine yv y_mv <| yv (y_to (v' := ptr (outB i w n)) y_ex (by rfl)) ?_; refine yv (y_to (v' := .int .i64 (outE w n)) y_ex (by rfl)) ?_; refine yv y_as <| yv y_as <| fk [(5, _), (6, _)] hK2 ?_; refine Hd.seq fun _ hK3 => ?_
 refine sr fun _ hK4 => ?_
 refine yv y_mv <| yv (y_eql rfl rfl) ?_; refine fk [(5, _), (6, _), (14, _)] hK4 ?_; refine Hd.cond rfl (fun hc0 => ?_) (fun hc0 => ?_)
 ·try simp only [hyA, hyB, hyC, ne_eq] at hc0
  obtain ⟨k, b, x, rfl, hox, hx, hb, h2, hob⟩ := outE_yes hrs hc0
  have hwf := hw.wf x (List.mem_of_getElem? hx)
  have hrd : pshutR w k = (0, w.setW k (shutW x 1)) := by unfold pshutR; rw [hox]; rfl
  rw [hob]; refine Hd.wOut pkk hb ?_; refine Hd.region <| yv y_mv <| callE rfl fk120 (shut_ct _ b x 1 (by omega)) sq ?_; intro _; refine fk [(6, _)] hK3 ?_; refine sr fun _ hK5 => ?_
  refine yv y_mv <| yv y_as <| fk [(4, _)] hK5 ?_; refine Hd.ret ?_; rw [hrd]; exact Hd.ret1 rfl () (by rw [hc0]; rfl) (fun q s => world_fold' hw hrs hb (smW_shut hwf) q (Ent.sep enn q s))
 ·try simp only [hyA, hyB, hyC, ne_eq] at hc0
  refine Hd.skip <| Hd.toK hK3 ?_; refine sr fun _ hK6 => ?_
  refine yv y_mv <| yv y_as <| fk [(4, _)] hK6 ?_; refine Hd.ret ?_
  have e := outE_no hc0
  rw [show pshutR w n = (116, w) by unfold pshutR; rw [e]]; exact Hd.ret1 rfl () (by unfold outE; rw [e]; rfl) (Ent.sep (.ex i (.pure ⟨hw, hrs⟩ enn)))
theorem out_free {w : WA} (h : WOk w) {n : Nat} {x : WireA} (hx : w.ws[n]? = some x) (h2 : (x.e 1).what = 2) : ∀ k, k < 2 → (x.e k).what = 1 → ((closeW x 1).e k).what = 1 := fun k hk e => by
 rw [(close_e x (by omega) hk).1]
 split
 ·rename_i e1; subst e1; rw [h2] at e; cases e
 ·exact e
theorem pclose_ok {w : WA} (h : WOk w) {n : Nat} {x : WireA} (hx : w.ws[n]? = some x) (h2 : (x.e 1).what = 2) : WOk (w.setW n (closeW x 1)) ∧ (w.setW n (closeW x 1)).at = w.at := by
 have hs := sbW_close (h.wf x (List.mem_of_getElem? hx)) (k := 1) (by omega)
 have h0 : n ∈ (w.setW n (closeW x 1)).ws.flatMap WireA.wt → ((closeW x 1).e 0).what = 0 := fun e => by
  have := (flatMap_set_sub (f := WireA.wt) (x' := closeW x 1) hx hs.wt).subset e
  obtain ⟨z, hz, hz0⟩ := h.wm n this
  rw [hx] at hz; obtain rfl := Option.some.inj hz; rw [(close_e x (by omega) (by omega)).1, if_neg (by omega)]; exact hz0
 exact ⟨h.setS hx hs h0, h.setS_at hx hs h0 (out_free h hx h2)⟩
theorem pclose_ct (L : List SP) (wb : Nat) (w : WA) (n : Int) : Ct Tryz.prog 129 #[.pointer (some ⟨wb, 0, none⟩), .int .i64 n] (WorldP wb w :: L) (fun _ : Unit => .int .i64 (pcloseR w n).1) (fun _ : Unit => WorldP wb (pcloseR w n).2 :: L) := by
 refine Ct.o2 Tryz.func129 ?_; intro E
 show Hd E 18 _ _ _ _
 refine Hd.world .here (fun i hw hrs => ?_); refine sr fun _ hK1 => ?_
 refine yv y_as <| fk [(0, _), (1, _)] hK1 ?_; refine sr fun _ hK2 => ?_
 refine yv y_mv <| yv y_mv <| callE rfl fk111 (outer_ct _ wb w i hw hrs n) sq ?_; intro _; refine yv y_mv <| yv (y_to (v' := ptr (outB i w n)) y_ex (by rfl)) ?_; refine yv (y_to (v' := .int .i64 (outE w n)) y_ex (by rfl)) ?_; refine yv y_as <| yv y_as <| fk [(5, _), (6, _)] hK2 ?_; refine Hd.seq fun _ hK3 => ?_
 refine sr fun _ hK4 => ?_
 refine yv y_mv <| yv (y_eql rfl rfl) ?_; refine fk [(5, _), (6, _), (14, _)] hK4 ?_; refine Hd.cond rfl (fun hc0 => ?_) (fun hc0 => ?_)
 ·try simp only [hyA, hyB, hyC, ne_eq] at hc0
  obtain ⟨k, b, x, rfl, hox, hx, hb, h2, hob⟩ := outE_yes hrs hc0
  have hpk := pclose_ok hw hx h2
  have hrd : pcloseR w k = (0, w.setW k (closeW x 1)) := by unfold pcloseR; rw [hox]; rfl
  rw [hob]; refine Hd.wOut pkk hb ?_; refine Hd.region <| yv y_mv <| callE rfl fk122 (close_ct _ b x 1 (by omega)) sq ?_; intro _; refine fk [(6, _)] hK3 ?_; refine sr fun _ hK5 => ?_
  refine yv y_mv <| yv y_as <| fk [(4, _)] hK5 ?_; refine Hd.ret ?_; rw [hrd]; exact Hd.ret1 rfl () (by rw [hc0]; rfl) (fun q s => world_put hrs hb hpk.1 hpk.2 q (Ent.sep enn q s))
 ·try simp only [hyA, hyB, hyC, ne_eq] at hc0
  refine Hd.skip <| Hd.toK hK3 ?_; refine sr fun _ hK6 => ?_
  refine yv y_mv <| yv y_as <| fk [(4, _)] hK6 ?_; refine Hd.ret ?_
  have e := outE_no hc0
  rw [show pcloseR w n = (116, w) by unfold pcloseR; rw [e]]; exact Hd.ret1 rfl () (by unfold outE; rw [e]; rfl) (Ent.sep (.ex i (.pure ⟨hw, hrs⟩ enn)))
theorem wshut_ct (L : List SP) (wb : Nat) (w : WA) (fd : Int) : Ct Tryz.prog 65 #[.pointer (some ⟨wb, 0, none⟩), .int .i64 fd] (WorldP wb w :: L) (fun _ : Unit => .int .i64 (shutR w fd).1) (fun _ : Unit => WorldP wb (shutR w fd).2 :: L) := by
 refine Ct.o2 Tryz.func65 ?_; intro E
 show Hd E 44 _ _ _ _
 refine Hd.world .here (fun i hw hrs => ?_); refine sr fun _ hK1 => ?_
 refine yv y_as <| fk [(0, _), (1, _)] hK1 ?_; refine sr fun _ hK2 => ?_
 refine yv y_mv <| yv y_mv <| callE rfl fk101 (find_ct _ wb w i hw hrs fd) sq ?_; intro _; refine yv y_mv <| yv y_ex <| yv y_ex <| yv y_ex <| Hd.alloc zr190 (fun b5 => ?_); refine Hd.storeA (us := plc (w.at fd)) (by rw [plc_len]; exact sz190) rfl rfl rfl (plc_one _) pkk (by rw [plc_len]; rfl) ?_; refine yv (y_to (v' := ptr (wfb i (w.at fd))) y_as (by rfl)) ?_; refine yv (y_to (v' := .int .i64 (fdErr (w.at fd))) y_as (by rfl)) ?_; refine fk [(5, _), (6, _), (7, _)] hK2 ?_; refine Hd.seq fun _ hK3 => ?_
 refine Hd.block <| sr fun _ hK4 => ?_
 refine yv y_mv <| yv (y_neq rfl rfl) ?_; refine yv y_as <| fk [(5, _), (6, _), (7, _), (15, _)] hK4 ?_; refine Hd.cond rfl (fun hc0 => ?_) (fun hc0 => ?_)
 ·try simp only [hyA, hyB, hyC, ne_eq] at hc0
  refine sr fun _ hK5 => ?_
  refine yv y_mv <| yv y_as <| fk [(4, _)] hK5 ?_; refine Hd.ret <| Hd.inBret <| Hd.thenRet ?_
  have hno : w.at fd = none := by
   cases h : w.at fd with
   | none => rfl
   | some p => rw [h] at hc0; exact absurd rfl hc0
  rw [show shutR w fd = (110, w) by unfold shutR; rw [hno]]; exact Hd.ret1 rfl () (by rw [hno]; rfl) (Ent.sep (.ex i (.pure ⟨hw, hrs⟩ enn)))
 ·try simp only [hyA, hyB, hyC, ne_eq] at hc0
  obtain ⟨m0, k, hnk⟩ : ∃ m k, w.at fd = some (m, k) := by
   cases h : w.at fd with
   | none => rw [h] at hc0; exact absurd hc0 (by decide)
   | some p => exact ⟨p.1, p.2, rfl⟩
  obtain ⟨hf0, hf1, hk, hn, x, hx, _, _⟩ := hw.at_lt hnk
  obtain ⟨b, hb⟩ := rs_at hrs hx
  have hwf := hw.wf x (List.mem_of_getElem? hx)
  have hrd : shutR w fd = if (x.e k).rd = false ∨ (x.e k).wr = false then (111, w) else (0, w.setW m0 (shutW x k)) := by unfold shutR; rw [hnk]; dsimp only; rw [hx]
  rw [hnk, wfb_eq hb]; refine Hd.wOut pkk hb ?_; refine Hd.wire .here k hk (fun i2 hi => ?_); refine Hd.seq fun _ hK6 => ?_
  refine Hd.quiet mixed kq ?_; refine Hq.yv y_mv ?_; refine Hq.yv (y_f 2 3 Tryz.underlying190 sz3) ?_; refine Hq.yv (y_l1 ag3 rfl) ?_; refine Hq.yv y_np ?_; refine Hq.yv (y_f 0 197 Tryz.underlying199 sz197) ?_; refine Hq.yv (y_idxA Tryz.underlying197 sz196 rfl rfl (by omega)) ?_; refine Hq.yv (y_f 2 194 Tryz.underlying196 sz194) ?_; refine Hq.yv (y_load1 ag194 rfl (Rd.pt1 pkk (by exact enc_at 2 hk (by omega) (by omega) rfl))) ?_; refine Hq.yv (y_to (v' := .bool (!(x.e k).rd)) (y_eql_pointer Tryz.underlying194 rfl rfl) (by (show Value.bool (Option.isNone _) = _; rw [ptr_no, hi.rd k hk]))) ?_; refine Hq.yv y_mv ?_; apply Hq.org 10 29 39 [(5, _), (6, _)] rfl ⟨rfl, rfl, trivial⟩
  ·intro hg4_29
   try simp only [hyA, hyB, hyC, ne_eq] at hg4_29
   simp only [List.take]; refine Hq.ng rfl rfl rfl ?_; refine Hq.ng rfl rfl rfl ?_; refine Hq.ng rfl rfl rfl ?_; refine Hq.ng rfl rfl rfl ?_; refine Hq.ng rfl rfl rfl ?_; refine Hq.ng rfl rfl rfl ?_; refine Hq.ng rfl rfl rfl ?_; refine Hq.ng rfl rfl rfl ?_; refine Hq.ng rfl rfl rfl ?_; refine Hq.yv (y_pickT rfl rfl) ?_; exact Hq.mend sbq
  ·intro hg4_29
   try simp only [hyA, hyB, hyC, ne_eq] at hg4_29
   simp only [List.take]; refine Hq.yg rfl rfl y_mv ?_; refine Hq.yg rfl rfl (y_f 2 3 Tryz.underlying190 sz3) ?_; refine Hq.yg rfl rfl (y_l1 ag3 rfl) ?_; refine Hq.yg rfl rfl y_np ?_; refine Hq.yg rfl rfl (y_f 0 197 Tryz.underlying199 sz197) ?_; refine Hq.yg rfl rfl (y_idxA Tryz.underlying197 sz196 rfl rfl (by omega)) ?_; refine Hq.yg rfl rfl (y_f 3 4 Tryz.underlying196 sz4) ?_; refine Hq.yg rfl rfl (y_load1 ag4 rfl (Rd.pt1 pkk (by exact enc_at 3 hk (by omega) (by omega) rfl))) ?_; refine Hq.yg rfl rfl (y_not rfl) ?_; refine Hq.yv (y_pickF rfl rfl) ?_; exact Hq.mend sbq
  simp only [List.drop]; refine Hq.yv y_as ?_; refine Hq.nil ?_; refine sk [(5, _), (6, _), (19, _)] hK6 ?_; refine Hd.cond rfl (fun hc1 => ?_) (fun hc1 => ?_)
  ·try simp only [hyA, hyB, hyC, ne_eq] at hc1
   refine sr fun _ hK7 => ?_
   refine yv y_as <| fk [(4, _)] hK7 ?_; refine Hd.ret <| Hd.inBret <| Hd.thenRet ?_; rw [hrd, if_pos hc1]; exact Hd.ret1 rfl () rfl (fun q s => world_back hw hrs hb hi hk q (Ent.sep enn q s))
  ·try simp only [hyA, hyB, hyC, ne_eq] at hc1
   rw [if_neg (by rw [hc1.1, hc1.2]; simp)] at hrd; refine Hd.skip <| Hd.inB <| Hd.toK hK3 ?_; refine Hd.seq fun _ hK8 => ?_
   refine Hd.heap (WireP b x :: pt b5 (plc (some (m0, k))) 190 :: WoR wb m0 w i L) (fun q s => wire_fold hi hk q (Ent.sep enn q s)) ?_; refine Hd.region <| yv y_mv <| yv (y_f 2 3 Tryz.underlying190 sz3) ?_; refine yv (y_l1 ag3 rfl) ?_; refine callE rfl fk120 (shut_ct _ b x k hk) sq ?_; intro _; refine fk [] hK8 ?_; refine sr fun _ hK9 => ?_
   refine yv y_as <| fk [(4, _)] hK9 ?_; refine Hd.ret ?_; rw [hrd]; exact Hd.ret1 rfl () rfl (fun q s => world_fold' hw hrs hb (smW_shut hwf) q (Ent.sep enn q s))
end Wo
end Go.Proofs.YtbfddabjbkohdaaGreat
namespace Go.RX
set_option linter.unusedSimpArgs false
set_option linter.unusedVariables false
set_option linter.unnecessarySimpa false
section
variable {E : World} {n : Nat} {ds : List Deferred} {st : List (Nat × Value)} {L L' : List SP} {r : Option Nat} {P : Program} {Q : Exit → Act → World → Prop}
def MkS : List Nat → SP
 | [] => pu True
 | r0 :: rs => RX.ex fun _ : Unit => [ob r0 (.deferred (some [])), MkS rs]
theorem MkS.cons {r0 : Nat} {rs : List Nat} {L : List SP} : ∀ k, sep (ob r0 (.deferred (some [])) :: MkS rs :: L) k → sep (MkS (r0 :: rs) :: L) k :=
 fun k s => Ent.sep (.ex () (.pick (.here) (.pick .here .same))) k s
end
end Go.RX
namespace Go.Proofs.YtbfddabjbkohdaaGreat
set_option maxHeartbeats 2000000
open Go.RX.Hd (yv y2 n1 fk sk sr tH callE heldK onlyH endH thenN slots)
set_option linter.unusedSimpArgs false
set_option linter.unusedVariables false
set_option linter.unnecessarySimpa false
open Go.RX Fx
namespace Wo
set_option maxRecDepth 8000
def mayE (s : Int) : Int := if 1 ≤ s ∧ s ≤ 31 then 0 else 100
theorem mayE_0 {s : Int} : mayE s = 0 ↔ 1 ≤ s ∧ s ≤ 31 := by unfold mayE; split <;> simp_all
theorem is_ct (L : List SP) (s : Int) : Ct Tryz.prog 215 #[.int .i64 s] (L) (fun _ : Unit => .bool (decide (s ≥ 1) && decide (s ≤ 31))) (fun _ : Unit => L) := by
 refine Ct.o1 Tryz.func215 ?_; intro E
 show Hd E 9 _ _ _ _
 refine sr fun _ hK1 => ?_
 refine yv y_as <| fk [(0, _)] hK1 ?_; refine sr fun _ hK2 => ?_
 refine yv y_mv <| yv (y_geq rfl rfl) ?_; refine yv y_mv ?_; apply Hd.andg 3 5 8 [] rfl sbq
 ·intro _
  simp only [List.take]; refine y2 y_mv <| y2 (y_leq rfl rfl) ?_; refine yv (y_pickT rfl rfl) ?_; refine Hd.nil ?_; exact Hd.mq
 ·intro _
  simp only [List.take]; refine n1 <| n1 <| yv (y_pickF rfl rfl) ?_; refine Hd.nil ?_; exact Hd.mq
 simp only [List.drop]; refine yv y_as <| fk [(2, _)] hK2 ?_; refine Hd.ret ?_; exact Hd.ret1 rfl () (by rfl) sq
theorem may_ct (L : List SP) (sb : Nat) (s : Int) : Ct Tryz.prog 197 #[.pointer (some ⟨sb, 0, none⟩), .int .i64 s] (L) (fun _ : Unit => .int .i64 (mayE s)) (fun _ : Unit => L) := by
 refine Ct.o2 Tryz.func197 ?_; intro E
 show Hd E 12 _ _ _ _
 refine sr fun _ hK1 => ?_
 refine yv y_as <| fk [(0, _), (1, _)] hK1 ?_; refine Hd.seq fun _ hK2 => ?_
 refine Hd.block <| sr fun _ hK3 => ?_
 refine yv y_mv <| yv (y_eql_pointer Tryz.underlying205 rfl rfl) ?_; refine yv y_as <| fk [(1, _), (5, _)] hK3 ?_; refine Hd.condF rfl ?_; refine sr fun _ hK4 => ?_
 refine yv y_mv <| callE rfl fk215 (is_ct _ s) sq ?_; intro _; refine yv (y_not rfl) ?_; refine yv y_as <| fk [(8, _)] hK4 ?_; refine Hd.cond rfl (fun hc1 => ?_) (fun hc1 => ?_)
 ·try simp only [hyA, hyB, hyC, ne_eq] at hc1
  refine sr fun _ hK5 => ?_
  refine yv y_as <| fk [(4, _)] hK5 ?_; refine Hd.ret <| Hd.inBret <| Hd.thenRet ?_; rw [show mayE s = 100 from if_neg (by omega)]; exact Hd.ret1 rfl () rfl sq
 ·try simp only [hyA, hyB, hyC, ne_eq] at hc1
  refine Hd.skip <| Hd.inB <| Hd.toK hK2 ?_; refine sr fun _ hK6 => ?_
  refine yv y_as <| fk [(4, _)] hK6 ?_; refine Hd.ret ?_; rw [show mayE s = 0 from if_pos (by omega)]; exact Hd.ret1 rfl () rfl sq
abbrev SgV (hd : List Bool) (ct : List Int) : List Value := hd.map .bool ++ ct.map (Value.int .i64)
theorem sg_hd {hd : List Bool} {ct : List Int} {s o : Nat} (hl : hd.length = 32) (hs : s < 32) (ho : o = s) : (SgV hd ct)[o]? = some (.bool (hd.getD s false)) := by
 subst ho; rw [List.getElem?_append_left (by rw [List.length_map]; omega), List.getElem?_map, List.getD_eq_getElem?_getD, List.getElem?_eq_getElem (by omega)]; rfl
theorem sg_ct {hd : List Bool} {ct : List Int} {s o : Nat} (hl : hd.length = 32) (hc : ct.length = 32) (hs : s < 32) (ho : o = 32 + s) : (SgV hd ct)[o]? = some (.int .i64 (ct.getD s 0)) := by
 subst ho; rw [List.getElem?_append_right (by rw [List.length_map]; omega), List.length_map, hl, Nat.add_sub_cancel_left, List.getElem?_map, List.getD_eq_getElem?_getD, List.getElem?_eq_getElem (by omega)]; rfl
theorem sg_set_hd {hd : List Bool} {ct : List Int} {s o : Nat} {v : Bool} (hl : hd.length = 32) (hs : s < 32) (ho : o = s) : (SgV hd ct).set o (.bool v) = SgV (hd.set s v) ct := by
 subst ho; rw [List.set_append_left _ _ (by rw [List.length_map]; omega)]
 show _ = (hd.set o v).map Value.bool ++ _
 rw [List.map_set]
theorem sg_set_ct {hd : List Bool} {ct : List Int} {s o : Nat} {v : Int} (hl : hd.length = 32) (hs : s < 32) (ho : o = 32 + s) : (SgV hd ct).set o (.int .i64 v) = SgV hd (ct.set s v) := by
 subst ho; rw [List.set_append_right _ _ (by rw [List.length_map]; omega), List.length_map, hl, Nat.add_sub_cancel_left]
 show _ = _ ++ (ct.set s v).map (Value.int .i64)
 rw [List.map_set]
theorem sg_len {hd : List Bool} {ct : List Int} (hl : hd.length = 32) (hc : ct.length = 32) : (SgV hd ct).length = 64 := by
 rw [List.length_append, List.length_map, List.length_map, hl, hc]
def cntS (ct : List Int) (s : Int) : Int := if 1 ≤ s ∧ s ≤ 31 then ct.getD s.toNat 0 else 0
theorem count_ct (L : List SP) (sb : Nat) (hd : List Bool) (ct : List Int) (hl : hd.length = 32) (hcl : ct.length = 32) (s : Int) : Ct Tryz.prog 203 #[.pointer (some ⟨sb, 0, none⟩), .int .i64 s] (SigP sb hd ct :: L) (fun _ : Unit => .int .i64 (cntS ct s)) (fun _ : Unit => SigP sb hd ct :: L) := by
 refine Ct.o2 Tryz.func203 ?_; intro E
 show Hd E 15 _ _ _ _
 refine sr fun _ hK1 => ?_
 refine yv y_as <| fk [(0, _), (1, _)] hK1 ?_; refine Hd.seq fun _ hK2 => ?_
 refine sr fun _ hK3 => ?_
 refine yv y_mv <| yv y_mv <| callE rfl fk197 (may_ct _ sb s) sq ?_; intro _; refine yv (y_neq rfl rfl) ?_; refine fk [(0, _), (1, _), (8, _)] hK3 ?_; refine Hd.cond rfl (fun hc0 => ?_) (fun hc0 => ?_)
 ·try simp only [hyA, hyB, hyC, ne_eq] at hc0
  refine sr fun _ hK4 => ?_
  refine yv y_as <| fk [(4, _)] hK4 ?_; refine Hd.ret <| Hd.thenRet ?_; rw [show cntS ct s = 0 from if_neg (fun h => hc0 (mayE_0.2 h))]; exact Hd.ret1 rfl () rfl sq
 ·try simp only [hyA, hyB, hyC, ne_eq] at hc0
  have hs := mayE_0.1 hc0
  obtain ⟨k, rfl⟩ : ∃ k : Nat, s = (k : Int) := ⟨s.toNat, by omega⟩
  have hk : k < 32 := by omega
  refine Hd.skip <| Hd.toK hK2 ?_; refine sr fun _ hK5 => ?_
  refine yv y_mv <| yv y_mv <| yv y_np <| yv (y_f 32 131 Tryz.underlying265 sz131) ?_; refine yv (y_idxA Tryz.underlying131 sz3 rfl rfl (by omega)) ?_; refine yv (y_load1 ag3 rfl (Rd.pt1 pkk (by exact sg_ct hl hcl hk (by omega)))) ?_; refine yv y_as <| fk [(4, _)] hK5 ?_; refine Hd.ret ?_; rw [show cntS ct (k : Int) = ct.getD k 0 from if_pos hs]; exact Hd.ret1 rfl () rfl sq
theorem cntF_app : ∀ (a b : List Int) (i : Nat), cntF i (a ++ b) = cntF i a ++ cntF (i + a.length) b
 | [], b, i => rfl
 | c :: t, b, i => by
  show (if i = 0 ∨ c = 0 then cntF (i + 1) (t ++ b) else ((i : Int), c) :: cntF (i + 1) (t ++ b)) = (if i = 0 ∨ c = 0 then cntF (i + 1) t else ((i : Int), c) :: cntF (i + 1) t) ++ cntF (i + (t.length + 1)) b
  rw [cntF_app t b (i + 1), show i + 1 + t.length = i + (t.length + 1) by omega]
  split <;> rfl
theorem cntF_succ {ct : List Int} {i : Nat} (h : i < ct.length) : cntF 0 (ct.take (i + 1)) = cntF 0 (ct.take i) ++ (if i = 0 ∨ ct.getD i 0 = 0 then [] else [((i : Int), ct.getD i 0)]) := by
 rw [List.take_add_one, List.getElem?_eq_getElem h, Option.toList_some, cntF_app, List.length_take, Nat.min_eq_left (by omega), Nat.zero_add, List.getD_eq_getElem?_getD, List.getElem?_eq_getElem h]
 show _ ++ (if i = 0 ∨ ct[i] = 0 then cntF (i + 1) [] else ((i : Int), ct[i]) :: cntF (i + 1) []) = _
 rfl
theorem cntF_pre (ct : List Int) (i : Nat) : cntF 0 (ct.take i) <+: cntF 0 ct := by
 conv => rhs; rw [← List.take_append_drop i ct]
 rw [cntF_app]; exact List.prefix_append _ _
theorem cntF_le : ∀ (l : List Int) (i : Nat), (cntF i l).length ≤ l.length
 | [], _ => Nat.le_refl _
 | c :: t, i => by
  have := cntF_le t (i + 1)
  show (if i = 0 ∨ c = 0 then cntF (i + 1) t else ((i : Int), c) :: cntF (i + 1) t).length ≤ _
  split <;> simp only [List.length_cons] <;> omega
abbrev encCn (p : Int × Int) : List Value := [.int .i64 p.1, .int .i64 p.2]
abbrev encCA (p : Int × Int) : List Value := [.agg (encCn p).toArray]
abbrev SgX (bx sb : Nat) (hd : List Bool) (ct : List Int) (L : List SP) : List SP := pt bx [.pointer (some ⟨sb, 0, none⟩)] 205 :: SigP sb hd ct :: L
theorem counts_ct (L : List SP) (sb : Nat) : Ct Tryz.prog 200 #[.pointer (some ⟨sb, 0, none⟩)] (L) (fun bx : Nat => .func (.func 216) #[] #[.pointer (some ⟨bx, 0, none⟩)]) (fun bx : Nat => pt bx [.pointer (some ⟨sb, 0, none⟩)] 205 :: L) := by
 refine Ct.o1 Tryz.func200 ?_; intro E
 show Hd E 4 _ _ _ _
 refine sr fun _ hK1 => ?_
 refine Hd.box rfl rfl (fun b1 => ?_); refine yv y_as <| fk [(1, _)] hK1 ?_; refine sr fun _ hK2 => ?_
 refine yv (y_mkf (fv := []) (cv := [_]) rfl rfl) ?_; refine yv y_as <| fk [(2, _)] hK2 ?_; refine Hd.ret ?_; exact Hd.ret1 rfl b1 rfl sq
theorem counts_it (bx sb : Nat) (hd : List Bool) (ct : List Int) (hl : hd.length = 32) (hcl : ct.length = 32) : RX.It Tryz.prog 216 [.pointer (some ⟨bx, 0, none⟩)] encCA (fun ys => ys = cntF 0 ct) (fun ys => ys <+: cntF 0 ct)
  (SgX bx sb hd ct []) (SgX bx sb hd ct []) := by
 intro l J X hy; refine Ct.of (vs := [.func (.yield l) #[] #[], .pointer (some ⟨bx, 0, none⟩)]) Tryz.func216 rfl rfl [(0, .func (.yield l) #[] #[]), (1, .pointer (some ⟨bx, 0, none⟩))] ⟨rfl, rfl, trivial⟩ ?_; intro E
 show Hd E 20 _ _ _ _
 refine Hd.heap (SgX bx sb hd ct (J [])) (fun k h => by have := sep_app h; exact this) ?_; refine Hd.scope ?_; refine Hd.seq fun _ hK1 => ?_
 refine Hd.label ?_; refine Hd.toK hK1 ?_; refine sr fun _ hK2 => ?_
 refine yv y_mv <| fk [(0, _), (1, _), (5, _)] hK2 ?_; refine Hd.block <| Hd.loopK (ι := Nat) [(0, _), (1, _)] (fun i => [(5, .int .i64 (i : Int))]) (fun i => pu (i ≤ 32) :: SgX bx sb hd ct (J (cntF 0 (ct.take i)))) (fun i => 32 - i) 0 sbq sbq (Ent.sep (.pure (by omega) enn)) ?_; intro i
 try dsimp only
 refine Hd.pure (fun hp0 => ?_)
 try dsimp only at hp0
 refine sr fun _ hK3 => ?_
 refine yv (y_lss rfl rfl) ?_; refine fk [(0, _), (1, _), (5, _), (6, _)] hK3 ?_; refine Hd.seq fun _ hK4 => ?_
 refine Hd.cond rfl (fun hc0 => ?_) (fun hc0 => ?_)
 ·try simp only [hyA, hyB, hyC, ne_eq] at hc0
  have hi : i < 32 := by omega
  have hsc := cntF_succ (ct := ct) (i := i) (by omega)
  have hpr := cntF_pre ct (i + 1)
  refine Hd.skip <| Hd.toK hK4 ?_; refine Hd.seq fun _ hK5 => ?_
  refine Hd.block <| sr fun _ hK6 => ?_
  refine yv y_mv <| yv y_as <| fk [(0, _), (1, _), (3, _), (5, _)] hK6 ?_; refine sr fun _ hK7 => ?_
  refine yv (y_l1 ag205 rfl) ?_; refine yv y_mv <| callE rfl fk203 (count_ct _ sb hd ct hl hcl (i : Int)) sq ?_; intro _; refine yv y_as <| fk [(0, _), (1, _), (3, _), (4, _), (5, _)] hK7 ?_; refine Hd.seq fun _ hK8 => ?_
  refine sr fun _ hK9 => ?_
  refine yv y_mv <| yv (y_eql rfl rfl) ?_; refine fk [(0, _), (1, _), (3, _), (4, _), (5, _), (12, _)] hK9 ?_; refine Hd.cond rfl (fun hc1 => ?_) (fun hc1 => ?_)
  ·try simp only [hyA, hyB, hyC, ne_eq] at hc1
   refine Hd.exit <| Hd.thenExit <| Hd.inBexit <| Hd.toK hK5 ?_; refine Hd.region <| yv (y_addn rfl rfl (by simp only [InK]; omega)) ?_; refine yv y_mv <| Hd.nil <| slots [(0, _), (1, _), (5, _)] sbq ?_; refine thenN ?_
   rw [if_pos (by
    unfold cntS at hc1
    by_cases h0 : i = 0
    ·exact .inl h0
    ·rw [if_pos (by omega), Int.toNat_natCast] at hc1; exact .inr hc1), List.append_nil] at hsc
   rw [← hsc]; exact Hd.again (i + 1) (by omega) sbq (Ent.sep (.pure (by omega) enn))
  ·try simp only [hyA, hyB, hyC, ne_eq] at hc1
   have hi0 : i ≠ 0 := fun h => by subst h; exact hc1 rfl
   have hcv : cntS ct (i : Int) = ct.getD i 0 := by unfold cntS; rw [if_pos (by omega), Int.toNat_natCast]
   rw [hcv] at hc1; rw [if_neg (by rintro (h | h); exact hi0 h; exact hc1 h)] at hsc; rw [hsc] at hpr; rw [hcv]; refine Hd.skip <| Hd.toK hK8 ?_; refine sr fun _ hK10 => ?_
   refine yv y_mv <| yv y_mv <| yv y_mv <| yv (y_build (vs := [(0, _), (1, _)]) rfl (by exact bd216_16 ..)) ?_; refine Hd.yield (pre := cntF 0 (ct.take i)) (c := ((i : Int), ct.getD i 0)) (M := SgX bx sb hd ct []) hy rfl rfl hpr (fun k' h => sep_app (show sep ((SgX bx sb hd ct []) ++ J (cntF 0 (ct.take i))) k' from Ent.sep enn k' h)) ?_; intro yb; refine yv (y_not rfl) ?_; refine fk [(0, _), (1, _), (5, _), (18, _)] hK10 ?_; refine Hd.cond rfl (fun hc2 => ?_) (fun hc2 => ?_)
   ·try simp only [hyA, hyB, hyC, ne_eq] at hc2
    subst hc2; simp only [cond_false]; refine Hd.ret <| Hd.inBret <| Hd.thenRet <| Hd.thenRet <| Hd.inBret <| Hd.scRet ?_; exact Hd.ret0 rfl (cntF 0 (ct.take i) ++ [((i : Int), ct.getD i 0)], false) rfl (fun k' h => Ent.sep (.pure hpr .same) k' h)
   ·try simp only [hyA, hyB, hyC, ne_eq] at hc2
    subst hc2; simp only [cond_true]; refine Hd.heap (SgX bx sb hd ct (J (cntF 0 (ct.take i) ++ [((i : Int), ct.getD i 0)]))) (fun k' h => sep_app h) ?_; rw [← hsc]; refine Hd.skip <| Hd.inB <| Hd.toK hK5 ?_; refine Hd.region <| yv (y_addn rfl rfl (by simp only [InK]; omega)) ?_; refine yv y_mv <| Hd.nil <| slots [(0, _), (1, _), (5, _)] sbq ?_; refine thenN ?_; exact Hd.again (i + 1) (by omega) sbq (Ent.sep (.pure (by omega) enn))
 ·try simp only [hyA, hyB, hyC, ne_eq] at hc0
  refine Hd.exit <| Hd.thenExit <| Hd.thenExit <| Hd.inBexit <| Hd.scNorm ?_
  obtain rfl : i = 32 := by omega
  rw [show ct.take 32 = ct from List.take_of_length_le (by omega)]; exact Hd.end0 rfl (cntF 0 ct, true) rfl (fun k' h => Ent.sep (.pure rfl .same) k' (sep_app (M := SgX bx sb hd ct []) (N := J (cntF 0 ct)) (Ent.sep enn k' h)))
theorem cntF_mem : ∀ (l : List Int) (i : Nat) (p : Int × Int), p ∈ cntF i l → ∃ j : Nat, l[j]? = some p.2 ∧ p.1 = ((i + j : Nat) : Int) ∧ 0 < i + j
 | [], _, _, h => by cases h
 | c :: t, i, p, h => by
  have h' : p ∈ (if i = 0 ∨ c = 0 then cntF (i + 1) t else ((i : Int), c) :: cntF (i + 1) t) := h
  have rec_ : p ∈ cntF (i + 1) t → ∃ j : Nat, (c :: t)[j]? = some p.2 ∧ p.1 = ((i + j : Nat) : Int) ∧ 0 < i + j := fun h => by
   obtain ⟨j, h1, h2, h3⟩ := cntF_mem t (i + 1) p h
   exact ⟨j + 1, by simpa using h1, by rw [h2]; congr 1; omega, by omega⟩
  split at h'
  ·exact rec_ h'
  ·rename_i hn
   rcases List.mem_cons.1 h' with rfl | h'
   ·exact ⟨0, rfl, rfl, by omega⟩
   ·exact rec_ h'
theorem cntF_sum : ∀ (l : List Int) (i : Nat), 0 < i → ((cntF i l).map Prod.snd).sum = l.sum
 | [], _, _ => rfl
 | c :: t, i, h => by
  show ((if i = 0 ∨ c = 0 then cntF (i + 1) t else ((i : Int), c) :: cntF (i + 1) t).map Prod.snd).sum = c + t.sum
  have ih := cntF_sum t (i + 1) (by omega)
  split
  ·rename_i h1
   rw [ih]; omega
  ·show c + ((cntF (i + 1) t).map Prod.snd).sum = _
   rw [ih]
theorem cntF_sum0 (ct : List Int) : ((cntF 0 ct).map Prod.snd).sum = (ct.drop 1).sum := by
 cases ct with
 | nil => rfl
 | cons c t =>
  show ((if 0 = 0 ∨ c = 0 then cntF 1 t else (((0 : Nat) : Int), c) :: cntF 1 t).map Prod.snd).sum = t.sum
  rw [if_pos (.inl rfl)]; exact cntF_sum t 1 (by omega)
theorem sum_bd {l : List (Int × Int)} {K : Int} (h : ∀ p ∈ l, 0 ≤ p.2 ∧ p.2 ≤ K) : 0 ≤ (l.map Prod.snd).sum ∧ (l.map Prod.snd).sum ≤ l.length * K := by
 induction l with
 | nil => simp
 | cons p t ih =>
  have h1 := h p List.mem_cons_self
  have h2 := ih fun q hq => h q (List.mem_cons_of_mem _ hq)
  simp only [List.map_cons, List.sum_cons, List.length_cons]
  have : ((t.length + 1 : Nat) : Int) * K = (t.length : Int) * K + K := by
   rw [Int.natCast_add, Int.add_mul]; simp
  omega
theorem pending_ct (L : List SP) (sb : Nat) (hd : List Bool) (ct : List Int) (hl : hd.length = 32) (hcl : ct.length = 32) (hb : ∀ c ∈ ct, 0 ≤ c ∧ c ≤ 2000000000) : Ct Tryz.prog 198 #[.pointer (some ⟨sb, 0, none⟩)] (SigP sb hd ct :: L) (fun _ : Unit => .int .i64 (ct.drop 1).sum) (fun _ : Unit => SigP sb hd ct :: L) := by
 refine Ct.o1M Tryz.func198 ?_; intro E
 show Hd E 13 _ _ _ _
 have hmb : ∀ p ∈ cntF 0 ct, 0 ≤ p.2 ∧ p.2 ≤ 2000000000 := fun p hp => by
  obtain ⟨j, hj, _, _⟩ := cntF_mem ct 0 p hp
  exact hb _ (List.mem_of_getElem? hj)
 have hcle := cntF_le ct 0
 refine sr fun _ hK1 => ?_
 refine yv y_as <| fk [(0, _)] hK1 ?_; refine sr fun _ hK2 => ?_
 refine Hd.alloc zr3 (fun b3 => ?_); refine Hd.store1 sz3 rfl rfl rfl pkk (by decide) ?_
 try simp only [List.set_cons_zero, List.set_cons_succ]
 refine fk [(0, _), (3, _)] hK2 ?_; refine Hd.seq fun _ hK3 => ?_
 refine sr fun _ hK4 => ?_
 refine yv y_mv <| callE rfl fk200 (counts_ct _ sb) sq ?_; intro bx; refine fk [(3, _), (6, _)] hK4 ?_; refine Hd.block <| Hd.rangeF (enc := encCA) (S := fun ys => ys = cntF 0 ct) (Sp := fun ys => ys <+: cntF 0 ct)
  (fun pre => pt b3 [.int .i64 (pre.map Prod.snd).sum] 3 :: L) (fun _ _ => [pu False])
  rfl kq (fun _ => rfl) rfl (counts_it bx sb hd ct hl hcl) (by refine Ent.sep ?_; refine Ent.eq pkk (pt_eq (by rfl)) ?_; exact Ent.swap (L := [_, _])) ?_ ?_ ?_
 ·intro E l' R pre c N hR hG
  have hpl := hG.length_le
  have hs1 := sum_bd (l := pre) (K := 2000000000) fun p hp => hmb p (hG.subset (List.mem_append_left _ hp))
  have hc1 := hmb c (hG.subset (by simp))
  rw [List.length_append] at hpl
  have hpl2 : pre.length ≤ 32 := by simp at hpl; omega
  unfold Rnd; simp only [List.cons_append, List.nil_append, pz, encCA]; refine Hd.region <| Hd.alloc zr241 (fun b4 => ?_); refine Hd.storeA (us := encCn c) sz241 rfl rfl rfl (by simp [Value.oneCell']) pkk (by exact rfl) ?_; refine Hd.nil <| slots [(3, _), (4, _)] sbq ?_; refine thenN <| Hd.begin hR pkk ?_; refine Hd.block <| Hd.region <| yv (y_l1 ag3 rfl) ?_; refine yv (y_f 1 3 Tryz.underlying241 sz3) ?_; refine yv (y_l1 ag3 rfl) ?_; refine yv (y_addn rfl rfl (by simp only [InK]; omega)) ?_; refine Hd.store1 sz3 rfl rfl rfl pkk (by simp; done) ?_
  try simp only [List.set_cons_zero, List.set_cons_succ]
  refine Hd.nil <| slots [(3, _)] sbq ?_; refine Hd.inB <| Hd.reN ?_; simp only [List.cons_append, List.nil_append]; exact Ent.sep (.pick pkk (.eq pkk (pt_eq (by simp)) enn))
 ·intro r0 ys hys
  obtain rfl : ys = cntF 0 ct := hys
  try simp only [List.cons_append, List.nil_append]
  refine Hd.inB <| Hd.toK hK3 ?_; refine sr fun _ hK5 => ?_
  refine yv (y_l1 ag3 rfl) ?_; refine yv y_as <| fk [(2, _)] hK5 ?_; refine Hd.ret ?_; rw [← cntF_sum0]; exact Hd.retM (fun a fr => Lv.mark pkk (Lv.end1 fr rfl () rfl sq))
 ·rintro r0_0 (_ | id0) pre0 hG0
  ·exact Hd.absurd (by exact id)
  ·exact Hd.absurd (by exact id)
theorem sig_open {s : Int} (h : mayE s = 0) : ∃ k : Nat, s = (k : Int) ∧ 1 ≤ k ∧ k < 32 := by
 have := mayE_0.1 h
 exact ⟨s.toNat, by omega, by omega, by omega⟩
theorem shandle_ct (L : List SP) (sb : Nat) (hd : List Bool) (ct : List Int) (hl : hd.length = 32) (hcl : ct.length = 32) (s : Int) (on : Bool) : Ct Tryz.prog 180 #[.pointer (some ⟨sb, 0, none⟩), .int .i64 s, .bool on] (SigP sb hd ct :: L) (fun _ : Unit => .int .i64 (mayE s)) (fun _ : Unit => SigP sb (if mayE s = 0 then hd.set s.toNat on else hd) (if mayE s = 0 ∧ on = false then ct.set s.toNat 0 else ct) :: L) := by
 refine Ct.o3 Tryz.func180 ?_; intro E
 show Hd E 27 _ _ _ _
 refine sr fun _ hK1 => ?_
 refine yv y_as <| fk [(0, _), (1, _), (2, _)] hK1 ?_; refine Hd.seq fun _ hK2 => ?_
 refine sr fun _ hK3 => ?_
 refine yv y_mv <| yv y_mv <| callE rfl fk197 (may_ct _ sb s) sq ?_; intro _; refine yv y_as <| fk [(0, _), (1, _), (2, _), (7, _)] hK3 ?_; refine sr fun _ hK4 => ?_
 refine yv y_mv <| yv (y_neq rfl rfl) ?_; refine fk [(0, _), (1, _), (2, _), (7, _), (12, _)] hK4 ?_; refine Hd.cond rfl (fun hc0 => ?_) (fun hc0 => ?_)
 ·try simp only [hyA, hyB, hyC, ne_eq] at hc0
  refine sr fun _ hK5 => ?_
  refine yv y_mv <| yv y_as <| fk [(6, _)] hK5 ?_; refine Hd.ret <| Hd.thenRet ?_; rw [if_neg hc0, if_neg (fun h => hc0 h.1)]; exact Hd.ret1 rfl () rfl sq
 ·try simp only [hyA, hyB, hyC, ne_eq] at hc0
  obtain ⟨k, rfl, hk1, hk⟩ := sig_open hc0
  refine Hd.skip <| Hd.toK hK2 ?_; refine Hd.seq fun _ hK6 => ?_
  refine sr fun _ hK7 => ?_
  refine yv y_mv <| yv y_mv <| yv y_mv <| yv y_np <| yv (y_f 0 130 Tryz.underlying265 sz130) ?_; refine yv (y_idxA Tryz.underlying130 sz4 rfl rfl (by omega)) ?_; refine Hd.store1 sz4 rfl rfl rfl pkk (by rw [sg_len hl hcl]; omega) ?_
  try simp only [List.set_cons_zero, List.set_cons_succ]
  refine Hd.nil ?_; rw [show (hd.map Value.bool ++ ct.map (Value.int .i64)).set (0 + 0 + k * 1) (.bool on) = SgV (hd.set k on) ct from sg_set_hd hl hk (by omega)]; refine sk [(0, _), (1, _), (2, _)] hK7 ?_; refine sr fun _ hK8 => ?_
  refine yv y_mv <| yv (y_not rfl) ?_; refine fk [(0, _), (1, _), (21, _)] hK8 ?_; refine Hd.cond rfl (fun hc1 => ?_) (fun hc1 => ?_)
  ·try simp only [hyA, hyB, hyC, ne_eq] at hc1
   refine Hd.region <| yv y_mv <| yv y_mv <| yv y_np <| yv (y_f 32 131 Tryz.underlying265 sz131) ?_; refine yv (y_idxA Tryz.underlying131 sz3 rfl rfl (by omega)) ?_; refine Hd.store1 sz3 rfl rfl rfl pkk (by rw [sg_len (by rw [List.length_set]; exact hl) hcl]; omega) ?_
   try simp only [List.set_cons_zero, List.set_cons_succ]
   refine Hd.nil ?_; rw [show (SgV (hd.set k on) ct).set (0 + 32 + k * 1) (.int .i64 0) = SgV (hd.set k on) (ct.set k 0) from sg_set_ct (by rw [List.length_set]; exact hl) hk (by omega)]; refine sk [] hK6 ?_; refine sr fun _ hK9 => ?_
   refine yv y_as <| fk [(6, _)] hK9 ?_; refine Hd.ret ?_; rw [if_pos hc0, if_pos ⟨hc0, by simpa using hc1⟩]; exact Hd.ret1 rfl () (by rw [hc0]; rfl) sq
  ·try simp only [hyA, hyB, hyC, ne_eq] at hc1
   refine Hd.skip <| Hd.toK hK6 ?_; refine sr fun _ hK10 => ?_
   refine yv y_as <| fk [(6, _)] hK10 ?_; refine Hd.ret ?_; rw [if_pos hc0, if_neg (fun h => by rw [h.2] at hc1; simp at hc1)]; exact Hd.ret1 rfl () (by rw [hc0]; rfl) sq
theorem sraise_ct (L : List SP) (sb : Nat) (hd : List Bool) (ct : List Int) (hl : hd.length = 32) (hcl : ct.length = 32) (hb : ∀ c ∈ ct, 0 ≤ c ∧ c ≤ 2000000000) (s : Int) : Ct Tryz.prog 183 #[.pointer (some ⟨sb, 0, none⟩), .int .i64 s] (SigP sb hd ct :: L) (fun _ : Unit => .int .i64 (mayE s)) (fun _ : Unit => SigP sb hd (if mayE s = 0 ∧ hd.getD s.toNat false = true then ct.set s.toNat (ct.getD s.toNat 0 + 1) else ct) :: L) := by
 refine Ct.o2 Tryz.func183 ?_; intro E
 show Hd E 36 _ _ _ _
 refine sr fun _ hK1 => ?_
 refine yv y_as <| fk [(0, _), (1, _)] hK1 ?_; refine Hd.seq fun _ hK2 => ?_
 refine sr fun _ hK3 => ?_
 refine yv y_mv <| yv y_mv <| callE rfl fk197 (may_ct _ sb s) sq ?_; intro _; refine yv y_as <| fk [(0, _), (1, _), (5, _)] hK3 ?_; refine sr fun _ hK4 => ?_
 refine yv y_mv <| yv (y_neq rfl rfl) ?_; refine fk [(0, _), (1, _), (5, _), (10, _)] hK4 ?_; refine Hd.cond rfl (fun hc0 => ?_) (fun hc0 => ?_)
 ·try simp only [hyA, hyB, hyC, ne_eq] at hc0
  refine sr fun _ hK5 => ?_
  refine yv y_mv <| yv y_as <| fk [(4, _)] hK5 ?_; refine Hd.ret <| Hd.thenRet ?_; rw [if_neg (fun h => hc0 h.1)]; exact Hd.ret1 rfl () rfl sq
 ·try simp only [hyA, hyB, hyC, ne_eq] at hc0
  obtain ⟨k, rfl, hk1, hk⟩ := sig_open hc0
  have hcb : 0 ≤ ct.getD k 0 ∧ ct.getD k 0 ≤ 2000000000 := by
   rw [List.getD_eq_getElem?_getD, List.getElem?_eq_getElem (by omega)]; exact hb _ (List.getElem_mem _)
  refine Hd.skip <| Hd.toK hK2 ?_; refine Hd.seq fun _ hK6 => ?_
  refine sr fun _ hK7 => ?_
  refine yv y_mv <| yv y_mv <| yv y_np <| yv (y_f 0 130 Tryz.underlying265 sz130) ?_; refine yv (y_idxA Tryz.underlying130 sz4 rfl rfl (by omega)) ?_; refine yv (y_load1 ag4 rfl (Rd.pt1 pkk (by exact sg_hd hl hk (by omega)))) ?_; refine fk [(0, _), (1, _), (17, _)] hK7 ?_; refine Hd.cond rfl (fun hc1 => ?_) (fun hc1 => ?_)
  ·try simp only [hyA, hyB, hyC, ne_eq] at hc1
   refine Hd.tail 18 mixed kq ?_; simp only [List.take, List.drop]; refine Ht.yv y_mv ?_; refine Ht.yv y_mv ?_; refine Ht.yv y_np ?_; refine Ht.yv (y_f 32 131 Tryz.underlying265 sz131) ?_; refine Ht.yv (y_idxA Tryz.underlying131 sz3 rfl rfl (by omega)) ?_; refine Ht.yv (y_load1 ag3 rfl (Rd.pt1 pkk (by exact sg_ct hl hcl hk (by omega)))) ?_; refine Ht.yv y_mv ?_; refine Ht.yv y_mv ?_; refine Ht.yv y_np ?_; refine Ht.yv (y_f 32 131 Tryz.underlying265 sz131) ?_; refine Ht.yv (y_idxA Tryz.underlying131 sz3 rfl rfl (by omega)) ?_; refine Ht.yv (y_load1 ag3 rfl (Rd.pt1 pkk (by exact sg_ct hl hcl hk (by omega)))) ?_; refine Ht.yv (y_subn rfl rfl (by simp only [InK]; omega)) ?_; refine Ht.yv (y_min rfl rfl) ?_; refine Ht.yv (y_to (v' := .int .i64 (ct.getD k 0 + 1)) (y_addn rfl rfl (by simp only [InK]; omega)) (by (congr 1; omega))) ?_; refine Ht.yv y_np ?_; refine Ht.yv (y_f 32 131 Tryz.underlying265 sz131) ?_
   refine Ht.yv (y_idxA Tryz.underlying131 sz3 rfl rfl (by omega)) ?_; refine Ht.nil ?_; refine Hd.store1 sz3 rfl rfl rfl pkk (by rw [sg_len hl hcl]; omega) ?_
   try simp only [List.set_cons_zero, List.set_cons_succ]
   refine Hd.nil ?_; rw [show (hd.map Value.bool ++ ct.map (Value.int .i64)).set (0 + 32 + k * 1) (.int .i64 (ct.getD k 0 + 1)) = SgV hd (ct.set k (ct.getD k 0 + 1)) from sg_set_ct hl hk (by omega)]; refine sk [] hK6 ?_; refine sr fun _ hK8 => ?_
   refine yv y_as <| fk [(4, _)] hK8 ?_; refine Hd.ret ?_; rw [if_pos ⟨hc0, hc1⟩]; exact Hd.ret1 rfl () (by rw [hc0]; rfl) sq
  ·try simp only [hyA, hyB, hyC, ne_eq] at hc1
   refine Hd.skip <| Hd.toK hK6 ?_; refine sr fun _ hK9 => ?_
   refine yv y_as <| fk [(4, _)] hK9 ?_; refine Hd.ret ?_; rw [if_neg (fun h => by rw [show ((k : Int)).toNat = k from Int.toNat_natCast k] at h; rw [h.2] at hc1; cases hc1)]; exact Hd.ret1 rfl () (by rw [hc0]; rfl) sq
abbrev OutCn (b : Nat) (l : List (Int × Int)) : SP := RX.ex fun i : Option Addr × Nat => [pt b [.slice i.1 l.length i.2] 238, own 241 2 i.1 l.length i.2 (l.flatMap encCn)]
def zerF (ct : List Int) (l : List (Int × Int)) : List Int := l.foldl (fun ct p => ct.set p.1.toNat 0) ct
theorem zerF_len (l : List (Int × Int)) (ct : List Int) : (zerF ct l).length = ct.length := by
 induction l generalizing ct with
 | nil => rfl
 | cons p t ih => show (zerF (ct.set p.1.toNat 0) t).length = _; rw [ih, List.length_set]
theorem zerF_snoc (ct : List Int) (l : List (Int × Int)) (p : Int × Int) : zerF ct (l ++ [p]) = (zerF ct l).set p.1.toNat 0 := by unfold zerF; rw [List.foldl_append]; rfl
theorem zerF_at : ∀ (l : List (Int × Int)) (ct : List Int) (j : Nat), j < ct.length → (zerF ct l)[j]? = if ∃ p ∈ l, p.1.toNat = j then some 0 else ct[j]?
 | [], ct, j, _ => by simp [zerF]
 | p :: t, ct, j, h => by
  show (zerF (ct.set p.1.toNat 0) t)[j]? = _
  rw [zerF_at t _ j (by rw [List.length_set]; exact h)]
  by_cases h1 : ∃ q ∈ t, q.1.toNat = j
  ·rw [if_pos h1, if_pos]
   obtain ⟨q, hq, e⟩ := h1
   exact ⟨q, List.mem_cons_of_mem _ hq, e⟩
  ·rw [if_neg h1]
   by_cases h2 : p.1.toNat = j
   ·rw [if_pos ⟨p, List.mem_cons_self, h2⟩, h2, List.getElem?_set_self h]
   ·rw [List.getElem?_set_ne h2, if_neg]
    rintro ⟨q, hq, e⟩
    rcases List.mem_cons.1 hq with rfl | hq
    ·exact h2 e
    ·exact h1 ⟨q, hq, e⟩
theorem cntF_has : ∀ (l : List Int) (i j : Nat) (c : Int), l[j]? = some c → c ≠ 0 → 0 < i + j → (((i + j : Nat) : Int), c) ∈ cntF i l
 | [], _, _, _, h, _, _ => by simp at h
 | a :: t, i, 0, c, h, hc, hi => by
  obtain rfl : a = c := by simpa using h
  show _ ∈ (if i = 0 ∨ a = 0 then cntF (i + 1) t else ((i : Int), a) :: cntF (i + 1) t)
  rw [if_neg (by rintro (h | h); omega; exact hc h)]; exact List.mem_cons_self
 | a :: t, i, j + 1, c, h, hc, hi => by
  have := cntF_has t (i + 1) j c (by simpa using h) hc (by omega)
  rw [show i + 1 + j = i + (j + 1) by omega] at this
  show _ ∈ (if i = 0 ∨ a = 0 then cntF (i + 1) t else ((i : Int), a) :: cntF (i + 1) t)
  split
  ·exact this
  ·exact List.mem_cons_of_mem _ this
def zer1 : List Int → List Int
 | [] => []
 | c :: t => c :: t.map fun _ => 0
theorem zerF_all (ct : List Int) : zerF ct (cntF 0 ct) = zer1 ct := by
 apply List.ext_getElem?; intro j
 by_cases hj : j < ct.length
 ·rw [zerF_at _ _ _ hj]
  cases ct with
  | nil => simp at hj
  | cons c t =>
   cases j with
   | zero =>
    rw [if_neg]
    ·rfl
    ·rintro ⟨p, hp, e⟩
     obtain ⟨k, _, h2, h3⟩ := cntF_mem _ _ _ hp
     omega
   | succ j =>
    have hjt : j < t.length := by simpa using hj
    show _ = (t.map fun _ => (0 : Int))[j]?
    rw [List.getElem?_map, List.getElem?_eq_getElem hjt]
    by_cases hz : t[j] = 0
    ·have e : (c :: t)[j + 1]? = some 0 := by rw [List.getElem?_cons_succ, List.getElem?_eq_getElem hjt, hz]
     rw [e]; split <;> rfl
    ·rw [if_pos]
     ·rfl
     ·refine ⟨_, cntF_has (c :: t) 0 (j + 1) t[j] (by rw [List.getElem?_cons_succ, List.getElem?_eq_getElem hjt]) hz (by omega), ?_⟩
      show ((0 + (j + 1) : Nat) : Int).toNat = j + 1
      omega
 ·rw [List.getElem?_eq_none (by rw [zerF_len]; omega), List.getElem?_eq_none]
  cases ct with
  | nil => exact Nat.zero_le _
  | cons c t => simp [zer1] at hj ⊢; omega
theorem stake_ct (L : List SP) (sb : Nat) (hd : List Bool) (ct : List Int) (hl : hd.length = 32) (hcl : ct.length = 32) : Ct Tryz.prog 184 #[.pointer (some ⟨sb, 0, none⟩)] (SigP sb hd ct :: L) (fun q_ : Option Addr × Nat => .slice q_.1 (cntF 0 ct).length q_.2) (fun q_ : Option Addr × Nat => own 241 2 q_.1 (cntF 0 ct).length q_.2 ((cntF 0 ct).flatMap encCn) :: SigP sb hd (zer1 ct) :: L) := by
 refine Ct.o1M Tryz.func184 ?_; intro E
 show Hd E 28 _ _ _ _
 have hcle := cntF_le ct 0
 refine sr fun _ hK1 => ?_
 refine yv y_as <| fk [(0, _)] hK1 ?_; refine sr fun _ hK2 => ?_
 refine Hd.alloc zr238 (fun b3 => ?_); refine fk [(0, _), (3, _)] hK2 ?_; refine Hd.seq fun _ hK3 => ?_
 refine sr fun _ hK4 => ?_
 refine yv y_mv <| callE rfl fk200 (counts_ct _ sb) sq ?_; intro bx; refine fk [(0, _), (3, _), (8, _)] hK4 ?_; refine Hd.block <| Hd.rangeF (enc := encCA) (S := fun ys => ys = cntF 0 ct) (Sp := fun ys => ys <+: cntF 0 ct)
  (fun pre => OutCn b3 pre :: L) (fun _ _ => [pu False])
  rfl kq (fun _ => rfl) rfl (counts_it bx sb hd ct hl hcl) (by refine Ent.sep ?_; refine Ent.ex (none, 0) ?_; refine Ent.eq pkk (pt_eq (by rfl)) ?_; refine Ent.ownNil ?_; exact Ent.swap (L := [_, _])) ?_ ?_ ?_
 ·intro E l' R pre c N hR hG
  have hpl : pre.length + 1 ≤ 32 := by have h1 := hG.length_le; simp at h1; omega
  unfold Rnd; simp only [List.cons_append, List.nil_append, pz, encCA]; refine Hd.region <| Hd.alloc zr241 (fun b4 => ?_); refine Hd.storeA (us := encCn c) sz241 rfl rfl rfl (by simp [Value.oneCell']) pkk (by exact rfl) ?_; refine Hd.nil <| slots [(0, _), (3, _), (4, _)] sbq ?_; refine thenN <| Hd.begin hR pkk ?_; refine Hd.block <| Hd.exs pkk ?_; rintro ⟨a3, c3⟩; simp only [List.cons_append, List.nil_append]; refine Hd.region <| yv (y_l1 ag238 rfl) ?_; refine yv (y_loadn (us := encCn c) ag241 rfl (Rd.pt pkk (fun j v e => by rw [Nat.zero_add]; exact e)) (by exact sz241)) ?_; refine Hd.bslice (vs := [(0, _)]) rfl (by exact bs184_12 ..) (fun b12 => ?_); refine Hd.append Tryz.underlying238 ty241 rfl rfl rfl pkk (by exact RdS.rd (Rd.pt pkk (fun j v e => by simpa using e)) rfl) (by simp [Value.oneCell']; done) (by simp only [maxLen]; omega) (by omega) (fun ad13 cap13 => ?_)
  refine Hd.store1 sz238 rfl rfl rfl pkk (by simp; done) ?_
  try simp only [List.set_cons_zero, List.set_cons_succ]
  refine Hd.nil <| slots [(0, _), (3, _)] sbq ?_; refine Hd.inB <| Hd.reN ?_; simp only [List.cons_append, List.nil_append]; exact Ent.sep (.pick pkk (.ex (ad13, cap13) (.eq pkk (pt_eq (by simp)) (.eq pkk (own_eq (by simp) (by simp)) enn))))
 ·intro r0 ys hys
  obtain rfl : ys = cntF 0 ct := hys
  try simp only [List.cons_append, List.nil_append]
  refine Hd.inB <| Hd.toK hK3 ?_; refine Hd.seq fun _ hK5 => ?_
  refine Hd.seq fun _ hK6 => ?_
  refine Hd.exs pkk ?_; rintro ⟨a3, c3⟩; simp only [List.cons_append, List.nil_append]; refine Hd.region <| yv (y_l1 ag238 rfl) ?_; refine yv (y_len Tryz.underlying238 rfl) ?_; refine yv y_mv <| fk [(0, _), (3, _), (14, _), (15, _), (16, _)] hK6 ?_; refine Hd.block <| Hd.loopK (ι := Nat) [(0, _), (3, _), (14, _), (15, _)] (fun j => [(16, .int .i64 (j : Int))]) (fun j => pu (j ≤ (cntF 0 ct).length) :: ob r0 (Obj.deferred (some [])) :: pt b3 [.slice a3 (cntF 0 ct).length c3] 238 :: own 241 2 a3 (cntF 0 ct).length c3 ((cntF 0 ct).flatMap encCn) :: SigP sb hd (zerF ct ((cntF 0 ct).take j)) :: L) (fun j => (cntF 0 ct).length - j) 0 sbq sbq (Ent.sep (.pure (Nat.zero_le _) (.pick pkk (.pick pkk (.pick pkk (.eq pkk (show SigP sb hd ct = SigP sb hd (zerF ct ((cntF 0 ct).take 0)) from rfl) enn)))))) ?_; intro j
  try dsimp only
  refine Hd.pure (fun hp0 => ?_)
  try dsimp only at hp0
  refine sr fun _ hK7 => ?_
  refine yv (y_lss rfl rfl) ?_; refine fk [(0, _), (3, _), (14, _), (15, _), (16, _), (17, _)] hK7 ?_; refine Hd.seq fun _ hK8 => ?_
  refine Hd.cond rfl (fun hc0 => ?_) (fun hc0 => ?_)
  ·try simp only [hyA, hyB, hyC, ne_eq] at hc0
   have hj : j < (cntF 0 ct).length := by omega
   have hgj : (cntF 0 ct)[j]? = some (cntF 0 ct)[j] := List.getElem?_eq_getElem hj
   obtain ⟨s, hs1, hs2, hs3⟩ := cntF_mem ct 0 _ (List.getElem_mem hj)
   have hsl : s < 32 := by rw [← hcl]; exact (List.getElem?_eq_some_iff.1 hs1).1
   have hsc : (cntF 0 ct).take (j + 1) = (cntF 0 ct).take j ++ [(cntF 0 ct)[j]] := by rw [List.take_add_one, hgj]; rfl
   rw [Nat.zero_add] at hs2; refine Hd.skip <| Hd.toK hK8 ?_; refine Hd.seq fun _ hK9 => ?_
   refine Hd.block <| sr fun _ hK10 => ?_
   refine yv (y_idxR Tryz.underlying238 sz241 rfl rfl (by omega) (by exact RdS.own pkk)) ?_; refine yv (y_loadRn (vs := encCn (cntF 0 ct)[j]) ag241 rfl (RdS.own (ad := a3) (us := (cntF 0 ct).flatMap encCn) pkk) (flat_cells encCn 2 (fun _ => rfl) hgj) (by exact sz241) (by simp)) ?_; refine Hd.alloc zr241 (fun b6 => ?_); refine Hd.storeA (us := encCn (cntF 0 ct)[j]) sz241 rfl rfl rfl (by simp [Value.oneCell']) pkk (by exact rfl) ?_; refine fk [(0, _), (3, _), (6, _), (14, _), (15, _), (16, _)] hK10 ?_; refine Hd.tail 6 mixed kq ?_; simp only [List.take, List.drop]; refine Ht.yv y_mv ?_; refine Ht.yv (y_f 0 3 Tryz.underlying241 sz3) ?_; refine Ht.yv (y_to (v' := .int .i64 (s : Int)) (y_l1 ag3 rfl) (by rw [hs2])) ?_; refine Ht.yv y_np ?_; refine Ht.yv (y_f 32 131 Tryz.underlying265 sz131) ?_; refine Ht.yv (y_idxA Tryz.underlying131 sz3 rfl rfl (by omega)) ?_; refine Ht.nil ?_; refine Hd.store1 sz3 rfl rfl rfl pkk (by rw [sg_len hl (by rw [zerF_len]; exact hcl)]; omega) ?_
   try simp only [List.set_cons_zero, List.set_cons_succ]
   refine Hd.nil ?_
   rw [show (hd.map Value.bool ++ (zerF ct ((cntF 0 ct).take j)).map (Value.int .i64)).set (0 + 32 + s * 1) (.int .i64 0) = SgV hd (zerF ct ((cntF 0 ct).take (j + 1))) from by
    rw [hsc, zerF_snoc, show (cntF 0 ct)[j].1.toNat = s by rw [hs2]; exact Int.toNat_natCast s]
    exact sg_set_ct hl hsl (by omega)]
   refine slots [(0, _), (3, _), (14, _), (15, _), (16, _)] sbq ?_; refine Hd.inB <| Hd.toK hK9 ?_; refine Hd.region <| yv (y_addn rfl rfl (by simp only [InK]; omega)) ?_; refine yv y_mv <| Hd.nil <| slots [(0, _), (3, _), (14, _), (15, _), (16, _)] sbq ?_; refine thenN ?_; exact Hd.again (j + 1) (by omega) sbq (Ent.sep (.pure (by omega) enn))
  ·try simp only [hyA, hyB, hyC, ne_eq] at hc0
   obtain rfl : j = (cntF 0 ct).length := by omega
   rw [List.take_length, zerF_all]; refine Hd.exit <| Hd.thenExit <| Hd.thenExit <| Hd.inBexit <| Hd.toK hK5 ?_; refine sr fun _ hK11 => ?_
   refine yv (y_l1 ag238 rfl) ?_; refine yv y_as <| fk [(2, _)] hK11 ?_; refine Hd.ret ?_; exact Hd.retM (fun a fr => Lv.mark pkk (Lv.end1 fr rfl (a3, c3) rfl sq))
 ·rintro r0_0 (_ | id0) pre0 hG0
  ·exact Hd.absurd (by exact id)
  ·exact Hd.absurd (by exact id)
theorem plc_o {o : Option (Nat × Nat)} : plc o = [.bool o.isSome, .int .i64 (match o with | none => 0 | some p => (p.1 : Int)), .int .i64 (match o with | none => 0 | some p => (p.2 : Int))] := by
 cases o with
 | none => rfl
 | some p => rfl
theorem woT_nt {t : Int → Option (Nat × Nat)} {w : WA} {n j o : Nat} {i : WoI} {v : Value} (ho : o = 291 + j) (hv : (plc w.nt)[j]? = some v) : (fdC t ++ woT w n i)[o]? = some v := by
 refine woT_at (j := 3 + j) (by omega) ?_
 show ([.slice i.wa n i.wc, ptr (some i.sb), .int .u64 w.now] ++ plc w.nt)[3 + j]? = _
 rw [List.getElem?_append_right (by simp), show 3 + j - List.length ([.slice i.wa n i.wc, ptr (some i.sb), .int .u64 w.now] : List Value) = j by simp]; exact hv
theorem wire_ring_same {b : Nat} {x : WireA} {i : WI} {k rb : Nat} {L : List SP} (hi : WIOk x i) (hk : k < 2) (hrb : i.p k = some rb) : ∀ h, sep (WireH b x i :: Rg rb x.cap (x.e k).b :: RgO (i.p (1 - k)) x.cap (x.e (1 - k)).b :: own 3 1 i.wa x.wt.length i.wc (nats x.wt) :: L) h → sep (WireP b x :: L) h := fun h s => by
 have := wire_ring (l' := (x.e k).b) hi hk hrb h s
 rwa [show (x.up k fun e => { e with b := (x.e k).b }) = x from up_id rfl] at this
theorem noticed_ct (L : List SP) (wb : Nat) (w : WA) (hb : ∀ c ∈ w.ct, 0 ≤ c ∧ c ≤ 2000000000) : Ct Tryz.prog 181 #[.pointer (some ⟨wb, 0, none⟩)] (WorldP wb w :: L) (fun _ : Unit => .tuple #[]) (fun _ : Unit => WorldP wb (ntcR w) :: L) := by
 refine Ct.o1 Tryz.func181 ?_; intro E
 show Hd E 57 _ _ _ _
 refine Hd.world .here (fun i hw hrs => ?_); refine Hd.seq fun _ hK1 => ?_
 refine sr fun _ hK2 => ?_
 refine yv y_mv <| yv y_np <| yv (y_f 291 190 Tryz.underlying210 sz190) ?_; refine yv (y_f 0 4 Tryz.underlying190 sz4) ?_; refine yv (y_load1 (v := .bool w.nt.isSome) ag4 rfl (Rd.pt1 pkk (woT_nt (j := 0) (by omega) (by rw [plc_o]; rfl)))) ?_; refine yv (y_not rfl) ?_; refine fk [(0, _), (10, _)] hK2 ?_; refine Hd.cond rfl (fun hc0 => ?_) (fun hc0 => ?_)
 ·try simp only [hyA, hyB, hyC, ne_eq] at hc0
  refine Hd.ret <| Hd.thenRet ?_
  have hn : w.nt = none := by cases h : w.nt with | none => rfl | some p => rw [h] at hc0; cases hc0
  rw [show ntcR w = w by unfold ntcR; rw [hn]]; exact Hd.ret0 rfl () rfl (Ent.sep (.ex i (.pure ⟨hw, hrs⟩ enn)))
 ·try simp only [hyA, hyB, hyC, ne_eq] at hc0
  obtain ⟨n, k, hnt⟩ : ∃ n k, w.nt = some (n, k) := by cases h : w.nt with | none => rw [h] at hc0; cases hc0 | some p => exact ⟨p.1, p.2, rfl⟩
  obtain ⟨hk, x, hx, z0, z1⟩ := hw.nt n k hnt
  obtain ⟨b, hb'⟩ := rs_at hrs hx
  have hwf := hw.wf x (List.mem_of_getElem? hx)
  have hnl : n < i.rs.length := (List.getElem?_eq_some_iff.1 hb').1
  have hk1 : 1 - k < 2 := by omega
  have hrd : ∀ j, j < 2 → (x.e j).rd = true := fun j hj => by
   rcases (show j = 0 ∨ j = 1 by omega) with rfl | rfl
   ·exact z0
   ·exact z1
  have hsum : (w.ct.drop 1).sum = pendN w := rfl
  have hR : ntcR w = if pendN w = 0 then w.setW n (takeW x k (x.e k).b.length) else if (x.e k).b = [] then w.setW n (putW x (1 - k) [1]) else w := by
   unfold ntcR; rw [hnt]; dsimp only; rw [hx]
  refine Hd.skip <| Hd.toK hK1 ?_; refine Hd.seq fun _ hK3 => ?_
  refine Hd.quiet mixed kq ?_; refine Hq.yv y_mv ?_; refine Hq.yv y_np ?_; refine Hq.yv (y_f 288 208 Tryz.underlying210 sz208) ?_; refine Hq.yv (y_load1 ag208 rfl (Rd.pt1 pkk (by exact woT_at (j := 0) (by omega) rfl))) ?_; refine Hq.yv y_mv ?_; refine Hq.yv y_np ?_; refine Hq.yv (y_f 291 190 Tryz.underlying210 sz190) ?_; refine Hq.yv (y_f 1 3 Tryz.underlying190 sz3) ?_; refine Hq.yv (y_load1 ag3 rfl (Rd.pt1 pkk (by exact woT_nt (j := 1) (by omega) (by rw [hnt]; rfl)))) ?_; refine Hq.yv (y_idxR Tryz.underlying208 sz191 rfl rfl (by omega) (by exact RdS.own pkk)) ?_; refine Hq.yv (y_loadR1 ag191 rfl (by exact RdS.own pkk) (by exact pws_at hb')) ?_; refine Hq.yv y_mv ?_; refine Hq.yv y_np ?_; refine Hq.yv (y_f 291 190 Tryz.underlying210 sz190) ?_; refine Hq.yv (y_f 2 3 Tryz.underlying190 sz3) ?_; refine Hq.yv (y_load1 ag3 rfl (Rd.pt1 pkk (by exact woT_nt (j := 2) (by omega) (by rw [hnt]; rfl)))) ?_
  refine Hq.yv y_as ?_; refine Hq.yv y_as ?_; refine Hq.nil ?_; refine sk [(0, _), (2, _), (3, _)] hK3 ?_; refine Hd.seq fun _ hK4 => ?_
  refine Hd.wOut pkk hb' ?_; refine Hd.wireR .here k hk (hrd k hk) (fun i2 rb hi hrb => ?_); refine Hd.region <| yv y_mv <| yv y_mv <| yv y_np <| yv (y_f 0 197 Tryz.underlying199 sz197) ?_; refine yv (y_idxA Tryz.underlying197 sz196 rfl rfl (by omega)) ?_; refine yv (y_f 2 194 Tryz.underlying196 sz194) ?_; refine yv (y_to (v' := .pointer (some ⟨rb, 0, none⟩)) (y_load1 ag194 rfl (Rd.pt1 pkk (by exact enc_at 2 hk (by omega) (by omega) rfl))) (by (show ptr (i2.p k) = _; rw [hrb]; rfl))) ?_; refine yv y_as <| fk [(0, _), (2, _), (3, _), (4, _)] hK4 ?_; refine Hd.block <| sr fun _ hK5 => ?_
  refine yv y_mv <| yv y_np <| yv (y_f 289 205 Tryz.underlying210 sz205) ?_; refine yv (y_load1 ag205 rfl (Rd.pt1 pkk (by exact woT_at (j := 1) (by omega) rfl))) ?_; refine callE rfl fk198 (pending_ct _ i.sb w.hd w.ct hw.hdl hw.ctl hb) sq ?_; intro _; refine yv (y_eql rfl rfl) ?_; refine yv y_as <| fk [(2, _), (3, _), (4, _), (34, _)] hK5 ?_; refine Hd.cond rfl (fun hc1 => ?_) (fun hc1 => ?_)
  ·try simp only [hyA, hyB, hyC, ne_eq] at hc1
   rw [if_pos (show pendN w = 0 from hc1)] at hR; refine Hd.region <| yv y_mv <| yv y_mv <| yv (y_to (v' := .int .i64 ((1 - k : Nat) : Int)) (y_subn rfl rfl (by simp only [InK]; omega)) (by (congr 1; omega))) ?_; refine yv y_mv <| callE rfl fk178 (rclear_ct _ rb x.cap (x.e k).b) sq ?_; intro _; refine Hd.heap (WireP b (x.up k fun e => { e with b := [] }) :: WoR wb n w i L) (fun q s => wire_ring (l' := []) hi hk hrb q (Ent.sep enn q s)) ?_; refine yv (y_to (v' := .bool (decide (0 < ((x.e k).b.take (x.e k).b.length).length))) (y_gtr rfl rfl) (by (congr 1; rw [List.take_length]; simp only [decide_eq_decide]; omega))) ?_; refine callE rfl fk173 (came_ct _ b (x.up k fun e => { e with b := [] }) (1 - k) hk1 false (decide (0 < ((x.e k).b.take (x.e k).b.length).length))) sq ?_; intro _; refine Hd.nil <| slots [] sbq ?_; refine Hd.inB ?_
   have e : (x.up k fun e => { e with b := [] }).up (1 - k) (riseE false (decide (0 < ((x.e k).b.take (x.e k).b.length).length))) = takeW x k (x.e k).b.length := by
    unfold takeW
    congr 1
    exact up_eq (by rw [List.drop_length])
   rw [hR, e]; exact Hd.end0 rfl () rfl (fun q s => world_fold' hw hrs hb' (smW_take hwf hk (hrd k hk)) q (Ent.sep enn q s))
  ·try simp only [hyA, hyB, hyC, ne_eq] at hc1
   rw [if_neg (show ¬ pendN w = 0 from hc1)] at hR; refine sr fun _ hK6 => ?_
   refine yv y_mv <| callE rfl fk102 (rlen_ct _ rb x.cap (x.e k).b) sq ?_; intro _; refine yv (y_eql rfl rfl) ?_; refine yv y_as <| fk [(2, _), (3, _), (48, _)] hK6 ?_; refine Hd.cond rfl (fun hc2 => ?_) (fun hc2 => ?_)
   ·try simp only [hyA, hyB, hyC, ne_eq] at hc2
    have hnil : (x.e k).b = [] := List.eq_nil_of_length_eq_zero (by omega)
    rw [if_pos hnil] at hR; refine Hd.region <| yv y_mv <| yv y_mv <| yv (y_to (v' := .int .i64 ((1 - k : Nat) : Int)) (y_subn rfl rfl (by simp only [InK]; omega)) (by (congr 1; omega))) ?_; refine Hd.bslice (vs := [(0, _)]) rfl (by exact bs181_55 ..) (fun b55 => ?_); refine Hd.heap (WireP b x :: pt b55 [.int .u8 1] 5 :: WoR wb n w i L) (fun q s => wire_ring_same hi hk hrb q (Ent.sep enn q s)) ?_; refine callE rfl fk112 (put_ct _ b x (1 - k) hk1 (hrd (1 - (1 - k)) (by omega)) (some ⟨b55, 0, none⟩) 1 1 [1] rfl ?hD (by omega) (by omega)) sq ?_
    case hD => exact RdS.rd (Rd.pt pkk (fun j v e => by rw [Nat.zero_add]; exact e)) rfl
    intro _; refine Hd.nil <| slots [] sbq ?_; refine Hd.inB ?_; rw [hR]; exact Hd.end0 rfl () rfl (fun q s => world_fold' hw hrs hb' (smW_put hwf hk1 [1] (hrd (1 - (1 - k)) (by omega))) q (Ent.sep enn q s))
   ·try simp only [hyA, hyB, hyC, ne_eq] at hc2
    rw [if_neg (fun h => hc2 (by rw [h]; rfl))] at hR; refine Hd.skip <| Hd.inB ?_; rw [hR]; exact Hd.end0 rfl () rfl (fun q s => world_same hw hrs hb' q (wire_ring_same hi hk hrb q (Ent.sep enn q s)))
theorem world_ct {wb : Nat} {w : WA} {i : WoI} {hd : List Bool} {ct : List Int} {L : List SP} (hw : WOk w) (hrs : i.rs.map Prod.snd = w.ws) (h1 : hd.length = 32) (h2 : ct.length = 32) :
  ∀ h, sep (SigP i.sb hd ct :: WoH wb w.at w i.rs.length i :: own 191 1 i.wa i.rs.length i.wc (pws i.rs) :: Wires i.rs :: L) h → sep (WorldP wb { w with hd := hd, ct := ct } :: L) h := fun h s => by
 refine Ent.sep (.ex i (.pure ⟨ct_ok hw h1 h2, hrs⟩ ?_)) h s
 show Ent _ (WoH wb w.at w i.rs.length i :: own 191 1 i.wa i.rs.length i.wc (pws i.rs) :: Wires i.rs :: SigP i.sb hd ct :: L)
 exact enn
theorem whandle_ct (L : List SP) (wb : Nat) (w : WA) (hb : ∀ c ∈ w.ct, 0 ≤ c ∧ c ≤ 2000000000) (s : Int) (on : Bool) : Ct Tryz.prog 137 #[.pointer (some ⟨wb, 0, none⟩), .int .i64 s, .bool on] (WorldP wb w :: L) (fun _ : Unit => .int .i64 (hanR w s on).1) (fun _ : Unit => WorldP wb (hanR w s on).2 :: L) := by
 refine Ct.o3 Tryz.func137 ?_; intro E
 show Hd E 20 _ _ _ _
 refine Hd.world .here (fun i hw hrs => ?_); refine sr fun _ hK1 => ?_
 refine yv y_as <| fk [(0, _), (1, _), (2, _)] hK1 ?_; refine Hd.seq fun _ hK2 => ?_
 refine sr fun _ hK3 => ?_
 refine yv y_mv <| callE rfl fk113 (wnone_ct _ wb w.at w i.rs.length i) sq ?_; intro _; refine fk [(0, _), (1, _), (2, _), (9, _)] hK3 ?_; refine Hd.condF rfl ?_; refine Hd.skip <| Hd.toK hK2 ?_; refine sr fun _ hK4 => ?_
 refine yv y_mv <| yv y_np <| yv (y_f 289 205 Tryz.underlying210 sz205) ?_; refine yv (y_load1 ag205 rfl (Rd.pt1 pkk (by exact woT_at (j := 1) (by omega) rfl))) ?_; refine yv y_mv <| yv y_mv <| callE rfl fk180 (shandle_ct _ i.sb w.hd w.ct hw.hdl hw.ctl s on) sq ?_; intro _
 obtain ⟨hd', hhd⟩ : ∃ z, z = if mayE s = 0 then w.hd.set s.toNat on else w.hd := ⟨_, rfl⟩
 obtain ⟨ct', hct⟩ : ∃ z, z = if mayE s = 0 ∧ on = false then w.ct.set s.toNat 0 else w.ct := ⟨_, rfl⟩
 rw [← hhd, ← hct]
 have hb' : ∀ c ∈ ct', 0 ≤ c ∧ c ≤ 2000000000 := fun c hc => by
  rw [hct] at hc
  split at hc
  ·rcases List.mem_or_eq_of_mem_set hc with h | rfl
   ·exact hb c h
   ·decide
  ·exact hb c hc
 have hR : hanR w s on = (mayE s, ntcR { w with hd := hd', ct := ct' }) := by
  unfold hanR
  by_cases h : s < 1 ∨ 31 < s
  ·have h0 : mayE s = 100 := if_neg (by omega)
   rw [if_pos h, hhd, hct, h0, if_neg (by decide), if_neg (fun h => absurd h.1 (by decide))]
  ·have h0 : mayE s = 0 := if_pos (by omega)
   rw [if_neg h, hhd, hct, h0, if_pos rfl]
   cases on with
   | true => rw [if_pos rfl, if_neg (by simp)]
   | false => rw [if_neg (by simp), if_pos ⟨rfl, rfl⟩]
 refine Hd.heap (WorldP wb { w with hd := hd', ct := ct' } :: L) (fun q t => world_ct hw hrs (by rw [hhd]; split; rw [List.length_set]; exact hw.hdl; exact hw.hdl) (by rw [hct]; split; rw [List.length_set]; exact hw.ctl; exact hw.ctl) q (Ent.sep enn q t)) ?_; refine yv y_as <| fk [(0, _), (7, _)] hK4 ?_; refine sr fun _ hK5 => ?_
 refine yv y_mv <| callE rfl fk181 (noticed_ct _ wb { w with hd := hd', ct := ct' } hb') sq ?_; intro _; refine fk [(7, _)] hK5 ?_; refine sr fun _ hK6 => ?_
 refine yv y_mv <| yv y_as <| fk [(6, _)] hK6 ?_; refine Hd.ret ?_; rw [hR]; exact Hd.ret1 rfl () rfl sq
theorem wraise_ct (L : List SP) (wb : Nat) (w : WA) (hb : ∀ c ∈ w.ct, 0 ≤ c ∧ c ≤ 1000000000) (s : Int) : Ct Tryz.prog 139 #[.pointer (some ⟨wb, 0, none⟩), .int .i64 s] (WorldP wb w :: L) (fun _ : Unit => .int .i64 (raiR w s).1) (fun _ : Unit => WorldP wb (raiR w s).2 :: L) := by
 refine Ct.o2 Tryz.func139 ?_; intro E
 show Hd E 17 _ _ _ _
 refine Hd.world .here (fun i hw hrs => ?_); refine sr fun _ hK1 => ?_
 refine yv y_as <| fk [(0, _), (1, _)] hK1 ?_; refine Hd.seq fun _ hK2 => ?_
 refine sr fun _ hK3 => ?_
 refine yv y_mv <| callE rfl fk113 (wnone_ct _ wb w.at w i.rs.length i) sq ?_; intro _; refine fk [(0, _), (1, _), (7, _)] hK3 ?_; refine Hd.condF rfl ?_; refine Hd.skip <| Hd.toK hK2 ?_; refine sr fun _ hK4 => ?_
 refine yv y_mv <| yv y_np <| yv (y_f 289 205 Tryz.underlying210 sz205) ?_; refine yv (y_load1 ag205 rfl (Rd.pt1 pkk (by exact woT_at (j := 1) (by omega) rfl))) ?_; refine yv y_mv <| callE rfl fk183 (sraise_ct _ i.sb w.hd w.ct hw.hdl hw.ctl (fun c hc => by have := hb c hc; omega) s) sq ?_; intro _
 obtain ⟨ct', hct⟩ : ∃ z, z = if mayE s = 0 ∧ w.hd.getD s.toNat false = true then w.ct.set s.toNat (w.ct.getD s.toNat 0 + 1) else w.ct := ⟨_, rfl⟩
 rw [← hct]
 have hb' : ∀ c ∈ ct', 0 ≤ c ∧ c ≤ 2000000000 := fun c hc => by
  rw [hct] at hc
  split at hc
  ·rename_i hm
   rcases List.mem_or_eq_of_mem_set hc with h | rfl
   ·have := hb c h; omega
   ·obtain ⟨k, rfl, hk1, hk⟩ := sig_open hm.1
    obtain ⟨v, hv⟩ : ∃ v, w.ct[k]? = some v := ⟨_, List.getElem?_eq_getElem (by rw [hw.ctl]; omega)⟩
    rw [Int.toNat_natCast, List.getD_eq_getElem?_getD, hv]
    have := hb v (List.mem_of_getElem? hv)
    show 0 ≤ v + 1 ∧ v + 1 ≤ 2000000000
    omega
  ·have := hb c hc; omega
 have hR : raiR w s = (mayE s, ntcR { w with hd := w.hd, ct := ct' }) := by
  unfold raiR
  by_cases h : s < 1 ∨ 31 < s
  ·have h0 : mayE s = 100 := if_neg (by omega)
   rw [if_pos h, hct, h0, if_neg (fun h => absurd h.1 (by decide))]
  ·have h0 : mayE s = 0 := if_pos (by omega)
   rw [if_neg h, hct, h0]
   by_cases hh : w.hd.getD s.toNat false = true
   ·rw [if_pos hh, if_pos ⟨rfl, hh⟩]
   ·rw [if_neg hh, if_neg (fun h => hh h.2)]
 refine Hd.heap (WorldP wb { w with hd := w.hd, ct := ct' } :: L) (fun q t => world_ct hw hrs hw.hdl (by rw [hct]; split; rw [List.length_set]; exact hw.ctl; exact hw.ctl) q (Ent.sep enn q t)) ?_; refine yv y_as <| fk [(0, _), (5, _)] hK4 ?_; refine sr fun _ hK5 => ?_
 refine yv y_mv <| callE rfl fk181 (noticed_ct _ wb { w with hd := w.hd, ct := ct' } hb') sq ?_; intro _; refine fk [(5, _)] hK5 ?_; refine sr fun _ hK6 => ?_
 refine yv y_mv <| yv y_as <| fk [(4, _)] hK6 ?_; refine Hd.ret ?_; rw [hR]; exact Hd.ret1 rfl () rfl sq
theorem zer1_len (l : List Int) : (zer1 l).length = l.length := by cases l <;> simp [zer1]
theorem zer1_mem {l : List Int} {c : Int} (h : c ∈ zer1 l) : c ∈ l ∨ c = 0 := by
 cases l with
 | nil => cases h
 | cons a t =>
  rcases List.mem_cons.1 h with rfl | h
  ·exact .inl List.mem_cons_self
  ·obtain ⟨_, _, rfl⟩ := List.mem_map.1 h; exact .inr rfl
theorem sigR_eq (w : WA) : sigR w = (cntF 0 w.ct, ntcR { w with hd := w.hd, ct := zer1 w.ct }) := by
 unfold sigR zer1
 cases w.ct <;> rfl
theorem wsignals_ct (L : List SP) (wb : Nat) (w : WA) (hb : ∀ c ∈ w.ct, 0 ≤ c ∧ c ≤ 2000000000) : Ct Tryz.prog 141 #[.pointer (some ⟨wb, 0, none⟩)] (WorldP wb w :: L) (fun q_ : Option Addr × Nat => .slice q_.1 (sigR w).1.length q_.2) (fun q_ : Option Addr × Nat => own 241 2 q_.1 (sigR w).1.length q_.2 ((sigR w).1.flatMap encCn) :: WorldP wb (sigR w).2 :: L) := by
 refine Ct.o1 Tryz.func141 ?_; intro E
 show Hd E 14 _ _ _ _
 refine Hd.world .here (fun i hw hrs => ?_); refine sr fun _ hK1 => ?_
 refine yv y_as <| fk [(0, _)] hK1 ?_; refine Hd.seq fun _ hK2 => ?_
 refine sr fun _ hK3 => ?_
 refine yv y_mv <| callE rfl fk113 (wnone_ct _ wb w.at w i.rs.length i) sq ?_; intro _; refine fk [(0, _), (5, _)] hK3 ?_; refine Hd.condF rfl ?_; refine Hd.skip <| Hd.toK hK2 ?_; refine sr fun _ hK4 => ?_
 refine yv y_mv <| yv y_np <| yv (y_f 289 205 Tryz.underlying210 sz205) ?_; refine yv (y_load1 ag205 rfl (Rd.pt1 pkk (by exact woT_at (j := 1) (by omega) rfl))) ?_; refine callE rfl fk184 (stake_ct _ i.sb w.hd w.ct hw.hdl hw.ctl) sq ?_; rintro ⟨ad, c⟩; dsimp only; refine Hd.heap (WorldP wb { w with hd := w.hd, ct := zer1 w.ct } :: own 241 2 ad (cntF 0 w.ct).length c ((cntF 0 w.ct).flatMap encCn) :: L) (fun q t => world_ct hw hrs hw.hdl (by rw [zer1_len]; exact hw.ctl) q (Ent.sep enn q t)) ?_; refine yv y_as <| fk [(0, _), (3, _)] hK4 ?_; refine sr fun _ hK5 => ?_
 refine yv y_mv <| callE rfl fk181 (noticed_ct _ wb { w with hd := w.hd, ct := zer1 w.ct } (fun c hc => by rcases zer1_mem hc with h | rfl; exact hb c h; decide)) sq ?_; intro _; refine fk [(3, _)] hK5 ?_; refine sr fun _ hK6 => ?_
 refine yv y_mv <| yv y_as <| fk [(2, _)] hK6 ?_; refine Hd.ret ?_; rw [sigR_eq]; exact Hd.ret1 rfl (ad, c) rfl sq
theorem not_yes {w : WA} {n k m j : Nat} {x : WireA} {a b : Int} (ha : w.at a = some (n, k)) (hb : w.at b = some (m, j)) (hx : w.ws[n]? = some x) : notR w a b = if n ≠ m ∨ k = j ∨ (x.e 0).rd = false ∨ (x.e 1).rd = false then (111, w) else (0, ntcR { w with nt := some (n, k) }) := by
 unfold notR; rw [ha, hb]; dsimp only; rw [hx]
theorem world_nt {wb n k : Nat} {w : WA} {i : WoI} {cs : List Value} {L : List SP} (hok : WOk { w with nt := some (n, k) }) (hrs : i.rs.map Prod.snd = w.ws) (hcs : cs = fdC w.at ++ woT { w with nt := some (n, k) } i.rs.length i) :
  ∀ h, sep (pt wb cs 210 :: own 191 1 i.wa i.rs.length i.wc (pws i.rs) :: Wires i.rs :: SigP i.sb w.hd w.ct :: L) h → sep (WorldP wb { w with nt := some (n, k) } :: L) h := fun h s => by
 subst hcs; exact Ent.sep (.ex i (.pure ⟨hok, hrs⟩ enn)) h s
theorem nt_set {t : Int → Option (Nat × Nat)} {w : WA} {m n k : Nat} {i : WoI} : (fdC t ++ woT w m i).take (0 + 291) ++ plc (some (n, k)) ++ (fdC t ++ woT w m i).drop (0 + 291 + (plc (some (n, k))).length) = fdC t ++ woT { w with nt := some (n, k) } m i := by
 have h3 : (plc (some (n, k))).length = 3 := rfl
 rw [h3, List.take_append, List.drop_append, fdC_len, List.take_of_length_le (by rw [fdC_len]; omega), List.drop_of_length_le (l := fdC t) (by rw [fdC_len]; omega), List.nil_append]; unfold woT; rw [plc_o (o := w.nt)]; simp
theorem woT_len (w : WA) (n : Nat) (i : WoI) : (woT w n i).length = 6 := by
 unfold woT; rw [List.length_append, plc_len]; rfl
theorem wnotice_ct (L : List SP) (wb : Nat) (w : WA) (hb : ∀ c ∈ w.ct, 0 ≤ c ∧ c ≤ 2000000000) (fa fb : Int) : Ct Tryz.prog 143 #[.pointer (some ⟨wb, 0, none⟩), .int .i64 fa, .int .i64 fb] (WorldP wb w :: L) (fun _ : Unit => .int .i64 (notR w fa fb).1) (fun _ : Unit => WorldP wb (notR w fa fb).2 :: L) := by
 refine Ct.o3 Tryz.func143 ?_; intro E
 show Hd E 72 _ _ _ _
 refine Hd.world .here (fun i hw hrs => ?_); refine sr fun _ hK1 => ?_
 refine yv y_as <| fk [(0, _), (1, _), (2, _)] hK1 ?_; refine sr fun _ hK2 => ?_
 refine yv y_mv <| yv y_mv <| callE rfl fk101 (find_ct _ wb w i hw hrs fa) sq ?_; intro _; refine yv y_mv <| yv y_ex <| yv y_ex <| yv y_ex <| Hd.alloc zr190 (fun b7 => ?_); refine Hd.storeA (us := plc (w.at fa)) (by rw [plc_len]; exact sz190) rfl rfl rfl (plc_one _) pkk (by rw [plc_len]; rfl) ?_; refine yv (y_to (v' := ptr (wfb i (w.at fa))) y_as (by rfl)) ?_; refine yv (y_to (v' := .int .i64 (fdErr (w.at fa))) y_as (by rfl)) ?_; refine fk [(0, _), (2, _), (7, _), (8, _), (9, _)] hK2 ?_; refine sr fun _ hK3 => ?_
 refine yv y_mv <| yv y_mv <| callE rfl fk101 (find_ct _ wb w i hw hrs fb) sq ?_; intro _; refine yv y_mv <| yv y_ex <| yv y_ex <| yv y_ex <| Hd.alloc zr190 (fun b10 => ?_); refine Hd.storeA (us := plc (w.at fb)) (by rw [plc_len]; exact sz190) rfl rfl rfl (plc_one _) pkk (by rw [plc_len]; rfl) ?_; refine yv y_as <| yv (y_to (v' := .int .i64 (fdErr (w.at fb))) y_as (by rfl)) ?_; refine fk [(0, _), (7, _), (8, _), (9, _), (10, _), (12, _)] hK3 ?_; refine Hd.seq fun _ hK4 => ?_
 refine Hd.block <| sr fun _ hK5 => ?_
 refine yv y_mv <| yv (y_neq rfl rfl) ?_; refine yv y_as <| fk [(0, _), (7, _), (8, _), (9, _), (10, _), (12, _), (27, _)] hK5 ?_; refine Hd.cond rfl (fun hc0 => ?_) (fun hc0 => ?_)
 ·try simp only [hyA, hyB, hyC, ne_eq] at hc0
  have hno : w.at fa = none := by
   cases h : w.at fa with
   | none => rfl
   | some p => rw [h] at hc0; exact absurd rfl hc0
  refine sr fun _ hK6 => ?_
  refine yv y_mv <| yv y_as <| fk [(6, _)] hK6 ?_; refine Hd.ret <| Hd.inBret <| Hd.thenRet ?_; rw [show notR w fa fb = (110, w) by unfold notR; rw [hno]]; exact Hd.ret1 rfl () (by rw [hno]; rfl) (Ent.sep (.ex i (.pure ⟨hw, hrs⟩ enn)))
 ·try simp only [hyA, hyB, hyC, ne_eq] at hc0
  obtain ⟨n, k, hnk⟩ : ∃ m k, w.at fa = some (m, k) := by
   cases h : w.at fa with
   | none => rw [h] at hc0; exact absurd hc0 (by decide)
   | some p => exact ⟨p.1, p.2, rfl⟩
  refine sr fun _ hK7 => ?_
  refine yv y_mv <| yv (y_neq rfl rfl) ?_; refine yv y_as <| fk [(0, _), (7, _), (8, _), (10, _), (12, _), (31, _)] hK7 ?_; refine Hd.cond rfl (fun hc1 => ?_) (fun hc1 => ?_)
  ·try simp only [hyA, hyB, hyC, ne_eq] at hc1
   have hno : w.at fb = none := by
    cases h : w.at fb with
    | none => rfl
    | some p => rw [h] at hc1; exact absurd rfl hc1
   refine sr fun _ hK8 => ?_
   refine yv y_mv <| yv y_as <| fk [(6, _)] hK8 ?_; refine Hd.ret <| Hd.inBret <| Hd.thenRet ?_; rw [show notR w fa fb = (110, w) by unfold notR; rw [hno, hnk]]; exact Hd.ret1 rfl () (by rw [hno]; rfl) (Ent.sep (.ex i (.pure ⟨hw, hrs⟩ enn)))
  ·try simp only [hyA, hyB, hyC, ne_eq] at hc1
   obtain ⟨m, j, hmj⟩ : ∃ m k, w.at fb = some (m, k) := by
    cases h : w.at fb with
    | none => rw [h] at hc1; exact absurd hc1 (by decide)
    | some p => exact ⟨p.1, p.2, rfl⟩
   obtain ⟨hf0, hf1, hk, hn, x, hx, _, _⟩ := hw.at_lt hnk
   obtain ⟨b, hb'⟩ := rs_at hrs hx
   have hwf := hw.wf x (List.mem_of_getElem? hx)
   have hR := not_yes hnk hmj hx
   have hnl : n < i.rs.length := (List.getElem?_eq_some_iff.1 hb').1
   rw [hnk, hmj, wfb_eq hb']; refine Hd.wOut pkk hb' ?_; refine Hd.wire .here 0 (by omega) (fun i2 hi => ?_)
   have hp0 := hi.rd 0 (by omega)
   have hp1 := hi.rd 1 (by omega)
   refine sr fun _ hK9 => ?_
   refine yv (y_f 1 3 Tryz.underlying190 sz3) ?_; refine yv (y_l1 ag3 rfl) ?_; refine yv (y_f 1 3 Tryz.underlying190 sz3) ?_; refine yv (y_l1 ag3 rfl) ?_; refine yv (y_neq rfl rfl) ?_; refine yv y_mv ?_; apply Hd.org 6 41 47 [(0, _), (7, _), (8, _)] rfl sbq
   ·intro _
    simp only [List.take]; refine n1 <| n1 <| n1 <| n1 <| n1 <| yv (y_pickT rfl rfl) ?_; refine Hd.nil ?_; exact Hd.mq
   ·intro _
    simp only [List.take]; refine y2 (y_f 2 3 Tryz.underlying190 sz3) ?_; refine y2 (y_l1 ag3 rfl) ?_; refine y2 (y_f 2 3 Tryz.underlying190 sz3) ?_; refine y2 (y_l1 ag3 rfl) ?_; refine y2 (y_eql rfl rfl) ?_; refine yv (y_pickF rfl rfl) ?_; refine Hd.nil ?_; exact Hd.mq
   simp only [List.drop]; refine yv y_mv ?_; apply Hd.org 8 48 56 [(0, _), (7, _), (8, _)] rfl sbq
   ·intro _
    simp only [List.take]; refine n1 <| n1 <| n1 <| n1 <| n1 <| n1 <| n1 <| yv (y_pickT rfl rfl) ?_; refine Hd.nil ?_; exact Hd.mq
   ·intro hg7_48
    try simp only [hyA, hyB, hyC, ne_eq] at hg7_48
    simp only [List.take]; refine y2 y_mv <| y2 y_np <| y2 (y_f 0 197 Tryz.underlying199 sz197) ?_; refine y2 (y_idxA Tryz.underlying197 sz196 rfl rfl (by decide)) ?_; refine y2 (y_f 2 194 Tryz.underlying196 sz194) ?_; refine y2 (y_l1 ag194 rfl) ?_; refine y2 (y_to (v' := .bool (!(x.e 0).rd)) (y_eql_pointer Tryz.underlying194 rfl rfl) (by (show Value.bool (Option.isNone _) = _; rw [ptr_no, hp0]))) ?_; refine yv (y_pickF rfl rfl) ?_; refine Hd.nil ?_; exact Hd.mq
   simp only [List.drop]; refine yv y_mv ?_; apply Hd.org 8 57 65 [(0, _), (7, _)] rfl sbq
   ·intro _
    simp only [List.take]; refine n1 <| n1 <| n1 <| n1 <| n1 <| n1 <| n1 <| yv (y_pickT rfl rfl) ?_; refine Hd.nil ?_; exact Hd.mq
   ·intro hg7_57
    try simp only [hyA, hyB, hyC, ne_eq] at hg7_57
    simp only [List.take]; refine y2 y_mv <| y2 y_np <| y2 (y_f 0 197 Tryz.underlying199 sz197) ?_; refine y2 (y_idxA Tryz.underlying197 sz196 rfl rfl (by decide)) ?_; refine y2 (y_f 2 194 Tryz.underlying196 sz194) ?_; refine y2 (y_l1 ag194 rfl) ?_; refine y2 (y_to (v' := .bool (!(x.e 1).rd)) (y_eql_pointer Tryz.underlying194 rfl rfl) (by (show Value.bool (Option.isNone _) = _; rw [ptr_no, hp1]))) ?_; refine yv (y_pickF rfl rfl) ?_; refine Hd.nil ?_; exact Hd.mq
   simp only [List.drop]; refine yv y_as <| fk [(0, _), (7, _), (35, _)] hK9 ?_; refine Hd.cond rfl (fun hc2 => ?_) (fun hc2 => ?_)
   ·try simp only [hyA, hyB, hyC, ne_eq] at hc2
    refine sr fun _ hK10 => ?_
    refine yv y_as <| fk [(6, _)] hK10 ?_; refine Hd.ret <| Hd.inBret <| Hd.thenRet ?_
    have h2 : n ≠ m ∨ k = j ∨ (x.e 0).rd = false ∨ (x.e 1).rd = false := by
     rcases hc2 with ((h | h) | h) | h
     ·exact .inl (fun e => h (by rw [e]))
     ·exact .inr (.inl (by omega))
     ·exact .inr (.inr (.inl h))
     ·exact .inr (.inr (.inr h))
    rw [hR, if_pos h2]; exact Hd.ret1 rfl () rfl (fun q s => world_back (k := 0) hw hrs hb' hi (by omega) q (Ent.sep enn q s))
   ·try simp only [hyA, hyB, hyC, ne_eq] at hc2
    have h2 : ¬ (n ≠ m ∨ k = j ∨ (x.e 0).rd = false ∨ (x.e 1).rd = false) := by
     rintro (h | h | h | h)
     ·exact h (by omega)
     ·exact hc2.1.1.2 (by rw [h])
     ·rw [h] at hc2; cases hc2.1.2
     ·rw [h] at hc2; cases hc2.2
    have h0 : (x.e 0).rd = true := hc2.1.2
    have h1 : (x.e 1).rd = true := hc2.2
    have hok : WOk { w with nt := some (n, k) } := ⟨hw.uq, hw.fd, hw.len, hw.hdl, hw.ctl, hw.wf, hw.wn, hw.wm, fun a c e => by
     obtain ⟨rfl, rfl⟩ := Prod.mk.inj (Option.some.inj e)
     exact ⟨hk, x, hx, h0, h1⟩, hw.ns⟩
    rw [if_neg h2] at hR; refine Hd.skip <| Hd.inB <| Hd.toK hK4 ?_; refine sr fun _ hK11 => ?_
    refine yv y_mv <| yv (y_loadn (us := [_, _, _]) ag190 rfl (Rd.pt pkk (by (first | (intro j v e; rcases j with _|_|_|_|_|_|_|_|_|_|_|_|j <;> first | exact e | exact absurd e (by simp))))) (by exact sz190)) ?_; refine yv y_np <| yv (y_f 291 190 Tryz.underlying210 sz190) ?_; refine Hd.store (us := plc (some (n, k))) sz190 rfl rfl rfl (plc_one _) pkk (by rw [List.length_append, fdC_len, woT_len, plc_len]; decide) ?_; rw [nt_set]; refine Hd.nil ?_
    refine Hd.heap (WorldP wb { w with nt := some (n, k) } :: L) (fun q s => by
     have h1 : sep (WireP b x :: WoH wb w.at { w with nt := some (n, k) } i.rs.length i :: own 191 1 i.wa i.rs.length i.wc (pws i.rs) :: SigP i.sb w.hd w.ct :: Wires (i.rs.take n) :: Wires (i.rs.drop (n + 1)) :: L) q := Ent.sep (show Ent (WireL b x i2 0 (WoH wb w.at { w with nt := some (n, k) } i.rs.length i :: own 191 1 i.wa i.rs.length i.wc (pws i.rs) :: SigP i.sb w.hd w.ct :: Wires (i.rs.take n) :: Wires (i.rs.drop (n + 1)) :: L)) _ from .ex (i2, 0) (.pure ⟨hi, by omega⟩ enn)) q (Ent.sep enn q s)
     obtain ⟨hln, e⟩ := List.getElem?_eq_some_iff.1 hb'
     have h2 := ws_in (L := WoH wb w.at { w with nt := some (n, k) } i.rs.length i :: own 191 1 i.wa i.rs.length i.wc (pws i.rs) :: SigP i.sb w.hd w.ct :: L) hln (Ent.sep enn q h1)
     rw [← e, List.set_getElem_self] at h2
     exact world_nt hok hrs rfl q (Ent.sep enn q h2)) ?_
    refine sk [(0, _)] hK11 ?_; refine sr fun _ hK12 => ?_
    refine yv y_mv <| callE rfl fk181 (noticed_ct _ wb { w with nt := some (n, k) } hb) sq ?_; intro _; refine fk [] hK12 ?_; refine sr fun _ hK13 => ?_
    refine yv y_as <| fk [(6, _)] hK13 ?_; refine Hd.ret ?_; rw [hR]; exact Hd.ret1 rfl () rfl sq
end Wo
end Go.Proofs.YtbfddabjbkohdaaGreat
namespace Go.Proofs.YtbfddabjbkohdaaGreat
set_option maxHeartbeats 2000000
open Go.RX.Hd (yv y2 n1 fk sk sr tH callE heldK onlyH endH thenN slots)
set_option linter.unusedSimpArgs false
set_option linter.unusedVariables false
set_option linter.unnecessarySimpa false
open Go.RX Fx
namespace Kq
open Wo
set_option maxRecDepth 8000
def noK (f : Ky → Option KnA) (a : Ky) : NoA := (a.1, a.2, ((f a).getD zKn).flags, 0)
theorem noK_succ (f : Ky → Option KnA) {ks : List Ky} {i : Nat} (h : i < ks.length) : (ks.take (i + 1)).map (noK f) = (ks.take i).map (noK f) ++ [noK f ks[i]] := by
 rw [List.take_add_one, List.getElem?_eq_getElem h, List.map_append]; rfl
theorem knotes_ct (L : List SP) (qb wb mb : Nat) (f : Ky → Option KnA) (m : Nat) (hm : m ≤ 1000000) (w : WA) : Ct Tryz.prog 34 #[.pointer (some ⟨qb, 0, none⟩)] (KqB qb wb mb f m w L) (fun q_ : Option Addr × Nat × List Ky => .slice q_.1 q_.2.2.length q_.2.1) (fun q_ : Option Addr × Nat × List Ky => pu (AllK f m w q_.2.2) :: own 82 4 q_.1 q_.2.2.length q_.2.1 ((q_.2.2.map (noK f)).flatMap encNo) :: KqB qb wb mb f m w L) := by
 refine Ct.o1 Tryz.func34 ?_; intro E
 show Hd E 32 _ _ _ _
 refine sr fun _ hK1 => ?_
 refine yv y_as <| fk [(0, _)] hK1 ?_; refine Hd.seq fun _ hK2 => ?_
 refine sr fun _ hK3 => ?_
 refine yv y_mv <| callE rfl fk87 (knone_ct _ qb wb mb) sq ?_; intro _; refine fk [(0, _), (7, _)] hK3 ?_; refine Hd.condF rfl ?_; refine Hd.skip <| Hd.toK hK2 ?_; refine sr fun _ hK4 => ?_
 refine yv y_as <| fk [(0, _), (3, _)] hK4 ?_; refine Hd.seq fun _ hK5 => ?_
 refine sr fun _ hK6 => ?_
 refine yv y_mv <| callE rfl fk93 (kkeys_ct _ qb wb mb f m hm w) sq ?_; rintro ⟨ka, kc, ks⟩; dsimp only; refine Hd.pure (fun hA => ?_); refine yv (y_len Tryz.underlying178 rfl) ?_; refine yv y_mv <| fk [(0, _), (3, _), (9, _), (10, _), (11, _)] hK6 ?_; refine Hd.block <| Hd.loopK (ι := Nat × Option Addr × Nat) [(0, _), (9, _), (10, _)] (fun q_ => [(3, .slice q_.2.1 q_.1 q_.2.2), (11, .int .i64 (q_.1 : Int))]) (fun q_ => pu (q_.1 ≤ ks.length) :: own 82 4 q_.2.1 q_.1 q_.2.2 (((ks.take q_.1).map (noK f)).flatMap encNo) :: OwK ka ks.length kc ks :: KqB qb wb mb f m w L) (fun q_ => ks.length - q_.1) (0, none, 0) sbq sbq (fun q t => Ent.sep (.pure (Nat.zero_le _) (.ownNil .same)) q t) ?_; rintro ⟨i, ad, c⟩
 try dsimp only
 refine Hd.pure (fun hp0 => ?_)
 try dsimp only at hp0
 refine sr fun _ hK7 => ?_
 refine yv (y_lss rfl rfl) ?_; refine fk [(0, _), (3, _), (9, _), (10, _), (11, _), (12, _)] hK7 ?_; refine Hd.seq fun _ hK8 => ?_
 refine Hd.cond rfl (fun hc1 => ?_) (fun hc1 => ?_)
 ·try simp only [hyA, hyB, hyC, ne_eq] at hc1
  have hi : i < ks.length := by omega
  have hgi : ks[i]? = some ks[i] := List.getElem?_eq_getElem hi
  have hkl := hA.len
  have hsc := noK_succ f hi
  refine Hd.skip <| Hd.toK hK8 ?_; refine Hd.seq fun _ hK9 => ?_
  refine Hd.block <| sr fun _ hK10 => ?_
  refine yv (y_idxR Tryz.underlying178 sz170 rfl rfl (by omega) (by exact RdS.own pkk)) ?_; refine yv (y_loadRn (vs := encKy ks[i]) ag170 rfl (RdS.own (ad := ka) (us := ks.flatMap encKy) pkk) (flat_cells encKy 2 (fun _ => rfl) hgi) (by exact sz170) (by simp)) ?_; refine Hd.alloc zr170 (fun b5 => ?_); refine Hd.storeA (us := encKy ks[i]) sz170 rfl rfl rfl (encKy_one _) pkk (by exact rfl) ?_; refine fk [(0, _), (3, _), (5, _), (9, _), (10, _), (11, _)] hK10 ?_; refine Hd.draws mixed ?_; simp only [List.length, Nat.zero_add, Nat.reduceAdd]; refine Hd.take 0 rfl kq kq kq (fun _ => y_move rfl) fq ?_; refine Hd.take 1 rfl kq kq kq (fun _ => y_field' (q := 0) (ft := 3) Tryz.underlying170 rfl sz3 rfl rfl) fq ?_; refine Hd.take 3 rfl kq kq kq (fun _ => y_field' (q := 1) (ft := 3) Tryz.underlying170 rfl sz3 rfl rfl) fq ?_; refine Hd.take 5 rfl kq kq kq (fun _ => y_move rfl) fq ?_; refine Hd.take 6 rfl kq kq kq (fun _ => y_nilp rfl) fq ?_
  refine Hd.take 7 rfl kq kq kq (fun _ => y_field' (q := 1) (ft := 173) Tryz.underlying175 rfl sz173 rfl rfl) fq ?_; refine Hd.tailAt 13 [2, 4, 8, 9, 10, 11, 12] [13, 14, 15] rfl rfl rfl kq ?_; simp only [pk, List.getElem?_cons_zero, List.getElem?_cons_succ]; refine Ht.yv (y_l1 ag3 rfl) ?_; refine Ht.yv (y_l1 ag3 rfl) ?_; refine Ht.yv (y_l1 ag173 rfl) ?_; refine Ht.yv (y_loadn (us := [_, _]) ag170 rfl (Rd.pt pkk (by (first | (intro j v e; rcases j with _|_|_|_|_|_|_|_|_|_|_|_|j <;> first | exact e | exact absurd e (by simp))))) (by exact sz170)) ?_; refine Ht.yv (y_to (v' := .agg (encKn ((f ks[i]).getD zKn)).toArray) (y_lookupK mapt173 rfl rfl pkk) (by exact kmap_get f ks[i])) ?_; refine Ht.yv (y_fieldv1 (q := 1) (ft := 3) (cs := encKn ((f ks[i]).getD zKn)) (v := .int .i64 ((f ks[i]).getD zKn).flags) Tryz.underlying172 rfl ag3 rfl rfl) ?_; refine Ht.yv (y_build (vs := [(0, _), (1, _), (2, _)]) rfl (by exact bd34_27 ..)) ?_
  refine Ht.nil ?_; refine Hd.bslice (vs := [(0, _)]) rfl (by exact bs34_28 ..) (fun b28 => ?_); refine Hd.append Tryz.underlying67 ty82 rfl rfl rfl pkk (by exact RdS.rd (Rd.pt pkk (fun j v e => by simpa using e)) rfl) (by simp [Value.oneCell']; done) (by simp only [maxLen]; omega) (by omega) (fun ad29 cap29 => ?_); refine yv y_as <| Hd.nil <| Hd.noPn ?_; refine slots [(0, _), (3, _), (9, _), (10, _), (11, _)] sbq ?_; refine Hd.inB <| Hd.toK hK9 ?_; refine Hd.region <| yv (y_addn rfl rfl (by simp only [InK]; omega)) ?_; refine yv y_mv <| Hd.nil <| slots [(0, _), (3, _), (9, _), (10, _), (11, _)] sbq ?_; refine thenN <| Hd.again (i + 1, ad29, cap29) (by show ks.length - (i + 1) < ks.length - i; omega) sbq (fun q t => ?_); exact Ent.sep (.pure (show i + 1 ≤ ks.length by omega) (.eq pkk (own_eq3 rfl rfl (by simp only [hsc, List.flatMap_append]; rfl)) enn)) q t
 ·try simp only [hyA, hyB, hyC, ne_eq] at hc1
  obtain rfl : i = ks.length := by omega
  rw [List.take_length]; refine Hd.exit <| Hd.thenExit <| Hd.thenExit <| Hd.inBexit <| Hd.toK hK5 ?_; refine sr fun _ hK11 => ?_
  refine yv y_mv <| yv y_as <| fk [(2, _)] hK11 ?_; refine Hd.ret ?_; exact Hd.ret1 rfl (ad, c, ks) rfl (Ent.sep (.pure hA enn))
theorem wcount_ct (L : List SP) (wb : Nat) (w : WA) (s : Int) : Ct Tryz.prog 189 #[.pointer (some ⟨wb, 0, none⟩), .int .i64 s] (WorldP wb w :: L) (fun _ : Unit => .int .i64 (cntS w.ct s)) (fun _ : Unit => WorldP wb w :: L) := by
 refine Ct.o2 Tryz.func189 ?_; intro E
 show Hd E 13 _ _ _ _
 refine Hd.world .here (fun i hw hrs => ?_); refine sr fun _ hK1 => ?_
 refine yv y_as <| fk [(0, _), (1, _)] hK1 ?_; refine Hd.seq fun _ hK2 => ?_
 refine sr fun _ hK3 => ?_
 refine yv y_mv <| callE rfl fk113 (wnone_ct _ wb w.at w i.rs.length i) sq ?_; intro _; refine fk [(0, _), (1, _), (6, _)] hK3 ?_; refine Hd.condF rfl ?_; refine Hd.skip <| Hd.toK hK2 ?_; refine sr fun _ hK4 => ?_
 refine yv y_mv <| yv y_np <| yv (y_f 289 205 Tryz.underlying210 sz205) ?_; refine yv (y_load1 ag205 rfl (Rd.pt1 pkk (by exact woT_at (j := 1) (by omega) rfl))) ?_; refine yv y_mv <| callE rfl fk203 (count_ct _ i.sb w.hd w.ct hw.hdl hw.ctl s) sq ?_; intro _; refine yv y_as <| fk [(4, _)] hK4 ?_; refine Hd.ret ?_; exact Hd.ret1 rfl () rfl (Ent.sep (.ex i (.pure ⟨hw, hrs⟩ enn)))
def onK (flt : Int) (r : RdyA) : Bool := (r.h || r.e || (decide (flt = 1) && r.i)) || (decide (flt = 2) && r.o)
def eofK (r : RdyA) : Int := if (r.h || r.e) = true then 128 else 0
def newsK (x : KnA) (flt : Int) (r : RdyA) : Bool := decide (bits .and .i64 x.flags 16 = 0) || x.armed || decide (riseK flt r > x.seen)
def toldK (f : Ky → Option KnA) (w : WA) (a : Ky) : NoA × Bool :=
 if bits .and .i64 ((f a).getD zKn).flags 8 ≠ 0 then ((a.1, a.2, 0, 0), false)
 else if a.2 = 3 then ((a.1, a.2, 0, cntS w.ct a.1), decide (cntS w.ct a.1 > 0))
 else ((a.1, a.2, eofK (readyR w a.1), 0), onK a.2 (readyR w a.1) && newsK ((f a).getD zKn) a.2 (readyR w a.1))
theorem ktold_ct (L : List SP) (qb wb mb : Nat) (f : Ky → Option KnA) (m : Nat) (w : WA) (a : Ky) : Ct Tryz.prog 154 #[.pointer (some ⟨qb, 0, none⟩), .agg (encKy a).toArray] (KqB qb wb mb f m w L) (fun _ : Unit => .tuple #[.agg (encNo (toldK f w a).1).toArray, .bool (toldK f w a).2]) (fun _ : Unit => KqB qb wb mb f m w L) := by
 refine Ct.o2 Tryz.func154 ?_; intro E
 show Hd E 100 _ _ _ _
 refine sr fun _ hK1 => ?_
 refine Hd.box rfl rfl (fun b3 => ?_); refine Hd.alloc zr82 (fun b4 => ?_); refine yv y_as <| fk [(0, _), (3, _), (4, _)] hK1 ?_; refine Hd.cutK (ι := Nat × Nat) [(0, _), (3, _), (4, _)] (fun i => [(6, .pointer (some ⟨i.1, 0, none⟩)), (7, .pointer (some ⟨i.2, 0, none⟩))]) (fun i => pt i.1 (encKn ((f a).getD zKn)) 172 :: pt i.2 (encNo (a.1, a.2, 0, 0)) 82 :: pt b4 (encNo (0, 0, 0, 0)) 82 :: pt b3 (encKy a) 170 :: KqB qb wb mb f m w L) ?_ ?_ ⟨rfl, rfl, rfl, trivial⟩
 ·refine Hd.drawsH ([KqH qb wb mb, mpP mb .i64 (kmap f) m, pt b3 (encKy a) 170]) (fun j => !([14].contains j)) mixed ?_
  simp only [List.length, Nat.zero_add, Nat.reduceAdd]; refine tH 0 rfl y_mv ?_; refine tH 1 rfl y_np ?_; refine tH 2 rfl (y_f 1 173 Tryz.underlying175 sz173) ?_; refine tH 3 rfl (y_l1 ag173 rfl) ?_; refine tH 4 rfl (y_loadn (us := [_, _]) ag170 rfl (Rd.pt pkk (by (first | (intro j v e; rcases j with _|_|_|_|_|_|_|_|_|_|_|_|j <;> first | exact e | exact absurd e (by simp))))) (by exact sz170)) ?_; refine tH 5 rfl (y_to (v' := .agg (encKn ((f a).getD zKn)).toArray) (y_lookupK mapt173 rfl rfl pkk) (by exact kmap_get f a)) ?_; refine tH 6 rfl (y_f 0 3 Tryz.underlying170 sz3) ?_; refine tH 7 rfl (y_l1 ag3 rfl) ?_; refine tH 8 rfl (y_f 1 3 Tryz.underlying170 sz3) ?_; refine tH 9 rfl (y_l1 ag3 rfl) ?_; refine tH 10 rfl (y_build (vs := [(0, _), (1, _)]) rfl (by exact bd154_20 ..)) ?_; refine Hd.eitherH 11 12 rfl rfl kq ?_ ?_
  ·refine Hd.alloc zr172 (fun b6 => ?_)
   refine Hd.nil <| thenN <| heldK (J := (fun j => !([14].contains j))) (i := 11) sq ?_; refine onlyH 12 rfl kq ?_; refine Hd.alloc zr82 (fun b7 => ?_); refine Hd.nil <| thenN <| heldK (J := (fun j => !([14].contains j))) (i := 12) sq ?_; refine onlyH 13 rfl kq ?_; refine Hd.storeA (us := encKn ((f a).getD zKn)) sz172 rfl rfl rfl (by simp [Value.oneCell']) pkk (by exact rfl) ?_; refine Hd.nil <| thenN <| heldK (J := (fun j => !([14].contains j))) (i := 13) sq ?_; refine onlyH 14 rfl kq ?_; refine Hd.storeA (us := encNo (a.1, a.2, 0, 0)) sz82 rfl rfl rfl (by simp [Value.oneCell']) pkk (by exact rfl) ?_; refine Hd.nil <| thenN <| Hd.heldN (J := (fun j => !([14].contains j))) (i := 14) rfl ?_; refine endH kq ?_; refine slots [(0, _), (3, _), (4, _), (6, _), (7, _)] sbq ?_; refine thenN ?_; exact Hd.meet (b6, b7) sbq sq
  ·refine Hd.alloc zr82 (fun b7 => ?_)
   refine Hd.nil <| thenN <| heldK (J := (fun j => !([14].contains j))) (i := 12) sq ?_; refine onlyH 11 rfl kq ?_; refine Hd.alloc zr172 (fun b6 => ?_); refine Hd.nil <| thenN <| heldK (J := (fun j => !([14].contains j))) (i := 11) sq ?_; refine onlyH 13 rfl kq ?_; refine Hd.storeA (us := encKn ((f a).getD zKn)) sz172 rfl rfl rfl (by simp [Value.oneCell']) pkk (by exact rfl) ?_; refine Hd.nil <| thenN <| heldK (J := (fun j => !([14].contains j))) (i := 13) sq ?_; refine onlyH 14 rfl kq ?_; refine Hd.storeA (us := encNo (a.1, a.2, 0, 0)) sz82 rfl rfl rfl (by simp [Value.oneCell']) pkk (by exact rfl) ?_; refine Hd.nil <| thenN <| Hd.heldN (J := (fun j => !([14].contains j))) (i := 14) rfl ?_; refine endH kq ?_; refine slots [(0, _), (3, _), (4, _), (6, _), (7, _)] sbq ?_; refine thenN ?_; exact Hd.meet (b6, b7) sbq sq
 ·rintro ⟨b6, b7⟩
  dsimp only; refine Hd.seq fun _ hK2 => ?_
  refine sr fun _ hK3 => ?_
  refine yv (y_f 1 3 Tryz.underlying172 sz3) ?_; refine yv (y_l1 ag3 rfl) ?_; refine yv (y_and rfl rfl) ?_; refine yv (y_neq rfl rfl) ?_; refine fk [(0, _), (3, _), (4, _), (6, _), (7, _), (24, _)] hK3 ?_; refine Hd.cond rfl (fun hc0 => ?_) (fun hc0 => ?_)
  ·try simp only [hyA, hyB, hyC, ne_eq] at hc0
   have h0 : toldK f w a = ((a.1, a.2, 0, 0), false) := if_pos hc0
   refine sr fun _ hK4 => ?_
   refine yv (y_loadn (us := [_, _, _, _]) ag82 rfl (Rd.pt pkk (by (first | (intro j v e; rcases j with _|_|_|_|_|_|_|_|_|_|_|_|j <;> first | exact e | exact absurd e (by simp))))) (by exact sz82)) ?_; refine Hd.storeA (us := encNo (a.1, a.2, 0, 0)) sz82 rfl rfl rfl (by simp [Value.oneCell']) pkk (by exact rfl) ?_; refine yv y_as <| fk [(4, _), (5, _)] hK4 ?_; refine Hd.ret <| Hd.thenRet ?_; rw [h0]; exact Hd.retCT rfl () ag82 rfl rfl (Rd.pt (b := b4) (us := encNo (a.1, a.2, 0, 0)) pkk (fun j v e => by rw [Nat.zero_add]; exact e)) (by exact sz82) rfl sq
  ·try simp only [hyA, hyB, hyC, ne_eq] at hc0
   refine Hd.skip <| Hd.toK hK2 ?_; refine Hd.seq fun _ hK5 => ?_
   refine sr fun _ hK6 => ?_
   refine yv (y_f 1 3 Tryz.underlying170 sz3) ?_; refine yv (y_l1 ag3 rfl) ?_; refine yv (y_eql rfl rfl) ?_; refine fk [(0, _), (3, _), (4, _), (6, _), (7, _), (28, _)] hK6 ?_; refine Hd.cond rfl (fun hc1 => ?_) (fun hc1 => ?_)
   ·try simp only [hyA, hyB, hyC, ne_eq] at hc1
    have h0 : toldK f w a = ((a.1, a.2, 0, cntS w.ct a.1), decide (cntS w.ct a.1 > 0)) := by unfold toldK; rw [if_neg (fun h => h hc0), if_pos hc1]
    refine Hd.seq fun _ hK7 => ?_
    refine Hd.drawsH ([KqH qb wb mb, pt b3 (encKy a) 170]) (fun j => !([8].contains j)) mixed ?_; simp only [List.length, Nat.zero_add, Nat.reduceAdd]; refine tH 0 rfl y_mv ?_; refine tH 1 rfl y_np ?_; refine tH 2 rfl (y_f 0 38 Tryz.underlying175 sz38) ?_; refine tH 3 rfl (y_l1 ag38 rfl) ?_; refine tH 4 rfl (y_f 0 3 Tryz.underlying170 sz3) ?_; refine tH 5 rfl (y_l1 ag3 rfl) ?_; refine onlyH 6 rfl kq ?_; refine callE rfl fk189 (wcount_ct _ wb w a.1) sq ?_; intro _; refine Hd.nil <| thenN <| heldK (J := (fun j => !([8].contains j))) (i := 6) sq ?_; refine tH 7 rfl (y_f 3 3 Tryz.underlying82 sz3) ?_; refine onlyH 8 rfl kq ?_; refine Hd.store1 sz3 rfl rfl rfl pkk (by simp; done) ?_
    try simp only [List.set_cons_zero, List.set_cons_succ]
    refine Hd.nil <| thenN <| Hd.heldN (J := (fun j => !([8].contains j))) (i := 8) rfl ?_; refine endH kq ?_; refine sk [(4, _), (7, _)] hK7 ?_; refine Hd.seq fun _ hK8 => ?_
    refine Hd.drawsH ([pt b7 (encNo (a.1, a.2, 0, cntS w.ct a.1)) 82]) (fun j => !([4].contains j)) mixed ?_; simp only [List.length, Nat.zero_add, Nat.reduceAdd]; refine tH 0 rfl (y_loadn (us := [_, _, _, _]) ag82 rfl (Rd.pt pkk (by (first | (intro j v e; rcases j with _|_|_|_|_|_|_|_|_|_|_|_|j <;> first | exact e | exact absurd e (by simp))))) (by exact sz82)) ?_; refine Hd.eitherH 1 4 rfl rfl kq ?_ ?_
    ·refine yv (y_f 3 3 Tryz.underlying82 sz3) ?_
     refine Hd.nil <| thenN <| heldK (J := (fun j => !([4].contains j))) (i := 1) sq ?_; refine Hd.eitherH 2 4 rfl rfl kq ?_ ?_
     ·refine yv (y_l1 ag3 rfl) ?_
      refine Hd.nil <| thenN <| heldK (J := (fun j => !([4].contains j))) (i := 2) sq ?_; refine Hd.eitherH 3 4 rfl rfl kq ?_ ?_
      ·refine yv (y_gtr rfl rfl) ?_
       refine Hd.nil <| thenN <| heldK (J := (fun j => !([4].contains j))) (i := 3) sq ?_; refine onlyH 4 rfl kq ?_; refine Hd.storeA (us := encNo (a.1, a.2, 0, cntS w.ct a.1)) sz82 rfl rfl rfl (by simp [Value.oneCell']) pkk (by exact rfl) ?_; refine Hd.nil <| thenN <| Hd.heldN (J := (fun j => !([4].contains j))) (i := 4) rfl ?_; refine onlyH 5 rfl kq ?_; refine yv y_as <| Hd.nil <| thenN <| heldK (J := (fun j => !([4].contains j))) (i := 5) sq ?_; refine endH kq ?_; refine sk [(4, _), (5, _)] hK8 ?_; refine Hd.ret <| Hd.thenRet ?_; rw [h0]; exact Hd.retCT rfl () ag82 rfl rfl (Rd.pt (b := b4) (us := encNo (a.1, a.2, 0, cntS w.ct a.1)) pkk (fun j v e => by rw [Nat.zero_add]; exact e)) (by exact sz82) rfl sq
      ·refine Hd.storeA (us := encNo (a.1, a.2, 0, cntS w.ct a.1)) sz82 rfl rfl rfl (by simp [Value.oneCell']) pkk (by exact rfl) ?_
       refine Hd.nil <| thenN <| Hd.heldN (J := (fun j => !([4].contains j))) (i := 4) rfl ?_; refine onlyH 3 rfl kq ?_; refine yv (y_gtr rfl rfl) ?_; refine Hd.nil <| thenN <| heldK (J := (fun j => !([4].contains j))) (i := 3) sq ?_; refine onlyH 5 rfl kq ?_; refine yv y_as <| Hd.nil <| thenN <| heldK (J := (fun j => !([4].contains j))) (i := 5) sq ?_; refine endH kq ?_; refine sk [(4, _), (5, _)] hK8 ?_; refine Hd.ret <| Hd.thenRet ?_; rw [h0]; exact Hd.retCT rfl () ag82 rfl rfl (Rd.pt (b := b4) (us := encNo (a.1, a.2, 0, cntS w.ct a.1)) pkk (fun j v e => by rw [Nat.zero_add]; exact e)) (by exact sz82) rfl sq
     ·refine Hd.storeA (us := encNo (a.1, a.2, 0, cntS w.ct a.1)) sz82 rfl rfl rfl (by simp [Value.oneCell']) pkk (by exact rfl) ?_
      refine Hd.nil <| thenN <| Hd.heldN (J := (fun j => !([4].contains j))) (i := 4) rfl ?_; refine onlyH 2 rfl kq ?_; refine yv (y_l1 ag3 rfl) ?_; refine Hd.nil <| thenN <| heldK (J := (fun j => !([4].contains j))) (i := 2) sq ?_; refine onlyH 3 rfl kq ?_; refine yv (y_gtr rfl rfl) ?_; refine Hd.nil <| thenN <| heldK (J := (fun j => !([4].contains j))) (i := 3) sq ?_; refine onlyH 5 rfl kq ?_; refine yv y_as <| Hd.nil <| thenN <| heldK (J := (fun j => !([4].contains j))) (i := 5) sq ?_; refine endH kq ?_; refine sk [(4, _), (5, _)] hK8 ?_; refine Hd.ret <| Hd.thenRet ?_; rw [h0]; exact Hd.retCT rfl () ag82 rfl rfl (Rd.pt (b := b4) (us := encNo (a.1, a.2, 0, cntS w.ct a.1)) pkk (fun j v e => by rw [Nat.zero_add]; exact e)) (by exact sz82) rfl sq
    ·refine Hd.storeA (us := encNo (a.1, a.2, 0, cntS w.ct a.1)) sz82 rfl rfl rfl (by simp [Value.oneCell']) pkk (by exact rfl) ?_
     refine Hd.nil <| thenN <| Hd.heldN (J := (fun j => !([4].contains j))) (i := 4) rfl ?_; refine onlyH 1 rfl kq ?_; refine yv (y_f 3 3 Tryz.underlying82 sz3) ?_; refine Hd.nil <| thenN <| heldK (J := (fun j => !([4].contains j))) (i := 1) sq ?_; refine onlyH 2 rfl kq ?_; refine yv (y_l1 ag3 rfl) ?_; refine Hd.nil <| thenN <| heldK (J := (fun j => !([4].contains j))) (i := 2) sq ?_; refine onlyH 3 rfl kq ?_; refine yv (y_gtr rfl rfl) ?_; refine Hd.nil <| thenN <| heldK (J := (fun j => !([4].contains j))) (i := 3) sq ?_; refine onlyH 5 rfl kq ?_; refine yv y_as <| Hd.nil <| thenN <| heldK (J := (fun j => !([4].contains j))) (i := 5) sq ?_; refine endH kq ?_; refine sk [(4, _), (5, _)] hK8 ?_; refine Hd.ret <| Hd.thenRet ?_; rw [h0]; exact Hd.retCT rfl () ag82 rfl rfl (Rd.pt (b := b4) (us := encNo (a.1, a.2, 0, cntS w.ct a.1)) pkk (fun j v e => by rw [Nat.zero_add]; exact e)) (by exact sz82) rfl sq
   ·try simp only [hyA, hyB, hyC, ne_eq] at hc1
    obtain ⟨r, hr⟩ : ∃ r, r = readyR w a.1 := ⟨_, rfl⟩
    have h0 : toldK f w a = ((a.1, a.2, eofK r, 0), onK a.2 r && newsK ((f a).getD zKn) a.2 r) := by unfold toldK; rw [if_neg (fun h => h hc0), if_neg hc1, hr]
    refine Hd.skip <| Hd.toK hK5 ?_; refine Hd.cutK (ι := Nat) [(3, _), (4, _), (6, _), (7, _)] (fun b8 => [(8, .pointer (some ⟨b8, 0, none⟩))]) (fun b8 => pt b8 (encR r) 105 :: pt b6 (encKn ((f a).getD zKn)) 172 :: pt b7 (encNo (a.1, a.2, 0, 0)) 82 :: pt b4 (encNo (0, 0, 0, 0)) 82 :: pt b3 (encKy a) 170 :: KqB qb wb mb f m w L) ?_ ?_ ⟨rfl, rfl, rfl, rfl, trivial⟩
    ·refine Hd.drawsH ([KqH qb wb mb, pt b3 (encKy a) 170]) (fun j => !([8].contains j)) mixed ?_
     simp only [List.length, Nat.zero_add, Nat.reduceAdd]; refine tH 0 rfl y_mv ?_; refine tH 1 rfl y_np ?_; refine tH 2 rfl (y_f 0 38 Tryz.underlying175 sz38) ?_; refine tH 3 rfl (y_l1 ag38 rfl) ?_; refine tH 4 rfl (y_f 0 3 Tryz.underlying170 sz3) ?_; refine tH 5 rfl (y_l1 ag3 rfl) ?_; refine Hd.eitherH 6 7 rfl rfl kq ?_ ?_
     ·refine callE rfl fk43 (wready_ct _ wb w a.1) sq ?_
      intro _; refine Hd.nil <| thenN <| heldK (J := (fun j => !([8].contains j))) (i := 6) sq ?_; refine onlyH 7 rfl kq ?_; refine Hd.alloc zr105 (fun b8 => ?_); refine Hd.nil <| thenN <| heldK (J := (fun j => !([8].contains j))) (i := 7) sq ?_; refine onlyH 8 rfl kq ?_; refine Hd.storeA (us := encR (readyR w a.1)) sz105 rfl rfl rfl (by simp [Value.oneCell']) pkk (by exact rfl) ?_; refine Hd.nil <| thenN <| Hd.heldN (J := (fun j => !([8].contains j))) (i := 8) rfl ?_; refine endH kq ?_; refine slots [(3, _), (4, _), (6, _), (7, _), (8, _)] sbq ?_; refine thenN ?_; exact Hd.meet b8 sbq (Ent.sep (.eq pkk (pt_eq (by rw [hr])) enn))
     ·refine Hd.alloc zr105 (fun b8 => ?_)
      refine Hd.nil <| thenN <| heldK (J := (fun j => !([8].contains j))) (i := 7) sq ?_; refine onlyH 6 rfl kq ?_; refine callE rfl fk43 (wready_ct _ wb w a.1) sq ?_; intro _; refine Hd.nil <| thenN <| heldK (J := (fun j => !([8].contains j))) (i := 6) sq ?_; refine onlyH 8 rfl kq ?_; refine Hd.storeA (us := encR (readyR w a.1)) sz105 rfl rfl rfl (by simp [Value.oneCell']) pkk (by exact rfl) ?_; refine Hd.nil <| thenN <| Hd.heldN (J := (fun j => !([8].contains j))) (i := 8) rfl ?_; refine endH kq ?_; refine slots [(3, _), (4, _), (6, _), (7, _), (8, _)] sbq ?_; refine thenN ?_; exact Hd.meet b8 sbq (Ent.sep (.eq pkk (pt_eq (by rw [hr])) enn))
    ·intro b8
     refine sr fun _ hK9 => ?_
     refine yv (y_f 3 4 Tryz.underlying105 sz4) ?_; refine yv (y_l1 ag4 rfl) ?_; refine yv y_mv ?_; apply Hd.org 3 50 53 [(3, _), (4, _), (6, _), (7, _), (8, _)] rfl sbq
     ·intro _
      simp only [List.take]; refine n1 <| n1 <| yv (y_pickT rfl rfl) ?_; refine Hd.nil ?_; exact Hd.mq
     ·intro _
      simp only [List.take]; refine y2 (y_f 4 4 Tryz.underlying105 sz4) ?_; refine y2 (y_l1 ag4 rfl) ?_; refine yv (y_pickF rfl rfl) ?_; refine Hd.nil ?_; exact Hd.mq
     simp only [List.drop]; refine yv y_mv ?_; apply Hd.org 8 54 62 [(3, _), (4, _), (6, _), (7, _), (8, _)] rfl sbq
     ·intro _
      simp only [List.take]; refine n1 <| n1 <| n1 <| n1 <| n1 <| n1 <| n1 <| yv (y_pickT rfl rfl) ?_; refine Hd.nil ?_; exact Hd.mq
     ·intro hg8_54
      try simp only [hyA, hyB, hyC, ne_eq] at hg8_54
      simp only [List.take]; refine y2 (y_f 1 3 Tryz.underlying170 sz3) ?_; refine y2 (y_l1 ag3 rfl) ?_; refine y2 (y_eql rfl rfl) ?_; refine y2 y_mv ?_; apply Hd.andg 3 58 61 [(3, _), (4, _), (6, _), (7, _), (8, _), (54, _)] rfl sbq
      ·intro _
       simp only [List.take]; refine y2 (y_f 1 4 Tryz.underlying105 sz4) ?_; refine y2 (y_l1 ag4 rfl) ?_; refine y2 (y_pickT rfl rfl) ?_; refine Hd.nil ?_; exact Hd.mq
      ·intro _
       simp only [List.take]; refine n1 <| n1 <| y2 (y_pickF rfl rfl) ?_; refine Hd.nil ?_; exact Hd.mq
      simp only [List.drop]; refine yv (y_pickF rfl rfl) ?_; refine Hd.nil ?_; exact Hd.mq
     simp only [List.drop]; refine yv y_mv ?_; apply Hd.org 8 63 71 [(3, _), (4, _), (6, _), (7, _), (8, _)] rfl sbq
     ·intro _
      simp only [List.take]; refine n1 <| n1 <| n1 <| n1 <| n1 <| n1 <| n1 <| yv (y_pickT rfl rfl) ?_; refine Hd.nil ?_; exact Hd.mq
     ·intro hg8_63
      try simp only [hyA, hyB, hyC, ne_eq] at hg8_63
      simp only [List.take]; refine y2 (y_f 1 3 Tryz.underlying170 sz3) ?_; refine y2 (y_l1 ag3 rfl) ?_; refine y2 (y_eql rfl rfl) ?_; refine y2 y_mv ?_; apply Hd.andg 3 67 70 [(3, _), (4, _), (6, _), (7, _), (8, _), (63, _)] rfl sbq
      ·intro _
       simp only [List.take]; refine y2 (y_f 2 4 Tryz.underlying105 sz4) ?_; refine y2 (y_l1 ag4 rfl) ?_; refine y2 (y_pickT rfl rfl) ?_; refine Hd.nil ?_; exact Hd.mq
      ·intro _
       simp only [List.take]; refine n1 <| n1 <| y2 (y_pickF rfl rfl) ?_; refine Hd.nil ?_; exact Hd.mq
      simp only [List.drop]; refine yv (y_pickF rfl rfl) ?_; refine Hd.nil ?_; exact Hd.mq
     simp only [List.drop]; refine yv (y_to (v' := .bool (onK a.2 r)) y_as (by rfl)) ?_; refine fk [(3, _), (4, _), (6, _), (7, _), (8, _), (9, _)] hK9 ?_; refine Hd.cutK (ι := Unit) [(3, _), (4, _), (6, _), (7, _), (8, _), (9, _)] (fun _ => []) (fun _ => pt b7 (encNo (a.1, a.2, eofK r, 0)) 82 :: pt b8 (encR r) 105 :: pt b6 (encKn ((f a).getD zKn)) 172 :: pt b4 (encNo (0, 0, 0, 0)) 82 :: pt b3 (encKy a) 170 :: KqB qb wb mb f m w L) ?_ ?_ ⟨rfl, rfl, rfl, rfl, rfl, rfl, trivial⟩
     ·refine sr fun _ hK10 => ?_
      refine yv (y_f 3 4 Tryz.underlying105 sz4) ?_; refine yv (y_l1 ag4 rfl) ?_; refine yv y_mv ?_; apply Hd.org 3 74 77 [(3, _), (4, _), (6, _), (7, _), (8, _), (9, _)] rfl sbq
      ·intro _
       simp only [List.take]; refine n1 <| n1 <| yv (y_pickT rfl rfl) ?_; refine Hd.nil ?_; exact Hd.mq
      ·intro _
       simp only [List.take]; refine y2 (y_f 4 4 Tryz.underlying105 sz4) ?_; refine y2 (y_l1 ag4 rfl) ?_; refine yv (y_pickF rfl rfl) ?_; refine Hd.nil ?_; exact Hd.mq
      simp only [List.drop]; refine fk [(3, _), (4, _), (6, _), (7, _), (8, _), (9, _), (77, _)] hK10 ?_; refine Hd.cond rfl (fun hc2 => ?_) (fun hc2 => ?_)
      ·try simp only [hyA, hyB, hyC, ne_eq] at hc2
       refine Hd.region <| yv (y_f 2 3 Tryz.underlying82 sz3) ?_; refine Hd.store1 sz3 rfl rfl rfl pkk (by simp; done) ?_
       try simp only [List.set_cons_zero, List.set_cons_succ]
       refine Hd.nil <| slots [(3, _), (4, _), (6, _), (7, _), (8, _), (9, _)] sbq ?_; refine thenN ?_; exact Hd.meet () sbq (Ent.sep (.eq pkk (pt_eq (by rw [show eofK r = 128 from if_pos (by simpa using hc2)])) enn))
      ·try simp only [hyA, hyB, hyC, ne_eq] at hc2
       refine Hd.skip <| thenN ?_; exact Hd.meet () sbq (Ent.sep (.eq pkk (pt_eq (by rw [show eofK r = 0 from if_neg (by rw [hc2.1, hc2.2]; decide)])) enn))
     ·intro _
      refine Hd.seq fun _ hK11 => ?_
      refine Hd.drawsH ([pt b6 (encKn ((f a).getD zKn)) 172, pt b3 (encKy a) 170, pt b7 (encNo (a.1, a.2, eofK r, 0)) 82, pt b8 (encR r) 105]) (fun j => !(([1000] : List Nat).contains j)) mixed ?_; simp only [List.length, Nat.zero_add, Nat.reduceAdd]; refine tH 0 rfl (y_loadn (us := [_, _, _, _]) ag82 rfl (Rd.pt pkk (by (first | (intro j v e; rcases j with _|_|_|_|_|_|_|_|_|_|_|_|j <;> first | exact e | exact absurd e (by simp))))) (by exact sz82)) ?_; refine tH 1 rfl y_mv ?_; refine tH 2 rfl y_mv ?_; refine Hd.part (gd := 81) rfl (fun hg11_81 => ?_) (fun hg11_81 => ?_)
      ·try simp only [hyA, hyB, hyC, ne_eq] at hg11_81
       refine Hd.takegH 3 rfl kq kq kq kq rfl rfl (y_f 1 3 Tryz.underlying172 sz3) fq sq ?_; refine Hd.takegH 4 rfl kq kq kq kq rfl rfl (y_l1 ag3 rfl) fq sq ?_; refine Hd.takegH 5 rfl kq kq kq kq rfl rfl (y_and rfl rfl) fq sq ?_; refine Hd.takegH 6 rfl kq kq kq kq rfl rfl (y_eql rfl rfl) fq sq ?_; refine Hd.takegH 7 rfl kq kq kq kq rfl rfl y_mv fq sq ?_; refine Hd.part (gd := 86) rfl (fun hg11_86 => ?_) (fun hg11_86 => ?_)
       ·try simp only [hyA, hyB, hyC, ne_eq] at hg11_86
        refine Hd.takenH 8 rfl kq kq kq kq rfl rfl rfl fq sq ?_; refine Hd.takenH 9 rfl kq kq kq kq rfl rfl rfl fq sq ?_; refine Hd.takegH 10 rfl kq kq kq kq rfl rfl (y_pickT rfl rfl) fq sq ?_; refine Hd.takegH 11 rfl kq kq kq kq rfl rfl y_mv fq sq ?_; refine Hd.part (gd := 90) rfl (fun hg11_90 => ?_) (fun hg11_90 => ?_)
        ·try simp only [hyA, hyB, hyC, ne_eq] at hg11_90
         refine Hd.takenH 12 rfl kq kq kq kq rfl rfl rfl fq sq ?_; refine Hd.takenH 13 rfl kq kq kq kq rfl rfl rfl fq sq ?_; refine Hd.takenH 14 rfl kq kq kq kq rfl rfl rfl fq sq ?_; refine Hd.takenH 16 rfl kq kq kq kq rfl rfl rfl fq sq ?_; refine Hd.takenH 17 rfl kq kq kq kq rfl rfl rfl fq sq ?_; refine onlyH 15 rfl kq ?_; refine n1 <| Hd.nil <| thenN <| heldK (J := (fun j => !(([1000] : List Nat).contains j))) (i := 15) sq ?_; refine Hd.takenH 18 rfl kq kq kq kq rfl rfl rfl fq sq ?_; refine Hd.takegH 19 rfl kq kq kq kq rfl rfl (y_pickT rfl rfl) fq sq ?_; refine tH 20 rfl (y_pickT rfl rfl) ?_; refine onlyH 21 rfl kq ?_; refine Hd.storeA (us := encNo (a.1, a.2, eofK r, 0)) sz82 rfl rfl rfl (by simp [Value.oneCell']) pkk (by exact rfl) ?_; refine Hd.nil <| thenN <| heldK (J := (fun j => !(([1000] : List Nat).contains j))) (i := 21) sq ?_; refine tH 22 rfl y_as ?_
         refine endH kq ?_; refine sk [(4, _), (5, _)] hK11 ?_; refine Hd.ret ?_; rw [h0, show (onK a.2 r && newsK ((f a).getD zKn) a.2 r) = true by unfold newsK; simp [hg11_81, hg11_86]]; exact Hd.retCT rfl () ag82 rfl rfl (Rd.pt (b := b4) (us := encNo (a.1, a.2, eofK r, 0)) pkk (fun j v e => by rw [Nat.zero_add]; exact e)) (by exact sz82) rfl sq
        ·try simp only [hyA, hyB, hyC, ne_eq] at hg11_90
         exact absurd hg11_90 (by simp)
       ·try simp only [hyA, hyB, hyC, ne_eq] at hg11_86
        refine Hd.takegH 8 rfl kq kq kq kq rfl rfl (y_f 2 4 Tryz.underlying172 sz4) fq sq ?_; refine Hd.takegH 9 rfl kq kq kq kq rfl rfl (y_l1 ag4 rfl) fq sq ?_; refine Hd.takegH 10 rfl kq kq kq kq rfl rfl (y_pickF rfl rfl) fq sq ?_; refine Hd.takegH 11 rfl kq kq kq kq rfl rfl y_mv fq sq ?_; refine Hd.part (gd := 90) rfl (fun hg11_90 => ?_) (fun hg11_90 => ?_)
        ·try simp only [hyA, hyB, hyC, ne_eq] at hg11_90
         refine Hd.takenH 12 rfl kq kq kq kq rfl rfl rfl fq sq ?_; refine Hd.takenH 13 rfl kq kq kq kq rfl rfl rfl fq sq ?_; refine Hd.takenH 14 rfl kq kq kq kq rfl rfl rfl fq sq ?_; refine Hd.takenH 16 rfl kq kq kq kq rfl rfl rfl fq sq ?_; refine Hd.takenH 17 rfl kq kq kq kq rfl rfl rfl fq sq ?_; refine onlyH 15 rfl kq ?_; refine n1 <| Hd.nil <| thenN <| heldK (J := (fun j => !(([1000] : List Nat).contains j))) (i := 15) sq ?_; refine Hd.takenH 18 rfl kq kq kq kq rfl rfl rfl fq sq ?_; refine Hd.takegH 19 rfl kq kq kq kq rfl rfl (y_pickT rfl rfl) fq sq ?_; refine tH 20 rfl (y_pickT rfl rfl) ?_; refine onlyH 21 rfl kq ?_; refine Hd.storeA (us := encNo (a.1, a.2, eofK r, 0)) sz82 rfl rfl rfl (by simp [Value.oneCell']) pkk (by exact rfl) ?_; refine Hd.nil <| thenN <| heldK (J := (fun j => !(([1000] : List Nat).contains j))) (i := 21) sq ?_; refine tH 22 rfl y_as ?_
         refine endH kq ?_; refine sk [(4, _), (5, _)] hK11 ?_; refine Hd.ret ?_; rw [h0, show (onK a.2 r && newsK ((f a).getD zKn) a.2 r) = true by unfold newsK; simp [hg11_81, hg11_90]]; exact Hd.retCT rfl () ag82 rfl rfl (Rd.pt (b := b4) (us := encNo (a.1, a.2, eofK r, 0)) pkk (fun j v e => by rw [Nat.zero_add]; exact e)) (by exact sz82) rfl sq
        ·try simp only [hyA, hyB, hyC, ne_eq] at hg11_90
         refine Hd.takegH 12 rfl kq kq kq kq rfl rfl (y_f 1 3 Tryz.underlying170 sz3) fq sq ?_; refine Hd.takegH 13 rfl kq kq kq kq rfl rfl (y_l1 ag3 rfl) fq sq ?_; refine Hd.takegH 14 rfl kq kq kq kq rfl rfl (y_loadn (us := [_, _, _, _, _, _, _]) ag105 rfl (Rd.pt pkk (by (first | (intro j v e; rcases j with _|_|_|_|_|_|_|_|_|_|_|_|j <;> first | exact e | exact absurd e (by simp))))) (by exact sz105)) fq sq ?_; refine Hd.takegH 16 rfl kq kq kq kq rfl rfl (y_f 3 30 Tryz.underlying172 sz30) fq sq ?_; refine Hd.takegH 17 rfl kq kq kq kq rfl rfl (y_l1 ag30 rfl) fq sq ?_; refine onlyH 15 rfl kq ?_; refine Hd.unguard rfl rfl ?_; refine callE rfl fk91 (krises_ct _ a.2 r) sq ?_; intro _; refine Hd.nil <| thenN <| heldK (J := (fun j => !(([1000] : List Nat).contains j))) (i := 15) sq ?_; refine Hd.takegH 18 rfl kq kq kq kq rfl rfl (y_gtr rfl rfl) fq sq ?_; refine Hd.takegH 19 rfl kq kq kq kq rfl rfl (y_pickF rfl rfl) fq sq ?_
         refine tH 20 rfl (y_pickT rfl rfl) ?_; refine onlyH 21 rfl kq ?_; refine Hd.storeA (us := encNo (a.1, a.2, eofK r, 0)) sz82 rfl rfl rfl (by simp [Value.oneCell']) pkk (by exact rfl) ?_; refine Hd.nil <| thenN <| heldK (J := (fun j => !(([1000] : List Nat).contains j))) (i := 21) sq ?_; refine tH 22 rfl y_as ?_; refine endH kq ?_; refine sk [(4, _), (5, _)] hK11 ?_; refine Hd.ret ?_; rw [h0, show (onK a.2 r && newsK ((f a).getD zKn) a.2 r) = decide (riseK a.2 r > ((f a).getD zKn).seen) by unfold newsK; simp [hg11_81, hg11_86, hg11_90]]; exact Hd.retCT rfl () ag82 rfl rfl (Rd.pt (b := b4) (us := encNo (a.1, a.2, eofK r, 0)) pkk (fun j v e => by rw [Nat.zero_add]; exact e)) (by exact sz82) rfl sq
      ·try simp only [hyA, hyB, hyC, ne_eq] at hg11_81
       refine Hd.takenH 3 rfl kq kq kq kq rfl rfl rfl fq sq ?_; refine Hd.takenH 4 rfl kq kq kq kq rfl rfl rfl fq sq ?_; refine Hd.takenH 5 rfl kq kq kq kq rfl rfl rfl fq sq ?_; refine Hd.takenH 6 rfl kq kq kq kq rfl rfl rfl fq sq ?_; refine Hd.takenH 7 rfl kq kq kq kq rfl rfl rfl fq sq ?_; refine Hd.takenH 8 rfl kq kq kq kq rfl rfl rfl fq sq ?_; refine Hd.takenH 9 rfl kq kq kq kq rfl rfl rfl fq sq ?_; refine Hd.takenH 10 rfl kq kq kq kq rfl rfl rfl fq sq ?_; refine Hd.takenH 11 rfl kq kq kq kq rfl rfl rfl fq sq ?_; refine Hd.takenH 12 rfl kq kq kq kq rfl rfl rfl fq sq ?_; refine Hd.takenH 13 rfl kq kq kq kq rfl rfl rfl fq sq ?_; refine Hd.takenH 14 rfl kq kq kq kq rfl rfl rfl fq sq ?_; refine Hd.takenH 16 rfl kq kq kq kq rfl rfl rfl fq sq ?_; refine Hd.takenH 17 rfl kq kq kq kq rfl rfl rfl fq sq ?_; refine onlyH 15 rfl kq ?_; refine n1 <| Hd.nil <| thenN <| heldK (J := (fun j => !(([1000] : List Nat).contains j))) (i := 15) sq ?_
       refine Hd.takenH 18 rfl kq kq kq kq rfl rfl rfl fq sq ?_; refine Hd.takenH 19 rfl kq kq kq kq rfl rfl rfl fq sq ?_; refine tH 20 rfl (y_pickF rfl rfl) ?_; refine onlyH 21 rfl kq ?_; refine Hd.storeA (us := encNo (a.1, a.2, eofK r, 0)) sz82 rfl rfl rfl (by simp [Value.oneCell']) pkk (by exact rfl) ?_; refine Hd.nil <| thenN <| heldK (J := (fun j => !(([1000] : List Nat).contains j))) (i := 21) sq ?_; refine tH 22 rfl y_as ?_; refine endH kq ?_; refine sk [(4, _), (5, _)] hK11 ?_; refine Hd.ret ?_; rw [h0, show (onK a.2 r && newsK ((f a).getD zKn) a.2 r) = false by unfold newsK; simp [hg11_81]]; exact Hd.retCT rfl () ag82 rfl rfl (Rd.pt (b := b4) (us := encNo (a.1, a.2, eofK r, 0)) pkk (fun j v e => by rw [Nat.zero_add]; exact e)) (by exact sz82) rfl sq
end Kq
end Go.Proofs.YtbfddabjbkohdaaGreat
namespace Go.Proofs.YtbfddabjbkohdaaGreat
set_option maxHeartbeats 2000000
open Go.RX.Hd (yv y2 n1 fk sk sr tH callE heldK onlyH endH thenN slots)
set_option linter.unusedSimpArgs false
set_option linter.unusedVariables false
set_option linter.unnecessarySimpa false
open Go.RX Fx
namespace Wo
theorem Hd.wokK {E : World} {n : Nat} {ds : List Deferred} {st : List (Nat × Value)} {L L' : List SP} {K : Act → World → Prop} {wb : Nat} {w : WA} (p : Pick L (WorldP wb w) L') (h : WOk w → Hd E n ds st L K) : Hd E n ds st L K := fun a v f s => by
 refine h ?_ a v f s
 obtain ⟨h1, s1, i, x⟩ := sep.one p s.2.2.2
 obtain ⟨_, _, _, _, _, hq, _⟩ := x
 exact hq.1
end Wo
namespace Kq
open Wo
set_option maxRecDepth 8000
theorem ltK_ext : ∀ {a b : List Ky}, a.Pairwise ltK → b.Pairwise ltK → (∀ x, x ∈ a ↔ x ∈ b) → a = b
 | [], [], _, _, _ => rfl
 | [], y :: b, _, _, h => absurd ((h y).2 List.mem_cons_self) (by simp)
 | x :: a, [], _, _, h => absurd ((h x).1 List.mem_cons_self) (by simp)
 | x :: a, y :: b, ha, hb, h => by
  rw [List.pairwise_cons] at ha hb
  have hxy : x = y := by
   rcases List.mem_cons.1 ((h x).1 List.mem_cons_self) with e | e
   ·exact e
   ·rcases List.mem_cons.1 ((h y).2 List.mem_cons_self) with e2 | e2
    ·exact e2.symm
    ·have h1 := hb.1 x e
     have h2 := ha.1 y e2
     unfold ltK at h1 h2; omega
  subst hxy
  congr 1
  refine ltK_ext ha.2 hb.2 fun z => ?_
  have := h z
  simp only [List.mem_cons] at this
  constructor
  ·intro hz
   rcases this.1 (.inr hz) with rfl | e
   ·have := ha.1 z hz; unfold ltK at this; omega
   ·exact e
  ·intro hz
   rcases this.2 (.inr hz) with rfl | e
   ·have := hb.1 z hz; unfold ltK at this; omega
   ·exact e
structure OkK (f : Ky → Option KnA) : Prop where
 fl : ∀ a x, f a = some x → 1 ≤ a.2 ∧ a.2 ≤ 3
 sg : ∀ a x, f a = some x → a.2 = 3 → 1 ≤ a.1 ∧ a.1 ≤ 31
def gridK : List Ky := (List.range 96).flatMap fun n : Nat => [((n : Int), 1), ((n : Int), 2), ((n : Int), 3)]
theorem mem_grid {a : Ky} : a ∈ gridK ↔ (0 ≤ a.1 ∧ a.1 < 96) ∧ 1 ≤ a.2 ∧ a.2 ≤ 3 := by
 unfold gridK; rw [List.mem_flatMap]
 constructor
 ·rintro ⟨n, hn, h⟩
  have := List.mem_range.1 hn
  simp only [List.mem_cons, List.not_mem_nil, or_false] at h
  rcases h with rfl | rfl | rfl <;> exact ⟨⟨by omega, by omega⟩, by omega, by omega⟩
 ·rintro ⟨⟨h1, h2⟩, h3, h4⟩
  refine ⟨a.1.toNat, List.mem_range.2 (by omega), ?_⟩
  have e : ((a.1.toNat : Nat) : Int) = a.1 := by omega
  rw [e]; simp only [List.mem_cons, List.not_mem_nil, or_false]
  have h5 : a.2 = 1 ∨ a.2 = 2 ∨ a.2 = 3 := by omega
  rcases h5 with h | h | h
  ·exact .inl (Prod.ext rfl h)
  ·exact .inr (.inl (Prod.ext rfl h))
  ·exact .inr (.inr (Prod.ext rfl h))
theorem grid_srt : gridK.Pairwise ltK := by
 unfold gridK; rw [List.pairwise_flatMap]; refine ⟨fun n _ => by simp [ltK], ?_⟩; refine List.pairwise_lt_range.imp fun {a b} h x hx y hy => ?_
 simp only [List.mem_cons, List.not_mem_nil, or_false] at hx hy
 have h1 : x.1 = (a : Int) := by rcases hx with rfl | rfl | rfl <;> rfl
 have h2 : y.1 = (b : Int) := by rcases hy with rfl | rfl | rfl <;> rfl
 exact .inl (by omega)
def allK (f : Ky → Option KnA) (w : WA) : List Ky := gridK.filter (isK f w)
theorem mem_allK {f : Ky → Option KnA} {w : WA} (hw : WOk w) (hf : OkK f) {a : Ky} : a ∈ allK f w ↔ isK f w a = true := by
 unfold allK; rw [List.mem_filter, mem_grid]; refine ⟨fun h => h.2, fun h => ⟨?_, h⟩⟩
 obtain ⟨x, hx⟩ := Option.isSome_iff_exists.1 (isK_some h)
 have h1 := hf.fl a x hx
 refine ⟨?_, h1⟩
 by_cases h3 : a.2 = 3
 ·have := hf.sg a x hx h3
  omega
 ·unfold isK at h
  rw [hx] at h; simp only [if_neg h3, decide_eq_true_eq] at h
  obtain ⟨p, hp⟩ := Option.isSome_iff_exists.1 h.1
  have := hw.at_lt (n := p.1) (k := p.2) hp
  omega
theorem AllK.eq {f : Ky → Option KnA} {m : Nat} {w : WA} {ks : List Ky} (hw : WOk w) (hf : OkK f) (h : AllK f m w ks) : ks = allK f w :=
 ltK_ext h.srt (grid_srt.sublist List.filter_sublist) fun a => by rw [h.mem, mem_allK hw hf]
theorem allK_len (f : Ky → Option KnA) (w : WA) : (allK f w).length ≤ 288 := by
 unfold allK
 have := List.length_filter_le (isK f w) gridK
 have e : gridK.length = 288 := by decide +kernel
 omega
theorem okK_0 : OkK k0 := ⟨fun _ _ h => (by cases h), fun _ _ h => (by cases h)⟩
theorem OkK.upd {f : Ky → Option KnA} (h : OkK f) {k : Ky} {o : Option KnA} (hk : ∀ x, o = some x → (1 ≤ k.2 ∧ k.2 ≤ 3) ∧ (k.2 = 3 → 1 ≤ k.1 ∧ k.1 ≤ 31)) : OkK (updK f k o) := by
 constructor
 ·intro a x ha
  unfold updK at ha
  split at ha
  ·rename_i e; subst e; exact (hk x ha).1
  ·exact h.fl a x ha
 ·intro a x ha h3
  unfold updK at ha
  split at ha
  ·rename_i e; subst e; exact (hk x ha).2 h3
  ·exact h.sg a x ha h3
theorem mayK_fl {p : NoA} (h : ¬ (mayK p = false)) : 1 ≤ p.2.1 ∧ p.2.1 ≤ 3 := by
 by_cases hb : badN p
 ·exact absurd (if_pos hb) h
 ·unfold badN at hb
  simp only [not_or] at hb; omega
theorem OkK.chg {f : Ky → Option KnA} (h : OkK f) (w : WA) (p : NoA) : OkK (chgK f w p).2 := by
 unfold chgK
 split
 ·exact h
 rename_i h0
 split
 ·exact h
 rename_i h1
 have hk : ∀ (o : Option KnA) x, o = some x → (1 ≤ ((p.1, p.2.1) : Ky).2 ∧ ((p.1, p.2.1) : Ky).2 ≤ 3) ∧ (((p.1, p.2.1) : Ky).2 = 3 → 1 ≤ ((p.1, p.2.1) : Ky).1 ∧ ((p.1, p.2.1) : Ky).1 ≤ 31) := fun o x _ => ⟨mayK_fl h0, fun h3 => by
  have h3' : p.2.1 = 3 := h3
  show 1 ≤ p.1 ∧ p.1 ≤ 31
  omega⟩
 repeat' split
 all_goals first | exact h | exact h.upd (hk _)
theorem OkK.chs {w : WA} : ∀ {f : Ky → Option KnA} (_ : OkK f) (l : List NoA), OkK (chsK f w l).2
 | _, h, [] => h
 | _, h, p :: l => OkK.chs (h.chg w p) l
def dueT (f : Ky → Option KnA) (w : WA) (l : List Ky) : List NoA := l.filterMap fun a => if (toldK f w a).2 = true then some (toldK f w a).1 else none
abbrev dueK (f : Ky → Option KnA) (w : WA) : List NoA := dueT f w (allK f w)
theorem dueT_app (f : Ky → Option KnA) (w : WA) (a b : List Ky) : dueT f w (a ++ b) = dueT f w a ++ dueT f w b := List.filterMap_append
theorem dueT_one (f : Ky → Option KnA) (w : WA) (a : Ky) : dueT f w [a] = if (toldK f w a).2 = true then [(toldK f w a).1] else [] := by
 unfold dueT; rw [List.filterMap_cons]
 by_cases h : (toldK f w a).2 = true
 ·rw [if_pos h, if_pos h]; rfl
 ·rw [if_neg h, if_neg h]; rfl
theorem dueT_succ (f : Ky → Option KnA) (w : WA) {l : List Ky} {i : Nat} (h : i < l.length) : dueT f w (l.take (i + 1)) = dueT f w (l.take i) ++ (if (toldK f w l[i]).2 = true then [(toldK f w l[i]).1] else []) := by
 rw [List.take_add_one, List.getElem?_eq_getElem h, Option.toList_some, dueT_app, dueT_one]
theorem dueT_pre (f : Ky → Option KnA) (w : WA) (l : List Ky) (i : Nat) : dueT f w (l.take i) <+: dueT f w l := by
 conv => rhs; rw [← List.take_append_drop i l]
 rw [dueT_app]; exact List.prefix_append _ _
theorem dueK_len (f : Ky → Option KnA) (w : WA) : (dueK f w).length ≤ 288 := Nat.le_trans (List.length_filterMap_le _ _) (allK_len f w)
abbrev encNA (p : NoA) : List Value := [.agg (encNo p).toArray]
abbrev KqM (px qb wb mb : Nat) (f : Ky → Option KnA) (m : Nat) (w : WA) (L : List SP) : List SP := pt px [.pointer (some ⟨qb, 0, none⟩)] 68 :: KqB qb wb mb f m w L
theorem kdu_ct (L : List SP) (qb : Nat) : Ct Tryz.prog 88 #[.pointer (some ⟨qb, 0, none⟩)] (L) (fun b : Nat => .func (.func 153) #[] #[.pointer (some ⟨b, 0, none⟩)]) (fun b : Nat => pt b [.pointer (some ⟨qb, 0, none⟩)] 68 :: L) := by
 refine Ct.o1 Tryz.func88 ?_; intro E
 show Hd E 4 _ _ _ _
 refine sr fun _ hK1 => ?_
 refine Hd.box rfl rfl (fun b1 => ?_); refine yv y_as <| fk [(1, _)] hK1 ?_; refine sr fun _ hK2 => ?_
 refine yv (y_mkf (fv := []) (cv := [_]) rfl rfl) ?_; refine yv y_as <| fk [(2, _)] hK2 ?_; refine Hd.ret ?_; exact Hd.ret1 rfl b1 rfl sq
theorem kdu_it (px qb wb mb : Nat) (f : Ky → Option KnA) (m : Nat) (hm : m ≤ 1000000) (hf : OkK f) (w : WA) : RX.It Tryz.prog 153 [.pointer (some ⟨px, 0, none⟩)] encNA (fun ys => ys = dueK f w) (fun ys => ys <+: dueK f w)
  (KqM px qb wb mb f m w []) (KqM px qb wb mb f m w []) := by
 intro l J X hy; refine Ct.of (vs := [.func (.yield l) #[] #[], .pointer (some ⟨px, 0, none⟩)]) Tryz.func153 rfl rfl [(0, .func (.yield l) #[] #[]), (1, .pointer (some ⟨px, 0, none⟩))] ⟨rfl, rfl, trivial⟩ ?_; intro E
 show Hd E 28 _ _ _ _
 refine Hd.heap (KqM px qb wb mb f m w (J [])) (fun k h => by have := sep_app h; exact this) ?_; refine Hd.wokK pkk (fun hw => ?_); refine sr fun _ hK1 => ?_
 refine yv (y_l1 ag68 rfl) ?_; refine callE rfl fk93 (kkeys_ct _ qb wb mb f m hm w) sq ?_; rintro ⟨ka, kc, ks⟩; dsimp only; refine Hd.pure (fun hA => ?_)
 obtain rfl := hA.eq hw hf
 clear hA
 have hkl := allK_len f w
 refine yv (y_len Tryz.underlying178 rfl) ?_; refine yv y_mv <| fk [(0, _), (1, _), (8, _), (9, _), (10, _)] hK1 ?_; refine Hd.block <| Hd.loopK (ι := Nat) [(0, _), (1, _), (8, _), (9, _)] (fun i => [(10, .int .i64 (i : Int))]) (fun i => pu (i ≤ (allK f w).length) :: OwK ka (allK f w).length kc (allK f w) :: KqM px qb wb mb f m w (J (dueT f w ((allK f w).take i)))) (fun i => (allK f w).length - i) 0 sbq sbq (Ent.sep (.pure (by omega) enn)) ?_; intro i
 try dsimp only
 refine Hd.pure (fun hp0 => ?_)
 try dsimp only at hp0
 refine sr fun _ hK2 => ?_
 refine yv (y_lss rfl rfl) ?_; refine fk [(0, _), (1, _), (8, _), (9, _), (10, _), (11, _)] hK2 ?_; refine Hd.seq fun _ hK3 => ?_
 refine Hd.cond rfl (fun hc0 => ?_) (fun hc0 => ?_)
 ·try simp only [hyA, hyB, hyC, ne_eq] at hc0
  have hi : i < (allK f w).length := by omega
  have hgi : (allK f w)[i]? = some (allK f w)[i] := List.getElem?_eq_getElem hi
  have hsc := dueT_succ f w hi
  have hpr := dueT_pre f w (allK f w) (i + 1)
  obtain ⟨a, ha⟩ : ∃ a, a = (allK f w)[i] := ⟨_, rfl⟩
  rw [← ha] at hgi hsc; refine Hd.skip <| Hd.toK hK3 ?_; refine Hd.seq fun _ hK4 => ?_
  refine Hd.block <| sr fun _ hK5 => ?_
  refine yv (y_idxR Tryz.underlying178 sz170 rfl rfl (by omega) (by exact RdS.own pkk)) ?_; refine yv (y_loadRn (vs := encKy a) ag170 rfl (RdS.own (ad := ka) (us := (allK f w).flatMap encKy) pkk) (flat_cells encKy 2 (fun _ => rfl) hgi) (by exact sz170) (by simp)) ?_; refine Hd.alloc zr170 (fun b4 => ?_); refine Hd.storeA (us := encKy a) sz170 rfl rfl rfl (encKy_one _) pkk (by exact rfl) ?_; refine fk [(0, _), (1, _), (4, _), (8, _), (9, _), (10, _)] hK5 ?_; refine sr fun _ hK6 => ?_
  refine yv (y_l1 ag68 rfl) ?_; refine yv (y_loadn (us := [_, _]) ag170 rfl (Rd.pt pkk (by (first | (intro j v e; rcases j with _|_|_|_|_|_|_|_|_|_|_|_|j <;> first | exact e | exact absurd e (by simp))))) (by exact sz170)) ?_; refine callE rfl fk154 (ktold_ct _ qb wb mb f m w a) sq ?_; intro _; refine yv y_mv <| yv y_ex <| yv y_ex <| Hd.alloc zr82 (fun b5 => ?_); refine Hd.storeA (us := encNo (toldK f w a).1) sz82 rfl rfl rfl (encNo_one _) pkk (by exact rfl) ?_; refine yv y_as <| fk [(0, _), (1, _), (5, _), (6, _), (8, _), (9, _), (10, _)] hK6 ?_; refine sr fun _ hK7 => ?_
  refine yv y_mv <| yv y_mv <| Hd.part (gd := 21) rfl (fun hg4_21 => ?_) (fun hg4_21 => ?_)
  ·try simp only [hyA, hyB, hyC, ne_eq] at hg4_21
   have hb : (toldK f w a).2 = true := hg4_21
   rw [if_pos hb] at hsc; rw [hsc] at hpr; refine y2 y_mv <| y2 (y_loadn (us := [_, _, _, _]) ag82 rfl (Rd.pt pkk (by (first | (intro j v e; rcases j with _|_|_|_|_|_|_|_|_|_|_|_|j <;> first | exact e | exact absurd e (by simp))))) (by exact sz82)) ?_; refine Hd.unguard rfl rfl ?_; refine Hd.yield (pre := dueT f w ((allK f w).take i)) (c := (toldK f w a).1) (M := pt b4 (encKy a) 170 :: OwK ka (allK f w).length kc (allK f w) :: KqM px qb wb mb f m w []) hy rfl rfl hpr (fun k' h => sep_app (show sep ((pt b4 (encKy a) 170 :: OwK ka (allK f w).length kc (allK f w) :: KqM px qb wb mb f m w []) ++ J (dueT f w ((allK f w).take i))) k' from Ent.sep enn k' h)) ?_; intro yb; refine y2 (y_not rfl) ?_; refine yv (y_pickT rfl rfl) ?_; refine fk [(0, _), (1, _), (8, _), (9, _), (10, _), (26, _)] hK7 ?_; refine Hd.cond rfl (fun hc1 => ?_) (fun hc1 => ?_)
   ·try simp only [hyA, hyB, hyC, ne_eq] at hc1
    subst hc1; simp only [cond_false]; refine Hd.ret <| Hd.inBret <| Hd.thenRet <| Hd.thenRet <| Hd.inBret ?_; exact Hd.ret0 rfl (dueT f w ((allK f w).take i) ++ [(toldK f w a).1], false) rfl (fun k' h => Ent.sep (.pure hpr .same) k' (sep_right (fun k s => Ent.sep (show Ent (pt b4 (encKy a) 170 :: OwK ka (allK f w).length kc (allK f w) :: KqM px qb wb mb f m w []) (KqM px qb wb mb f m w []) from .skip (.skip .same)) k s) h))
   ·try simp only [hyA, hyB, hyC, ne_eq] at hc1
    subst hc1; simp only [cond_true]; refine Hd.heap (pt b4 (encKy a) 170 :: OwK ka (allK f w).length kc (allK f w) :: KqM px qb wb mb f m w (J (dueT f w ((allK f w).take i) ++ [(toldK f w a).1]))) (fun k' h => sep_app h) ?_; rw [← hsc]; refine Hd.skip <| Hd.inB <| Hd.toK hK4 ?_; refine Hd.region <| yv (y_addn rfl rfl (by simp only [InK]; omega)) ?_; refine yv y_mv <| Hd.nil <| slots [(0, _), (1, _), (8, _), (9, _), (10, _)] sbq ?_; refine thenN ?_; exact Hd.again (i + 1) (by omega) sbq (Ent.sep (.pure (by omega) enn))
  ·try simp only [hyA, hyB, hyC, ne_eq] at hg4_21
   have hb : ¬ ((toldK f w a).2 = true) := by rw [hg4_21]; decide
   rw [if_neg hb, List.append_nil] at hsc; refine n1 <| n1 <| n1 <| n1 <| yv (y_pickF rfl rfl) ?_; refine fk [(0, _), (1, _), (8, _), (9, _), (10, _), (26, _)] hK7 ?_; refine Hd.condF rfl ?_; refine Hd.skip <| Hd.inB <| Hd.toK hK4 ?_; refine Hd.region <| yv (y_addn rfl rfl (by simp only [InK]; omega)) ?_; refine yv y_mv <| Hd.nil <| slots [(0, _), (1, _), (8, _), (9, _), (10, _)] sbq ?_; refine thenN ?_; rw [← hsc]; exact Hd.again (i + 1) (by omega) sbq (Ent.sep (.pure (by omega) enn))
 ·try simp only [hyA, hyB, hyC, ne_eq] at hc0
  refine Hd.exit <| Hd.thenExit <| Hd.thenExit <| Hd.inBexit ?_
  obtain rfl : i = (allK f w).length := by omega
  rw [List.take_length]; exact Hd.end0 rfl (dueK f w, true) rfl (fun k' h => Ent.sep (.pure rfl .same) k' (sep_app (M := KqM px qb wb mb f m w []) (N := J (dueK f w)) (Ent.sep enn k' h)))
end Kq
end Go.Proofs.YtbfddabjbkohdaaGreat
