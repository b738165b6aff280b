/-
  The document's world: Shut, PeerShut, PeerClose, Wire, Put, Take.
-/
import Derived.Test.YtbfddabjbkohdaaGreatZKquPlaysH
set_option linter.unusedSimpArgs false
set_option linter.unusedVariables false
set_option linter.unnecessarySimpa false
set_option maxRecDepth 8000
set_option maxHeartbeats 2000000
open Go.RX.Hd (yv y2 n1 fk sk sr tH callE heldK qo qk qn qt qz qv endH thenN slots)
namespace Go.Proofs.YtbfddabjbkohdaaGreat
open Go.RX Fx
namespace Rf
open Wo
theorem atN_no {o : Option (Nat × Nat)} (h : atN o < 0) : o = none := by
 cases o with
 | none => rfl
 | some p => simp only [atN] at h; omega
theorem atN_yes {o : Option (Nat × Nat)} (h : 0 ≤ atN o) : ∃ n k, o = some (n, k) := by
 cases o with
 | none => simp only [atN] at h; omega
 | some p => exact ⟨p.1, p.2, rfl⟩
theorem rShut_ct (L : List SP) (b : Nat) (w : WA) (hw : WOk w) (fd : Int) : Ct Tryz.prog 66 #[.pointer (some ⟨b, 0, none⟩), .int .i64 fd] (RwP b w :: L) (fun _ : Unit => .int .i64 (shutR w fd).1) (fun _ : Unit => RwP b (shutR w fd).2 :: L) := by
 refine Ct.o2 Tryz.func66 ?_; intro E
 show Hd E 45 _ _ _ _
 refine sr fun _ K1 => ?_
 refine yv y_as <| fk [(0,_),(1,_)] K1 ?_; refine sr fun _ K2 => ?_
 refine yv y_mv <| yv y_mv <| callE rfl fk116 (rat_ct _ b w hw fd) sq ?_; intro _; refine yv y_mv <| yv y_ex <| yv y_ex <| yv y_as <| yv y_as <| fk [(0,_),(5,_),(6,_)] K2 ?_; refine Hd.seq fun _ K3 => ?_
 refine sr fun _ K4 => ?_
 refine yv y_mv <| yv (y_lss rfl rfl) ?_; refine fk [(0,_),(5,_),(6,_),(14,_)] K4 ?_; refine qz ?_ ?_ <;> intro hc0 <;> try simp only [hyZ] at hc0
 ·have hno := atN_no hc0
  refine sr fun _ K5 => ?_
  refine yv y_as <| fk [(4,_)] K5 ?_; refine Hd.ret <| Hd.thenRet ?_; rw [show shutR w fd = (110, w) by unfold shutR; rw [hno]]; exact Hd.ret1 rfl () rfl sq
 obtain ⟨n, k, hnk⟩ := atN_yes (by omega)
 obtain ⟨_, _, hk, _, x, hx, _, _⟩ := hw.at_lt hnk
 rw [show atN (w.at fd) = (n : Int) by rw [hnk]; rfl, show atK (w.at fd) = (k : Int) by rw [hnk]; rfl]; refine Hd.rw .here (fun i hi => ?_)
 have hrl := rows_n hi
 obtain ⟨j, hrow⟩ := row_at hi hx
 have hn : n < i.1.length := (List.getElem?_eq_some_iff.1 hrow).1
 refine qv K3 <| Hd.seq fun _ K6 => ?_
 refine sr fun _ K7 => ?_
 refine yv y_mv <| yv y_np <| yv (y_f 0 129 Tryz.underlying133 sz129) <| yv (y_l1 ag129 rfl) <| yv y_mv <| yv y_mv <| yv (y_idxR Tryz.underlying129 sz221 rfl rfl (by omega) (by exact RdS.own pkk)) ?_; refine yv (y_fR 0 219 Tryz.underlying221 sz219) ?_; refine yv (y_idxAR Tryz.underlying219 sz218 rfl rfl (by omega)) ?_; refine yv (y_fR 2 4 Tryz.underlying218 sz4) ?_; refine yv (y_rc ag4 rfl hrow hk 2 rfl) ?_; refine yv (y_not rfl) <| yv y_mv ?_; apply Hd.org 13 27 40 [(0,_),(5,_),(6,_)] rfl sbq
 ·intro hg4_27
  try simp only [hyZ] at hg4_27
  simp only [List.take]; refine n1 <| n1 <| n1 <| n1 <| n1 <| n1 <| n1 <| n1 <| n1 <| n1 <| n1 <| n1 <| yv (y_pickT rfl rfl) ?_; exact Hd.mn
 ·intro hg4_27
  try simp only [hyZ] at hg4_27
  simp only [List.take]; refine y2 y_mv <| y2 y_np <| y2 (y_f 0 129 Tryz.underlying133 sz129) <| y2 (y_l1 ag129 rfl) <| y2 y_mv <| y2 y_mv <| y2 (y_idxR Tryz.underlying129 sz221 rfl rfl (by omega) (by exact RdS.own pkk)) ?_; refine y2 (y_fR 0 219 Tryz.underlying221 sz219) ?_; refine y2 (y_idxAR Tryz.underlying219 sz218 rfl rfl (by omega)) ?_; refine y2 (y_fR 3 4 Tryz.underlying218 sz4) ?_; refine y2 (y_rc ag4 rfl hrow hk 3 rfl) ?_; refine y2 (y_not rfl) <| yv (y_pickF rfl rfl) ?_; exact Hd.mn
 simp only [List.drop]; refine fk [(0,_),(5,_),(6,_),(40,_)] K7 ?_; refine qz ?_ ?_ <;> intro hc1 <;> try simp only [hyZ] at hc1
 ·have h1 : (x.e k).rd = false ∨ (x.e k).wr = false := by simpa using hc1
  refine sr fun _ K8 => ?_
  refine yv y_as <| fk [(4,_)] K8 ?_; refine Hd.ret <| Hd.thenRet ?_; rw [show shutR w fd = (111, w) by unfold shutR; rw [hnk]; dsimp only; rw [hx]; exact if_pos h1]; exact Hd.ret1 rfl () rfl (rw_fold hi)
 have h1 : ¬ ((x.e k).rd = false ∨ (x.e k).wr = false) := by
  rintro (h | h) <;> simp [h] at hc1
 refine qv K6 <| sr fun _ K9 => ?_
 refine yv y_mv <| yv y_mv <| yv y_mv <| Hd.heap (RwP b w :: L) (rw_fold hi) ?_; refine callE rfl fk121 (rshut_ct _ b w n x hx k hk) sq ?_; intro _; refine fk [] K9 ?_; refine sr fun _ K10 => ?_
 refine yv y_as <| fk [(4,_)] K10 ?_; refine Hd.ret ?_; rw [show shutR w fd = (0, w.setW n (shutW x k)) by unfold shutR; rw [hnk]; dsimp only; rw [hx]; exact if_neg h1]; exact Hd.ret1 rfl () rfl sq
theorem rPshut_ct (L : List SP) (b : Nat) (w : WA) (n : Int) : Ct Tryz.prog 128 #[.pointer (some ⟨b, 0, none⟩), .int .i64 n] (RwP b w :: L) (fun _ : Unit => .int .i64 (pshutR w n).1) (fun _ : Unit => RwP b (pshutR w n).2 :: L) := by
 refine Ct.o2 Tryz.func128 ?_; intro E
 show Hd E 14 _ _ _ _
 refine sr fun _ K1 => ?_
 refine yv y_as <| fk [(0,_),(1,_)] K1 ?_; refine sr fun _ K2 => ?_
 refine yv y_mv <| yv y_mv <| callE rfl fk177 (router_ct _ b w n) sq ?_; intro _; refine yv y_as <| fk [(0,_),(1,_),(5,_)] K2 ?_; refine Hd.seq fun _ K3 => ?_
 refine sr fun _ K4 => ?_
 refine yv y_mv <| yv (y_not rfl) <| fk [(0,_),(1,_),(10,_)] K4 ?_; refine qz ?_ ?_ <;> intro hc0 <;> try simp only [hyZ] at hc0
 ·refine sr fun _ K5 => ?_
  refine yv y_as <| fk [(4,_)] K5 ?_; refine Hd.ret <| Hd.thenRet ?_
  have hno : outW w n = none := by cases h : outW w n with | none => rfl | some y => rw [h] at hc0; simp at hc0
  rw [show pshutR w n = (116, w) by unfold pshutR; rw [hno]]; exact Hd.ret1 rfl () rfl sq
 obtain ⟨x, ho⟩ : ∃ x, outW w n = some x := by cases h : outW w n with | none => rw [h] at hc0; simp at hc0 | some y => exact ⟨y, rfl⟩
 obtain ⟨h0, hx, _⟩ := outW_some ho
 obtain ⟨k, rfl⟩ : ∃ k : Nat, n = (k : Int) := ⟨n.toNat, by omega⟩
 rw [Int.toNat_natCast] at hx; refine qv K3 <| sr fun _ K6 => ?_
 refine yv y_mv <| yv y_mv <| callE rfl fk121 (rshut_ct _ b w k x hx 1 (by decide)) sq ?_; intro _; refine fk [] K6 ?_; refine sr fun _ K7 => ?_
 refine yv y_as <| fk [(4,_)] K7 ?_; refine Hd.ret ?_; rw [show pshutR w (k : Int) = (0, w.setW k (shutW x 1)) by unfold pshutR; rw [ho]; rfl]; exact Hd.ret1 rfl () rfl sq
theorem rPclose_ct (L : List SP) (b : Nat) (w : WA) (n : Int) : Ct Tryz.prog 130 #[.pointer (some ⟨b, 0, none⟩), .int .i64 n] (RwP b w :: L) (fun _ : Unit => .int .i64 (pcloseR w n).1) (fun _ : Unit => RwP b (pcloseR w n).2 :: L) := by
 refine Ct.o2 Tryz.func130 ?_; intro E
 show Hd E 14 _ _ _ _
 refine sr fun _ K1 => ?_
 refine yv y_as <| fk [(0,_),(1,_)] K1 ?_; refine sr fun _ K2 => ?_
 refine yv y_mv <| yv y_mv <| callE rfl fk177 (router_ct _ b w n) sq ?_; intro _; refine yv y_as <| fk [(0,_),(1,_),(5,_)] K2 ?_; refine Hd.seq fun _ K3 => ?_
 refine sr fun _ K4 => ?_
 refine yv y_mv <| yv (y_not rfl) <| fk [(0,_),(1,_),(10,_)] K4 ?_; refine qz ?_ ?_ <;> intro hc0 <;> try simp only [hyZ] at hc0
 ·refine sr fun _ K5 => ?_
  refine yv y_as <| fk [(4,_)] K5 ?_; refine Hd.ret <| Hd.thenRet ?_
  have hno : outW w n = none := by cases h : outW w n with | none => rfl | some y => rw [h] at hc0; simp at hc0
  rw [show pcloseR w n = (116, w) by unfold pcloseR; rw [hno]]; exact Hd.ret1 rfl () rfl sq
 obtain ⟨x, ho⟩ : ∃ x, outW w n = some x := by cases h : outW w n with | none => rw [h] at hc0; simp at hc0 | some y => exact ⟨y, rfl⟩
 obtain ⟨h0, hx, _⟩ := outW_some ho
 obtain ⟨k, rfl⟩ : ∃ k : Nat, n = (k : Int) := ⟨n.toNat, by omega⟩
 rw [Int.toNat_natCast] at hx; refine qv K3 <| sr fun _ K6 => ?_
 refine yv y_mv <| yv y_mv <| callE rfl fk123 (rclose_ct _ b w k x hx 1 (by decide)) sq ?_; intro _; refine fk [] K6 ?_; refine sr fun _ K7 => ?_
 refine yv y_as <| fk [(4,_)] K7 ?_; refine Hd.ret ?_; rw [show pcloseR w (k : Int) = (0, w.setW k (closeW x 1)) by unfold pcloseR; rw [ho]; rfl]; exact Hd.ret1 rfl () rfl sq
theorem rWire_ct (L : List SP) (b : Nat) (w : WA) (hw : WOk w) (fd : Int) : Ct Tryz.prog 79 #[.pointer (some ⟨b, 0, none⟩), .int .i64 fd] (RwP b w :: L) (fun _ : Unit => .tuple #[.int .i64 (wireN (w.at fd)), .int .i64 (fdErr (w.at fd))]) (fun _ : Unit => RwP b w :: L) := by
 refine Ct.o2 Tryz.func79 ?_; intro E
 show Hd E 17 _ _ _ _
 refine sr fun _ K1 => ?_
 refine yv y_as <| yv y_as <| fk [(0,_),(1,_)] K1 ?_; refine sr fun _ K2 => ?_
 refine yv y_mv <| yv y_mv <| callE rfl fk116 (rat_ct _ b w hw fd) sq ?_; intro _; refine yv y_mv <| yv y_ex <| yv y_ex <| yv y_as <| yv y_as <| fk [(6,_)] K2 ?_; refine Hd.seq fun _ K3 => ?_
 refine sr fun _ K4 => ?_
 refine yv y_mv <| yv (y_lss rfl rfl) ?_; refine fk [(6,_),(15,_)] K4 ?_; refine qz ?_ ?_ <;> intro hc0 <;> try simp only [hyZ] at hc0
 ·refine sr fun _ K5 => ?_
  refine yv y_as <| yv y_as <| fk [(4,_),(5,_)] K5 ?_; refine Hd.ret <| Hd.thenRet ?_
  have hno := atN_no hc0
  rw [hno]; exact Hd.ret2 rfl () rfl rfl rfl sq
 refine qv K3 <| sr fun _ K6 => ?_
 refine yv y_mv <| yv y_as <| yv y_as <| fk [(4,_),(5,_)] K6 ?_; refine Hd.ret ?_
 obtain ⟨n, k, hnk⟩ := atN_yes (by omega)
 rw [hnk]; exact Hd.ret2 rfl () rfl rfl rfl sq
theorem rPut_ct (L : List SP) (b : Nat) (w : WA) (hw : WOk w) (n : Int) (ad : Option Addr) (m c : Nat) (bs : List UInt8) (hm : bs.length = m) (hR : RdS L 1 ad m (bsl bs)) (hml : m ≤ 70368744177664) (hmc : m ≤ c) : Ct Tryz.prog 124 #[.pointer (some ⟨b, 0, none⟩), .int .i64 n, .slice ad m c] (RwP b w :: L) (fun _ : Unit => .tuple #[.int .i64 (putR w n bs).1.1, .int .i64 (putR w n bs).1.2]) (fun _ : Unit => RwP b (putR w n bs).2 :: L) := by
 refine Ct.o3 Tryz.func124 ?_; intro E
 show Hd E 49 _ _ _ _
 refine sr fun _ K1 => ?_
 refine yv y_as <| yv y_as <| fk [(0,_),(1,_),(2,_)] K1 ?_; refine sr fun _ K2 => ?_
 refine yv y_mv <| yv y_mv <| callE rfl fk177 (router_ct _ b w n) sq ?_; intro _; refine yv y_as <| fk [(0,_),(1,_),(2,_),(8,_)] K2 ?_; refine Hd.seq fun _ K3 => ?_
 refine sr fun _ K4 => ?_
 refine yv y_mv <| yv (y_not rfl) <| fk [(0,_),(1,_),(2,_),(13,_)] K4 ?_; refine qz ?_ ?_ <;> intro hc0 <;> try simp only [hyZ] at hc0
 ·refine sr fun _ K5 => ?_
  refine yv y_as <| yv y_as <| fk [(6,_),(7,_)] K5 ?_; refine Hd.ret <| Hd.thenRet ?_
  have hno : outW w n = none := by cases h : outW w n with | none => rfl | some y => rw [h] at hc0; simp at hc0
  rw [show putR w n bs = ((0, 116), w) by unfold putR; rw [hno]]; exact Hd.ret2 rfl () rfl rfl rfl sq
 obtain ⟨x, ho⟩ : ∃ x, outW w n = some x := by cases h : outW w n with | none => rw [h] at hc0; simp at hc0 | some y => exact ⟨y, rfl⟩
 obtain ⟨h0, hx, _⟩ := outW_some ho
 obtain ⟨k, rfl⟩ : ∃ k : Nat, n = (k : Int) := ⟨n.toNat, by omega⟩
 rw [Int.toNat_natCast] at hx
 have hwf := hw.wf x (List.mem_of_getElem? hx)
 refine Hd.rw .here (fun i hi => ?_)
 have hrl := rows_n hi
 obtain ⟨j, hrow⟩ := row_at hi hx
 have hn : k < i.1.length := (List.getElem?_eq_some_iff.1 hrow).1
 refine qv K3 <| Hd.seq fun _ K6 => ?_
 refine sr fun _ K7 => ?_
 refine yv y_mv <| yv y_np <| yv (y_f 0 129 Tryz.underlying133 sz129) <| yv (y_l1 ag129 rfl) <| yv y_mv <| yv (y_idxR Tryz.underlying129 sz221 rfl rfl (by omega) (by exact RdS.own pkk)) ?_; refine yv (y_fR 17 4 Tryz.underlying221 sz4) ?_; refine yv (y_rw ag4 rfl hrow 17 rfl) ?_; refine fk [(0,_),(1,_),(2,_),(21,_)] K7 ?_; refine qz ?_ ?_ <;> intro hc1 <;> try simp only [hyZ] at hc1
 ·refine sr fun _ K8 => ?_
  refine yv y_as <| yv y_as <| fk [(6,_),(7,_)] K8 ?_; refine Hd.ret <| Hd.thenRet ?_; rw [show putR w (k : Int) bs = ((0, 115), w) by unfold putR; rw [ho]; exact if_pos hc1]; exact Hd.ret2 rfl () rfl rfl rfl (rw_fold hi)
 refine qv K6 <| Hd.seq fun _ K9 => ?_
 refine sr fun _ K10 => ?_
 refine yv y_mv <| yv y_np <| yv (y_f 0 129 Tryz.underlying133 sz129) <| yv (y_l1 ag129 rfl) <| yv y_mv <| yv (y_idxR Tryz.underlying129 sz221 rfl rfl (by omega) (by exact RdS.own pkk)) ?_; refine yv (y_fR 0 219 Tryz.underlying221 sz219) ?_; refine yv (y_idxAR Tryz.underlying219 sz218 rfl rfl (by decide)) ?_; refine yv (y_f 5 4 Tryz.underlying218 sz4) <| yv (y_rc (o := k * 20 + 0 + 1 * 8 + 5) ag4 rfl hrow (show 1 < 2 from Nat.lt_succ_self 1) 5 rfl) ?_; refine yv y_mv ?_; apply Hd.org 12 32 44 [(0,_),(1,_),(2,_)] rfl sbq
 ·intro hg6_32
  try simp only [hyZ] at hg6_32
  simp only [List.take]; refine n1 <| n1 <| n1 <| n1 <| n1 <| n1 <| n1 <| n1 <| n1 <| n1 <| n1 <| yv (y_pickT rfl rfl) ?_; exact Hd.mn
 ·intro hg6_32
  try simp only [hyZ] at hg6_32
  simp only [List.take]; refine y2 y_mv <| y2 y_np <| y2 (y_f 0 129 Tryz.underlying133 sz129) <| y2 (y_l1 ag129 rfl) <| y2 y_mv <| y2 (y_idxR Tryz.underlying129 sz221 rfl rfl (by omega) (by exact RdS.own pkk)) ?_; refine y2 (y_fR 0 219 Tryz.underlying221 sz219) ?_; refine y2 (y_idxAR Tryz.underlying219 sz218 rfl rfl (by decide)) ?_; refine y2 (y_fR 0 3 Tryz.underlying218 sz3) ?_; refine y2 (y_rc (o := k * 20 + 0 + 0 * 8 + 0) ag3 rfl hrow (show 0 < 2 from Nat.succ_pos 1) 0 rfl) ?_; refine y2 (y_eql rfl rfl) ?_; refine yv (y_pickF rfl rfl) ?_; exact Hd.mn
 simp only [List.drop]; refine fk [(0,_),(1,_),(2,_),(44,_)] K10 ?_; refine qz ?_ ?_ <;> intro hc2 <;> try simp only [hyZ] at hc2
 ·have h2 : (x.e 1).shut = true ∨ (x.e 0).what = 3 := by simpa using hc2
  refine sr fun _ K11 => ?_
  refine yv y_as <| yv y_as <| fk [(6,_),(7,_)] K11 ?_; refine Hd.ret <| Hd.thenRet ?_; rw [show putR w (k : Int) bs = ((0, 114), w) by unfold putR; rw [ho]; dsimp only; rw [if_neg (by rw [hc1]; decide), if_pos h2]]; exact Hd.ret2 rfl () rfl rfl rfl (rw_fold hi)
 have h2 : ¬ ((x.e 1).shut = true ∨ (x.e 0).what = 3) := by
  rintro (h | h) <;> simp [h] at hc2
 refine qv K9 <| sr fun _ K12 => ?_
 refine yv y_mv <| yv y_mv <| yv y_mv <| Hd.heap (RwP b w :: L) (rw_fold hi) ?_; refine callE rfl fk119 (rfill_ct L b w k x hx hwf 1 (by decide) ad m c bs hm hR hml hmc) sq ?_; intro _; refine yv y_as <| yv y_as <| fk [(6,_),(7,_)] K12 ?_; refine Hd.ret ?_; rw [show putR w (k : Int) bs = ((((putN x 1 bs : Nat) : Int), 0), w.setW k (putW x 1 bs)) by unfold putR; rw [ho]; dsimp only; rw [if_neg (by rw [hc1]; decide), if_neg h2]; rfl]; exact Hd.ret2 rfl () rfl rfl rfl sq
theorem rTake_ct (L : List SP) (b : Nat) (w : WA) (n many : Int) : Ct Tryz.prog 126 #[.pointer (some ⟨b, 0, none⟩), .int .i64 n, .int .i64 many] (RwP b w :: L) (fun q_ : Option Addr × Nat => .tuple #[.slice q_.1 (takR w n many).1.1.length q_.2, .int .i64 (takR w n many).1.2]) (fun q_ : Option Addr × Nat => own 5 1 q_.1 (takR w n many).1.1.length (takR w n many).1.1.length (bsl (takR w n many).1.1) :: RwP b (takR w n many).2 :: L) := by
 refine Ct.o3 Tryz.func126 ?_; intro E
 show Hd E 28 _ _ _ _
 refine sr fun _ K1 => ?_
 refine yv y_as <| yv y_as <| fk [(0,_),(1,_),(2,_)] K1 ?_; refine sr fun _ K2 => ?_
 refine yv y_mv <| yv y_mv <| callE rfl fk177 (router_ct _ b w n) sq ?_; intro _; refine yv y_as <| fk [(0,_),(1,_),(2,_),(8,_)] K2 ?_; refine Hd.seq fun _ K3 => ?_
 refine sr fun _ K4 => ?_
 refine yv y_mv <| yv (y_not rfl) <| fk [(0,_),(1,_),(2,_),(13,_)] K4 ?_; refine qz ?_ ?_ <;> intro hc0 <;> try simp only [hyZ] at hc0
 ·refine sr fun _ K5 => ?_
  refine yv y_as <| yv y_as <| fk [(6,_),(7,_)] K5 ?_; refine Hd.ret <| Hd.thenRet ?_
  have hno : outW w n = none := by cases h : outW w n with | none => rfl | some y => rw [h] at hc0; simp at hc0
  rw [show takR w n many = (([], 116), w) by unfold takR; rw [hno]]; exact Hd.ret2 rfl (none, 0) rfl rfl rfl (Ent.sep (.ownNil .same))
 obtain ⟨x, ho⟩ : ∃ x, outW w n = some x := by cases h : outW w n with | none => rw [h] at hc0; simp at hc0 | some y => exact ⟨y, rfl⟩
 obtain ⟨h0, hx, _⟩ := outW_some ho
 obtain ⟨k, rfl⟩ : ∃ k : Nat, n = (k : Int) := ⟨n.toNat, by omega⟩
 rw [Int.toNat_natCast] at hx; refine qv K3 <| Hd.seq fun _ K6 => ?_
 refine sr fun _ K7 => ?_
 refine yv y_mv <| yv (y_lss rfl rfl) ?_; refine fk [(0,_),(1,_),(2,_),(15,_)] K7 ?_; refine qz ?_ ?_ <;> intro hc1 <;> try simp only [hyZ] at hc1
 ·refine sr fun _ K8 => ?_
  refine yv y_as <| yv y_as <| fk [(6,_),(7,_)] K8 ?_; refine Hd.ret <| Hd.thenRet ?_; rw [show takR w (k : Int) many = (([], 2), w) by unfold takR; rw [ho]; exact if_pos hc1]; exact Hd.ret2 rfl (none, 0) rfl rfl rfl (Ent.sep (.ownNil .same))
 refine Hd.rw .here (fun i hi => ?_)
 have hrl := rows_n hi
 obtain ⟨j, hrow⟩ := row_at hi hx
 have hn : k < i.1.length := (List.getElem?_eq_some_iff.1 hrow).1
 refine qv K6 <| Hd.seq fun _ K9 => ?_
 refine sr fun _ K10 => ?_
 refine yv y_mv <| yv y_np <| yv (y_f 0 129 Tryz.underlying133 sz129) <| yv (y_l1 ag129 rfl) <| yv y_mv <| yv (y_idxR Tryz.underlying129 sz221 rfl rfl (by omega) (by exact RdS.own pkk)) ?_; refine yv (y_fR 17 4 Tryz.underlying221 sz4) ?_; refine yv (y_rw ag4 rfl hrow 17 rfl) ?_; refine fk [(0,_),(1,_),(2,_),(23,_)] K10 ?_; refine qz ?_ ?_ <;> intro hc2 <;> try simp only [hyZ] at hc2
 ·refine sr fun _ K11 => ?_
  refine yv y_as <| yv y_as <| fk [(6,_),(7,_)] K11 ?_; refine Hd.ret <| Hd.thenRet ?_; rw [show takR w (k : Int) many = (([], 115), w) by unfold takR; rw [ho]; dsimp only; rw [if_neg (by omega), if_pos hc2]]; exact Hd.ret2 rfl (none, 0) rfl rfl rfl (fun q s => Ent.sep (.ownNil .same) q (rw_fold hi q s))
 refine qv K9 <| sr fun _ K12 => ?_
 refine yv y_mv <| yv y_mv <| yv y_mv <| Hd.heap (RwP b w :: L) (rw_fold hi) ?_; refine callE rfl fk118 (rget_ct _ b w k x hx 1 (by decide) many (by omega)) sq ?_; rintro ⟨ad, c⟩; dsimp only; refine yv y_as <| yv y_as <| fk [(6,_),(7,_)] K12 ?_; refine Hd.ret ?_; rw [show takR w (k : Int) many = (((x.e 1).b.take many.toNat, 0), w.setW k (takeW x 1 many.toNat)) by unfold takR; rw [ho]; dsimp only; rw [if_neg (by omega), if_neg (by rw [hc2]; decide)]; rfl]; exact Hd.ret2 rfl (ad, c) rfl rfl rfl sq
theorem rRead_ct (L : List SP) (b : Nat) (w : WA) (hw : WOk w) (fd many : Int) : Ct Tryz.prog 62 #[.pointer (some ⟨b, 0, none⟩), .int .i64 fd, .int .i64 many] (RwP b w :: L) (fun q_ : Option Addr × Nat => .tuple #[.slice q_.1 (readR w fd many).1.1.length q_.2, .bool (readR w fd many).1.2.1, .int .i64 (readR w fd many).1.2.2]) (fun q_ : Option Addr × Nat => own 5 1 q_.1 (readR w fd many).1.1.length (readR w fd many).1.1.length (bsl (readR w fd many).1.1) :: RwP b (readR w fd many).2 :: L) := by
 refine Ct.o3 Tryz.func62 ?_; intro E
 show Hd E 86 _ _ _ _
 refine sr fun _ K1 => ?_
 refine yv y_as <| yv y_as <| yv y_as <| fk [(0,_),(1,_),(2,_)] K1 ?_; refine sr fun _ K2 => ?_
 refine yv y_mv <| yv y_mv <| callE rfl fk116 (rat_ct _ b w hw fd) sq ?_; intro _; refine yv y_mv <| yv y_ex <| yv y_ex <| yv y_as <| yv y_as <| fk [(0,_),(2,_),(9,_),(10,_)] K2 ?_; refine Hd.seq fun _ K3 => ?_
 refine sr fun _ K4 => ?_
 refine yv y_mv <| yv (y_lss rfl rfl) ?_; refine fk [(0,_),(2,_),(9,_),(10,_),(18,_)] K4 ?_; refine qz ?_ ?_ <;> intro hc0 <;> try simp only [hyZ] at hc0
 ·have hno := atN_no hc0
  refine sr fun _ K5 => ?_
  refine yv y_as <| yv y_as <| yv y_as <| fk [(6,_),(7,_),(8,_)] K5 ?_; refine Hd.ret <| Hd.thenRet ?_; rw [show readR w fd many = (([], false, 110), w) by unfold readR; rw [hno]]; exact Hd.ret3 rfl (none, 0) rfl rfl rfl rfl (Ent.sep (.ownNil .same))
 obtain ⟨n, k, hnk⟩ := atN_yes (by omega)
 obtain ⟨_, _, hk, _, x, hx, _, _⟩ := hw.at_lt hnk
 rw [show atN (w.at fd) = (n : Int) by rw [hnk]; rfl, show atK (w.at fd) = (k : Int) by rw [hnk]; rfl]
 have hk1 : 1 - k < 2 := by omega
 refine Hd.rw .here (fun i hi => ?_)
 have hrl := rows_n hi
 obtain ⟨j, hrow⟩ := row_at hi hx
 have hn : n < i.1.length := (List.getElem?_eq_some_iff.1 hrow).1
 have hr : readR w fd many = (if (x.e k).rd = false then (([], false, 111), w) else if many < 1 then (([], false, 2), w) else if x.rs = true then (([], false, 115), w)
   else if (x.e k).b ≠ [] then (((x.e k).b.take many.toNat, false, 0), w.setW n (takeW x k many.toNat))
   else if silentW x k = true then (([], true, 0), w) else (([], false, 113), w)) := by unfold readR; rw [hnk]; dsimp only; rw [hx]
 refine qv K3 <| Hd.seq fun _ K6 => ?_
 refine sr fun _ K7 => ?_
 refine yv y_mv <| yv y_np <| yv (y_f 0 129 Tryz.underlying133 sz129) <| yv (y_l1 ag129 rfl) <| yv y_mv <| yv y_mv <| yv (y_idxR Tryz.underlying129 sz221 rfl rfl (by omega) (by exact RdS.own pkk)) ?_; refine yv (y_fR 0 219 Tryz.underlying221 sz219) ?_; refine yv (y_idxAR Tryz.underlying219 sz218 rfl rfl (by omega)) ?_; refine yv (y_fR 2 4 Tryz.underlying218 sz4) ?_; refine yv (y_rc ag4 rfl hrow hk 2 rfl) ?_; refine yv (y_not rfl) <| fk [(0,_),(2,_),(9,_),(10,_),(30,_)] K7 ?_; refine qz ?_ ?_ <;> intro hc1 <;> try simp only [hyZ] at hc1
 ·have h1 : (x.e k).rd = false := by simpa using hc1
  refine sr fun _ K8 => ?_
  refine yv y_as <| yv y_as <| yv y_as <| fk [(6,_),(7,_),(8,_)] K8 ?_; refine Hd.ret <| Hd.thenRet ?_; rw [hr, if_pos h1]; exact Hd.ret3 rfl (none, 0) rfl rfl rfl rfl (fun q s => Ent.sep (.ownNil .same) q (rw_fold hi q s))
 have h1 : ¬ ((x.e k).rd = false) := by simpa using hc1
 refine qv K6 <| Hd.seq fun _ K9 => ?_
 refine sr fun _ K10 => ?_
 refine yv y_mv <| yv (y_lss rfl rfl) ?_; refine fk [(0,_),(2,_),(9,_),(10,_),(32,_)] K10 ?_; refine qz ?_ ?_ <;> intro hc2 <;> try simp only [hyZ] at hc2
 ·refine sr fun _ K11 => ?_
  refine yv y_as <| yv y_as <| yv y_as <| fk [(6,_),(7,_),(8,_)] K11 ?_; refine Hd.ret <| Hd.thenRet ?_; rw [hr, if_neg h1, if_pos hc2]; exact Hd.ret3 rfl (none, 0) rfl rfl rfl rfl (fun q s => Ent.sep (.ownNil .same) q (rw_fold hi q s))
 have h2 : ¬ (many < 1) := by omega
 refine qv K9 <| Hd.seq fun _ K12 => ?_
 refine sr fun _ K13 => ?_
 refine yv y_mv <| yv y_np <| yv (y_f 0 129 Tryz.underlying133 sz129) <| yv (y_l1 ag129 rfl) <| yv y_mv <| yv (y_idxR Tryz.underlying129 sz221 rfl rfl (by omega) (by exact RdS.own pkk)) ?_; refine yv (y_fR 17 4 Tryz.underlying221 sz4) ?_; refine yv (y_rw ag4 rfl hrow 17 rfl) ?_; refine fk [(0,_),(2,_),(9,_),(10,_),(40,_)] K13 ?_; refine qz ?_ ?_ <;> intro hc3 <;> try simp only [hyZ] at hc3
 ·refine sr fun _ K14 => ?_
  refine yv y_as <| yv y_as <| yv y_as <| fk [(6,_),(7,_),(8,_)] K14 ?_; refine Hd.ret <| Hd.thenRet ?_; rw [hr, if_neg h1, if_neg h2, if_pos hc3]; exact Hd.ret3 rfl (none, 0) rfl rfl rfl rfl (fun q s => Ent.sep (.ownNil .same) q (rw_fold hi q s))
 have h3 : ¬ (x.rs = true) := by rw [hc3]; decide
 refine qv K12 <| Hd.seq fun _ K15 => ?_
 refine sr fun _ K16 => ?_
 refine yv y_mv <| yv y_np <| yv (y_f 0 129 Tryz.underlying133 sz129) <| yv (y_l1 ag129 rfl) <| yv y_mv <| yv y_mv <| yv (y_idxR Tryz.underlying129 sz221 rfl rfl (by omega) (by exact RdS.own pkk)) ?_; refine yv (y_fR 0 219 Tryz.underlying221 sz219) ?_; refine yv (y_idxAR Tryz.underlying219 sz218 rfl rfl (by omega)) ?_; refine yv (y_fR 4 31 Tryz.underlying218 sz31) ?_; refine yv (y_rc ag31 rfl hrow hk 4 rfl) ?_; refine yv (y_len Tryz.underlying31 rfl) ?_; refine yv (y_gtr rfl rfl) ?_; refine fk [(0,_),(2,_),(9,_),(10,_),(53,_)] K16 ?_; refine qz ?_ ?_ <;> intro hc4 <;> try simp only [hyZ] at hc4
 ·have h4 : (x.e k).b ≠ [] := fun h => by rw [h] at hc4; simp at hc4
  refine sr fun _ K17 => ?_
  refine yv y_mv <| yv y_mv <| yv y_mv <| yv y_mv <| Hd.heap (RwP b w :: L) (rw_fold hi) ?_; refine callE rfl fk118 (rget_ct _ b w n x hx k hk many (by omega)) sq ?_; rintro ⟨ad, c⟩; dsimp only; refine yv y_as <| yv y_as <| yv y_as <| fk [(6,_),(7,_),(8,_)] K17 ?_; refine Hd.ret <| Hd.thenRet ?_; rw [hr, if_neg h1, if_neg h2, if_neg h3, if_pos h4]; exact Hd.ret3 rfl (ad, c) rfl rfl rfl rfl sq
 have h4 : ¬ ((x.e k).b ≠ []) := fun h => h (List.eq_nil_of_length_eq_zero (by omega))
 refine qv K15 <| Hd.seq fun _ K18 => ?_
 refine sr fun _ K19 => ?_
 refine yv y_mv <| yv y_np <| yv (y_f 0 129 Tryz.underlying133 sz129) <| yv (y_l1 ag129 rfl) <| yv y_mv <| yv y_mv <| yv (y_to (v' := .int .i64 ((1 - k : Nat) : Int)) (y_subn rfl rfl (by simp only [InK]; omega)) (by (congr 1; omega))) ?_; refine yv (y_idxR Tryz.underlying129 sz221 rfl rfl (by omega) (by exact RdS.own pkk)) ?_; refine yv (y_fR 0 219 Tryz.underlying221 sz219) ?_; refine yv (y_idxAR Tryz.underlying219 sz218 rfl rfl (by omega)) ?_; refine yv (y_fR 0 3 Tryz.underlying218 sz3) ?_; refine yv (y_rc ag3 rfl hrow hk1 0 rfl) ?_; refine yv (y_eql rfl rfl) ?_; refine yv y_mv ?_; apply Hd.org 13 72 85 [] rfl sbq
 ·intro hg12_72
  try simp only [hyZ] at hg12_72
  simp only [List.take]; refine n1 <| n1 <| n1 <| n1 <| n1 <| n1 <| n1 <| n1 <| n1 <| n1 <| n1 <| n1 <| yv (y_pickT rfl rfl) ?_; exact Hd.mn
 ·intro hg12_72
  try simp only [hyZ] at hg12_72
  simp only [List.take]; refine y2 y_mv <| y2 y_np <| y2 (y_f 0 129 Tryz.underlying133 sz129) <| y2 (y_l1 ag129 rfl) <| y2 y_mv <| y2 y_mv <| y2 (y_to (v' := .int .i64 ((1 - k : Nat) : Int)) (y_subn rfl rfl (by simp only [InK]; omega)) (by (congr 1; omega))) ?_; refine y2 (y_idxR Tryz.underlying129 sz221 rfl rfl (by omega) (by exact RdS.own pkk)) ?_; refine y2 (y_fR 0 219 Tryz.underlying221 sz219) ?_; refine y2 (y_idxAR Tryz.underlying219 sz218 rfl rfl (by omega)) ?_; refine y2 (y_fR 5 4 Tryz.underlying218 sz4) ?_; refine y2 (y_rc ag4 rfl hrow hk1 5 rfl) ?_; refine yv (y_pickF rfl rfl) ?_; exact Hd.mn
 simp only [List.drop]; refine fk [(85,_)] K19 ?_; refine qz ?_ ?_ <;> intro hc5 <;> try simp only [hyZ] at hc5
 ·have h5 : silentW x k = true := by unfold silentW; simpa using hc5
  refine sr fun _ K20 => ?_
  refine yv y_as <| yv y_as <| yv y_as <| fk [(6,_),(7,_),(8,_)] K20 ?_; refine Hd.ret <| Hd.thenRet ?_; rw [hr, if_neg h1, if_neg h2, if_neg h3, if_neg h4, if_pos h5]; exact Hd.ret3 rfl (none, 0) rfl rfl rfl rfl (fun q s => Ent.sep (.ownNil .same) q (rw_fold hi q s))
 have h5 : ¬ (silentW x k = true) := by unfold silentW; simp [hc5.1, hc5.2]
 refine qv K18 <| sr fun _ K21 => ?_
 refine yv y_as <| yv y_as <| yv y_as <| fk [(6,_),(7,_),(8,_)] K21 ?_; refine Hd.ret ?_; rw [hr, if_neg h1, if_neg h2, if_neg h3, if_neg h4, if_neg h5]; exact Hd.ret3 rfl (none, 0) rfl rfl rfl rfl (fun q s => Ent.sep (.ownNil .same) q (rw_fold hi q s))
theorem rWrite_ct (L : List SP) (b : Nat) (w : WA) (hw : WOk w) (fd : Int) (ad : Option Addr) (m c : Nat) (bs : List UInt8) (hm : bs.length = m) (hR : RdS L 1 ad m (bsl bs)) (hml : m ≤ 70368744177664) (hmc : m ≤ c) : Ct Tryz.prog 64 #[.pointer (some ⟨b, 0, none⟩), .int .i64 fd, .slice ad m c] (RwP b w :: L) (fun _ : Unit => .tuple #[.int .i64 (writeR w fd bs).1.1, .int .i64 (writeR w fd bs).1.2]) (fun _ : Unit => RwP b (writeR w fd bs).2 :: L) := by
 refine Ct.o3 Tryz.func64 ?_; intro E
 show Hd E 76 _ _ _ _
 refine sr fun _ K1 => ?_
 refine yv y_as <| yv y_as <| fk [(0,_),(1,_),(2,_)] K1 ?_; refine sr fun _ K2 => ?_
 refine yv y_mv <| yv y_mv <| callE rfl fk116 (rat_ct _ b w hw fd) sq ?_; intro _; refine yv y_mv <| yv y_ex <| yv y_ex <| yv y_as <| yv y_as <| fk [(0,_),(2,_),(8,_),(9,_)] K2 ?_; refine Hd.seq fun _ K3 => ?_
 refine sr fun _ K4 => ?_
 refine yv y_mv <| yv (y_lss rfl rfl) ?_; refine fk [(0,_),(2,_),(8,_),(9,_),(18,_)] K4 ?_; refine qz ?_ ?_ <;> intro hc0 <;> try simp only [hyZ] at hc0
 ·have hno := atN_no hc0
  refine sr fun _ K5 => ?_
  refine yv y_as <| yv y_as <| fk [(6,_),(7,_)] K5 ?_; refine Hd.ret <| Hd.thenRet ?_; rw [show writeR w fd bs = ((0, 110), w) by unfold writeR; rw [hno]]; exact Hd.ret2 rfl () rfl rfl rfl sq
 obtain ⟨n, k, hnk⟩ := atN_yes (by omega)
 obtain ⟨_, _, hk, _, x, hx, _, _⟩ := hw.at_lt hnk
 have hwf := hw.wf x (List.mem_of_getElem? hx)
 rw [show atN (w.at fd) = (n : Int) by rw [hnk]; rfl, show atK (w.at fd) = (k : Int) by rw [hnk]; rfl]
 have hk1 : 1 - k < 2 := by omega
 refine Hd.rw .here (fun i hi => ?_)
 have hrl := rows_n hi
 obtain ⟨j, hrow⟩ := row_at hi hx
 have hn : n < i.1.length := (List.getElem?_eq_some_iff.1 hrow).1
 have hr : writeR w fd bs = (if (x.e k).wr = false then ((0, 111), w) else if x.rs = true then ((0, 115), w) else if (x.e k).shut = true ∨ (x.e (1 - k)).what = 3 then ((0, 114), w)
   else if bs.length = 0 then ((0, 0), w) else if putN x k bs = 0 then ((0, 113), w) else ((((putN x k bs : Nat) : Int), 0), w.setW n (putW x k bs))) := by unfold writeR; rw [hnk]; dsimp only; rw [hx]
 refine qv K3 <| Hd.seq fun _ K6 => ?_
 refine sr fun _ K7 => ?_
 refine yv y_mv <| yv y_np <| yv (y_f 0 129 Tryz.underlying133 sz129) <| yv (y_l1 ag129 rfl) <| yv y_mv <| yv y_mv <| yv (y_idxR Tryz.underlying129 sz221 rfl rfl (by omega) (by exact RdS.own pkk)) ?_; refine yv (y_fR 0 219 Tryz.underlying221 sz219) ?_; refine yv (y_idxAR Tryz.underlying219 sz218 rfl rfl (by omega)) ?_; refine yv (y_fR 3 4 Tryz.underlying218 sz4) ?_; refine yv (y_rc ag4 rfl hrow hk 3 rfl) ?_; refine yv (y_not rfl) <| fk [(0,_),(2,_),(8,_),(9,_),(30,_)] K7 ?_; refine qz ?_ ?_ <;> intro hc1 <;> try simp only [hyZ] at hc1
 ·have h1 : (x.e k).wr = false := by simpa using hc1
  refine sr fun _ K8 => ?_
  refine yv y_as <| yv y_as <| fk [(6,_),(7,_)] K8 ?_; refine Hd.ret <| Hd.thenRet ?_; rw [hr, if_pos h1]; exact Hd.ret2 rfl () rfl rfl rfl (rw_fold hi)
 have h1 : ¬ ((x.e k).wr = false) := by simpa using hc1
 refine qv K6 <| Hd.seq fun _ K9 => ?_
 refine sr fun _ K10 => ?_
 refine yv y_mv <| yv y_np <| yv (y_f 0 129 Tryz.underlying133 sz129) <| yv (y_l1 ag129 rfl) <| yv y_mv <| yv (y_idxR Tryz.underlying129 sz221 rfl rfl (by omega) (by exact RdS.own pkk)) ?_; refine yv (y_fR 17 4 Tryz.underlying221 sz4) ?_; refine yv (y_rw ag4 rfl hrow 17 rfl) ?_; refine fk [(0,_),(2,_),(8,_),(9,_),(38,_)] K10 ?_; refine qz ?_ ?_ <;> intro hc2 <;> try simp only [hyZ] at hc2
 ·refine sr fun _ K11 => ?_
  refine yv y_as <| yv y_as <| fk [(6,_),(7,_)] K11 ?_; refine Hd.ret <| Hd.thenRet ?_; rw [hr, if_neg h1, if_pos hc2]; exact Hd.ret2 rfl () rfl rfl rfl (rw_fold hi)
 have h2 : ¬ (x.rs = true) := by rw [hc2]; decide
 refine qv K9 <| Hd.seq fun _ K12 => ?_
 refine sr fun _ K13 => ?_
 refine yv y_mv <| yv y_np <| yv (y_f 0 129 Tryz.underlying133 sz129) <| yv (y_l1 ag129 rfl) <| yv y_mv <| yv y_mv <| yv (y_idxR Tryz.underlying129 sz221 rfl rfl (by omega) (by exact RdS.own pkk)) ?_; refine yv (y_fR 0 219 Tryz.underlying221 sz219) ?_; refine yv (y_idxAR Tryz.underlying219 sz218 rfl rfl (by omega)) ?_; refine yv (y_fR 5 4 Tryz.underlying218 sz4) ?_; refine yv (y_rc ag4 rfl hrow hk 5 rfl) ?_; refine yv y_mv ?_; apply Hd.org 14 50 64 [(0,_),(2,_),(8,_),(9,_)] rfl sbq
 ·intro hg8_50
  try simp only [hyZ] at hg8_50
  simp only [List.take]; refine n1 <| n1 <| n1 <| n1 <| n1 <| n1 <| n1 <| n1 <| n1 <| n1 <| n1 <| n1 <| n1 <| yv (y_pickT rfl rfl) ?_; exact Hd.mn
 ·intro hg8_50
  try simp only [hyZ] at hg8_50
  simp only [List.take]; refine y2 y_mv <| y2 y_np <| y2 (y_f 0 129 Tryz.underlying133 sz129) <| y2 (y_l1 ag129 rfl) <| y2 y_mv <| y2 y_mv <| y2 (y_to (v' := .int .i64 ((1 - k : Nat) : Int)) (y_subn rfl rfl (by simp only [InK]; omega)) (by (congr 1; omega))) ?_; refine y2 (y_idxR Tryz.underlying129 sz221 rfl rfl (by omega) (by exact RdS.own pkk)) ?_; refine y2 (y_fR 0 219 Tryz.underlying221 sz219) ?_; refine y2 (y_idxAR Tryz.underlying219 sz218 rfl rfl (by omega)) ?_; refine y2 (y_fR 0 3 Tryz.underlying218 sz3) ?_; refine y2 (y_rc ag3 rfl hrow hk1 0 rfl) ?_; refine y2 (y_eql rfl rfl) ?_; refine yv (y_pickF rfl rfl) ?_; exact Hd.mn
 simp only [List.drop]; refine fk [(0,_),(2,_),(8,_),(9,_),(64,_)] K13 ?_; refine qz ?_ ?_ <;> intro hc3 <;> try simp only [hyZ] at hc3
 ·have h3 : (x.e k).shut = true ∨ (x.e (1 - k)).what = 3 := by simpa using hc3
  refine sr fun _ K14 => ?_
  refine yv y_as <| yv y_as <| fk [(6,_),(7,_)] K14 ?_; refine Hd.ret <| Hd.thenRet ?_; rw [hr, if_neg h1, if_neg h2, if_pos h3]; exact Hd.ret2 rfl () rfl rfl rfl (rw_fold hi)
 have h3 : ¬ ((x.e k).shut = true ∨ (x.e (1 - k)).what = 3) := by
  rintro (h | h) <;> simp [h] at hc3
 refine qv K12 <| Hd.seq fun _ K15 => ?_
 refine sr fun _ K16 => ?_
 refine yv y_mv <| yv (y_len Tryz.underlying31 rfl) ?_; refine yv (y_eql rfl rfl) ?_; refine fk [(0,_),(2,_),(8,_),(9,_),(67,_)] K16 ?_; refine qz ?_ ?_ <;> intro hc4 <;> try simp only [hyZ] at hc4
 ·have h4 : bs.length = 0 := by omega
  refine sr fun _ K17 => ?_
  refine yv y_as <| yv y_as <| fk [(6,_),(7,_)] K17 ?_; refine Hd.ret <| Hd.thenRet ?_; rw [hr, if_neg h1, if_neg h2, if_neg h3, if_pos h4]; exact Hd.ret2 rfl () rfl rfl rfl (rw_fold hi)
 have h4 : ¬ (bs.length = 0) := by omega
 refine qv K15 <| sr fun _ K18 => ?_
 refine yv y_mv <| yv y_mv <| yv y_mv <| yv y_mv <| Hd.heap (RwP b w :: L) (rw_fold hi) ?_; refine callE rfl fk119 (rfill_ct L b w n x hx hwf k hk ad m c bs hm hR hml hmc) sq ?_; intro _; refine yv y_as <| fk [(10,_)] K18 ?_; refine Hd.seq fun _ K19 => ?_
 refine sr fun _ K20 => ?_
 refine yv y_mv <| yv (y_eql rfl rfl) ?_; refine fk [(10,_),(74,_)] K20 ?_; refine qz ?_ ?_ <;> intro hc5 <;> try simp only [hyZ] at hc5
 ·have h5 : putN x k bs = 0 := by omega
  refine sr fun _ K21 => ?_
  refine yv y_as <| yv y_as <| fk [(6,_),(7,_)] K21 ?_; refine Hd.ret <| Hd.thenRet ?_; rw [hr, if_neg h1, if_neg h2, if_neg h3, if_neg h4, if_pos h5]; exact Hd.ret2 rfl () rfl rfl rfl (Ent.sep (.eq pkk (by rw [putW_zero h5, setW_same hx]) enn))
 have h5 : ¬ (putN x k bs = 0) := by omega
 refine qv K19 <| sr fun _ K22 => ?_
 refine yv y_mv <| yv y_as <| yv y_as <| fk [(6,_),(7,_)] K22 ?_; refine Hd.ret ?_; rw [hr, if_neg h1, if_neg h2, if_neg h3, if_neg h4, if_neg h5]; exact Hd.ret2 rfl () rfl rfl rfl sq
end Rf
end Go.Proofs.YtbfddabjbkohdaaGreat
namespace Go.Proofs.YtbfddabjbkohdaaGreat
open Go.RX Fx
namespace Wo
theorem pass_ct (L : List SP) (wb : Nat) (w : WA) (n : Int) (hn : 0 ≤ n ∧ n ≤ 18446744073709551615) (h0 : 0 ≤ w.now ∧ w.now ≤ 18446744073709551615) : Ct Tryz.prog 135 #[.pointer (some ⟨wb, 0, none⟩), .int .u64 n] (WorldP wb w :: L) (fun _ : Unit => .tuple #[]) (fun _ : Unit => WorldP wb (passR w n) :: L) := by
 refine Ct.o2 Tryz.func135 ?_; intro E
 show Hd E 21 _ _ _ _
 refine Hd.world .here (fun i hw hrs => ?_); refine sr fun _ K1 => ?_
 refine yv y_mv <| callE rfl fk113 (wnone_ct _ wb w.at w i.rs.length i) sq ?_; intro _; refine yv (y_not rfl) <| fk [(0,_),(1,_),(6,_)] K1 ?_; refine Hd.condT rfl ?_; refine Hd.tail 14 mixed kq ?_; simp only [List.take, List.drop]; refine Ht.yv y_mv ?_; refine Ht.yv y_np ?_; refine Ht.yv (y_f 290 30 Tryz.underlying210 sz30) ?_; refine Ht.yv (y_load1 ag30 rfl (Rd.pt1 pkk (by exact woT_at (j := 2) (by omega) rfl))) ?_; refine Ht.yv y_mv ?_; refine Ht.yv y_mv ?_; refine Ht.yv y_np ?_; refine Ht.yv (y_f 290 30 Tryz.underlying210 sz30) ?_; refine Ht.yv (y_load1 ag30 rfl (Rd.pt1 pkk (by exact woT_at (j := 2) (by omega) rfl))) ?_; refine Ht.yv (y_subn rfl rfl (by simp only [InK]; omega)) ?_; refine Ht.yv (y_min rfl rfl) ?_; refine Ht.yv (y_to (v' := .int .u64 (w.now + min n (18446744073709551615 - w.now))) (y_addn rfl rfl (by simp only [InK]; omega)) (by (congr 1))) ?_; refine Ht.yv y_np ?_
 refine Ht.yv (y_f 290 30 Tryz.underlying210 sz30) ?_; refine Ht.nil ?_; refine Hd.store1 sz30 rfl rfl rfl pkk (by rw [List.length_append, fdC_len]; simp; omega) ?_
 try simp only [hyS]
 refine Hd.nil <| slots [] sbq ?_
 have e : (fdC w.at ++ woT w i.rs.length i).set (0 + 290) (.int .u64 (w.now + min n (18446744073709551615 - w.now))) = fdC (passR w n).at ++ woT (passR w n) i.rs.length i := by
  rw [List.set_append_right _ _ (by rw [fdC_len]; decide), fdC_len]; rfl
 exact Hd.end0 rfl () rfl (fun q s => Ent.sep (.ex i (.pure ⟨(pass_ok hw n hn.1).1, hrs⟩ (.eq pkk (pt_eq e) enn))) q s)
def rstW (x : WireA) (k : Nat) : WireA := { x with rs := true, e := fun j => if j < k then riseE true true { x.e j with b := [] } else x.e j }
theorem rst_same (x : WireA) (k j : Nat) : ((rstW x k).e j).rd = (x.e j).rd := by
 show (if j < k then riseE true true { x.e j with b := [] } else x.e j).rd = _
 split <;> rfl
theorem rst_up {x : WireA} {k : Nat} : ((rstW x k).up k fun e => { e with b := [] }).up k (riseE true true) = rstW x (k + 1) := by
 rw [up_up]; unfold rstW WireA.up; dsimp only
 congr 1
 funext j
 by_cases h : j = k
 ·subst h
  rw [if_pos rfl, if_neg (Nat.lt_irrefl j), if_pos (Nat.lt_succ_self j)]
 ·rw [if_neg h]
  by_cases h2 : j < k
  ·rw [if_pos h2, if_pos (by omega)]
  ·rw [if_neg h2, if_neg (by omega)]
theorem wreset_ct (L : List SP) (wb : Nat) (w : WA) (n : Int) : Ct Tryz.prog 131 #[.pointer (some ⟨wb, 0, none⟩), .int .i64 n] (WorldP wb w :: L) (fun _ : Unit => .int .i64 (resetR w n).1) (fun _ : Unit => WorldP wb (resetR w n).2 :: L) := by
 refine Ct.o2 Tryz.func131 ?_; intro E
 show Hd E 41 _ _ _ _
 refine Hd.world .here (fun i hw hrs => ?_); refine sr fun _ K1 => ?_
 refine yv y_as <| fk [(0,_),(1,_)] K1 ?_; refine sr fun _ K2 => ?_
 refine yv y_mv <| yv y_mv <| callE rfl fk111 (outer_ct _ wb w i hw hrs n) sq ?_; intro _; refine yv y_mv <| yv (y_to (v' := ptr (outB i w n)) y_ex (by rfl)) ?_; refine yv (y_to (v' := .int .i64 (outE w n)) y_ex (by rfl)) ?_; refine yv y_as <| yv y_as <| fk [(5,_),(6,_)] K2 ?_; refine Hd.seq fun _ K3 => ?_
 refine sr fun _ K4 => ?_
 refine yv y_mv <| yv (y_neq rfl rfl) ?_; refine yv y_mv <| Hd.part (gd := 16) rfl (fun hg2_16 => ?_) (fun hg2_16 => ?_)
 ·try simp only [hyZ] at hg2_16
  have e := outE_no hg2_16
  refine n1 <| n1 <| n1 <| n1 <| yv (y_pickT rfl rfl) ?_; refine fk [(5,_),(6,_),(21,_)] K4 ?_; refine Hd.condT rfl ?_; refine sr fun _ K5 => ?_
  refine yv y_mv <| yv y_as <| fk [(4,_)] K5 ?_; refine Hd.ret <| Hd.thenRet ?_; rw [show resetR w n = (116, w) by unfold resetR; rw [e]]; exact Hd.ret1 rfl () (by unfold outE; rw [e]; rfl) (Ent.sep (.ex i (.pure ⟨hw, hrs⟩ enn)))
 try simp only [hyZ] at hg2_16
 obtain ⟨k, b, x, rfl, hox, hx, hb, h2, hob⟩ := outE_yes hrs hg2_16
 have hwf := hw.wf x (List.mem_of_getElem? hx)
 have hrd : resetR w k = (0, if x.rs = true then w else w.setW k (resetW x)) := by unfold resetR; rw [hox]; rfl
 rw [hob]; refine Hd.wOut pkk hb ?_; refine Hd.wire .here 0 (by omega) (fun i2 hi => ?_); refine y2 y_mv <| y2 y_np <| y2 (y_f 14 4 Tryz.underlying199 sz4) <| y2 (y_l1 ag4 rfl) <| yv (y_pickF rfl rfl) ?_; refine fk [(5,_),(6,_),(21,_)] K4 ?_; refine qz ?_ ?_ <;> intro hc0 <;> try simp only [hyZ] at hc0
 ·refine sr fun _ K6 => ?_
  refine yv y_mv <| yv y_as <| fk [(4,_)] K6 ?_; refine Hd.ret <| Hd.thenRet ?_; rw [hrd, if_pos hc0]; exact Hd.ret1 rfl () (by rw [hg2_16]; rfl) (fun q s => world_back (k := 0) hw hrs hb hi (by omega) q (Ent.sep enn q s))
 rw [if_neg (by rw [hc0]; simp)] at hrd; refine qv K3 <| sr fun _ K7 => ?_
 refine yv y_mv <| yv y_np <| yv (y_f 14 4 Tryz.underlying199 sz4) <| Hd.store1 sz4 rfl rfl rfl pkk (by simp; done) ?_
 try simp only [hyS]
 refine Hd.nil <| Hd.heap (WireP b (rstW x 0) :: WoR wb k w i L) (fun q s => Ent.sep (.ex (i2, 0) (.pure ⟨⟨fun j hj => by rw [rst_same]; exact hi.rd j hj⟩, by omega⟩ (.eq pkk (pt_eq (by rfl)) (.eq pkk (show RgO (i2.p 0) x.cap (x.e 0).b = RgO (i2.p 0) (rstW x 0).cap ((rstW x 0).e 0).b from rfl) (.eq pkk (show RgO (i2.p (1 - 0)) x.cap (x.e (1 - 0)).b = RgO (i2.p (1 - 0)) (rstW x 0).cap ((rstW x 0).e (1 - 0)).b from rfl) (.eq pkk (show own 3 1 i2.wa x.wt.length i2.wc (nats x.wt) = own 3 1 i2.wa (rstW x 0).wt.length i2.wc (nats (rstW x 0).wt) from rfl) enn)))))) q s) ?_; refine sk [(5,_)] K7 ?_; refine Hd.seq fun _ K8 => ?_
 refine sr fun _ K9 => ?_
 refine yv y_mv <| fk [(5,_),(26,_)] K9 ?_; refine Hd.block <| Hd.loopK (ι := Nat) [(5,_)] (fun j => [(26, .int .i64 (j : Int))]) (fun j => pu (j ≤ 2) :: WireP b (rstW x j) :: WoR wb k w i L) (fun j => 2 - j) 0 sbq sbq (Ent.sep (.pure (by omega) enn)) ?_; intro j
 try dsimp only
 refine Hd.pure (fun hp0 => ?_)
 try dsimp only at hp0
 refine sr fun _ K10 => ?_
 refine yv (y_lss rfl rfl) ?_; refine fk [(5,_),(26,_),(27,_)] K10 ?_; refine Hd.seq fun _ K11 => ?_
 refine qz ?_ ?_ <;> intro hc1 <;> try simp only [hyZ] at hc1
 ·have hj : j < 2 := by omega
  have hrj : ((rstW x j).e j).rd = true := by
   rw [rst_same]
   rcases (show j = 0 ∨ j = 1 by omega) with rfl | rfl
   ·exact (hwf.ou h2).1
   ·exact (hwf.ou h2).2
  refine qv K11 <| Hd.seq fun _ K12 => ?_
  refine Hd.block <| sr fun _ K13 => ?_
  refine yv y_mv <| yv y_as <| fk [(5,_),(7,_),(26,_)] K13 ?_; refine Hd.seq fun _ K14 => ?_
  refine Hd.wireR .here j hj hrj (fun i3 rb hi3 hrb => ?_); refine Hd.region <| yv y_mv <| yv y_mv <| yv y_np <| yv (y_f 0 197 Tryz.underlying199 sz197) <| yv (y_idxA Tryz.underlying197 sz196 rfl rfl (by omega)) ?_; refine yv (y_f 2 194 Tryz.underlying196 sz194) <| yv (y_to (v' := .pointer (some ⟨rb, 0, none⟩)) (y_load1 ag194 rfl (Rd.pt1 pkk (by exact enc_at 2 hj (by omega) (by omega) rfl))) (by (show ptr (i3.p j) = _; rw [hrb]; rfl))) ?_; refine callE rfl fk178 (rclear_ct _ rb (rstW x j).cap ((rstW x j).e j).b) sq ?_; intro _; refine Hd.heap (WireP b ((rstW x j).up j fun e => { e with b := [] }) :: WoR wb k w i L) (fun q s => wire_ring (l' := []) hi3 hj hrb q (Ent.sep enn q s)) ?_; refine fk [(5,_),(7,_),(26,_)] K14 ?_; refine Hd.region <| yv y_mv <| yv y_mv <| callE rfl fk173 (came_ct _ b ((rstW x j).up j fun e => { e with b := [] }) j hj true true) sq ?_
  intro _; rw [rst_up]; refine Hd.nil <| slots [(5,_),(26,_)] sbq ?_; refine Hd.inB <| Hd.toK K12 ?_; refine Hd.region <| yv (y_addn rfl rfl (by simp only [InK]; omega)) ?_; refine yv y_mv <| Hd.nil <| slots [(5,_),(26,_)] sbq ?_; refine thenN ?_; exact Hd.again (j + 1) (by omega) sbq (Ent.sep (.pure (by omega) enn))
 obtain rfl : j = 2 := by omega
 refine Hd.exit <| Hd.thenExit <| Hd.thenExit <| Hd.inBexit <| Hd.toK K8 ?_; refine sr fun _ K15 => ?_
 refine yv y_as <| fk [(4,_)] K15 ?_; refine Hd.ret ?_; rw [hrd]; exact Hd.ret1 rfl () rfl (fun q s => world_fold' hw hrs hb (smW_reset x) q (Ent.sep enn q s))
end Wo
end Go.Proofs.YtbfddabjbkohdaaGreat
namespace Go.Proofs.YtbfddabjbkohdaaGreat
open Go.RX Fx
namespace Rf
open Wo
theorem rPass_ct (L : List SP) (b : Nat) (w : WA) (n : Int) (hn : 0 ≤ n ∧ n ≤ 18446744073709551615) (h0 : 0 ≤ w.now ∧ w.now ≤ 18446744073709551615) : Ct Tryz.prog 136 #[.pointer (some ⟨b, 0, none⟩), .int .u64 n] (RwP b w :: L) (fun _ : Unit => .tuple #[]) (fun _ : Unit => RwP b (passR w n) :: L) := by
 refine Ct.o2 Tryz.func136 ?_; intro E
 show Hd E 23 _ _ _ _
 refine Hd.rw .here (fun i hi => ?_); refine Hd.seq fun _ K1 => ?_
 refine sr fun _ K2 => ?_
 refine yv y_mv <| yv y_mv <| yv y_np <| yv (y_f 1 30 Tryz.underlying133 sz30) <| yv (y_l1 ag30 rfl) <| yv (y_subn rfl rfl (by simp only [InK]; omega)) ?_; refine yv (y_gtr rfl rfl) ?_; refine fk [(0,_),(1,_),(10,_)] K2 ?_; refine qz ?_ ?_ <;> intro hc0 <;> try simp only [hyZ] at hc0
 ·refine sr fun _ K3 => ?_
  refine yv y_mv <| yv y_np <| yv (y_f 1 30 Tryz.underlying133 sz30) <| Hd.store1 sz30 rfl rfl rfl pkk (by simp; done) ?_
  try simp only [hyS]
  refine fk [] K3 ?_; refine Hd.ret <| Hd.thenRet ?_
  have e : (18446744073709551615 : Int) = w.now + min n (18446744073709551615 - w.now) := by omega
  exact Hd.ret0 rfl () rfl (fun q s => rw_fold (w := passR w n) hi q (Ent.sep (.eq pkk (pt_eq (by show _ = RwC (passR w n) i.1.length i.2.1 i.2.2; unfold passR; rw [← e]; rfl)) enn) q s))
 refine qv K1 <| Hd.region <| yv y_mv <| yv y_mv <| yv y_np <| yv (y_f 1 30 Tryz.underlying133 sz30) <| yv (y_l1 ag30 rfl) <| yv y_mv <| yv (y_addn rfl rfl (by simp only [InK]; omega)) ?_; refine yv y_np <| yv (y_f 1 30 Tryz.underlying133 sz30) <| Hd.store1 sz30 rfl rfl rfl pkk (by simp; done) ?_
 try simp only [hyS]
 refine Hd.nil <| slots [] sbq ?_
 have e : w.now + n = w.now + min n (18446744073709551615 - w.now) := by omega
 exact Hd.end0 rfl () rfl (fun q s => rw_fold (w := passR w n) hi q (Ent.sep (.eq pkk (pt_eq (by show _ = RwC (passR w n) i.1.length i.2.1 i.2.2; unfold passR; rw [← e]; rfl)) enn) q s))
theorem rst0_e (x : WireA) (k : Nat) : (rstW x 0).e k = x.e k := by unfold rstW; simp
theorem rset_rs {rs : List Row} {n o : Nat} {x : WireA} {j : RwI} (h : rs[n]? = some (x, j)) (ho : o = n * 20 + 17) : (rs.flatMap encRW).set o (.bool true) = (rs.set n (rstW x 0, j)).flatMap encRW := by
 subst ho; refine rows_set (j := 17) encRW_len (by omega) ?_ h (by omega)
 rfl
theorem rReset_ct (L : List SP) (b : Nat) (w : WA) (n : Int) : Ct Tryz.prog 132 #[.pointer (some ⟨b, 0, none⟩), .int .i64 n] (RwP b w :: L) (fun _ : Unit => .int .i64 (resetR w n).1) (fun _ : Unit => RwP b (resetR w n).2 :: L) := by
 refine Ct.o2 Tryz.func132 ?_; intro E
 show Hd E 45 _ _ _ _
 refine sr fun _ K1 => ?_
 refine yv y_as <| fk [(0,_),(1,_)] K1 ?_; refine sr fun _ K2 => ?_
 refine yv y_mv <| yv y_mv <| callE rfl fk177 (router_ct _ b w n) sq ?_; intro _; refine yv y_as <| fk [(0,_),(1,_),(5,_)] K2 ?_; refine Hd.seq fun _ K3 => ?_
 refine sr fun _ K4 => ?_
 refine yv y_mv <| yv (y_not rfl) <| fk [(0,_),(1,_),(11,_)] K4 ?_; refine qz ?_ ?_ <;> intro hc0 <;> try simp only [hyZ] at hc0
 ·refine sr fun _ K5 => ?_
  refine yv y_as <| fk [(4,_)] K5 ?_; refine Hd.ret <| Hd.thenRet ?_
  have hno : outW w n = none := by cases h : outW w n with | none => rfl | some y => rw [h] at hc0; simp at hc0
  rw [show resetR w n = (116, w) by unfold resetR; rw [hno]]; exact Hd.ret1 rfl () rfl sq
 obtain ⟨x, ho⟩ : ∃ x, outW w n = some x := by cases h : outW w n with | none => rw [h] at hc0; simp at hc0 | some y => exact ⟨y, rfl⟩
 obtain ⟨h0, hx, _⟩ := outW_some ho
 obtain ⟨q, rfl⟩ : ∃ q : Nat, n = (q : Int) := ⟨n.toNat, by omega⟩
 rw [Int.toNat_natCast] at hx; refine Hd.rw .here (fun i hi => ?_)
 have hrl := rows_n hi
 obtain ⟨j, hrow⟩ := row_at hi hx
 have hn : q < i.1.length := (List.getElem?_eq_some_iff.1 hrow).1
 refine qv K3 <| Hd.seq fun _ K6 => ?_
 refine sr fun _ K7 => ?_
 refine yv y_mv <| yv y_np <| yv (y_f 0 129 Tryz.underlying133 sz129) <| yv (y_l1 ag129 rfl) <| yv y_mv <| yv (y_idxR Tryz.underlying129 sz221 rfl rfl (by omega) (by exact RdS.own pkk)) ?_; refine yv (y_fR 17 4 Tryz.underlying221 sz4) ?_; refine yv (y_rw ag4 rfl hrow 17 rfl) ?_; refine fk [(0,_),(1,_),(19,_)] K7 ?_; refine qz ?_ ?_ <;> intro hc1 <;> try simp only [hyZ] at hc1
 ·refine sr fun _ K8 => ?_
  refine yv y_as <| fk [(4,_)] K8 ?_; refine Hd.ret <| Hd.thenRet ?_; rw [show resetR w (q : Int) = (0, w) by unfold resetR; rw [ho]; show (0, if x.rs = true then w else _) = _; rw [if_pos hc1]]; exact Hd.ret1 rfl () rfl (rw_fold hi)
 refine qv K6 <| sr fun _ K9 => ?_
 refine yv y_mv <| yv y_np <| yv (y_f 0 129 Tryz.underlying133 sz129) <| yv (y_l1 ag129 rfl) <| yv y_mv <| yv (y_idxR Tryz.underlying129 sz221 rfl rfl (by omega) (by exact RdS.own pkk)) ?_; refine yv (y_fR 17 4 Tryz.underlying221 sz4) ?_; refine Hd.storeO1 sz4 rfl rfl rfl pkk (by rw [rows_len encRW_len]; omega) ?_
 try simp only [hyS]
 refine Hd.nil ?_; rw [rset_rs hrow (by omega)]; refine Hd.heap (RwP b (w.setW q (rstW x 0)) :: L) (fun p s => rw_head (x' := rstW x 0) hi hrow (fun k _ => by rw [rst0_e]) rfl p (Ent.sep enn p s)) ?_; refine sk [(0,_),(1,_)] K9 ?_; refine Hd.seq fun _ K10 => ?_
 refine sr fun _ K11 => ?_
 refine yv y_as <| fk [(0,_),(1,_),(6,_)] K11 ?_; refine Hd.block <| Hd.loopK (ι := Nat) [(0,_),(1,_)] (fun k => [(6, .int .i64 (k : Int))]) (fun k => pu (k ≤ 2) :: RwP b (w.setW q (rstW x k)) :: L) (fun k => 2 - k) 0 sbq sbq (Ent.sep (.pure (by omega) enn)) ?_; intro k
 try dsimp only
 refine Hd.pure (fun hp0 => ?_)
 try dsimp only at hp0
 refine Hd.seq fun _ K12 => ?_
 refine sr fun _ K13 => ?_
 refine yv y_mv <| yv (y_lss rfl rfl) ?_; refine fk [(0,_),(1,_),(6,_),(28,_)] K13 ?_; refine qz ?_ ?_ <;> intro hc2 <;> try simp only [hyZ] at hc2
 ·have hk : k < 2 := by omega
  have hx2 : (w.setW q (rstW x k)).ws[q]? = some (rstW x k) := setW_self hx
  refine Hd.rw .here (fun i' hi' => ?_)
  have hrl' := rows_n hi'
  obtain ⟨j', hrow'⟩ := row_at hi' hx2
  have hn' : q < i'.1.length := (List.getElem?_eq_some_iff.1 hrow').1
  refine Hd.bagOut pkk hrow' ?_; refine Hd.sd .here k hk ?_; refine qv K12 <| Hd.seq fun _ K14 => ?_
  refine Hd.block <| sr fun _ K15 => ?_
  refine yv y_mv <| yv y_np <| yv (y_f 0 129 Tryz.underlying133 sz129) <| yv (y_l1 ag129 rfl) <| yv y_mv <| yv y_mv <| yv (y_idxR Tryz.underlying129 sz221 rfl rfl (by omega) (by exact RdS.own pkk)) ?_; refine yv (y_fR 0 219 Tryz.underlying221 sz219) ?_; refine yv (y_idxAR Tryz.underlying219 sz218 rfl rfl (by omega)) ?_; refine yv (y_fR 4 31 Tryz.underlying218 sz31) ?_; refine Hd.storeO1 sz31 rfl rfl rfl pkk (by rw [rows_len encRW_len]; omega) ?_
  try simp only [hyS]
  refine Hd.nil ?_; rw [rset_b (l := []) (m := 0) (o := q * 20 + 0 + k * 8 + 4) hrow' hk (by omega) rfl]; refine Hd.heap (RwP b ((w.setW q (rstW x k)).setW q ((rstW x k).up k fun e => { e with b := [] })) :: L) (sep_trans (sep_trans (Ent.sep (.ownNil (.pick pkk (.pick pkk .same)))) (sd_b (l := []) (a := none) (c := 0) hk)) (sep_trans sq (rw_put hi' hn'))) ?_; rw [setW_setW]; refine sk [(0,_),(1,_),(6,_)] K15 ?_; refine Hd.region <| yv y_mv <| yv y_mv <| yv y_mv <| callE rfl fk176 (rrise_ct _ b _ q _ (setW_self hx) k hk true true) sq ?_; intro _; rw [setW_setW, rst_up]; refine Hd.nil <| slots [(0,_),(1,_),(6,_)] sbq ?_; refine Hd.inB <| Hd.toK K14 ?_; refine Hd.region <| yv y_mv <| yv (y_addn rfl rfl (by simp only [InK]; omega)) ?_; refine yv y_as <| Hd.nil <| slots [(0,_),(1,_),(6,_)] sbq ?_; refine thenN ?_; exact Hd.again (k + 1) (by omega) sbq (Ent.sep (.pure (by omega) enn))
 obtain rfl : k = 2 := by omega
 refine Hd.exit <| Hd.thenExit <| Hd.thenExit <| Hd.inBexit <| Hd.toK K10 ?_; refine sr fun _ K16 => ?_
 refine yv y_as <| fk [(4,_)] K16 ?_; refine Hd.ret ?_
 have e : rstW x 2 = resetW x := rfl
 rw [show resetR w (q : Int) = (0, w.setW q (resetW x)) by unfold resetR; rw [ho]; show (0, if x.rs = true then w else _) = _; rw [if_neg (by rw [hc1]; decide)]; rfl, ← e]; exact Hd.ret1 rfl () rfl sq
theorem rc_hd {w : WA} {n c s o : Nat} {ad : Option Addr} (hl : w.hd.length = 32) (hs : s < 32) (ho : o = 2 + s) : (RwC w n ad c)[o]? = some (.bool (w.hd.getD s false)) := by
 subst ho; rw [List.getElem?_append_right (by simp), List.getElem?_append_left (by simp; omega), List.getElem?_map, List.getD_eq_getElem?_getD]
 have e : 2 + s - ([Value.slice ad n c, Value.int .u64 w.now] : List Value).length = s := by simp
 rw [e, List.getElem?_eq_getElem (by omega)]; rfl
theorem rc_ct {w : WA} {n c s o : Nat} {ad : Option Addr} (hl : w.hd.length = 32) (hc : w.ct.length = 32) (hs : s < 32) (ho : o = 34 + s) : (RwC w n ad c)[o]? = some (.int .i64 (w.ct.getD s 0)) := by
 subst ho; rw [List.getElem?_append_right (by simp; omega), List.getElem?_append_right (by simp; omega), List.getElem?_append_left (by simp; omega), List.getElem?_map, List.getD_eq_getElem?_getD]
 have e : 34 + s - ([Value.slice ad n c, Value.int .u64 w.now] : List Value).length - (w.hd.map Value.bool).length = s := by simp; omega
 rw [e, List.getElem?_eq_getElem (by omega)]; rfl
theorem rc_nt {w : WA} {n c j o : Nat} {ad : Option Addr} {v : Value} (hl : w.hd.length = 32) (hc : w.ct.length = 32) (hv : (ntV w.nt)[j]? = some v) (ho : o = 66 + j) : (RwC w n ad c)[o]? = some v := by
 subst ho; rw [List.getElem?_append_right (by simp; omega), List.getElem?_append_right (by simp; omega), List.getElem?_append_right (by simp; omega)]
 have e : 66 + j - ([Value.slice ad n c, Value.int .u64 w.now] : List Value).length - (w.hd.map Value.bool).length - (w.ct.map (Value.int .i64)).length = j := by simp; omega
 rw [e]; exact hv
theorem sum_take_bd {l : List Int} {K : Int} (h : ∀ c ∈ l, 0 ≤ c ∧ c ≤ K) (s : Nat) : 0 ≤ (l.take s).sum ∧ (l.take s).sum ≤ (l.take s).length * K := by
 have h' : ∀ c ∈ l.take s, 0 ≤ c ∧ c ≤ K := fun c hc => h c (List.mem_of_mem_take hc)
 generalize l.take s = t at h'
 induction t with
 | nil => simp
 | cons c t ih =>
  have h1 := h' c List.mem_cons_self
  have h2 := ih fun q hq => h' q (List.mem_cons_of_mem _ hq)
  simp only [List.sum_cons, List.length_cons]
  have : ((t.length + 1 : Nat) : Int) * K = (t.length : Int) * K + K := by
   rw [Int.natCast_add, Int.add_mul]; simp
  omega
theorem rPending_ct (L : List SP) (b : Nat) (w : WA) (hw : WOk w) (hb : ∀ c ∈ w.ct, 0 ≤ c ∧ c ≤ 2000000000) : Ct Tryz.prog 199 #[.pointer (some ⟨b, 0, none⟩)] (RwP b w :: L) (fun _ : Unit => .int .i64 (pendN w)) (fun _ : Unit => RwP b w :: L) := by
 refine Ct.o1 Tryz.func199 ?_; intro E
 show Hd E 18 _ _ _ _
 refine Hd.rw .here (fun i hi => ?_)
 have hl := hw.hdl
 have hcl := hw.ctl
 have hdb : ∀ c ∈ w.ct.drop 1, 0 ≤ c ∧ c ≤ 2000000000 := fun c hc => hb c (List.mem_of_mem_drop hc)
 have hdl : (w.ct.drop 1).length = 31 := by rw [List.length_drop, hcl]
 refine sr fun _ K1 => ?_
 refine yv y_as <| fk [(0,_)] K1 ?_; refine sr fun _ K2 => ?_
 refine yv y_as <| fk [(0,_),(3,_)] K2 ?_; refine Hd.seq fun _ K3 => ?_
 refine sr fun _ K4 => ?_
 refine yv y_as <| fk [(0,_),(3,_),(4,_)] K4 ?_; refine Hd.block <| Hd.loopK (ι := Nat) [(0,_)] (fun s => [(3, .int .i64 ((w.ct.drop 1).take s).sum), (4, .int .i64 ((s + 1 : Nat) : Int))]) (fun s => pu (s ≤ 31) :: RwL b w i L) (fun s => 31 - s) 0 sbq sbq (Ent.sep (.pure (by omega) enn)) ?_; intro s
 try dsimp only
 refine Hd.pure (fun hp0 => ?_)
 try dsimp only at hp0
 refine Hd.seq fun _ K5 => ?_
 refine sr fun _ K6 => ?_
 refine yv y_mv <| yv (y_leq rfl rfl) ?_; refine fk [(0,_),(3,_),(4,_),(6,_)] K6 ?_; refine qz ?_ ?_ <;> intro hc0 <;> try simp only [hyZ] at hc0
 ·have hs : s < 31 := by omega
  have hbd := sum_take_bd hdb s
  have htl : ((w.ct.drop 1).take s).length = s := by rw [List.length_take]; omega
  have hsc : ((w.ct.drop 1).take (s + 1)).sum = ((w.ct.drop 1).take s).sum + w.ct.getD (s + 1) 0 := by
   rw [List.take_add_one, List.getElem?_drop, List.getD_eq_getElem?_getD, Nat.add_comm 1 s, List.getElem?_eq_getElem (show s + 1 < w.ct.length by omega)]; simp
  have hcb : 0 ≤ w.ct.getD (s + 1) 0 ∧ w.ct.getD (s + 1) 0 ≤ 2000000000 := by
   rw [List.getD_eq_getElem?_getD, List.getElem?_eq_getElem (show s + 1 < w.ct.length by omega)]; exact hb _ (List.getElem_mem _)
  rw [htl] at hbd; refine qv K5 <| Hd.seq fun _ K7 => ?_
  refine Hd.block <| Hd.region <| yv y_mv <| yv y_mv <| yv y_mv <| yv y_np <| yv (y_f 34 131 Tryz.underlying133 sz131) <| yv (y_idxA Tryz.underlying131 sz3 rfl rfl (by omega)) ?_; refine yv (y_load1 ag3 rfl (Rd.pt1 pkk (rc_ct hl hcl (show s + 1 < 32 by omega) (by omega)))) ?_; refine yv (y_addn rfl rfl (by simp only [InK]; omega)) ?_; refine yv y_as <| Hd.nil <| slots [(0,_),(3,_),(4,_)] sbq ?_; refine Hd.inB <| Hd.toK K7 ?_; refine Hd.region <| yv y_mv <| yv (y_addn rfl rfl (by simp only [InK]; omega)) ?_; refine yv y_as <| Hd.nil <| slots [(0,_),(3,_),(4,_)] sbq ?_; refine thenN ?_; rw [← hsc]; exact Hd.again (s + 1) (by omega) sbq (Ent.sep (.pure (by omega) enn))
 obtain rfl : s = 31 := by omega
 refine Hd.exit <| Hd.thenExit <| Hd.thenExit <| Hd.inBexit <| Hd.toK K3 ?_; refine sr fun _ K8 => ?_
 refine yv y_mv <| yv y_as <| fk [(2,_)] K8 ?_; refine Hd.ret ?_
 have e : ((w.ct.drop 1).take 31).sum = pendN w := by unfold pendN; rw [List.take_of_length_le (by omega)]
 rw [← e]; exact Hd.ret1 rfl () rfl (rw_fold hi)
abbrev frN (w : WA) (i : Nat) : List Nat := (List.range i).filter fun fd : Nat => (w.at (fd : Int)).isNone
theorem rfree_ct (L : List SP) (b : Nat) (w : WA) (hw : WOk w) : Ct Tryz.prog 114 #[.pointer (some ⟨b, 0, none⟩)] (RwP b w :: L) (fun q_ : Option Addr × Nat => .slice q_.1 (frees w.at).length q_.2) (fun q_ : Option Addr × Nat => own 3 1 q_.1 (frees w.at).length q_.2 (nats (frees w.at)) :: RwP b w :: L) := by
 refine Ct.o1 Tryz.func114 ?_; intro E
 show Hd E 24 _ _ _ _
 refine sr fun _ K1 => ?_
 refine yv y_as <| fk [(0,_)] K1 ?_; refine sr fun _ K2 => ?_
 refine yv y_as <| fk [(0,_),(3,_)] K2 ?_; refine Hd.seq fun _ K3 => ?_
 refine sr fun _ K4 => ?_
 refine yv y_as <| fk [(0,_),(3,_),(4,_)] K4 ?_; refine Hd.block <| Hd.loopK (ι := Nat × Option Addr × Nat) [(0,_)] (fun q_ => [(3, .slice q_.2.1 (frN w q_.1).length q_.2.2), (4, .int .i64 (q_.1 : Int))]) (fun q_ => pu (q_.1 ≤ 96) :: own 3 1 q_.2.1 (frN w q_.1).length q_.2.2 (nats (frN w q_.1)) :: RwP b w :: L) (fun q_ => 96 - q_.1) (0, none, 0) sbq sbq (fun q t => Ent.sep (.pure (Nat.zero_le _) (.ownNil .same)) q t) ?_; rintro ⟨i, ad, c⟩
 try dsimp only
 refine Hd.pure (fun hp0 => ?_)
 try dsimp only at hp0
 refine Hd.seq fun _ K5 => ?_
 refine sr fun _ K6 => ?_
 refine yv y_mv <| yv (y_leq rfl rfl) ?_; refine fk [(0,_),(3,_),(4,_),(8,_)] K6 ?_; refine qz ?_ ?_ <;> intro hc0 <;> try simp only [hyZ] at hc0
 ·have hi : i < 96 := by omega
  have hsf := range_succ_filter (fun fd : Nat => (w.at (fd : Int)).isNone) i
  have hll : (frN w i).length ≤ i := by
   have := List.length_filter_le (fun fd : Nat => (w.at (fd : Int)).isNone) (List.range i)
   rwa [List.length_range] at this
  obtain ⟨g, hg⟩ : ∃ g, g = frN w i := ⟨_, rfl⟩
  rw [← hg] at hll ⊢
  have hsg : frN w (i + 1) = g ++ (if (w.at (i : Int)).isNone = true then [i] else []) := by rw [hg]; refine Eq.trans hsf ?_; split <;> simp
  refine qv K5 <| Hd.seq fun _ K7 => ?_
  refine Hd.block <| sr fun _ K8 => ?_
  refine yv y_mv <| yv y_mv <| callE rfl fk116 (rat_ct _ b w hw (i : Int)) sq ?_; intro _; refine yv y_mv <| yv y_ex <| yv y_ex <| yv y_as <| yv y_as <| fk [(0,_),(3,_),(4,_),(5,_)] K8 ?_; refine sr fun _ K9 => ?_
  refine yv y_mv <| yv (y_lss rfl rfl) ?_; refine fk [(0,_),(3,_),(4,_),(18,_)] K9 ?_; refine qz ?_ ?_ <;> intro hc1 <;> try simp only [hyZ] at hc1
  ·refine Hd.region ?_
   refine yv y_mv <| yv y_mv <| Hd.bslice (vs := [(0,_)]) rfl (by exact bs114_21 ..) (fun b21 => ?_); refine Hd.append Tryz.underlying44 ty3 rfl rfl rfl pkk (by exact RdS.rd (Rd.pt pkk (fun j v e => by simpa using e)) rfl) (by simp [Value.oneCell']; done) (by simp only [maxLen]; omega) (by omega) (fun ad22 cap22 => ?_); refine yv y_as <| Hd.nil <| slots [(0,_),(3,_),(4,_)] sbq ?_; refine Hd.inB <| Hd.toK K7 ?_; refine Hd.region <| yv y_mv <| yv (y_addn rfl rfl (by simp only [InK]; omega)) ?_; refine yv y_as <| Hd.nil <| slots [(0,_),(3,_),(4,_)] sbq ?_; refine thenN ?_
   have hfr : (w.at (i : Int)).isNone = true := by rw [atN_no hc1]; rfl
   rw [if_pos hfr] at hsg; refine Hd.again (i + 1, ad22, cap22) (by show 96 - (i + 1) < 96 - i; omega) (by rw [hsg]; simp only [List.length_append, List.length_singleton]; repeat (first | exact trivial | refine ⟨rfl, ?_⟩)) (fun q t => ?_); rw [hsg]; exact Ent.sep (.pure (show i + 1 ≤ 96 by omega) (.eq pkk (own_eq3 (by simp) rfl (by simp [nats])) enn)) q t
  refine Hd.skip <| Hd.inB <| Hd.toK K7 ?_; refine Hd.region <| yv y_mv <| yv (y_addn rfl rfl (by simp only [InK]; omega)) ?_; refine yv y_as <| Hd.nil <| slots [(0,_),(3,_),(4,_)] sbq ?_; refine thenN ?_
  have hfr : ¬ ((w.at (i : Int)).isNone = true) := by
   obtain ⟨n, k, hnk⟩ := atN_yes (by omega : 0 ≤ atN (w.at (i : Int)))
   rw [hnk]; simp
  rw [if_neg hfr, List.append_nil] at hsg; refine Hd.again (i + 1, ad, c) (by show 96 - (i + 1) < 96 - i; omega) (by rw [hsg]; repeat (first | exact trivial | refine ⟨rfl, ?_⟩)) (fun q t => ?_); rw [hsg]; exact Ent.sep (.pure (show i + 1 ≤ 96 by omega) enn) q t
 obtain rfl : i = 96 := by omega
 refine Hd.exit <| Hd.thenExit <| Hd.thenExit <| Hd.inBexit <| Hd.toK K3 ?_; refine sr fun _ K10 => ?_
 refine yv y_mv <| yv y_as <| fk [(2,_)] K10 ?_; refine Hd.ret ?_; exact Hd.ret1 rfl (ad, c) rfl sq
theorem closeAll_snoc : ∀ (l : List Nat) (ws : List WireA) (a : Nat), closeAll ws (l ++ [a]) = (match (closeAll ws l)[a]? with | some y => (closeAll ws l).set a (closeW y 0) | none => closeAll ws l)
 | [], _, _ => rfl
 | n :: t, ws, a => closeAll_snoc t _ a
theorem closeAll_len : ∀ (l : List Nat) (ws : List WireA), (closeAll ws l).length = ws.length
 | [], _ => rfl
 | n :: t, ws => by
  show (closeAll (match ws[n]? with | some y => ws.set n (closeW y 0) | none => ws) t).length = _
  rw [closeAll_len t]
  split <;> simp
def clI (w : WA) (n : Nat) (X : WireA) (l : List Nat) : WA := { w with ws := (closeAll w.ws l).set n X }
theorem clI_nil (w : WA) (n : Nat) (X : WireA) : clI w n X [] = w.setW n X := rfl
theorem clI_at {w : WA} {n : Nat} {X : WireA} (l : List Nat) (hn : n < w.ws.length) : (clI w n X l).ws[n]? = some X := by
 show ((closeAll w.ws l).set n X)[n]? = _
 rw [List.getElem?_set_self (by rw [closeAll_len]; exact hn)]
theorem clI_some {w : WA} {n a : Nat} {X : WireA} (l : List Nat) (ha : a < w.ws.length) : ∃ y, (clI w n X l).ws[a]? = some y := by
 refine ⟨_, List.getElem?_eq_getElem (?_ : a < ((closeAll w.ws l).set n X).length)⟩; rw [List.length_set, closeAll_len]; exact ha
theorem clI_step {w : WA} {n a : Nat} {X y : WireA} {l : List Nat} (hna : n ≠ a) (hy : (clI w n X l).ws[a]? = some y) : (clI w n X l).setW a (closeW y 0) = clI w n X (l ++ [a]) := by
 have hy2 : (closeAll w.ws l)[a]? = some y := by
  have : ((closeAll w.ws l).set n X)[a]? = some y := hy
  rwa [List.getElem?_set_ne hna] at this
 show ({ w with ws := ((closeAll w.ws l).set n X).set a (closeW y 0) } : WA) = { w with ws := (closeAll w.ws (l ++ [a])).set n X }
 rw [closeAll_snoc, hy2, List.set_comm _ _ hna]
theorem clI_end {w : WA} {n : Nat} {X : WireA} {l : List Nat} (hn : n ∉ l) : (clI w n X l).setW n (X.wts []) = { w with ws := closeAll (w.ws.set n (X.wts [])) l } := by
 show ({ w with ws := ((closeAll w.ws l).set n X).set n (X.wts []) } : WA) = _
 rw [List.set_set, closeAll_set l w.ws hn]
theorem rset_wt {rs : List Row} {n o : Nat} {x : WireA} {j : RwI} (h : rs[n]? = some (x, j)) (ho : o = n * 20 + 19) : (rs.flatMap encRW).set o (.slice none 0 0) = (rs.set n (x.wts [], { j with wa := none, wc := 0 })).flatMap encRW := by
 subst ho; refine rows_set (j := 19) encRW_len (by omega) ?_ h (by omega)
 rfl
theorem bag_back {α : Type} {f : α → SP} {rs : List α} {j : Nat} {x : α} {L : List SP} {h : PH} (hj : rs[j]? = some x) (s : sep (f x :: Bag f (rs.take j) :: Bag f (rs.drop (j + 1)) :: L) h) : sep (Bag f rs :: L) h := by
 obtain ⟨hl, e⟩ := List.getElem?_eq_some_iff.1 hj
 have := bag_in hl s
 rwa [← e, List.set_getElem_self] at this
theorem sd_wt {X : WireA} {j : RwI} {L : List SP} : ∀ h, sep (SdL (X, j) 0 L) h → sep (Sd (X.wts [], { j with wa := none, wc := 0 }) :: L) h := fun h s =>
 sd_fold (p := (X.wts [], { j with wa := none, wc := 0 })) (k := 0) (by decide) h (show sep (SdB (X, j) 0 :: SdB (X, j) (1 - 0) :: own 3 1 none 0 0 [] :: L) h from
  Ent.sep (show Ent (SdB (X, j) 0 :: SdB (X, j) (1 - 0) :: SdW (X, j) :: L) (SdB (X, j) 0 :: SdB (X, j) (1 - 0) :: own 3 1 none 0 0 [] :: L) from .pick pkk (.pick pkk (.ownNil enn))) h s)
theorem rClose_ct (L : List SP) (b : Nat) (w : WA) (hw : WOk w) (fd : Int) : Ct Tryz.prog 68 #[.pointer (some ⟨b, 0, none⟩), .int .i64 fd] (RwP b w :: L) (fun _ : Unit => .int .i64 (closeF w fd).1) (fun _ : Unit => RwP b (closeF w fd).2 :: L) := by
 refine Ct.o2 Tryz.func68 ?_; intro E
 show Hd E 53 _ _ _ _
 refine sr fun _ K1 => ?_
 refine yv y_as <| fk [(0,_),(1,_)] K1 ?_; refine sr fun _ K2 => ?_
 refine yv y_mv <| yv y_mv <| callE rfl fk116 (rat_ct _ b w hw fd) sq ?_; intro _; refine yv y_mv <| yv y_ex <| yv y_ex <| yv y_as <| yv y_as <| fk [(0,_),(5,_),(6,_)] K2 ?_; refine Hd.seq fun _ K3 => ?_
 refine sr fun _ K4 => ?_
 refine yv y_mv <| yv (y_lss rfl rfl) ?_; refine fk [(0,_),(5,_),(6,_),(15,_)] K4 ?_; refine qz ?_ ?_ <;> intro hc0 <;> try simp only [hyZ] at hc0
 ·have hno := atN_no hc0
  refine sr fun _ K5 => ?_
  refine yv y_as <| fk [(4,_)] K5 ?_; refine Hd.ret <| Hd.thenRet ?_; rw [show closeF w fd = (110, w) by unfold closeF; rw [hno]]; exact Hd.ret1 rfl () rfl sq
 obtain ⟨n, k, hnk⟩ := atN_yes (by omega)
 obtain ⟨_, _, hk, hnl, x, hx, _, _⟩ := hw.at_lt hnk
 rw [show atN (w.at fd) = (n : Int) by rw [hnk]; rfl, show atK (w.at fd) = (k : Int) by rw [hnk]; rfl]
 obtain ⟨X, hX⟩ : ∃ X, X = closeW x k := ⟨_, rfl⟩
 have hXw : X.wt = x.wt := by rw [hX]; rfl
 have hns := hw.ns n x hx
 have hwl : ∀ a ∈ x.wt, a < w.ws.length := fun a ha => by
  obtain ⟨y, hy, _⟩ := hw.wm a (List.mem_flatMap.2 ⟨x, List.mem_of_getElem? hx, ha⟩)
  exact (List.getElem?_eq_some_iff.1 hy).1
 have hlen := hw.len
 have hwf := hw.wf x (List.mem_of_getElem? hx)
 have hwt := wt_le hw hx
 refine qv K3 <| sr fun _ K6 => ?_
 refine yv y_mv <| yv y_mv <| yv y_mv <| callE rfl fk123 (rclose_ct _ b w n x hx k hk) sq ?_; intro _; rw [← hX, ← clI_nil]; refine fk [(0,_),(5,_)] K6 ?_; refine Hd.seq fun _ K7 => ?_
 refine sr fun _ K8 => ?_
 refine yv y_as <| fk [(0,_),(5,_),(7,_)] K8 ?_; refine Hd.block <| Hd.loopK (ι := Nat) [(0,_),(5,_)] (fun i => [(7, .int .i64 (i : Int))]) (fun i => pu (i ≤ x.wt.length) :: RwP b (clI w n X (x.wt.take i)) :: L) (fun i => x.wt.length - i) 0 sbq sbq (Ent.sep (.pure (by omega) enn)) ?_; intro i
 try dsimp only
 refine Hd.pure (fun hp0 => ?_)
 try dsimp only at hp0
 refine Hd.seq fun _ K9 => ?_
 refine sr fun _ K10 => ?_
 have hx2 := clI_at (w := w) (X := X) (x.wt.take i) hnl
 refine Hd.rw .here (fun i' hi' => ?_)
 have hrl' := rows_n hi'
 obtain ⟨j', hrow'⟩ := row_at hi' hx2
 have hn' : n < i'.1.length := (List.getElem?_eq_some_iff.1 hrow').1
 refine yv y_mv <| yv y_mv <| yv y_np <| yv (y_f 0 129 Tryz.underlying133 sz129) <| yv (y_l1 ag129 rfl) <| yv y_mv <| yv (y_idxR Tryz.underlying129 sz221 rfl rfl (by omega) (by exact RdS.own pkk)) ?_; refine yv (y_fR 19 44 Tryz.underlying221 sz44) ?_; refine yv (y_to (v' := .slice j'.wa x.wt.length j'.wc) (y_rw ag44 rfl hrow' 19 rfl) (by (rw [← hXw]))) ?_; refine yv (y_len Tryz.underlying44 rfl) ?_; refine yv (y_lss rfl rfl) ?_; refine fk [(0,_),(5,_),(7,_),(30,_)] K10 ?_; refine qz ?_ ?_ <;> intro hc1 <;> try simp only [hyZ] at hc1
 ·have hi : i < x.wt.length := by omega
  have hiX : i < X.wt.length := by rw [hXw]; exact hi
  obtain ⟨a, ha⟩ : ∃ a, a = x.wt[i] := ⟨_, rfl⟩
  have hga : x.wt[i]? = some a := by rw [ha]; exact List.getElem?_eq_getElem hi
  have hma : a ∈ x.wt := List.mem_of_getElem? hga
  have hna : n ≠ a := fun e => hns (e ▸ hma)
  obtain ⟨y, hy⟩ := clI_some (w := w) (n := n) (X := X) (x.wt.take i) (hwl a hma)
  have htk : x.wt.take (i + 1) = x.wt.take i ++ [a] := by rw [List.take_add_one, hga]; rfl
  have hgv : (nats X.wt)[i * 1]? = some (.int .i64 (a : Int)) := by rw [hXw, Nat.mul_one, List.getElem?_map, hga]; rfl
  refine Hd.bagOut pkk hrow' ?_; refine Hd.sd .here 0 (by decide) ?_; refine qv K9 <| Hd.seq fun _ K11 => ?_
  refine Hd.block <| Hd.region <| yv y_mv <| yv y_mv <| yv y_np <| yv (y_f 0 129 Tryz.underlying133 sz129) <| yv (y_l1 ag129 rfl) <| yv y_mv <| yv (y_idxR Tryz.underlying129 sz221 rfl rfl (by omega) (by exact RdS.own pkk)) ?_; refine yv (y_fR 19 44 Tryz.underlying221 sz44) ?_; refine yv (y_rw ag44 rfl hrow' 19 rfl) ?_; refine yv y_mv <| yv (y_idxR Tryz.underlying44 sz3 rfl rfl (by omega) (by exact RdS.own pkk)) ?_; refine yv (y_loadR1 ag3 rfl (RdS.own (ad := j'.wa) (us := nats X.wt) pkk) hgv) ?_; refine Hd.heap (RwP b (clI w n X (x.wt.take i)) :: L) (sep_trans (sep_trans sq (sd_fold (p := (X, j')) (k := 0) (by decide) (L := Bag Sd (i'.1.take n) :: Bag Sd (i'.1.drop (n + 1)) :: RwH b (clI w n X (x.wt.take i)) i'.1.length i'.2.1 i'.2.2 :: OwR i' :: L))) (fun q s => rw_fold hi' q (Ent.sep enn q (bag_back hrow' s)))) ?_; refine callE rfl fk123 (rclose_ct _ b _ a y hy 0 (by decide)) sq ?_
  intro _; rw [clI_step hna hy, ← htk]; refine Hd.nil <| slots [(0,_),(5,_),(7,_)] sbq ?_; refine Hd.inB <| Hd.toK K11 ?_; refine Hd.region <| yv y_mv <| yv (y_addn rfl rfl (by simp only [InK]; omega)) ?_; refine yv y_as <| Hd.nil <| slots [(0,_),(5,_),(7,_)] sbq ?_; refine thenN ?_; exact Hd.again (i + 1) (by omega) sbq (Ent.sep (.pure (by omega) enn))
 obtain rfl : i = x.wt.length := by omega
 rw [List.take_length] at *; refine Hd.bagOut pkk hrow' ?_; refine Hd.sd .here 0 (by decide) ?_; refine Hd.exit <| Hd.thenExit <| Hd.thenExit <| Hd.inBexit <| Hd.toK K7 ?_; refine sr fun _ K12 => ?_
 refine yv y_mv <| yv y_np <| yv (y_f 0 129 Tryz.underlying133 sz129) <| yv (y_l1 ag129 rfl) <| yv y_mv <| yv (y_idxR Tryz.underlying129 sz221 rfl rfl (by omega) (by exact RdS.own pkk)) ?_; refine yv (y_fR 19 44 Tryz.underlying221 sz44) ?_; refine Hd.storeO1 sz44 rfl rfl rfl pkk (by rw [rows_len encRW_len]; omega) ?_
 try simp only [hyS]
 refine Hd.nil ?_; rw [rset_wt hrow' (by omega)]; refine sk [] K12 ?_; refine sr fun _ K13 => ?_
 refine yv y_as <| fk [(4,_)] K13 ?_; refine Hd.ret ?_
 have e := clI_end (w := w) (X := X) hns
 rw [show closeF w fd = (0, { w with ws := closeAll (w.ws.set n (X.wts [])) x.wt }) by unfold closeF; rw [hnk]; dsimp only; rw [hx, hX], ← e]; refine Hd.heap (RwP b ((clI w n X x.wt).setW n (X.wts [])) :: L) (fun q s => ?_) (Hd.ret1 rfl () rfl sq)
 have s1 : sep (SdL (X, j') 0 (Bag Sd (i'.1.take n) :: Bag Sd (i'.1.drop (n + 1)) :: RwH b (clI w n X x.wt) i'.1.length i'.2.1 i'.2.2 :: own 221 20 i'.2.1 i'.1.length i'.2.2 ((i'.1.set n (X.wts [], { j' with wa := none, wc := 0 })).flatMap encRW) :: L)) q := Ent.sep enn q s
 exact rw_put hi' hn' q (Ent.sep enn q (sd_wt q s1))
theorem ntV0 (o : Option (Nat × Nat)) : (ntV o)[0]? = some (.int .i64 (atN o)) := by cases o <;> rfl
theorem rnoticed_ct (L : List SP) (b : Nat) (w : WA) (hw : WOk w) (hb : ∀ c ∈ w.ct, 0 ≤ c ∧ c ≤ 2000000000) : Ct Tryz.prog 182 #[.pointer (some ⟨b, 0, none⟩)] (RwP b w :: L) (fun _ : Unit => .tuple #[]) (fun _ : Unit => RwP b (ntcR w) :: L) := by
 refine Ct.o1 Tryz.func182 ?_; intro E
 show Hd E 73 _ _ _ _
 have hl := hw.hdl
 have hcl := hw.ctl
 refine Hd.rw .here (fun i hi => ?_); refine Hd.seq fun _ K1 => ?_
 refine sr fun _ K2 => ?_
 refine yv y_mv <| yv y_np <| yv (y_f 66 3 Tryz.underlying133 sz3) <| yv (y_load1 (v := .int .i64 (atN w.nt)) ag3 rfl (Rd.pt1 pkk (rc_nt (j := 0) hl hcl (ntV0 _) (by omega)))) ?_; refine yv (y_lss rfl rfl) ?_; refine fk [(0,_),(8,_)] K2 ?_; refine qz ?_ ?_ <;> intro hc0 <;> try simp only [hyZ] at hc0
 ·refine Hd.ret ?_
  refine Hd.thenRet ?_
  have hn := atN_no hc0
  rw [show ntcR w = w by unfold ntcR; rw [hn]]; exact Hd.ret0 rfl () rfl (rw_fold hi)
 obtain ⟨n, k, hnt⟩ := atN_yes (by omega : 0 ≤ atN w.nt)
 obtain ⟨hk, x, hx, z0, z1⟩ := hw.nt n k hnt
 have hwf := hw.wf x (List.mem_of_getElem? hx)
 have hk1 : 1 - k < 2 := by omega
 have hR : ntcR w = if pendN w = 0 then w.setW n (takeW x k (x.e k).b.length) else if (x.e k).b = [] then w.setW n (putW x (1 - k) [1]) else w := by
  unfold ntcR; rw [hnt]; dsimp only; rw [hx]
 refine Hd.heap (RwP b w :: L) (rw_fold hi) ?_; refine qv K1 <| sr fun _ K3 => ?_
 refine yv y_mv <| callE rfl fk199 (rPending_ct _ b w hw hb) sq ?_; intro _; refine yv y_as <| fk [(0,_),(2,_)] K3 ?_; refine Hd.seq fun _ K4 => ?_
 refine Hd.seq fun _ K5 => ?_
 refine Hd.rw .here (fun i hi => ?_)
 have hrl := rows_n hi
 obtain ⟨j, hrow⟩ := row_at hi hx
 have hn : n < i.1.length := (List.getElem?_eq_some_iff.1 hrow).1
 refine Hd.region <| yv y_mv <| yv (y_eql rfl rfl) ?_; refine fk [(0,_),(12,_)] K5 ?_; refine qz ?_ ?_ <;> intro hc1 <;> try simp only [hyZ] at hc1
 ·rw [if_pos (show pendN w = 0 from hc1)] at hR
  refine Hd.seq fun _ K6 => ?_
  refine Hd.quiet mixed kq ?_; refine Hq.yv y_mv ?_; refine Hq.yv y_np ?_; refine Hq.yv (y_f 0 129 Tryz.underlying133 sz129) ?_; refine Hq.yv (y_l1 ag129 rfl) ?_; refine Hq.yv y_mv ?_; refine Hq.yv y_np ?_; refine Hq.yv (y_f 66 3 Tryz.underlying133 sz3) ?_; refine Hq.yv (y_load1 (v := .int .i64 (n : Int)) ag3 rfl (Rd.pt1 pkk (rc_nt (j := 0) hl hcl (by rw [hnt]; rfl) (by omega)))) ?_; refine Hq.yv y_mv ?_; refine Hq.yv y_np ?_; refine Hq.yv (y_f 67 3 Tryz.underlying133 sz3) ?_; refine Hq.yv (y_load1 (v := .int .i64 (k : Int)) ag3 rfl (Rd.pt1 pkk (rc_nt (j := 1) hl hcl (by rw [hnt]; rfl) (by omega)))) ?_; refine Hq.yv (y_idxR Tryz.underlying129 sz221 rfl rfl (by omega) (by exact RdS.own pkk)) ?_; refine Hq.yv (y_fR 0 219 Tryz.underlying221 sz219) ?_; refine Hq.yv (y_idxAR Tryz.underlying219 sz218 rfl rfl (by omega)) ?_; refine Hq.yv (y_fR 4 31 Tryz.underlying218 sz31) ?_; refine Hq.yv (y_rc ag31 rfl hrow hk 4 rfl) ?_
  refine Hq.yv (y_len Tryz.underlying31 rfl) ?_; refine Hq.yv y_as ?_; refine Hq.nil ?_; refine sk [(0,_),(3,_)] K6 ?_; refine Hd.seq fun _ K7 => ?_
  refine Hd.drawsH ([RwH b w i.1.length i.2.1 i.2.2]) (fun j => !([10].contains j)) mixed ?_; simp only [List.length, Nat.zero_add, Nat.reduceAdd]; refine tH 0 rfl y_mv <| Hd.takeT [2, 3, 4, 10] 1 rfl kq kq kq kq y_mv fq sq ?_; refine Hd.takeT [3, 4, 10] 2 rfl kq kq kq kq y_np fq sq ?_; refine Hd.takeT [4, 10] 3 rfl kq kq kq kq (y_f 66 3 Tryz.underlying133 sz3) fq sq ?_; refine tH 4 rfl (y_load1 (v := .int .i64 (n : Int)) ag3 rfl (Rd.pt1 pkk (rc_nt (j := 0) hl hcl (by rw [hnt]; rfl) (by omega)))) ?_; refine Hd.takeT [6, 7, 8, 10] 5 rfl kq kq kq kq y_mv fq sq ?_; refine Hd.takeT [7, 8, 10] 6 rfl kq kq kq kq y_np fq sq ?_; refine Hd.takeT [8, 10] 7 rfl kq kq kq kq (y_f 67 3 Tryz.underlying133 sz3) fq sq ?_; refine tH 8 rfl (y_load1 (v := .int .i64 (k : Int)) ag3 rfl (Rd.pt1 pkk (rc_nt (j := 1) hl hcl (by rw [hnt]; rfl) (by omega)))) ?_; refine tH 9 rfl y_mv <| qo 10 ?_; refine Hd.heap (RwP b w :: L) (rw_fold hi) ?_
  refine callE rfl fk118 (rget_ct _ b w n x hx k hk ((x.e k).b.length : Int) (by omega)) sq ?_; rintro ⟨ad, c⟩; refine qn <| endH kq ?_; refine sk [] K7 ?_; refine Hd.ret <| Hd.thenRet ?_; rw [hR]; exact Hd.ret0 rfl () rfl sq
 rw [if_neg (show ¬ pendN w = 0 from hc1)] at hR; refine qv K4 <| Hd.seq fun _ K8 => ?_
 refine Hd.quiet mixed kq ?_; refine Hq.yv y_mv ?_; refine Hq.yv y_np ?_; refine Hq.yv (y_f 0 129 Tryz.underlying133 sz129) ?_; refine Hq.yv (y_l1 ag129 rfl) ?_; refine Hq.yv y_mv ?_; refine Hq.yv y_np ?_; refine Hq.yv (y_f 66 3 Tryz.underlying133 sz3) ?_; refine Hq.yv (y_load1 (v := .int .i64 (n : Int)) ag3 rfl (Rd.pt1 pkk (rc_nt (j := 0) hl hcl (by rw [hnt]; rfl) (by omega)))) ?_; refine Hq.yv y_mv ?_; refine Hq.yv y_np ?_; refine Hq.yv (y_f 67 3 Tryz.underlying133 sz3) ?_; refine Hq.yv (y_load1 (v := .int .i64 (k : Int)) ag3 rfl (Rd.pt1 pkk (rc_nt (j := 1) hl hcl (by rw [hnt]; rfl) (by omega)))) ?_; refine Hq.yv (y_idxR Tryz.underlying129 sz221 rfl rfl (by omega) (by exact RdS.own pkk)) ?_; refine Hq.yv (y_fR 0 219 Tryz.underlying221 sz219) ?_; refine Hq.yv (y_idxAR Tryz.underlying219 sz218 rfl rfl (by omega)) ?_; refine Hq.yv (y_fR 4 31 Tryz.underlying218 sz31) ?_; refine Hq.yv (y_rc ag31 rfl hrow hk 4 rfl) ?_
 refine Hq.yv (y_len Tryz.underlying31 rfl) ?_; refine Hq.yv (y_eql rfl rfl) ?_; refine Hq.nil ?_; refine sk [(0,_),(60,_)] K8 ?_; refine qz ?_ ?_ <;> intro hc2 <;> try simp only [hyZ] at hc2
 ·have hnil : (x.e k).b = [] := List.eq_nil_of_length_eq_zero (by omega)
  rw [if_pos hnil] at hR; refine Hd.drawsH ([RwH b w i.1.length i.2.1 i.2.2]) (fun j => !([11].contains j)) mixed ?_; simp only [List.length, Nat.zero_add, Nat.reduceAdd]; refine tH 0 rfl y_mv <| Hd.takeT [2, 3, 4, 11] 1 rfl kq kq kq kq y_mv fq sq ?_; refine Hd.takeT [3, 4, 11] 2 rfl kq kq kq kq y_np fq sq ?_; refine Hd.takeT [4, 11] 3 rfl kq kq kq kq (y_f 66 3 Tryz.underlying133 sz3) fq sq ?_; refine tH 4 rfl (y_load1 (v := .int .i64 (n : Int)) ag3 rfl (Rd.pt1 pkk (rc_nt (j := 0) hl hcl (by rw [hnt]; rfl) (by omega)))) ?_; refine Hd.takeT [6, 7, 8, 9, 11] 5 rfl kq kq kq kq y_mv fq sq ?_; refine Hd.takeT [7, 8, 9, 11] 6 rfl kq kq kq kq y_np fq sq ?_; refine Hd.takeT [8, 9, 11] 7 rfl kq kq kq kq (y_f 67 3 Tryz.underlying133 sz3) fq sq ?_; refine Hd.takeT [9, 11] 8 rfl kq kq kq kq (y_load1 (v := .int .i64 (k : Int)) ag3 rfl (Rd.pt1 pkk (rc_nt (j := 1) hl hcl (by rw [hnt]; rfl) (by omega)))) fq sq ?_
  refine tH 9 rfl (y_to (v' := .int .i64 ((1 - k : Nat) : Int)) (y_subn rfl rfl (by simp only [InK]; omega)) (by (congr 1; omega))) ?_; refine qo 10 ?_; refine Hd.bslice (vs := [(0,_)]) rfl (by exact bs182_71 ..) (fun b71 => ?_); refine qk <| qo 11 ?_; refine Hd.heap (RwP b w :: pt b71 [.int .u8 1] 5 :: L) (fun q s => rw_fold hi q (Ent.sep enn q s)) ?_; refine callE rfl fk119 (rfill_ct _ b w n x hx hwf (1 - k) hk1 (some ⟨b71, 0, none⟩) 1 1 [1] rfl ?hD (by omega) (by omega)) sq ?_
  case hD => exact RdS.rd (Rd.pt pkk (fun j v e => by rw [Nat.zero_add]; exact e)) rfl
  intro _; refine qn <| endH kq ?_; refine slots [] sbq ?_; rw [hR]; exact Hd.end0 rfl () rfl sq
 rw [if_neg (fun h => hc2 (by rw [h]; rfl))] at hR; refine Hd.skip ?_; rw [hR]; exact Hd.end0 rfl () rfl (rw_fold hi)
theorem rc_set_hd {w : WA} {n c s o : Nat} {ad : Option Addr} {v : Bool} (hl : w.hd.length = 32) (hs : s < 32) (ho : o = 2 + s) : (RwC w n ad c).set o (.bool v) = RwC { w with hd := w.hd.set s v } n ad c := by
 subst ho; rw [List.set_append_right _ _ (by simp), List.set_append_left _ _ (by simp; omega)]
 have e : 2 + s - ([Value.slice ad n c, Value.int .u64 w.now] : List Value).length = s := by simp
 rw [e, ← List.map_set]
theorem rc_set_ct {w : WA} {n c s o : Nat} {ad : Option Addr} {v : Int} (hl : w.hd.length = 32) (hc : w.ct.length = 32) (hs : s < 32) (ho : o = 34 + s) : (RwC w n ad c).set o (.int .i64 v) = RwC { w with ct := w.ct.set s v } n ad c := by
 subst ho; rw [List.set_append_right _ _ (by simp; omega), List.set_append_right _ _ (by simp; omega), List.set_append_left _ _ (by simp; omega)]
 have e : 34 + s - ([Value.slice ad n c, Value.int .u64 w.now] : List Value).length - (w.hd.map Value.bool).length = s := by simp; omega
 rw [e, ← List.map_set]
theorem wok_sg {w : WA} (hw : WOk w) {hd : List Bool} {ct : List Int} (hl : hd.length = 32) (hc : ct.length = 32) : WOk { w with hd := hd, ct := ct } :=
 { uq := hw.uq, fd := hw.fd, len := hw.len, hdl := hl, ctl := hc, wf := hw.wf, wn := hw.wn, wm := hw.wm, nt := hw.nt, ns := hw.ns }
theorem rc_len {w : WA} {n c : Nat} {ad : Option Addr} (hl : w.hd.length = 32) (hc : w.ct.length = 32) : (RwC w n ad c).length = 68 := by
 have : (ntV w.nt).length = 2 := by cases w.nt <;> rfl
 simp only [RwC, List.length_append, List.length_map, hl, hc, this, List.length_cons, List.length_nil]
theorem set_bd {l : List Int} {K : Int} (h : ∀ c ∈ l, 0 ≤ c ∧ c ≤ K) (s : Nat) {v : Int} (hv : 0 ≤ v ∧ v ≤ K) : ∀ c ∈ l.set s v, 0 ≤ c ∧ c ≤ K := fun c hc => by
 rcases List.mem_or_eq_of_mem_set hc with h1 | rfl
 ·exact h c h1
 ·exact hv
theorem rHandle_ct (L : List SP) (b : Nat) (w : WA) (hw : WOk w) (hb : ∀ c ∈ w.ct, 0 ≤ c ∧ c ≤ 2000000000) (s : Int) (on : Bool) : Ct Tryz.prog 138 #[.pointer (some ⟨b, 0, none⟩), .int .i64 s, .bool on] (RwP b w :: L) (fun _ : Unit => .int .i64 (hanR w s on).1) (fun _ : Unit => RwP b (hanR w s on).2 :: L) := by
 refine Ct.o3 Tryz.func138 ?_; intro E
 show Hd E 30 _ _ _ _
 have hl := hw.hdl
 have hcl := hw.ctl
 refine sr fun _ K1 => ?_
 refine yv y_as <| fk [(0,_),(1,_),(2,_)] K1 ?_; refine Hd.seq fun _ K2 => ?_
 refine sr fun _ K3 => ?_
 refine yv y_mv <| yv (y_lss rfl rfl) ?_; refine yv y_mv ?_; apply Hd.org 3 9 12 [(0,_),(1,_),(2,_)] rfl sbq
 ·intro hg1_9
  try simp only [hyZ] at hg1_9
  simp only [List.take]; refine n1 <| n1 <| yv (y_pickT rfl rfl) ?_; exact Hd.mn
 ·intro hg1_9
  try simp only [hyZ] at hg1_9
  simp only [List.take]; refine y2 y_mv <| y2 (y_gtr rfl rfl) ?_; refine yv (y_pickF rfl rfl) ?_; exact Hd.mn
 simp only [List.drop]; refine fk [(0,_),(1,_),(2,_),(12,_)] K3 ?_; refine qz ?_ ?_ <;> intro hc0 <;> try simp only [hyZ] at hc0
 ·refine sr fun _ K4 => ?_
  refine yv y_mv <| callE rfl fk182 (rnoticed_ct _ b w hw hb) sq ?_; intro _; refine fk [] K4 ?_; refine sr fun _ K5 => ?_
  refine yv y_as <| fk [(6,_)] K5 ?_; refine Hd.ret <| Hd.thenRet ?_; rw [show hanR w s on = (100, ntcR w) from if_pos (by omega)]; exact Hd.ret1 rfl () rfl sq
 obtain ⟨k, rfl, hk1, hk⟩ : ∃ k : Nat, s = (k : Int) ∧ 1 ≤ k ∧ k < 32 := ⟨s.toNat, by omega, by omega, by omega⟩
 refine Hd.rw .here (fun i hi => ?_); refine qv K2 <| sr fun _ K6 => ?_
 refine yv y_mv <| yv y_mv <| yv y_mv <| yv y_np <| yv (y_f 2 130 Tryz.underlying133 sz130) <| yv (y_idxA Tryz.underlying130 sz4 rfl rfl (by omega)) ?_; refine Hd.store1 sz4 rfl rfl rfl pkk (by rw [rc_len hl hcl]; omega) ?_
 try simp only [hyS]
 refine Hd.nil ?_; rw [rc_set_hd (s := k) (o := 0 + 2 + k * 1) hl hk (by omega)]; refine sk [(0,_),(1,_),(2,_)] K6 ?_; refine Hd.seq fun _ K7 => ?_
 refine sr fun _ K8 => ?_
 refine yv y_mv <| yv (y_not rfl) <| fk [(0,_),(1,_),(22,_)] K8 ?_; refine qz ?_ ?_ <;> intro hc1 <;> try simp only [hyZ] at hc1
 ·obtain rfl : on = false := by simpa using hc1
  refine Hd.region <| yv y_mv <| yv y_mv <| yv y_np <| yv (y_f 34 131 Tryz.underlying133 sz131) <| yv (y_idxA Tryz.underlying131 sz3 rfl rfl (by omega)) ?_; refine Hd.store1 sz3 rfl rfl rfl pkk (by rw [rc_len (w := { w with hd := w.hd.set k false }) (by rw [List.length_set]; exact hl) hcl]; omega) ?_
  try simp only [hyS]
  refine Hd.nil ?_; rw [rc_set_ct (w := { w with hd := w.hd.set k false }) (s := k) (o := 0 + 34 + k * 1) (by rw [List.length_set]; exact hl) hcl hk (by omega)]; refine sk [(0,_)] K7 ?_; refine sr fun _ K9 => ?_
  refine yv y_mv <| Hd.heap (RwP b { w with hd := w.hd.set k false, ct := w.ct.set k 0 } :: L) (fun q s => rw_fold (w := { w with hd := w.hd.set k false, ct := w.ct.set k 0 }) (i := i) hi q (Ent.sep enn q s)) ?_; refine callE rfl fk182 (rnoticed_ct _ b { w with hd := w.hd.set k false, ct := w.ct.set k 0 } (wok_sg hw (by rw [List.length_set]; exact hl) (by rw [List.length_set]; exact hcl)) (set_bd hb k (by decide))) sq ?_; intro _; refine fk [] K9 ?_; refine sr fun _ K10 => ?_
  refine yv y_as <| fk [(6,_)] K10 ?_; refine Hd.ret ?_; rw [show hanR w (k : Int) false = (0, ntcR { w with hd := w.hd.set k false, ct := w.ct.set k 0 }) from if_neg (by omega)]; exact Hd.ret1 rfl () rfl sq
 obtain rfl : on = true := by simpa using hc1
 refine qv K7 <| sr fun _ K11 => ?_
 refine yv y_mv <| Hd.heap (RwP b { w with hd := w.hd.set k true } :: L) (fun q s => rw_fold (w := { w with hd := w.hd.set k true }) (i := i) hi q (Ent.sep enn q s)) ?_; refine callE rfl fk182 (rnoticed_ct _ b { w with hd := w.hd.set k true } (wok_sg hw (hd := w.hd.set k true) (ct := w.ct) (by rw [List.length_set]; exact hl) hcl) hb) sq ?_; intro _; refine fk [] K11 ?_; refine sr fun _ K12 => ?_
 refine yv y_as <| fk [(6,_)] K12 ?_; refine Hd.ret ?_; rw [show hanR w (k : Int) true = (0, ntcR { w with hd := w.hd.set k true }) from if_neg (by omega)]; exact Hd.ret1 rfl () rfl sq
theorem rRaise_ct (L : List SP) (b : Nat) (w : WA) (hw : WOk w) (hb : ∀ c ∈ w.ct, 0 ≤ c ∧ c ≤ 1000000000) (s : Int) : Ct Tryz.prog 140 #[.pointer (some ⟨b, 0, none⟩), .int .i64 s] (RwP b w :: L) (fun _ : Unit => .int .i64 (raiR w s).1) (fun _ : Unit => RwP b (raiR w s).2 :: L) := by
 refine Ct.o2 Tryz.func140 ?_; intro E
 show Hd E 31 _ _ _ _
 have hl := hw.hdl
 have hcl := hw.ctl
 have hb2 : ∀ c ∈ w.ct, 0 ≤ c ∧ c ≤ 2000000000 := fun c hc => ⟨(hb c hc).1, by have := (hb c hc).2; omega⟩
 refine sr fun _ K1 => ?_
 refine yv y_as <| fk [(0,_),(1,_)] K1 ?_; refine Hd.seq fun _ K2 => ?_
 refine sr fun _ K3 => ?_
 refine yv y_mv <| yv (y_lss rfl rfl) ?_; refine yv y_mv ?_; apply Hd.org 3 7 10 [(0,_),(1,_)] rfl sbq
 ·intro hg1_7
  try simp only [hyZ] at hg1_7
  simp only [List.take]; refine n1 <| n1 <| yv (y_pickT rfl rfl) ?_; exact Hd.mn
 ·intro hg1_7
  try simp only [hyZ] at hg1_7
  simp only [List.take]; refine y2 y_mv <| y2 (y_gtr rfl rfl) ?_; refine yv (y_pickF rfl rfl) ?_; exact Hd.mn
 simp only [List.drop]; refine fk [(0,_),(1,_),(10,_)] K3 ?_; refine qz ?_ ?_ <;> intro hc0 <;> try simp only [hyZ] at hc0
 ·refine sr fun _ K4 => ?_
  refine yv y_mv <| callE rfl fk182 (rnoticed_ct _ b w hw hb2) sq ?_; intro _; refine fk [] K4 ?_; refine sr fun _ K5 => ?_
  refine yv y_as <| fk [(4,_)] K5 ?_; refine Hd.ret <| Hd.thenRet ?_; rw [show raiR w s = (100, ntcR w) from if_pos (by omega)]; exact Hd.ret1 rfl () rfl sq
 obtain ⟨k, rfl, hk1, hk⟩ : ∃ k : Nat, s = (k : Int) ∧ 1 ≤ k ∧ k < 32 := ⟨s.toNat, by omega, by omega, by omega⟩
 have hcb : 0 ≤ w.ct.getD k 0 ∧ w.ct.getD k 0 ≤ 1000000000 := by
  rw [List.getD_eq_getElem?_getD, List.getElem?_eq_getElem (by omega)]; exact hb _ (List.getElem_mem _)
 refine Hd.rw .here (fun i hi => ?_); refine qv K2 <| Hd.seq fun _ K6 => ?_
 refine sr fun _ K7 => ?_
 refine yv y_mv <| yv y_mv <| yv y_np <| yv (y_f 2 130 Tryz.underlying133 sz130) <| yv (y_idxA Tryz.underlying130 sz4 rfl rfl (by omega)) ?_; refine yv (y_load1 (v := .bool (w.hd.getD k false)) ag4 rfl (Rd.pt1 pkk (rc_hd (s := k) hl hk (by omega)))) ?_; refine fk [(0,_),(1,_),(18,_)] K7 ?_; refine qz ?_ ?_ <;> intro hc1 <;> try simp only [hyZ] at hc1
 ·refine Hd.drawsH ([RwH b w i.1.length i.2.1 i.2.2]) (fun j => !([10].contains j)) mixed ?_
  simp only [List.length, Nat.zero_add, Nat.reduceAdd]; refine tH 0 rfl y_mv <| tH 1 rfl y_mv <| tH 2 rfl y_np <| tH 3 rfl (y_f 34 131 Tryz.underlying133 sz131) <| tH 4 rfl (y_idxA Tryz.underlying131 sz3 rfl rfl (by omega)) ?_; refine tH 5 rfl (y_load1 (v := .int .i64 (w.ct.getD k 0)) ag3 rfl (Rd.pt1 pkk (rc_ct (s := k) hl hcl hk (by omega)))) ?_; refine tH 6 rfl (y_addn rfl rfl (by simp only [InK]; omega)) ?_; refine qo 7 ?_; refine yv y_np <| qk <| qo 8 ?_; refine yv (y_f 34 131 Tryz.underlying133 sz131) <| qk <| tH 9 rfl (y_idxA Tryz.underlying131 sz3 rfl rfl (by omega)) ?_; refine qo 10 ?_; refine Hd.store1 sz3 rfl rfl rfl pkk (by rw [rc_len hl hcl]; omega) ?_
  try simp only [hyS]
  refine qn <| endH kq ?_; rw [rc_set_ct (s := k) (o := 0 + 34 + k * 1) hl hcl hk (by omega)]; refine sk [(0,_)] K6 ?_; refine sr fun _ K8 => ?_
  refine yv y_mv <| Hd.heap (RwP b { w with ct := w.ct.set k (w.ct.getD k 0 + 1) } :: L) (fun q s => rw_fold (w := { w with ct := w.ct.set k (w.ct.getD k 0 + 1) }) (i := i) hi q (Ent.sep enn q s)) ?_; refine callE rfl fk182 (rnoticed_ct _ b { w with ct := w.ct.set k (w.ct.getD k 0 + 1) } (wok_sg hw (hd := w.hd) (ct := w.ct.set k (w.ct.getD k 0 + 1)) hl (by rw [List.length_set]; exact hcl)) (set_bd hb2 k (by omega))) sq ?_; intro _; refine fk [] K8 ?_; refine sr fun _ K9 => ?_
  refine yv y_as <| fk [(4,_)] K9 ?_; refine Hd.ret ?_; rw [show raiR w (k : Int) = (0, ntcR { w with ct := w.ct.set k (w.ct.getD k 0 + 1) }) by unfold raiR; rw [if_neg (by omega), Int.toNat_natCast, if_pos hc1]]; exact Hd.ret1 rfl () rfl sq
 refine qv K6 <| sr fun _ K10 => ?_
 refine yv y_mv <| Hd.heap (RwP b w :: L) (rw_fold hi) ?_; refine callE rfl fk182 (rnoticed_ct _ b w hw hb2) sq ?_; intro _; refine fk [] K10 ?_; refine sr fun _ K11 => ?_
 refine yv y_as <| fk [(4,_)] K11 ?_; refine Hd.ret ?_; rw [show raiR w (k : Int) = (0, ntcR w) by unfold raiR; rw [if_neg (by omega), Int.toNat_natCast, if_neg (by rw [hc1]; decide)]]; exact Hd.ret1 rfl () rfl sq
theorem rc_set_nt {w : WA} {n c m k : Nat} {ad : Option Addr} (hl : w.hd.length = 32) (hc : w.ct.length = 32) : ((RwC w n ad c).set 66 (.int .i64 (m : Int))).set 67 (.int .i64 (k : Int)) = RwC { w with nt := some (m, k) } n ad c := by
 have h : ∀ (v : Value) (l : List Value) (s : Nat), (([Value.slice ad n c, Value.int .u64 w.now] : List Value) ++ (w.hd.map Value.bool ++ (w.ct.map (Value.int .i64) ++ l))).set (66 + s) v = [Value.slice ad n c, Value.int .u64 w.now] ++ (w.hd.map Value.bool ++ (w.ct.map (Value.int .i64) ++ l.set s v)) := fun v l s => by
  rw [List.set_append_right _ _ (by simp; omega), List.set_append_right _ _ (by simp; omega), List.set_append_right _ _ (by simp; omega)]
  have e : 66 + s - ([Value.slice ad n c, Value.int .u64 w.now] : List Value).length - (w.hd.map Value.bool).length - (w.ct.map (Value.int .i64)).length = s := by simp; omega
  rw [e]
 rw [show RwC w n ad c = [Value.slice ad n c, Value.int .u64 w.now] ++ (w.hd.map Value.bool ++ (w.ct.map (Value.int .i64) ++ ntV w.nt)) from rfl, h _ _ 0, h _ _ 1]
 cases w.nt <;> rfl
theorem rNotice_ct (L : List SP) (b : Nat) (w : WA) (hw : WOk w) (hb : ∀ c ∈ w.ct, 0 ≤ c ∧ c ≤ 2000000000) (fa fb : Int) : Ct Tryz.prog 144 #[.pointer (some ⟨b, 0, none⟩), .int .i64 fa, .int .i64 fb] (RwP b w :: L) (fun _ : Unit => .int .i64 (notR w fa fb).1) (fun _ : Unit => RwP b (notR w fa fb).2 :: L) := by
 refine Ct.o3 Tryz.func144 ?_; intro E
 show Hd E 73 _ _ _ _
 have hl := hw.hdl
 have hcl := hw.ctl
 refine sr fun _ K1 => ?_
 refine yv y_as <| fk [(0,_),(1,_),(2,_)] K1 ?_; refine sr fun _ K2 => ?_
 refine yv y_mv <| yv y_mv <| callE rfl fk116 (rat_ct _ b w hw fa) sq ?_; intro _; refine yv y_mv <| yv y_ex <| yv y_ex <| yv y_as <| yv y_as <| fk [(0,_),(2,_),(7,_),(8,_)] K2 ?_; refine sr fun _ K3 => ?_
 refine yv y_mv <| yv y_mv <| callE rfl fk116 (rat_ct _ b w hw fb) sq ?_; intro _; refine yv y_mv <| yv y_ex <| yv y_ex <| yv y_as <| yv y_as <| fk [(0,_),(7,_),(8,_),(9,_),(10,_)] K3 ?_; refine Hd.seq fun _ K4 => ?_
 refine sr fun _ K5 => ?_
 refine yv y_mv <| yv (y_lss rfl rfl) ?_; refine yv y_mv ?_; apply Hd.org 3 25 28 [(0,_),(7,_),(8,_),(9,_),(10,_)] rfl sbq
 ·intro hg3_25
  try simp only [hyZ] at hg3_25
  simp only [List.take]; refine n1 <| n1 <| yv (y_pickT rfl rfl) ?_; exact Hd.mn
 ·intro hg3_25
  try simp only [hyZ] at hg3_25
  simp only [List.take]; refine y2 y_mv <| y2 (y_lss rfl rfl) ?_; refine yv (y_pickF rfl rfl) ?_; exact Hd.mn
 simp only [List.drop]; refine fk [(0,_),(7,_),(8,_),(9,_),(10,_),(28,_)] K5 ?_; refine qz ?_ ?_ <;> intro hc0 <;> try simp only [hyZ] at hc0
 ·refine sr fun _ K6 => ?_
  refine yv y_as <| fk [(6,_)] K6 ?_; refine Hd.ret <| Hd.thenRet ?_
  have e : notR w fa fb = (110, w) := by
   unfold notR
   rcases hc0 with h | h
   ·rw [atN_no h]
   ·rw [atN_no h]; cases w.at fa <;> rfl
  rw [e]; exact Hd.ret1 rfl () rfl sq
 obtain ⟨n, k, hnk⟩ := atN_yes (by omega : 0 ≤ atN (w.at fa))
 obtain ⟨m, q, hmq⟩ := atN_yes (by omega : 0 ≤ atN (w.at fb))
 obtain ⟨_, _, hk, _, x, hx, _, _⟩ := hw.at_lt hnk
 have hR := not_yes hnk hmq hx
 rw [show atN (w.at fa) = (n : Int) by rw [hnk]; rfl, show atK (w.at fa) = (k : Int) by rw [hnk]; rfl, show atN (w.at fb) = (m : Int) by rw [hmq]; rfl, show atK (w.at fb) = (q : Int) by rw [hmq]; rfl]; refine Hd.rw .here (fun i hi => ?_)
 have hrl := rows_n hi
 obtain ⟨j, hrow⟩ := row_at hi hx
 have hn : n < i.1.length := (List.getElem?_eq_some_iff.1 hrow).1
 refine qv K4 <| Hd.seq fun _ K7 => ?_
 refine sr fun _ K8 => ?_
 refine yv y_mv <| yv y_mv <| yv (y_neq rfl rfl) ?_; refine yv y_mv ?_; apply Hd.org 4 32 36 [(0,_),(7,_),(8,_)] rfl sbq
 ·intro hg5_32
  try simp only [hyZ] at hg5_32
  simp only [List.take]; refine n1 <| n1 <| n1 <| yv (y_pickT rfl rfl) ?_; exact Hd.mn
 ·intro hg5_32
  try simp only [hyZ] at hg5_32
  simp only [List.take]; refine y2 y_mv <| y2 y_mv <| y2 (y_eql rfl rfl) ?_; refine yv (y_pickF rfl rfl) ?_; exact Hd.mn
 simp only [List.drop]; refine yv y_mv ?_; apply Hd.org 12 37 49 [(0,_),(7,_),(8,_)] rfl sbq
 ·intro hg5_37
  try simp only [hyZ] at hg5_37
  simp only [List.take]; refine n1 <| n1 <| n1 <| n1 <| n1 <| n1 <| n1 <| n1 <| n1 <| n1 <| n1 <| yv (y_pickT rfl rfl) ?_; exact Hd.mn
 ·intro hg5_37
  try simp only [hyZ] at hg5_37
  simp only [List.take]; refine y2 y_mv <| y2 y_np <| y2 (y_f 0 129 Tryz.underlying133 sz129) <| y2 (y_l1 ag129 rfl) <| y2 y_mv <| y2 (y_idxR Tryz.underlying129 sz221 rfl rfl (by omega) (by exact RdS.own pkk)) ?_; refine y2 (y_fR 0 219 Tryz.underlying221 sz219) ?_; refine y2 (y_idxAR Tryz.underlying219 sz218 rfl rfl (by decide)) ?_; refine y2 (y_fR 2 4 Tryz.underlying218 sz4) ?_; refine y2 (y_rc (o := n * 20 + 0 + 0 * 8 + 2) ag4 rfl hrow (show 0 < 2 from Nat.succ_pos 1) 2 rfl) ?_; refine y2 (y_not rfl) <| yv (y_pickF rfl rfl) ?_; exact Hd.mn
 simp only [List.drop]; refine yv y_mv ?_; apply Hd.org 12 50 62 [(0,_),(7,_),(8,_)] rfl sbq
 ·intro hg5_50
  try simp only [hyZ] at hg5_50
  simp only [List.take]; refine n1 <| n1 <| n1 <| n1 <| n1 <| n1 <| n1 <| n1 <| n1 <| n1 <| n1 <| yv (y_pickT rfl rfl) ?_; exact Hd.mn
 ·intro hg5_50
  try simp only [hyZ] at hg5_50
  simp only [List.take]; refine y2 y_mv <| y2 y_np <| y2 (y_f 0 129 Tryz.underlying133 sz129) <| y2 (y_l1 ag129 rfl) <| y2 y_mv <| y2 (y_idxR Tryz.underlying129 sz221 rfl rfl (by omega) (by exact RdS.own pkk)) ?_; refine y2 (y_fR 0 219 Tryz.underlying221 sz219) ?_; refine y2 (y_idxAR Tryz.underlying219 sz218 rfl rfl (by decide)) ?_; refine y2 (y_f 2 4 Tryz.underlying218 sz4) <| y2 (y_rc (o := n * 20 + 0 + 1 * 8 + 2) ag4 rfl hrow (show 1 < 2 from Nat.lt_succ_self 1) 2 rfl) ?_; refine y2 (y_not rfl) <| yv (y_pickF rfl rfl) ?_; exact Hd.mn
 simp only [List.drop]; refine fk [(0,_),(7,_),(8,_),(62,_)] K8 ?_; refine qz ?_ ?_ <;> intro hc1 <;> try simp only [hyZ] at hc1
 ·have h1 : n ≠ m ∨ k = q ∨ (x.e 0).rd = false ∨ (x.e 1).rd = false := by
   rcases hc1 with ((h | h) | h) | h
   ·exact .inl (by omega)
   ·exact .inr (.inl (by omega))
   ·exact .inr (.inr (.inl h))
   ·exact .inr (.inr (.inr h))
  refine sr fun _ K9 => ?_
  refine yv y_as <| fk [(6,_)] K9 ?_; refine Hd.ret <| Hd.thenRet ?_; rw [hR, if_pos h1]; exact Hd.ret1 rfl () rfl (rw_fold hi)
 have h1 : ¬ (n ≠ m ∨ k = q ∨ (x.e 0).rd = false ∨ (x.e 1).rd = false) := by
  obtain ⟨⟨⟨a1, a2⟩, a3⟩, a4⟩ := hc1
  rintro (h | h | h | h)
  ·omega
  ·omega
  ·rw [h] at a3; cases a3
  ·rw [h] at a4; cases a4
 have hr0 : (x.e 0).rd = true := by cases h2 : (x.e 0).rd with | true => rfl | false => exact absurd (.inr (.inr (.inl h2))) h1
 have hr1 : (x.e 1).rd = true := by cases h2 : (x.e 1).rd with | true => rfl | false => exact absurd (.inr (.inr (.inr h2))) h1
 have hnt : ∀ n' k', some (n, k) = some (n', k') → k' < 2 ∧ ∃ x, w.ws[n']? = some x ∧ (x.e 0).rd = true ∧ (x.e 1).rd = true := by
  intro n' k' h
  obtain ⟨rfl, rfl⟩ : n = n' ∧ k = k' := by simpa using h
  exact ⟨hk, x, hx, hr0, hr1⟩
 have hok : WOk { w with nt := some (n, k) } := { uq := hw.uq, fd := hw.fd, len := hw.len, hdl := hl, ctl := hcl, wf := hw.wf, wn := hw.wn, wm := hw.wm, ns := hw.ns, nt := hnt }
 refine qv K7 <| sr fun _ K10 => ?_
 refine yv y_mv <| yv y_mv <| yv y_np <| yv (y_f 66 3 Tryz.underlying133 sz3) <| Hd.store1 sz3 rfl rfl rfl pkk (by rw [rc_len hl hcl]; omega) ?_
 try simp only [hyS]
 refine fk [(0,_),(8,_)] K10 ?_; refine sr fun _ K11 => ?_
 refine yv y_mv <| yv y_mv <| yv y_np <| yv (y_f 67 3 Tryz.underlying133 sz3) <| Hd.store1 sz3 rfl rfl rfl pkk (by rw [List.length_set, rc_len hl hcl]; omega) ?_
 try simp only [hyS]
 refine fk [(0,_)] K11 ?_; refine sr fun _ K12 => ?_
 refine yv y_mv <| Hd.heap (RwP b { w with nt := some (n, k) } :: L) (fun p s => rw_fold (w := { w with nt := some (n, k) }) (i := i) hi p (Ent.sep (.eq pkk (pt_eq (by exact rc_set_nt hl hcl)) enn) p s)) ?_; refine callE rfl fk182 (rnoticed_ct _ b { w with nt := some (n, k) } hok hb) sq ?_; intro _; refine fk [] K12 ?_; refine sr fun _ K13 => ?_
 refine yv y_as <| fk [(6,_)] K13 ?_; refine Hd.ret ?_; rw [hR, if_neg h1]; exact Hd.ret1 rfl () rfl sq
def zS (ct : List Int) (s : Nat) : List Int := (List.range s).foldl (fun l j => l.set (j + 1) 0) ct
theorem zS_succ (ct : List Int) (s : Nat) : zS ct (s + 1) = (zS ct s).set (s + 1) 0 := by unfold zS; rw [List.range_succ, List.foldl_append]; rfl
theorem zS_len (ct : List Int) : ∀ s, (zS ct s).length = ct.length
 | 0 => rfl
 | s + 1 => by rw [zS_succ, List.length_set, zS_len ct s]
theorem zS_get (ct : List Int) : ∀ s j, (zS ct s)[j]? = if 1 ≤ j ∧ j ≤ s ∧ j < ct.length then some 0 else ct[j]?
 | 0, j => by rw [if_neg (by omega)]; rfl
 | s + 1, j => by
  rw [zS_succ]
  by_cases h : s + 1 = j
  ·subst h
   by_cases h2 : s + 1 < ct.length
   ·rw [List.getElem?_set_self (by rw [zS_len]; exact h2), if_pos ⟨by omega, by omega, h2⟩]
   ·rw [if_neg (by omega), List.getElem?_eq_none (by rw [List.length_set, zS_len]; omega), List.getElem?_eq_none (by omega)]
  ·rw [List.getElem?_set_ne h, zS_get ct s j]
   by_cases h2 : 1 ≤ j ∧ j ≤ s ∧ j < ct.length
   ·rw [if_pos h2, if_pos ⟨h2.1, by omega, h2.2.2⟩]
   ·rw [if_neg h2, if_neg (by omega)]
theorem zS_getD (ct : List Int) {s j : Nat} (h : s < j) : (zS ct s).getD j 0 = ct.getD j 0 := by
 rw [List.getD_eq_getElem?_getD, List.getD_eq_getElem?_getD, zS_get, if_neg (by omega)]
theorem zS_all {ct : List Int} (h : ct.length = 32) : zS ct 31 = zer1 ct := by
 apply List.ext_getElem?; intro j; rw [zS_get]
 cases ct with
 | nil => simp at h
 | cons c t =>
  show _ = (c :: t.map fun _ => (0 : Int))[j]?
  cases j with
  | zero => rfl
  | succ j =>
   simp only [List.length_cons] at h ⊢; rw [List.getElem?_cons_succ, List.getElem?_cons_succ, List.getElem?_map]
   by_cases h2 : j < t.length
   ·rw [if_pos (by omega), List.getElem?_eq_getElem h2]; rfl
   ·rw [if_neg (by omega), List.getElem?_eq_none (by omega)]; rfl
theorem cnt_one {ct : List Int} (h : ct.length = 32) : cntF 0 (ct.take 1) = [] := by
 cases ct with
 | nil => simp at h
 | cons c t => rfl
theorem rSignals_ct (L : List SP) (b : Nat) (w : WA) (hw : WOk w) (hb : ∀ c ∈ w.ct, 0 ≤ c ∧ c ≤ 2000000000) : Ct Tryz.prog 142 #[.pointer (some ⟨b, 0, none⟩)] (RwP b w :: L) (fun q_ : Option Addr × Nat => .slice q_.1 (sigR w).1.length q_.2) (fun q_ : Option Addr × Nat => own 241 2 q_.1 (sigR w).1.length q_.2 ((sigR w).1.flatMap encCn) :: RwP b (sigR w).2 :: L) := by
 refine Ct.o1 Tryz.func142 ?_; intro E
 show Hd E 35 _ _ _ _
 have hl := hw.hdl
 have hcl := hw.ctl
 refine sr fun _ K1 => ?_
 refine yv y_as <| fk [(0,_)] K1 ?_; refine sr fun _ K2 => ?_
 refine yv y_as <| fk [(0,_),(3,_)] K2 ?_; refine Hd.seq fun _ K3 => ?_
 refine sr fun _ K4 => ?_
 refine yv y_as <| fk [(0,_),(3,_),(4,_)] K4 ?_; refine Hd.block <| Hd.loopK (ι := Nat × List (Int × Int) × Option Addr × Nat) [(0,_)] (fun q_ => [(3, .slice q_.2.2.1 q_.2.1.length q_.2.2.2), (4, .int .i64 ((q_.1 + 1 : Nat) : Int))]) (fun q_ => pu (q_.1 ≤ 31 ∧ q_.2.1 = cntF 0 (w.ct.take (q_.1 + 1))) :: own 241 2 q_.2.2.1 q_.2.1.length q_.2.2.2 (q_.2.1.flatMap encCn) :: RwP b { w with ct := zS w.ct q_.1 } :: L) (fun q_ => 31 - q_.1) (0, [], none, 0) sbq sbq (fun q t => Ent.sep (.pure ⟨Nat.zero_le _, (cnt_one hcl).symm⟩ (.ownNil .same)) q t) ?_; rintro ⟨s, g, ad, c⟩
 try dsimp only
 refine Hd.pure (fun hp0 => ?_)
 try dsimp only at hp0
 refine Hd.seq fun _ K5 => ?_
 refine sr fun _ K6 => ?_
 refine yv y_mv <| yv (y_leq rfl rfl) ?_; refine fk [(0,_),(3,_),(4,_),(6,_)] K6 ?_; refine qz ?_ ?_ <;> intro hc0 <;> try simp only [hyZ] at hc0
 ·have hs : s < 31 := by omega
  have hzl : (zS w.ct s).length = 32 := by rw [zS_len, hcl]
  have hcb : 0 ≤ w.ct.getD (s + 1) 0 := by
   rw [List.getD_eq_getElem?_getD, List.getElem?_eq_getElem (show s + 1 < w.ct.length by omega)]; exact (hb _ (List.getElem_mem _)).1
  have hsc := cntF_succ (ct := w.ct) (i := s + 1) (by omega)
  have hle := cntF_le (w.ct.take (s + 1)) 0
  rw [List.length_take] at hle; rw [← hp0.2] at hsc hle
  have hrc : ∀ {n c : Nat} {a : Option Addr} {o : Nat}, o = 34 + (s + 1) → (RwC { w with ct := zS w.ct s } n a c)[o]? = some (.int .i64 (w.ct.getD (s + 1) 0)) := fun ho => by
   rw [rc_ct (w := { w with ct := zS w.ct s }) (s := s + 1) hl hzl (by omega) ho]
   show some (Value.int .i64 ((zS w.ct s).getD (s + 1) 0)) = _
   rw [zS_getD _ (Nat.lt_succ_self s)]
  refine Hd.rw (.there .here) (fun i hi => ?_); refine qv K5 <| Hd.seq fun _ K7 => ?_
  refine Hd.block <| Hd.seq fun _ K8 => ?_
  refine sr fun _ K9 => ?_
  refine yv y_mv <| yv y_mv <| yv y_np <| yv (y_f 34 131 Tryz.underlying133 sz131) <| yv (y_idxA Tryz.underlying131 sz3 rfl rfl (by omega)) ?_; refine yv (y_load1 (v := .int .i64 (w.ct.getD (s + 1) 0)) ag3 rfl (Rd.pt1 pkk (hrc (by omega)))) ?_; refine yv (y_gtr rfl rfl) ?_; refine fk [(0,_),(3,_),(4,_),(15,_)] K9 ?_; refine qz ?_ ?_ <;> intro hc1 <;> try simp only [hyZ] at hc1
  ·refine Hd.region ?_
   refine yv y_mv <| yv y_mv <| yv y_mv <| yv y_mv <| yv y_np <| yv (y_f 34 131 Tryz.underlying133 sz131) <| yv (y_idxA Tryz.underlying131 sz3 rfl rfl (by omega)) ?_; refine yv (y_load1 (v := .int .i64 (w.ct.getD (s + 1) 0)) ag3 rfl (Rd.pt1 pkk (hrc (by omega)))) ?_; refine yv (y_build (vs := [(0,_),(1,_)]) rfl (by exact bd142_24 ..)) ?_; refine Hd.bslice (vs := [(0,_)]) rfl (by exact bs142_25 ..) (fun b25 => ?_); refine Hd.append Tryz.underlying238 ty241 rfl rfl rfl pkk (by exact RdS.rd (Rd.pt pkk (fun j v e => by simpa using e)) rfl) (by simp [Value.oneCell']; done) (by simp only [maxLen]; omega) (by omega) (fun ad26 cap26 => ?_); refine yv y_as <| fk [(0,_),(3,_),(4,_)] K8 ?_; refine Hd.region <| yv y_mv <| yv y_mv <| yv y_np <| yv (y_f 34 131 Tryz.underlying133 sz131) <| yv (y_idxA Tryz.underlying131 sz3 rfl rfl (by omega)) ?_
   refine Hd.store1 sz3 rfl rfl rfl pkk (by rw [rc_len (w := { w with ct := zS w.ct s }) hl hzl]; omega) ?_
   try simp only [hyS]
   refine Hd.nil ?_; rw [rc_set_ct (w := { w with ct := zS w.ct s }) (s := s + 1) (o := 0 + 34 + (s + 1) * 1) hl hzl (by omega) (by omega)]; refine slots [(0,_),(3,_),(4,_)] sbq ?_; refine Hd.inB <| Hd.toK K7 ?_; refine Hd.region <| yv y_mv <| yv (y_addn rfl rfl (by simp only [InK]; omega)) ?_; refine yv y_as <| Hd.nil <| slots [(0,_),(3,_),(4,_)] sbq ?_; refine thenN ?_; rw [if_neg (by omega)] at hsc; refine Hd.again (s + 1, g ++ [(((s + 1 : Nat) : Int), w.ct.getD (s + 1) 0)], ad26, cap26) (by show 31 - (s + 1) < 31 - s; omega) (by simp only [List.length_append, List.length_singleton]; repeat (first | exact trivial | refine ⟨rfl, ?_⟩)) (fun q t => ?_)
   have t1 : sep (RwL b { w with ct := zS w.ct (s + 1) } i (own 241 2 ad26 (g ++ [(((s + 1 : Nat) : Int), w.ct.getD (s + 1) 0)]).length cap26 ((g ++ [(((s + 1 : Nat) : Int), w.ct.getD (s + 1) 0)]).flatMap encCn) :: L)) q := Ent.sep (.eq pkk (pt_eq (by rw [zS_succ])) (.pick pkk (.pick pkk (.eq pkk (own_eq3 (by simp) rfl (by simp only [List.flatMap_append]; rfl)) enn)))) q t
   exact Ent.sep (.pure (show s + 1 ≤ 31 ∧ _ from ⟨hs, hsc.symm⟩) enn) q (rw_fold (w := { w with ct := zS w.ct (s + 1) }) (i := i) hi q t1)
  refine qv K8 <| Hd.region <| yv y_mv <| yv y_mv <| yv y_np <| yv (y_f 34 131 Tryz.underlying133 sz131) <| yv (y_idxA Tryz.underlying131 sz3 rfl rfl (by omega)) ?_; refine Hd.store1 sz3 rfl rfl rfl pkk (by rw [rc_len (w := { w with ct := zS w.ct s }) hl hzl]; omega) ?_
  try simp only [hyS]
  refine Hd.nil ?_; rw [rc_set_ct (w := { w with ct := zS w.ct s }) (s := s + 1) (o := 0 + 34 + (s + 1) * 1) hl hzl (by omega) (by omega)]; refine slots [(0,_),(3,_),(4,_)] sbq ?_; refine Hd.inB <| Hd.toK K7 ?_; refine Hd.region <| yv y_mv <| yv (y_addn rfl rfl (by simp only [InK]; omega)) ?_; refine yv y_as <| Hd.nil <| slots [(0,_),(3,_),(4,_)] sbq ?_; refine thenN ?_; rw [if_pos (by omega), List.append_nil] at hsc; refine Hd.again (s + 1, g, ad, c) (by show 31 - (s + 1) < 31 - s; omega) sbq (fun q t => ?_)
  have t1 : sep (RwL b { w with ct := zS w.ct (s + 1) } i (own 241 2 ad g.length c (g.flatMap encCn) :: L)) q := Ent.sep (.eq pkk (pt_eq (by rw [zS_succ])) enn) q t
  exact Ent.sep (.pure (show s + 1 ≤ 31 ∧ _ from ⟨hs, hsc.symm⟩) enn) q (rw_fold (w := { w with ct := zS w.ct (s + 1) }) (i := i) hi q t1)
 obtain rfl : s = 31 := by omega
 have hz := zS_all hcl
 have hg : g = cntF 0 w.ct := by rw [hp0.2, List.take_of_length_le (by omega)]
 rw [hz]
 have hbz : ∀ c ∈ zer1 w.ct, 0 ≤ c ∧ c ≤ 2000000000 := fun c hc => by rcases zer1_mem hc with h | rfl; exact hb c h; decide
 refine Hd.exit <| Hd.thenExit <| Hd.thenExit <| Hd.inBexit <| Hd.toK K3 ?_; refine sr fun _ K10 => ?_
 refine yv y_mv <| callE rfl fk182 (rnoticed_ct _ b { w with ct := zer1 w.ct } (wok_sg hw (hd := w.hd) (ct := zer1 w.ct) hl (by rw [zer1_len]; exact hcl)) hbz) sq ?_; intro _; refine fk [(3,_)] K10 ?_; refine sr fun _ K11 => ?_
 refine yv y_mv <| yv y_as <| fk [(2,_)] K11 ?_; refine Hd.ret ?_; rw [sigR_eq, ← hg]; exact Hd.ret1 rfl (ad, c) rfl sq
theorem rwc {p : Row} {k j o : Nat} {v : Value} (hk : k < 2) (hj : j < 8) (ho : o = k * 8 + j) (hv : (encRE (p.1.e k) (p.2.a k) (p.2.c k))[j]? = some v) : (encRW p)[o]? = some v := by
 have := rcell (rs := [p]) (n := 0) (o := o) rfl hk hj (by omega) hv
 simpa using this
theorem rReady_ct (L : List SP) (b : Nat) (w : WA) (hw : WOk w) (fd : Int) : Ct Tryz.prog 81 #[.pointer (some ⟨b, 0, none⟩), .int .i64 fd] (RwP b w :: L) (fun _ : Unit => .agg (encR (readyR w fd)).toArray) (fun _ : Unit => RwP b w :: L) := by
 refine Ct.o2 Tryz.func81 ?_; intro E
 show Hd E 122 _ _ _ _
 refine sr fun _ K1 => ?_
 refine Hd.alloc zr105 (fun b4 => ?_); refine fk [(0,_),(1,_),(4,_)] K1 ?_; refine sr fun _ K2 => ?_
 refine yv y_mv <| yv y_mv <| callE rfl fk116 (rat_ct _ b w hw fd) sq ?_; intro _; refine yv y_mv <| yv y_ex <| yv y_ex <| yv y_as <| yv y_as <| fk [(0,_),(4,_),(5,_),(6,_)] K2 ?_; refine Hd.seq fun _ K3 => ?_
 refine sr fun _ K4 => ?_
 refine yv y_mv <| yv (y_lss rfl rfl) ?_; refine fk [(0,_),(4,_),(5,_),(6,_),(17,_)] K4 ?_; refine qz ?_ ?_ <;> intro hc0 <;> try simp only [hyZ] at hc0
 ·have hno := atN_no hc0
  refine sr fun _ K5 => ?_
  refine yv (y_build (vs := []) rfl (by exact bd81_18 ..)) ?_; refine Hd.storeA (us := encR noRdy) sz105 rfl rfl rfl (by simp [Value.oneCell']) pkk (by exact rfl) ?_; refine fk [(4,_)] K5 ?_; refine Hd.ret <| Hd.thenRet ?_; rw [show readyR w fd = noRdy by unfold readyR; rw [hno]]; exact Hd.retC rfl () ag105 rfl (Rd.pt (us := encR noRdy) pkk (fun j v e => by rw [Nat.zero_add]; exact e)) (by exact sz105) rfl sq
 obtain ⟨n, k, hnk⟩ := atN_yes (by omega)
 obtain ⟨_, _, hk, _, x, hx, _, _⟩ := hw.at_lt hnk
 have hk1 : 1 - k < 2 := by omega
 rw [show atN (w.at fd) = (n : Int) by rw [hnk]; rfl, show atK (w.at fd) = (k : Int) by rw [hnk]; rfl]
 have hR : readyR w fd = readyW x k := by unfold readyR; rw [hnk]; dsimp only; rw [hx]
 refine Hd.rw pkk (fun i hi => ?_)
 have hrl := rows_n hi
 obtain ⟨j, hrow⟩ := row_at hi hx
 have hn : n < i.1.length := (List.getElem?_eq_some_iff.1 hrow).1
 refine qv K3 <| sr fun _ K6 => ?_
 refine yv y_mv <| yv y_np <| yv (y_f 0 129 Tryz.underlying133 sz129) <| yv (y_l1 ag129 rfl) <| yv y_mv <| yv (y_idxR Tryz.underlying129 sz221 rfl rfl (by omega) (by exact RdS.own pkk)) ?_; refine yv (y_loadRn (vs := encRW (x, j)) ag221 rfl (RdS.own (ad := i.2.1) (us := i.1.flatMap encRW) pkk) (flat_cells encRW 20 encRW_len hrow) (by exact sz221) (by simp)) ?_; refine Hd.alloc zr221 (fun b7 => ?_); refine Hd.storeA (us := encRW (x, j)) sz221 rfl rfl rfl (encRW_one _) pkk (by exact rfl) ?_; refine fk [(4,_),(6,_),(7,_)] K6 ?_; refine Hd.seq fun _ K7 => ?_
 refine Hd.drawsH ([pt b7 (encRW (x, j)) 221]) (fun j => !([12].contains j)) mixed ?_; simp only [List.length, Nat.zero_add, Nat.reduceAdd]; refine tH 0 rfl y_mv <| tH 1 rfl (y_f 0 219 Tryz.underlying221 sz219) <| tH 2 rfl (y_idxA Tryz.underlying219 sz218 rfl rfl (by omega)) ?_; refine tH 3 rfl (y_f 6 30 Tryz.underlying218 sz30) <| tH 4 rfl (y_load1 (v := .int .u64 (x.e k).inn) ag30 rfl (Rd.pt1 pkk (rwc (p := (x, j)) (j := 6) hk (by decide) (by omega) rfl))) ?_; refine tH 5 rfl y_mv <| tH 6 rfl (y_f 0 219 Tryz.underlying221 sz219) <| tH 7 rfl (y_idxA Tryz.underlying219 sz218 rfl rfl (by omega)) ?_; refine tH 8 rfl (y_f 7 30 Tryz.underlying218 sz30) <| tH 9 rfl (y_load1 (v := .int .u64 (x.e k).out) ag30 rfl (Rd.pt1 pkk (rwc (p := (x, j)) (j := 7) hk (by decide) (by omega) rfl))) ?_; refine tH 10 rfl (y_build (vs := [(0,_),(5,_),(6,_)]) rfl (by exact bd81_36 ..)) ?_
 refine qo 11 ?_; refine Hd.alloc zr105 (fun b8 => ?_); refine qk <| qo 12 ?_; refine Hd.storeA (us := encR ⟨true, false, false, false, false, (x.e k).inn, (x.e k).out⟩) sz105 rfl rfl rfl (by simp [Value.oneCell']) pkk (by exact rfl) ?_; refine qn <| endH kq ?_; refine sk [(4,_),(6,_),(7,_),(8,_)] K7 ?_; refine Hd.seq fun _ K8 => ?_
 refine sr fun _ K9 => ?_
 refine yv (y_f 18 3 Tryz.underlying221 sz3) <| yv (y_l1 ag3 rfl) <| yv (y_gtr rfl rfl) ?_; refine fk [(4,_),(6,_),(7,_),(8,_),(39,_)] K9 ?_; refine qz ?_ ?_ <;> intro hc1 <;> try simp only [hyZ] at hc1
 ·refine sr fun _ K10 => ?_
  refine yv (y_f 19 44 Tryz.underlying221 sz44) <| yv (y_l1 ag44 rfl) <| yv (y_len Tryz.underlying44 rfl) ?_; refine yv (y_gtr rfl rfl) ?_; refine yv (y_f 1 4 Tryz.underlying105 sz4) <| Hd.store1 sz4 rfl rfl rfl pkk (by simp; done) ?_
  try simp only [hyS]
  refine fk [(4,_),(8,_)] K10 ?_; refine sr fun _ K11 => ?_
  refine yv (y_loadn (us := [_, _, _, _, _, _, _]) ag105 rfl (Rd.pt pkk (by (first | (intro j v e; rcases j with _|_|_|_|_|_|_|_|_|_|_|_|j <;> first | exact e | exact absurd e (by simp))))) (by exact sz105)) ?_; refine Hd.storeA (us := encR ⟨true, decide ((x.wt.length : Int) > 0), false, false, false, (x.e k).inn, (x.e k).out⟩) sz105 rfl rfl rfl (by simp [Value.oneCell']) pkk (by exact rfl) ?_; refine fk [(4,_)] K11 ?_; refine Hd.ret <| Hd.thenRet ?_; rw [hR, show readyW x k = ⟨true, decide ((x.wt.length : Int) > 0), false, false, false, (x.e k).inn, (x.e k).out⟩ from if_pos hc1]; exact Hd.retC rfl () ag105 rfl (Rd.pt (us := encR ⟨true, decide ((x.wt.length : Int) > 0), false, false, false, (x.e k).inn, (x.e k).out⟩) pkk (fun j v e => by rw [Nat.zero_add]; exact e)) (by exact sz105) rfl (fun q s => rw_fold hi q (Ent.sep enn q s))
 have hbl : ¬ (x.bl > 0) := by omega
 have hRw : readyW x k = ⟨true, (x.e k).rd && ((decide (((x.e k).b.length : Int) > 0) || silentW x k) || x.rs), ((x.e k).wr && !(x.e k).shut) && ((decide ((x.e (1 - k)).what = 3) || x.rs) || decide (((x.cap - (x.e (1 - k)).b.length : Nat) : Int) > 0)), decide ((x.e (1 - k)).what = 3), x.rs, (x.e k).inn, (x.e k).out⟩ := if_neg hbl
 refine qv K8 <| sr fun _ K12 => ?_
 refine yv y_mv <| yv (y_to (v' := .int .i64 ((1 - k : Nat) : Int)) (y_subn rfl rfl (by simp only [InK]; omega)) (by (congr 1; omega))) ?_; refine yv (y_f 0 219 Tryz.underlying221 sz219) <| yv (y_idxA Tryz.underlying219 sz218 rfl rfl (by omega)) ?_; refine yv (y_f 0 3 Tryz.underlying218 sz3) <| yv (y_load1 (v := .int .i64 (x.e (1 - k)).what) ag3 rfl (Rd.pt1 pkk (rwc (p := (x, j)) (j := 0) hk1 (by decide) (by omega) rfl))) ?_; refine yv (y_eql rfl rfl) ?_; refine yv y_as <| fk [(4,_),(6,_),(7,_),(8,_),(9,_)] K12 ?_; refine sr fun _ K13 => ?_
 refine yv y_mv <| yv (y_f 3 4 Tryz.underlying105 sz4) <| Hd.store1 sz4 rfl rfl rfl pkk (by simp; done) ?_
 try simp only [hyS]
 refine fk [(4,_),(6,_),(7,_),(8,_),(9,_)] K13 ?_; refine sr fun _ K14 => ?_
 refine yv (y_f 17 4 Tryz.underlying221 sz4) <| yv (y_l1 ag4 rfl) <| yv (y_f 4 4 Tryz.underlying105 sz4) <| Hd.store1 sz4 rfl rfl rfl pkk (by simp; done) ?_
 try simp only [hyS]
 refine fk [(4,_),(6,_),(7,_),(8,_),(9,_)] K14 ?_; refine sr fun _ K15 => ?_
 refine yv y_mv <| yv (y_f 0 219 Tryz.underlying221 sz219) <| yv (y_idxA Tryz.underlying219 sz218 rfl rfl (by omega)) ?_; refine yv (y_f 2 4 Tryz.underlying218 sz4) <| yv (y_load1 (v := .bool (x.e k).rd) ag4 rfl (Rd.pt1 pkk (rwc (p := (x, j)) (j := 2) hk (by decide) (by omega) rfl))) ?_; refine yv y_mv ?_; apply Hd.andg 23 63 86 [(4,_),(6,_),(7,_),(8,_),(9,_)] rfl sbq
 ·intro hg12_63
  try simp only [hyZ] at hg12_63
  simp only [List.take]; refine y2 y_mv <| y2 (y_f 0 219 Tryz.underlying221 sz219) <| y2 (y_idxA Tryz.underlying219 sz218 rfl rfl (by omega)) ?_; refine y2 (y_f 4 31 Tryz.underlying218 sz31) <| y2 (y_load1 (v := .slice (j.a k) (x.e k).b.length (j.c k)) ag31 rfl (Rd.pt1 pkk (rwc (p := (x, j)) (j := 4) hk (by decide) (by omega) rfl))) ?_; refine y2 (y_len Tryz.underlying31 rfl) ?_; refine y2 (y_gtr rfl rfl) ?_; refine y2 y_mv ?_; apply Hd.org 2 71 73 [(4,_),(6,_),(7,_),(8,_),(9,_),(63,_)] rfl sbq
  ·intro hg12_71
   try simp only [hyZ] at hg12_71
   simp only [List.take]; refine n1 <| y2 (y_pickT rfl rfl) ?_; exact Hd.mn
  ·intro hg12_71
   try simp only [hyZ] at hg12_71
   simp only [List.take]; refine y2 y_mv <| y2 (y_pickF rfl rfl) ?_; exact Hd.mn
  simp only [List.drop]; refine y2 y_mv ?_; apply Hd.org 7 74 81 [(4,_),(6,_),(7,_),(8,_),(9,_),(63,_)] rfl sbq
  ·intro hg12_74
   try simp only [hyZ] at hg12_74
   simp only [List.take]; refine n1 <| n1 <| n1 <| n1 <| n1 <| n1 <| y2 (y_pickT rfl rfl) ?_; exact Hd.mn
  ·intro hg12_74
   try simp only [hyZ] at hg12_74
   simp only [List.take]; refine y2 y_mv <| y2 (y_to (v' := .int .i64 ((1 - k : Nat) : Int)) (y_subn rfl rfl (by simp only [InK]; omega)) (by (congr 1; omega))) ?_; refine y2 (y_f 0 219 Tryz.underlying221 sz219) <| y2 (y_idxA Tryz.underlying219 sz218 rfl rfl (by omega)) ?_; refine y2 (y_f 5 4 Tryz.underlying218 sz4) <| y2 (y_load1 (v := .bool (x.e (1 - k)).shut) ag4 rfl (Rd.pt1 pkk (rwc (p := (x, j)) (j := 5) hk1 (by decide) (by omega) rfl))) ?_; refine y2 (y_pickF rfl rfl) ?_; exact Hd.mn
  simp only [List.drop]; refine y2 y_mv ?_; apply Hd.org 3 82 85 [(4,_),(6,_),(7,_),(8,_),(9,_),(63,_)] rfl sbq
  ·intro hg12_82
   try simp only [hyZ] at hg12_82
   simp only [List.take]; refine n1 <| n1 <| y2 (y_pickT rfl rfl) ?_; exact Hd.mn
  ·intro hg12_82
   try simp only [hyZ] at hg12_82
   simp only [List.take]; refine y2 (y_f 17 4 Tryz.underlying221 sz4) <| y2 (y_l1 ag4 rfl) <| y2 (y_pickF rfl rfl) ?_; exact Hd.mn
  simp only [List.drop]; refine yv (y_pickT rfl rfl) ?_; exact Hd.mn
 ·intro hg12_63
  try simp only [hyZ] at hg12_63
  simp only [List.take]; refine n1 <| n1 <| n1 <| n1 <| n1 <| n1 <| n1 <| n1 <| n1 <| n1 <| n1 <| n1 <| n1 <| n1 <| n1 <| n1 <| n1 <| n1 <| n1 <| n1 <| n1 <| n1 <| yv (y_pickF rfl rfl) ?_; exact Hd.mn
 simp only [List.drop]; refine yv (y_f 1 4 Tryz.underlying105 sz4) <| Hd.store1 sz4 rfl rfl rfl pkk (by simp; done) ?_
 try simp only [hyS]
 refine fk [(4,_),(6,_),(7,_),(8,_),(9,_)] K15 ?_; refine Hd.cutK (ι := Unit) [(4,_),(8,_)] (fun _ => []) (fun _ => pt b8 (encR (readyW x k)) 105 :: pt b4 (encR noRdy) 105 :: RwL b w i L) ?_ ?_ ⟨rfl, rfl, trivial⟩
 ·refine Hd.drawsH ([pt b7 (encRW (x, j)) 221]) (fun j => !(([1000] : List Nat).contains j)) mixed ?_
  simp only [List.length, Nat.zero_add, Nat.reduceAdd]; refine tH 0 rfl y_mv <| tH 1 rfl (y_f 0 219 Tryz.underlying221 sz219) <| tH 2 rfl (y_idxA Tryz.underlying219 sz218 rfl rfl (by omega)) ?_; refine tH 3 rfl (y_f 3 4 Tryz.underlying218 sz4) <| tH 4 rfl (y_load1 (v := .bool (x.e k).wr) ag4 rfl (Rd.pt1 pkk (rwc (p := (x, j)) (j := 3) hk (by decide) (by omega) rfl))) ?_; refine tH 5 rfl y_mv <| Hd.part (gd := 93) rfl (fun hg13_93 => ?_) (fun hg13_93 => ?_)
  ·try simp only [hyZ] at hg13_93
   refine Hd.takegH 6 rfl kq kq kq kq rfl rfl y_mv fq sq ?_; refine Hd.takegH 7 rfl kq kq kq kq rfl rfl (y_f 0 219 Tryz.underlying221 sz219) fq sq ?_; refine Hd.takegH 8 rfl kq kq kq kq rfl rfl (y_idxA Tryz.underlying219 sz218 rfl rfl (by omega)) fq sq ?_; refine Hd.takegH 9 rfl kq kq kq kq rfl rfl (y_f 5 4 Tryz.underlying218 sz4) fq sq ?_; refine Hd.takegH 10 rfl kq kq kq kq rfl rfl (y_load1 (v := .bool (x.e k).shut) ag4 rfl (Rd.pt1 pkk (rwc (p := (x, j)) (j := 5) hk (by decide) (by omega) rfl))) fq sq ?_; refine Hd.takegH 11 rfl kq kq kq kq rfl rfl (y_not rfl) fq sq ?_; refine tH 12 rfl (y_pickT rfl rfl) ?_; refine tH 13 rfl y_mv <| Hd.part (gd := 101) rfl (fun hg13_101 => ?_) (fun hg13_101 => ?_)
   ·try simp only [hyZ] at hg13_101
    refine Hd.takegH 14 rfl kq kq kq kq rfl rfl y_mv fq sq ?_; refine Hd.takegH 15 rfl kq kq kq kq rfl rfl (y_to (v' := .int .i64 ((1 - k : Nat) : Int)) (y_subn rfl rfl (by simp only [InK]; omega)) (by (congr 1; omega))) fq sq ?_; refine Hd.takegH 16 rfl kq kq kq kq rfl rfl (y_f 0 219 Tryz.underlying221 sz219) fq sq ?_; refine Hd.takegH 17 rfl kq kq kq kq rfl rfl (y_idxA Tryz.underlying219 sz218 rfl rfl (by omega)) fq sq ?_; refine Hd.takegH 18 rfl kq kq kq kq rfl rfl (y_f 4 31 Tryz.underlying218 sz31) fq sq ?_; refine Hd.takegH 19 rfl kq kq kq kq rfl rfl (y_load1 (v := .slice (j.a (1 - k)) (x.e (1 - k)).b.length (j.c (1 - k))) ag31 rfl (Rd.pt1 pkk (rwc (p := (x, j)) (j := 4) hk1 (by decide) (by omega) rfl))) fq sq ?_; refine Hd.takegH 20 rfl kq kq kq kq rfl rfl (y_len Tryz.underlying31 rfl) fq sq ?_; refine Hd.takegH 21 rfl kq kq kq kq rfl rfl (y_f 16 3 Tryz.underlying221 sz3) fq sq ?_; refine Hd.takegH 22 rfl kq kq kq kq rfl rfl (y_l1 ag3 rfl) fq sq ?_
    refine Hd.takegH 23 rfl kq kq kq kq rfl rfl (y_lss rfl rfl) fq sq ?_; refine Hd.takegH 24 rfl kq kq kq kq rfl rfl y_mv fq sq ?_; refine Hd.part (gd := 112) rfl (fun hg13_112 => ?_) (fun hg13_112 => ?_)
    ·try simp only [hyZ] at hg13_112
     refine qt 25 ?_; refine Hd.takegH 26 rfl kq kq kq kq rfl rfl (y_pickT rfl rfl) fq sq ?_; refine Hd.takegH 27 rfl kq kq kq kq rfl rfl y_mv fq sq ?_; refine Hd.part (gd := 115) rfl (fun hg13_115 => ?_) (fun hg13_115 => ?_)
     ·try simp only [hyZ] at hg13_115
      refine qt 28 ?_; refine qt 29 ?_; refine Hd.takegH 30 rfl kq kq kq kq rfl rfl (y_pickT rfl rfl) fq sq ?_; refine tH 31 rfl (y_pickT rfl rfl) ?_; refine tH 32 rfl (y_f 2 4 Tryz.underlying105 sz4) <| qo 33 ?_; refine Hd.store1 sz4 rfl rfl rfl pkk (by simp; done) ?_
      try simp only [hyS]
      refine qk <| endH kq ?_; refine slots [(4,_),(8,_)] sbq ?_; refine thenN ?_; exact Hd.meet () sbq (Ent.sep (.eq pkk (pt_eq (by rw [hRw]; simp_all [silentW, Bool.or_assoc]; omega)) (.eq pkk (pt_eq (by rfl)) enn)))
     try simp only [hyZ] at hg13_115
     refine Hd.takegH 28 rfl kq kq kq kq rfl rfl (y_f 17 4 Tryz.underlying221 sz4) fq sq ?_; refine Hd.takegH 29 rfl kq kq kq kq rfl rfl (y_l1 ag4 rfl) fq sq ?_; refine Hd.takegH 30 rfl kq kq kq kq rfl rfl (y_pickF rfl rfl) fq sq ?_; refine tH 31 rfl (y_pickT rfl rfl) ?_; refine tH 32 rfl (y_f 2 4 Tryz.underlying105 sz4) <| qo 33 ?_; refine Hd.store1 sz4 rfl rfl rfl pkk (by simp; done) ?_
     try simp only [hyS]
     refine qk <| endH kq ?_; refine slots [(4,_),(8,_)] sbq ?_; refine thenN ?_; exact Hd.meet () sbq (Ent.sep (.eq pkk (pt_eq (by rw [hRw]; exact absurd hg13_115 (by decide))) (.eq pkk (pt_eq (by rfl)) enn)))
    try simp only [hyZ] at hg13_112
    refine Hd.takegH 25 rfl kq kq kq kq rfl rfl y_mv fq sq ?_; refine Hd.takegH 26 rfl kq kq kq kq rfl rfl (y_pickF rfl rfl) fq sq ?_; refine Hd.takegH 27 rfl kq kq kq kq rfl rfl y_mv fq sq ?_; refine Hd.part (gd := 115) rfl (fun hg13_115 => ?_) (fun hg13_115 => ?_)
    ·try simp only [hyZ] at hg13_115
     refine qt 28 ?_; refine qt 29 ?_; refine Hd.takegH 30 rfl kq kq kq kq rfl rfl (y_pickT rfl rfl) fq sq ?_; refine tH 31 rfl (y_pickT rfl rfl) ?_; refine tH 32 rfl (y_f 2 4 Tryz.underlying105 sz4) <| qo 33 ?_; refine Hd.store1 sz4 rfl rfl rfl pkk (by simp; done) ?_
     try simp only [hyS]
     refine qk <| endH kq ?_; refine slots [(4,_),(8,_)] sbq ?_; refine thenN ?_; exact Hd.meet () sbq (Ent.sep (.eq pkk (pt_eq (by rw [hRw]; simp_all [silentW, Bool.or_assoc]; done)) (.eq pkk (pt_eq (by rfl)) enn)))
    try simp only [hyZ] at hg13_115
    refine Hd.takegH 28 rfl kq kq kq kq rfl rfl (y_f 17 4 Tryz.underlying221 sz4) fq sq ?_; refine Hd.takegH 29 rfl kq kq kq kq rfl rfl (y_l1 ag4 rfl) fq sq ?_; refine Hd.takegH 30 rfl kq kq kq kq rfl rfl (y_pickF rfl rfl) fq sq ?_; refine tH 31 rfl (y_pickT rfl rfl) ?_; refine tH 32 rfl (y_f 2 4 Tryz.underlying105 sz4) <| qo 33 ?_; refine Hd.store1 sz4 rfl rfl rfl pkk (by simp; done) ?_
    try simp only [hyS]
    refine qk <| endH kq ?_; refine slots [(4,_),(8,_)] sbq ?_; refine thenN ?_; exact Hd.meet () sbq (Ent.sep (.eq pkk (pt_eq (by rw [hRw]; have h0 : ¬ (((x.cap - (x.e (1 - k)).b.length : Nat) : Int) > 0) := (by omega); rw [hg13_93, hg13_101, decide_eq_false hg13_115, decide_eq_false h0]; simp [silentW, hg13_115, Bool.or_assoc])) (.eq pkk (pt_eq (by rfl)) enn)))
   try simp only [hyZ] at hg13_101
   refine qt 14 ?_; refine qt 15 ?_; refine qt 16 ?_; refine qt 17 ?_; refine qt 18 ?_; refine qt 19 ?_; refine qt 20 ?_; refine qt 21 ?_; refine qt 22 ?_; refine qt 23 ?_; refine qt 24 ?_; refine qt 25 ?_; refine qt 26 ?_; refine qt 27 ?_; refine qt 28 ?_; refine qt 29 ?_; refine qt 30 ?_; refine tH 31 rfl (y_pickF rfl rfl) ?_; refine tH 32 rfl (y_f 2 4 Tryz.underlying105 sz4) <| qo 33 ?_; refine Hd.store1 sz4 rfl rfl rfl pkk (by simp; done) ?_
   try simp only [hyS]
   refine qk <| endH kq ?_; refine slots [(4,_),(8,_)] sbq ?_; refine thenN ?_; exact Hd.meet () sbq (Ent.sep (.eq pkk (pt_eq (by rw [hRw]; simp_all [silentW, Bool.or_assoc]; done)) (.eq pkk (pt_eq (by rfl)) enn)))
  try simp only [hyZ] at hg13_93
  refine qt 6 ?_; refine qt 7 ?_; refine qt 8 ?_; refine qt 9 ?_; refine qt 10 ?_; refine qt 11 ?_; refine tH 12 rfl (y_pickF rfl rfl) ?_; refine tH 13 rfl y_mv <| Hd.part (gd := 101) rfl (fun hg13_101 => ?_) (fun hg13_101 => ?_)
  ·try simp only [hyZ] at hg13_101
   refine Hd.takegH 14 rfl kq kq kq kq rfl rfl y_mv fq sq ?_; refine Hd.takegH 15 rfl kq kq kq kq rfl rfl (y_to (v' := .int .i64 ((1 - k : Nat) : Int)) (y_subn rfl rfl (by simp only [InK]; omega)) (by (congr 1; omega))) fq sq ?_; refine Hd.takegH 16 rfl kq kq kq kq rfl rfl (y_f 0 219 Tryz.underlying221 sz219) fq sq ?_; refine Hd.takegH 17 rfl kq kq kq kq rfl rfl (y_idxA Tryz.underlying219 sz218 rfl rfl (by omega)) fq sq ?_; refine Hd.takegH 18 rfl kq kq kq kq rfl rfl (y_f 4 31 Tryz.underlying218 sz31) fq sq ?_; refine Hd.takegH 19 rfl kq kq kq kq rfl rfl (y_load1 (v := .slice (j.a (1 - k)) (x.e (1 - k)).b.length (j.c (1 - k))) ag31 rfl (Rd.pt1 pkk (rwc (p := (x, j)) (j := 4) hk1 (by decide) (by omega) rfl))) fq sq ?_; refine Hd.takegH 20 rfl kq kq kq kq rfl rfl (y_len Tryz.underlying31 rfl) fq sq ?_; refine Hd.takegH 21 rfl kq kq kq kq rfl rfl (y_f 16 3 Tryz.underlying221 sz3) fq sq ?_; refine Hd.takegH 22 rfl kq kq kq kq rfl rfl (y_l1 ag3 rfl) fq sq ?_
   refine Hd.takegH 23 rfl kq kq kq kq rfl rfl (y_lss rfl rfl) fq sq ?_; refine Hd.takegH 24 rfl kq kq kq kq rfl rfl y_mv fq sq ?_; refine Hd.part (gd := 112) rfl (fun hg13_112 => ?_) (fun hg13_112 => ?_)
   ·try simp only [hyZ] at hg13_112
    refine qt 25 ?_; refine Hd.takegH 26 rfl kq kq kq kq rfl rfl (y_pickT rfl rfl) fq sq ?_; refine Hd.takegH 27 rfl kq kq kq kq rfl rfl y_mv fq sq ?_; refine Hd.part (gd := 115) rfl (fun hg13_115 => ?_) (fun hg13_115 => ?_)
    ·try simp only [hyZ] at hg13_115
     refine qt 28 ?_; refine qt 29 ?_; refine Hd.takegH 30 rfl kq kq kq kq rfl rfl (y_pickT rfl rfl) fq sq ?_; refine tH 31 rfl (y_pickT rfl rfl) ?_; refine tH 32 rfl (y_f 2 4 Tryz.underlying105 sz4) <| qo 33 ?_; refine Hd.store1 sz4 rfl rfl rfl pkk (by simp; done) ?_
     try simp only [hyS]
     refine qk <| endH kq ?_; refine slots [(4,_),(8,_)] sbq ?_; refine thenN ?_; exact Hd.meet () sbq (Ent.sep (.eq pkk (pt_eq (by rw [hRw]; simp_all [silentW, Bool.or_assoc]; done)) (.eq pkk (pt_eq (by rfl)) enn)))
    try simp only [hyZ] at hg13_115
    refine Hd.takegH 28 rfl kq kq kq kq rfl rfl (y_f 17 4 Tryz.underlying221 sz4) fq sq ?_; refine Hd.takegH 29 rfl kq kq kq kq rfl rfl (y_l1 ag4 rfl) fq sq ?_; refine Hd.takegH 30 rfl kq kq kq kq rfl rfl (y_pickF rfl rfl) fq sq ?_; refine tH 31 rfl (y_pickT rfl rfl) ?_; refine tH 32 rfl (y_f 2 4 Tryz.underlying105 sz4) <| qo 33 ?_; refine Hd.store1 sz4 rfl rfl rfl pkk (by simp; done) ?_
    try simp only [hyS]
    refine qk <| endH kq ?_; refine slots [(4,_),(8,_)] sbq ?_; refine thenN ?_; exact Hd.meet () sbq (Ent.sep (.eq pkk (pt_eq (by rw [hRw]; exact absurd hg13_115 (by decide))) (.eq pkk (pt_eq (by rfl)) enn)))
   try simp only [hyZ] at hg13_112
   refine Hd.takegH 25 rfl kq kq kq kq rfl rfl y_mv fq sq ?_; refine Hd.takegH 26 rfl kq kq kq kq rfl rfl (y_pickF rfl rfl) fq sq ?_; refine Hd.takegH 27 rfl kq kq kq kq rfl rfl y_mv fq sq ?_; refine Hd.part (gd := 115) rfl (fun hg13_115 => ?_) (fun hg13_115 => ?_)
   ·try simp only [hyZ] at hg13_115
    refine qt 28 ?_; refine qt 29 ?_; refine Hd.takegH 30 rfl kq kq kq kq rfl rfl (y_pickT rfl rfl) fq sq ?_; refine tH 31 rfl (y_pickT rfl rfl) ?_; refine tH 32 rfl (y_f 2 4 Tryz.underlying105 sz4) <| qo 33 ?_; refine Hd.store1 sz4 rfl rfl rfl pkk (by simp; done) ?_
    try simp only [hyS]
    refine qk <| endH kq ?_; refine slots [(4,_),(8,_)] sbq ?_; refine thenN ?_; exact Hd.meet () sbq (Ent.sep (.eq pkk (pt_eq (by rw [hRw]; simp_all [silentW, Bool.or_assoc]; done)) (.eq pkk (pt_eq (by rfl)) enn)))
   try simp only [hyZ] at hg13_115
   refine Hd.takegH 28 rfl kq kq kq kq rfl rfl (y_f 17 4 Tryz.underlying221 sz4) fq sq ?_; refine Hd.takegH 29 rfl kq kq kq kq rfl rfl (y_l1 ag4 rfl) fq sq ?_; refine Hd.takegH 30 rfl kq kq kq kq rfl rfl (y_pickF rfl rfl) fq sq ?_; refine tH 31 rfl (y_pickT rfl rfl) ?_; refine tH 32 rfl (y_f 2 4 Tryz.underlying105 sz4) <| qo 33 ?_; refine Hd.store1 sz4 rfl rfl rfl pkk (by simp; done) ?_
   try simp only [hyS]
   refine qk <| endH kq ?_; refine slots [(4,_),(8,_)] sbq ?_; refine thenN ?_; exact Hd.meet () sbq (Ent.sep (.eq pkk (pt_eq (by rw [hRw]; exact absurd hg13_101 (by decide))) (.eq pkk (pt_eq (by rfl)) enn)))
  try simp only [hyZ] at hg13_101
  refine qt 14 ?_; refine qt 15 ?_; refine qt 16 ?_; refine qt 17 ?_; refine qt 18 ?_; refine qt 19 ?_; refine qt 20 ?_; refine qt 21 ?_; refine qt 22 ?_; refine qt 23 ?_; refine qt 24 ?_; refine qt 25 ?_; refine qt 26 ?_; refine qt 27 ?_; refine qt 28 ?_; refine qt 29 ?_; refine qt 30 ?_; refine tH 31 rfl (y_pickF rfl rfl) ?_; refine tH 32 rfl (y_f 2 4 Tryz.underlying105 sz4) <| qo 33 ?_; refine Hd.store1 sz4 rfl rfl rfl pkk (by simp; done) ?_
  try simp only [hyS]
  refine qk <| endH kq ?_; refine slots [(4,_),(8,_)] sbq ?_; refine thenN ?_; exact Hd.meet () sbq (Ent.sep (.eq pkk (pt_eq (by rw [hRw]; simp_all [silentW, Bool.or_assoc]; done)) (.eq pkk (pt_eq (by rfl)) enn)))
 intro _; refine sr fun _ K16 => ?_
 refine yv (y_loadn (us := [_, _, _, _, _, _, _]) ag105 rfl (Rd.pt pkk (by (first | (intro j v e; rcases j with _|_|_|_|_|_|_|_|_|_|_|_|j <;> first | exact e | exact absurd e (by simp))))) (by exact sz105)) ?_; refine Hd.storeA (us := encR (readyW x k)) sz105 rfl rfl rfl (by simp [Value.oneCell']) pkk (by exact rfl) ?_; refine fk [(4,_)] K16 ?_; refine Hd.ret ?_; rw [hR]; exact Hd.retC rfl () ag105 rfl (Rd.pt (us := encR (readyW x k)) pkk (fun j v e => by rw [Nat.zero_add]; exact e)) (by exact sz105) rfl (fun q s => rw_fold hi q (Ent.sep enn q s))
theorem bd_rw : Tryz.prog.built 133 [(4, .int .i64 (-1))] = some (RwC newA 0 none 0).toArray := by kernel_rfl
theorem rNew_ct (L : List SP) : Ct Tryz.prog 53 #[] (L) (fun b : Nat => .pointer (some ⟨b, 0, none⟩)) (fun b : Nat => RwP b newA :: L) := by
 refine Ct.o0 Tryz.func53 ?_; intro E
 show Hd E 3 _ _ _ _
 refine sr fun _ K1 => ?_
 refine yv y_as <| fk [] K1 ?_; refine sr fun _ K2 => ?_
 refine yv (y_build (vs := [(4,_)]) rfl bd_rw) ?_; refine Hd.box (us := RwC newA 0 none 0) rfl rfl (fun b2 => ?_); refine yv y_as <| fk [(0,_)] K2 ?_; refine Hd.ret <| Hd.heap (RwP b2 newA :: L) (fun k s => rw_fold (i := ([], none, 0)) rfl k (show sep (pt b2 (RwC newA 0 none 0) 133 :: own 221 20 none 0 0 [] :: Bag Sd [] :: L) k from Ent.sep (.pick pkk (.ownNil enn)) k (bag_nil (f := Sd) s))) ?_; exact Hd.ret1 rfl b2 rfl sq
def rdK (k : Int) (i : Nat) : Bool := decide (k < 3) && (decide (0 < k) || decide ((i : Int) = 0))
def wrK (k : Int) (i : Nat) : Bool := decide (k < 3) && (decide (0 < k) || decide ((i : Int) = 1))
def mkX (k : Int) (n a b : Nat) : WireA := ⟨fun i => ⟨0, 0, if i < a then rdK k i else false, if i < b then wrK k i else false, [], false, 0, 0⟩, n, false, 0, []⟩
abbrev jz : RwI := ⟨fun _ => none, fun _ => 0, none, 0⟩
theorem bd_rx (n : Nat) : Tryz.prog.built 221 [(1, .int .i64 (n : Int))] = some (encRW (mkX 0 n 0 0, jz)).toArray := by kernel_rfl
theorem mkX_r (k : Int) (n j : Nat) (hj : j < 2) : (encRW (mkX k n j j, jz)).set (0 + 0 + j * 8 + 2) (.bool (decide (k < 3) && (decide (0 < k) || decide ((j : Int) = 0)))) = encRW (mkX k n (j + 1) j, jz) := by
 rcases (show j = 0 ∨ j = 1 by omega) with rfl | rfl <;> rfl
theorem mkX_w (k : Int) (n j : Nat) (hj : j < 2) : (encRW (mkX k n (j + 1) j, jz)).set (0 + 0 + j * 8 + 3) (.bool (decide (k < 3) && (decide (0 < k) || decide ((j : Int) = 1)))) = encRW (mkX k n (j + 1) (j + 1), jz) := by
 rcases (show j = 0 ∨ j = 1 by omega) with rfl | rfl <;> rfl
theorem mkX_k (k : Int) (hk : 0 ≤ k ∧ k ≤ 3) (n : Nat) (h2 : k ≠ 2) (h3 : k ≠ 3) : encRW (mkX k n 2 2, jz) = encRW (mkKW k n, jz) := by
 rcases (show k = 0 ∨ k = 1 by omega) with rfl | rfl <;> rfl
def mk4 (k : Int) (n : Nat) : WireA := if k = 2 then connW n else mkX k n 2 2
theorem mk4_k (k : Int) (hk : 0 ≤ k ∧ k ≤ 3) (n : Nat) (h3 : k ≠ 3) : encRW (mk4 k n, jz) = encRW (mkKW k n, jz) := by
 unfold mk4
 by_cases h : k = 2
 ·subst h; rfl
 ·rw [if_neg h]; exact mkX_k k hk n h h3
theorem rw_open (x : WireA) (fs : List Nat) {j : Nat} (hj : j < 2) : ((encRW (openW x fs j, jz)).set (0 + 0 + j * 8 + 0) (.int .i64 1)).set (0 + 0 + j * 8 + 1) (.int .i64 ((fs.getD j 0 : Nat) : Int)) = encRW (openW x fs (j + 1), jz) := by
 rcases (show j = 0 ∨ j = 1 by omega) with rfl | rfl <;> rfl
def badK (k n : Int) : Prop := n < 1 ∨ 65536 < n ∨ (k = 3 ∧ 64 < n)
instance (k n : Int) : Decidable (badK k n) := by unfold badK; exact inferInstance
def mkErr (w : WA) (k n : Int) : Int := if badK k n then 2 else mkE w (mkKE k)
def mkLst (w : WA) (k n : Int) : List Nat := if badK k n then [] else mkF w (mkKE k)
theorem mk_bad {w : WA} {k n : Int} (h : badK k n) : mkErr w k n = 2 ∧ mkLst w k n = [] ∧ makeR w k n = w := ⟨if_pos h, if_pos h, if_pos h⟩
theorem mk_no {w : WA} {k n : Int} (h : ¬ badK k n) (ho : mkOk w (mkKE k) = false) : mkErr w k n = 112 ∧ mkLst w k n = [] ∧ makeR w k n = w := by
 refine ⟨(if_neg h).trans ?_, (if_neg h).trans ?_, (if_neg h).trans ?_⟩
 ·unfold mkE; rw [ho]; rfl
 ·unfold mkF; rw [ho]; rfl
 ·unfold mkW; rw [ho]; rfl
theorem mk_yes {w : WA} {k n : Int} (h : ¬ badK k n) (ho : mkOk w (mkKE k) = true) : mkErr w k n = 0 ∧ mkLst w k n = (frees w.at).take (mkKE k) ∧ makeR w k n = w.addW (openW (mkKW k n) ((frees w.at).take (mkKE k)) (mkKE k)) := by
 refine ⟨(if_neg h).trans ?_, (if_neg h).trans ?_, (if_neg h).trans ?_⟩
 ·unfold mkE; rw [ho]; rfl
 ·unfold mkF; rw [ho]; rfl
 ·unfold mkW; rw [ho]; rfl
theorem rw_add {b : Nat} {w : WA} {i : Rows_} (hi : i.1.map Prod.fst = w.ws) {Y : WireA} {ad : Option Addr} {c : Nat} {L : List SP} (hb : (Y.e 0).b = [] ∧ (Y.e 1).b = [] ∧ Y.wt = []) : ∀ h, sep (pt b ((RwC w i.1.length i.2.1 i.2.2).set (0 + 0) (.slice ad (i.1.length + 1) c)) 133 :: own 221 20 ad (i.1.length + 1) c (i.1.flatMap encRW ++ encRW (Y, jz)) :: Bag Sd i.1 :: L) h → sep (RwP b (w.addW Y) :: L) h := fun h s => by
 have e : SdL (Y, jz) 0 (Bag Sd i.1 :: pt b ((RwC w i.1.length i.2.1 i.2.2).set (0 + 0) (.slice ad (i.1.length + 1) c)) 133 :: own 221 20 ad (i.1.length + 1) c (i.1.flatMap encRW ++ encRW (Y, jz)) :: L) = own 5 1 none 0 0 [] :: own 5 1 none 0 0 [] :: own 3 1 none 0 0 [] :: Bag Sd i.1 :: pt b ((RwC w i.1.length i.2.1 i.2.2).set (0 + 0) (.slice ad (i.1.length + 1) c)) 133 :: own 221 20 ad (i.1.length + 1) c (i.1.flatMap encRW ++ encRW (Y, jz)) :: L := by
  unfold SdL SdB SdW; rw [show 1 - 0 = 1 from rfl, hb.1, hb.2.1, hb.2.2]; rfl
 have s1 : sep (SdL (Y, jz) 0 (Bag Sd i.1 :: pt b ((RwC w i.1.length i.2.1 i.2.2).set (0 + 0) (.slice ad (i.1.length + 1) c)) 133 :: own 221 20 ad (i.1.length + 1) c (i.1.flatMap encRW ++ encRW (Y, jz)) :: L)) h := by
  rw [e]; exact Ent.sep (.ownNil (.ownNil (.ownNil enn))) h s
 have s2 := bag_add (f := Sd) (sd_fold (by decide) h s1)
 refine rw_fold (i := (i.1 ++ [(Y, jz)], ad, c)) (by rw [List.map_append, hi]; rfl) h ?_
 show sep (pt b (RwC (w.addW Y) (i.1 ++ [(Y, jz)]).length ad c) 133 :: own 221 20 ad (i.1 ++ [(Y, jz)]).length c ((i.1 ++ [(Y, jz)]).flatMap encRW) :: Bag Sd (i.1 ++ [(Y, jz)]) :: L) h
 rw [show (i.1 ++ [(Y, jz)]).length = i.1.length + 1 by rw [List.length_append]; rfl, List.flatMap_append, show [(Y, jz)].flatMap encRW = encRW (Y, jz) from by rw [List.flatMap_cons, List.flatMap_nil, List.append_nil]]; exact Ent.sep (.eq pkk (pt_eq (by rfl)) enn) h s2
theorem mkKW_b (k n : Int) : ((mkKW k n).e 0).b = [] ∧ ((mkKW k n).e 1).b = [] ∧ (mkKW k n).wt = [] := by
 unfold mkKW
 split
 ·exact ⟨rfl, rfl, rfl⟩
 ·split
  ·exact ⟨rfl, rfl, rfl⟩
  ·split <;> exact ⟨rfl, rfl, rfl⟩
theorem rMake_ct (L : List SP) (b : Nat) (w : WA) (hw : WOk w) (k n : Int) (hk : 0 ≤ k ∧ k ≤ 3) : Ct Tryz.prog 57 #[.pointer (some ⟨b, 0, none⟩), .int .i64 k, .int .i64 n] (RwP b w :: L) (fun q_ : Option Addr × Nat => .tuple #[.slice q_.1 (mkLst w k n).length q_.2, .int .i64 (mkErr w k n)]) (fun q_ : Option Addr × Nat => own 3 1 q_.1 (mkLst w k n).length q_.2 (nats (mkLst w k n)) :: RwP b (makeR w k n) :: L) := by
 refine Ct.o3 Tryz.func57 ?_; intro E
 show Hd E 116 _ _ _ _
 refine sr fun _ K1 => ?_
 refine yv y_as <| yv y_as <| fk [(0,_),(1,_),(2,_)] K1 ?_; refine Hd.seq fun _ K2 => ?_
 refine sr fun _ K3 => ?_
 refine yv y_mv <| yv (y_lss rfl rfl) ?_; refine yv y_mv ?_; apply Hd.org 3 15 18 [(0,_),(1,_),(2,_)] rfl sbq
 ·intro hg1_15
  try simp only [hyZ] at hg1_15
  simp only [List.take]; refine n1 <| n1 <| yv (y_pickT rfl rfl) ?_; exact Hd.mn
 ·intro hg1_15
  try simp only [hyZ] at hg1_15
  simp only [List.take]; refine y2 y_mv <| y2 (y_gtr rfl rfl) ?_; refine yv (y_pickF rfl rfl) ?_; exact Hd.mn
 simp only [List.drop]; refine yv y_mv ?_; apply Hd.org 7 19 26 [(0,_),(1,_),(2,_)] rfl sbq
 ·intro hg1_19
  try simp only [hyZ] at hg1_19
  simp only [List.take]; refine n1 <| n1 <| n1 <| n1 <| n1 <| n1 <| yv (y_pickT rfl rfl) ?_; exact Hd.mn
 ·intro hg1_19
  try simp only [hyZ] at hg1_19
  simp only [List.take]; refine y2 y_mv <| y2 (y_eql rfl rfl) ?_; refine y2 y_mv ?_; apply Hd.andg 3 22 25 [(0,_),(1,_),(2,_),(19,_)] rfl sbq
  ·intro hg1_22
   try simp only [hyZ] at hg1_22
   simp only [List.take]; refine y2 y_mv <| y2 (y_gtr rfl rfl) ?_; refine y2 (y_pickT rfl rfl) ?_; exact Hd.mn
  ·intro hg1_22
   try simp only [hyZ] at hg1_22
   simp only [List.take]; refine n1 <| n1 <| y2 (y_pickF rfl rfl) ?_; exact Hd.mn
  simp only [List.drop]; refine yv (y_pickF rfl rfl) ?_; exact Hd.mn
 simp only [List.drop]; refine fk [(0,_),(1,_),(2,_),(26,_)] K3 ?_; refine qz ?_ ?_ <;> intro hc0 <;> try simp only [hyZ] at hc0
 ·refine sr fun _ K4 => ?_
  refine yv y_as <| yv y_as <| fk [(6,_),(7,_)] K4 ?_; refine Hd.ret <| Hd.thenRet ?_
  obtain ⟨e1, e2, e3⟩ := mk_bad (w := w) (k := k) (n := n) (by unfold badK; omega)
  rw [e1, e2, e3]; exact Hd.ret2 rfl (none, 0) rfl rfl rfl (Ent.sep (.ownNil enn))
 have hb : ¬ badK k n := by unfold badK; omega
 obtain ⟨m, rfl⟩ : ∃ m : Nat, n = (m : Int) := ⟨n.toNat, by unfold badK at hb; omega⟩
 refine qv K2 <| sr fun _ K5 => ?_
 refine yv y_as <| fk [(0,_),(1,_),(2,_),(8,_)] K5 ?_; refine Hd.cutK (ι := Unit) [(0,_),(1,_),(2,_)] (fun _ => [(8, .int .i64 (mkKE k : Nat))]) (fun _ => RwP b w :: L) ?_ ?_ ⟨rfl, rfl, rfl, trivial⟩
 ·refine sr fun _ K6 => ?_
  refine yv y_mv <| yv (y_gtr rfl rfl) ?_; refine fk [(0,_),(1,_),(2,_),(8,_),(28,_)] K6 ?_; refine qz ?_ ?_ <;> intro hc1 <;> try simp only [hyZ] at hc1
  ·refine Hd.region ?_
   refine yv y_as <| Hd.nil <| slots [(0,_),(1,_),(2,_),(8,_)] sbq ?_; refine thenN ?_; exact Hd.meet () ⟨congrArg some (congrArg (Value.int .i64) (by unfold mkKE; split <;> omega)), by repeat (first | exact trivial | refine ⟨rfl, ?_⟩)⟩ sq
  refine Hd.skip <| thenN ?_; exact Hd.meet () ⟨congrArg some (congrArg (Value.int .i64) (by unfold mkKE; split <;> omega)), by repeat (first | exact trivial | refine ⟨rfl, ?_⟩)⟩ sq
 intro _; refine sr fun _ K7 => ?_
 refine yv y_mv <| callE rfl fk114 (rfree_ct _ b w hw) sq ?_; rintro ⟨ad, c⟩; dsimp only
 have hlen := hw.len
 refine Hd.rw (.there .here) (fun i hi => ?_)
 have hrl := rows_n hi
 refine yv y_as <| fk [(0,_),(1,_),(2,_),(8,_),(9,_)] K7 ?_; refine Hd.seq fun _ K8 => ?_
 refine sr fun _ K9 => ?_
 refine yv y_mv <| yv (y_len Tryz.underlying44 rfl) ?_; refine yv y_mv <| yv (y_lss rfl rfl) ?_; refine yv y_mv ?_; apply Hd.org 7 35 42 [(0,_),(1,_),(2,_),(8,_),(9,_)] rfl sbq
 ·intro hg7_35
  try simp only [hyZ] at hg7_35
  simp only [List.take]; refine n1 <| n1 <| n1 <| n1 <| n1 <| n1 <| yv (y_pickT rfl rfl) ?_; exact Hd.mn
 ·intro hg7_35
  try simp only [hyZ] at hg7_35
  simp only [List.take]; refine y2 y_mv <| y2 y_np <| y2 (y_f 0 129 Tryz.underlying133 sz129) <| y2 (y_l1 ag129 rfl) <| y2 (y_len Tryz.underlying129 rfl) ?_; refine y2 (y_geq rfl rfl) ?_; refine yv (y_pickF rfl rfl) ?_; exact Hd.mn
 simp only [List.drop]; refine fk [(0,_),(1,_),(2,_),(8,_),(9,_),(42,_)] K9 ?_; refine qz ?_ ?_ <;> intro hc2 <;> try simp only [hyZ] at hc2
 ·refine sr fun _ K10 => ?_
  refine yv y_as <| yv y_as <| fk [(6,_),(7,_)] K10 ?_; refine Hd.ret <| Hd.thenRet ?_
  have ho : mkOk w (mkKE k) = false := by
   unfold mkOk; rw [List.length_take, Bool.and_eq_false_iff, decide_eq_false_iff_not, decide_eq_false_iff_not]; omega
  obtain ⟨e1, e2, e3⟩ := mk_no hb ho
  rw [e1, e2, e3]; exact Hd.ret2 rfl (none, 0) rfl rfl rfl (Ent.sep (.ownNil (.ex i (.pure hi enn))))
 have ho : mkOk w (mkKE k) = true := by
  unfold mkOk; rw [List.length_take, Bool.and_eq_true, decide_eq_true_eq, decide_eq_true_eq]; omega
 obtain ⟨e1, e2, e3⟩ := mk_yes hb ho
 have hE := mkKE_le k
 have hfl : ((frees w.at).take (mkKE k)).length = mkKE k := by unfold mkOk at ho; simp at ho; rw [List.length_take]; omega
 refine qv K8 <| sr fun _ K11 => ?_
 refine yv y_mv <| yv (y_build (vs := [(1,_)]) rfl (bd_rx m)) ?_; refine Hd.alloc zr221 (fun b10 => ?_); refine Hd.storeA (us := encRW (mkX 0 m 0 0, jz)) sz221 rfl rfl rfl (encRW_one _) pkk (by exact rfl) ?_; refine fk [(0,_),(1,_),(2,_),(8,_),(9,_),(10,_)] K11 ?_; refine Hd.seq fun _ K12 => ?_
 refine sr fun _ K13 => ?_
 refine Hd.heap (pt b10 (encRW (mkX k m 0 0, jz)) 221 :: own 3 1 ad (frees w.at).length c (nats (frees w.at)) :: RwL b w i L) (Ent.sep (.eq pkk (pt_eq (by rfl)) enn)) ?_; refine yv y_as <| fk [(0,_),(1,_),(2,_),(8,_),(9,_),(10,_),(11,_)] K13 ?_; refine Hd.block <| Hd.loopK (ι := Nat) [(0,_),(1,_),(2,_),(8,_),(9,_),(10,_)] (fun j => [(11, .int .i64 (j : Int))]) (fun j => pu (j ≤ 2) :: pt b10 (encRW (mkX k m j j, jz)) 221 :: own 3 1 ad (frees w.at).length c (nats (frees w.at)) :: RwL b w i L) (fun j => 2 - j) 0 sbq sbq (Ent.sep (.pure (by omega) enn)) ?_; intro j
 try dsimp only
 refine Hd.pure (fun hp0 => ?_)
 try dsimp only at hp0
 refine Hd.seq fun _ K14 => ?_
 refine sr fun _ K15 => ?_
 refine yv y_mv <| yv (y_lss rfl rfl) ?_; refine fk [(0,_),(1,_),(2,_),(8,_),(9,_),(10,_),(11,_),(46,_)] K15 ?_; refine qz ?_ ?_ <;> intro hc3 <;> try simp only [hyZ] at hc3
 ·have hj : j < 2 := by omega
  refine qv K14 <| Hd.seq fun _ K16 => ?_
  refine Hd.block <| sr fun _ K17 => ?_
  refine yv y_mv <| yv y_mv <| yv (y_lss rfl rfl) ?_; refine yv y_mv ?_; apply Hd.andg 7 52 59 [(0,_),(1,_),(2,_),(8,_),(9,_),(10,_),(11,_),(49,_)] rfl sbq
  ·intro hg13_52
   try simp only [hyZ] at hg13_52
   simp only [List.take]; refine y2 y_mv <| y2 (y_gtr rfl rfl) ?_; refine y2 y_mv ?_; apply Hd.org 3 55 58 [(0,_),(1,_),(2,_),(8,_),(9,_),(10,_),(11,_),(49,_),(52,_)] rfl sbq
   ·intro hg13_55
    try simp only [hyZ] at hg13_55
    simp only [List.take]; refine n1 <| n1 <| y2 (y_pickT rfl rfl) ?_; exact Hd.mn
   ·intro hg13_55
    try simp only [hyZ] at hg13_55
    simp only [List.take]; refine y2 y_mv <| y2 (y_eql rfl rfl) ?_; refine y2 (y_pickF rfl rfl) ?_; exact Hd.mn
   simp only [List.drop]; refine yv (y_pickT rfl rfl) ?_; exact Hd.mn
  ·intro hg13_52
   try simp only [hyZ] at hg13_52
   simp only [List.take]; refine n1 <| n1 <| n1 <| n1 <| n1 <| n1 <| yv (y_pickF rfl rfl) ?_; exact Hd.mn
  simp only [List.drop]; refine yv (y_f 0 219 Tryz.underlying221 sz219) <| yv (y_idxA Tryz.underlying219 sz218 rfl rfl (by omega)) ?_; refine yv (y_f 2 4 Tryz.underlying218 sz4) <| Hd.store1 sz4 rfl rfl rfl pkk (by simp; omega) ?_
  try simp only [hyS]
  refine Hd.nil ?_; rw [mkX_r k m j hj]; refine sk [(0,_),(1,_),(2,_),(8,_),(9,_),(10,_),(11,_)] K17 ?_; refine Hd.region <| yv y_mv <| yv y_mv <| yv (y_lss rfl rfl) ?_; refine yv y_mv ?_; apply Hd.andg 7 66 73 [(0,_),(1,_),(2,_),(8,_),(9,_),(10,_),(11,_),(63,_)] rfl sbq
  ·intro hg14_66
   try simp only [hyZ] at hg14_66
   simp only [List.take]; refine y2 y_mv <| y2 (y_gtr rfl rfl) ?_; refine y2 y_mv ?_; apply Hd.org 3 69 72 [(0,_),(1,_),(2,_),(8,_),(9,_),(10,_),(11,_),(63,_),(66,_)] rfl sbq
   ·intro hg14_69
    try simp only [hyZ] at hg14_69
    simp only [List.take]; refine n1 <| n1 <| y2 (y_pickT rfl rfl) ?_; exact Hd.mn
   ·intro hg14_69
    try simp only [hyZ] at hg14_69
    simp only [List.take]; refine y2 y_mv <| y2 (y_eql rfl rfl) ?_; refine y2 (y_pickF rfl rfl) ?_; exact Hd.mn
   simp only [List.drop]; refine yv (y_pickT rfl rfl) ?_; exact Hd.mn
  ·intro hg14_66
   try simp only [hyZ] at hg14_66
   simp only [List.take]; refine n1 <| n1 <| n1 <| n1 <| n1 <| n1 <| yv (y_pickF rfl rfl) ?_; exact Hd.mn
  simp only [List.drop]; refine yv (y_f 0 219 Tryz.underlying221 sz219) <| yv (y_idxA Tryz.underlying219 sz218 rfl rfl (by omega)) ?_; refine yv (y_f 3 4 Tryz.underlying218 sz4) <| Hd.store1 sz4 rfl rfl rfl pkk (by simp; omega) ?_
  try simp only [hyS]
  refine Hd.nil ?_; rw [mkX_w k m j hj]; refine slots [(0,_),(1,_),(2,_),(8,_),(9,_),(10,_),(11,_)] sbq ?_; refine Hd.inB <| Hd.toK K16 ?_; refine Hd.region <| yv y_mv <| yv (y_addn rfl rfl (by simp only [InK]; omega)) ?_; refine yv y_as <| Hd.nil <| slots [(0,_),(1,_),(2,_),(8,_),(9,_),(10,_),(11,_)] sbq ?_; refine thenN ?_; exact Hd.again (j + 1) (by omega) sbq (Ent.sep (.pure (by omega) enn))
 obtain rfl : j = 2 := by omega
 refine Hd.exit <| Hd.thenExit <| Hd.thenExit <| Hd.inBexit <| Hd.toK K12 ?_; refine Hd.cutK (ι := Unit) [(0,_),(1,_),(2,_),(8,_),(9,_),(10,_)] (fun _ => []) (fun _ => pt b10 (encRW (mk4 k m, jz)) 221 :: own 3 1 ad (frees w.at).length c (nats (frees w.at)) :: RwL b w i L) ?_ ?_ ⟨rfl, rfl, rfl, rfl, rfl, rfl, trivial⟩
 ·refine sr fun _ K18 => ?_
  refine yv y_mv <| yv (y_eql rfl rfl) ?_; refine fk [(0,_),(1,_),(2,_),(8,_),(9,_),(10,_),(78,_)] K18 ?_; refine qz ?_ ?_ <;> intro hc4 <;> try simp only [hyZ] at hc4
  ·refine Hd.region ?_
   refine yv (y_f 0 219 Tryz.underlying221 sz219) <| yv (y_idxA Tryz.underlying219 sz218 rfl rfl (by decide)) ?_; refine yv (y_f 0 3 Tryz.underlying218 sz3) <| Hd.store1 sz3 rfl rfl rfl pkk (by simp; done) ?_
   try simp only [hyS]
   refine Hd.nil <| slots [(0,_),(1,_),(2,_),(8,_),(9,_),(10,_)] sbq ?_; refine thenN ?_; exact Hd.meet () sbq (Ent.sep (.eq pkk (pt_eq (by obtain rfl : k = 2 := hc4; rfl)) enn))
  refine Hd.skip <| thenN ?_; exact Hd.meet () sbq (Ent.sep (.eq pkk (pt_eq (by unfold mk4; rw [if_neg hc4])) enn))
 intro _; refine Hd.cutK (ι := Unit) [(0,_),(8,_),(9,_),(10,_)] (fun _ => []) (fun _ => pt b10 (encRW (openW (mkKW k m) ((frees w.at).take (mkKE k)) 0, jz)) 221 :: own 3 1 ad (frees w.at).length c (nats (frees w.at)) :: RwL b w i L) ?_ ?_ ⟨rfl, rfl, rfl, rfl, trivial⟩
 ·refine sr fun _ K19 => ?_
  refine yv y_mv <| yv (y_eql rfl rfl) ?_; refine fk [(0,_),(2,_),(8,_),(9,_),(10,_),(83,_)] K19 ?_; refine qz ?_ ?_ <;> intro hc5 <;> try simp only [hyZ] at hc5
  ·refine Hd.region ?_
   refine yv y_mv <| yv (y_f 18 3 Tryz.underlying221 sz3) <| Hd.store1 sz3 rfl rfl rfl pkk (by simp; done) ?_
   try simp only [hyS]
   refine Hd.nil <| slots [(0,_),(8,_),(9,_),(10,_)] sbq ?_; refine thenN ?_; exact Hd.meet () sbq (Ent.sep (.eq pkk (pt_eq (by obtain rfl : k = 3 := hc5; rfl)) enn))
  refine Hd.skip <| thenN ?_; exact Hd.meet () sbq (Ent.sep (.eq pkk (pt_eq (by rw [mk4_k k hk m hc5]; rfl)) enn))
 intro _
 obtain ⟨X, hX⟩ : ∃ X, mkKW k m = X := ⟨_, rfl⟩
 obtain ⟨N, hN⟩ : ∃ N, mkKE k = N := ⟨_, rfl⟩
 rw [hX, hN]; rw [hX, hN] at e3; rw [hN] at e2 hE hfl
 obtain ⟨fs, hfs⟩ : ∃ fs, (frees w.at).take N = fs := ⟨_, rfl⟩
 rw [hfs] at e2 e3 hfl ⊢
 have hfrl : N ≤ (frees w.at).length := by rw [← hfs, List.length_take] at hfl; omega
 have hg : ∀ {j : Nat}, j < N → (nats (frees w.at))[j * 1]? = some (.int .i64 ((fs.getD j 0 : Nat) : Int)) := fun {j} hj => by
  rw [nats_at (by omega), ← hfs, List.getD_eq_getElem?_getD, List.getD_eq_getElem?_getD, List.getElem?_take_of_lt hj]
 refine Hd.seq fun _ K20 => ?_
 refine sr fun _ K21 => ?_
 refine yv y_as <| fk [(0,_),(8,_),(9,_),(10,_),(12,_)] K21 ?_; refine Hd.block <| Hd.loopK (ι := Nat) [(0,_),(8,_),(9,_),(10,_)] (fun j => [(12, .int .i64 (j : Int))]) (fun j => pu (j ≤ N) :: pt b10 (encRW (openW X fs j, jz)) 221 :: own 3 1 ad (frees w.at).length c (nats (frees w.at)) :: RwL b w i L) (fun j => N - j) 0 sbq sbq (Ent.sep (.pure (by omega) enn)) ?_; intro j
 try dsimp only
 refine Hd.pure (fun hp1 => ?_)
 try dsimp only at hp1
 refine Hd.seq fun _ K22 => ?_
 refine sr fun _ K23 => ?_
 refine yv y_mv <| yv y_mv <| yv (y_lss rfl rfl) ?_; refine fk [(0,_),(8,_),(9,_),(10,_),(12,_),(88,_)] K23 ?_; refine qz ?_ ?_ <;> intro hc6 <;> try simp only [hyZ] at hc6
 ·have hj : j < N := by omega
  have hj2 : j < 2 := by omega
  refine qv K22 <| Hd.seq fun _ K24 => ?_
  refine Hd.block <| sr fun _ K25 => ?_
  refine yv y_mv <| yv (y_f 0 219 Tryz.underlying221 sz219) <| yv (y_idxA Tryz.underlying219 sz218 rfl rfl (by omega)) ?_; refine yv (y_f 0 3 Tryz.underlying218 sz3) <| Hd.store1 sz3 rfl rfl rfl pkk (by simp; omega) ?_
  try simp only [hyS]
  refine fk [(0,_),(8,_),(9,_),(10,_),(12,_)] K25 ?_; refine Hd.region <| yv y_mv <| yv y_mv <| yv y_mv <| yv (y_idxR Tryz.underlying44 sz3 rfl rfl (by omega) (by exact RdS.own pkk)) ?_; refine yv (y_loadR1 ag3 rfl (by exact RdS.own pkk) (by exact hg hj)) ?_; refine yv (y_f 0 219 Tryz.underlying221 sz219) <| yv (y_idxA Tryz.underlying219 sz218 rfl rfl (by omega)) ?_; refine yv (y_f 1 3 Tryz.underlying218 sz3) <| Hd.store1 sz3 rfl rfl rfl pkk (by simp; omega) ?_
  try simp only [hyS]
  refine Hd.nil ?_; rw [rw_open X fs hj2]; refine slots [(0,_),(8,_),(9,_),(10,_),(12,_)] sbq ?_; refine Hd.inB <| Hd.toK K24 ?_; refine Hd.region <| yv y_mv <| yv (y_addn rfl rfl (by simp only [InK]; omega)) ?_; refine yv y_as <| Hd.nil <| slots [(0,_),(8,_),(9,_),(10,_),(12,_)] sbq ?_; refine thenN ?_; exact Hd.again (j + 1) (by omega) sbq (Ent.sep (.pure (by omega) enn))
 obtain rfl : N = j := by omega
 refine Hd.exit <| Hd.thenExit <| Hd.thenExit <| Hd.inBexit <| Hd.toK K20 ?_; refine Hd.seq fun _ K26 => ?_
 refine Hd.drawsH ([RwH b w i.1.length i.2.1 i.2.2, pt b10 (encRW (openW X fs N, jz)) 221]) (fun j => !([10].contains j)) mixed ?_; simp only [List.length, Nat.zero_add, Nat.reduceAdd]; refine tH 0 rfl y_mv <| tH 1 rfl y_mv <| tH 2 rfl y_np <| tH 3 rfl (y_f 0 129 Tryz.underlying133 sz129) <| tH 4 rfl (y_l1 ag129 rfl) <| tH 5 rfl (y_loadn ag221 rfl (Rd.pt pkk (by exact fun j v e => by rw [Nat.zero_add]; exact e)) (by exact sz221)) ?_; refine qo 6 ?_; refine Hd.bslice (vs := [(0,_)]) rfl (by exact bs57_109 ..) (fun b109 => ?_); refine qk <| qo 7 ?_; refine Hd.append Tryz.underlying129 ty221 rfl rfl rfl pkk (by exact RdS.rd (Rd.pt pkk (fun j v e => by simpa using e)) rfl) (by simp [Value.oneCell']; done) (by simp only [maxLen]; omega) (by omega) (fun ad110 cap110 => ?_); refine qk <| qo 8 ?_; refine yv y_np <| qk <| tH 9 rfl (y_f 0 129 Tryz.underlying133 sz129) ?_
 refine qo 10 ?_; refine Hd.store1 sz129 rfl rfl rfl pkk (by simp; done) ?_
 try simp only [hyS]
 refine qn <| endH kq ?_; refine sk [(8,_),(9,_)] K26 ?_; refine Hd.seq fun _ K27 => ?_
 refine Hd.ownCap (ad := ad) (us := nats (frees w.at)) pkk (fun hcap => ?_); refine Hd.region <| yv y_mv <| yv y_mv <| yv (y_slo_xoxN Tryz.underlying44 sz3 rfl rfl (by omega)) ?_; refine yv y_as <| yv y_as <| fk [(6,_),(7,_)] K27 ?_; refine Hd.ret ?_; rw [e1, e2, e3]; refine Hd.ownTake (ad := ad) (us := nats (frees w.at)) pkk N (nats fs) (nats ((frees w.at).drop N)) hfrl (by rw [← hfs, ← List.map_append, List.take_append_drop]) (by rw [List.length_map, hfl, Nat.mul_one]) ?_
 have hbb : ((openW X fs N).e 0).b = [] ∧ ((openW X fs N).e 1).b = [] ∧ (openW X fs N).wt = [] := by
  have h := mkKW_b k m
  rw [hX] at h; exact ⟨by rw [(open_same X fs N 0).2]; exact h.1, by rw [(open_same X fs N 1).2]; exact h.2.1, h.2.2⟩
 refine Hd.heap (RwP b (w.addW (openW X fs N)) :: own 3 1 ad N c (nats fs) :: L) (fun q s => rw_add (i := i) hi hbb q (by exact Ent.sep (.pick pkk (.eq pkk (own_eq3 rfl rfl (by rfl)) enn)) q s)) ?_; rw [← hfl]; exact Hd.ret2 rfl (ad, c) rfl rfl rfl sq
end Rf
end Go.Proofs.YtbfddabjbkohdaaGreat
