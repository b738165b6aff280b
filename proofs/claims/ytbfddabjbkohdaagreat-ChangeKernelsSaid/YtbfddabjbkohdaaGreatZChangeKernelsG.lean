/-
  The document's world: Shut, PeerShut, PeerClose, Wire, Put, Take.
-/
import Derived.Test.YtbfddabjbkohdaaGreatZChangeKernelsF
set_option linter.unusedSimpArgs false
set_option linter.unusedVariables false
set_option linter.unnecessarySimpa false
set_option maxRecDepth 8000
set_option maxHeartbeats 2000000
open Go.RX.Hd (yv y2 n1 fk sk sr tH callE heldK qo qk qn qt qz qv endH thenN slots)
namespace Go.Proofs.YtbfddabjbkohdaaGreat
open Go.RX Fx
namespace Rf
open Wo
theorem atN_no {o : Option (Nat × Nat)} (h : atN o < 0) : o = none := by
 cases o with
 | none => rfl
 | some p => simp only [atN] at h; omega
theorem atN_yes {o : Option (Nat × Nat)} (h : 0 ≤ atN o) : ∃ n k, o = some (n, k) := by
 cases o with
 | none => simp only [atN] at h; omega
 | some p => exact ⟨p.1, p.2, rfl⟩
theorem rShut_ct (L : List SP) (b : Nat) (w : WA) (hw : WOk w) (fd : Int) : Ct Tryz.prog 66 #[.pointer (some ⟨b, 0, none⟩), .int .i64 fd] (RwP b w :: L) (fun _ : Unit => .int .i64 (shutR w fd).1) (fun _ : Unit => RwP b (shutR w fd).2 :: L) := by
 refine Ct.o2 Tryz.func66 ?_; intro E
 show Hd E 45 _ _ _ _
 refine sr fun _ K1 => ?_
 refine yv y_as <| fk [(0,_),(1,_)] K1 ?_; refine sr fun _ K2 => ?_
 refine yv y_mv <| yv y_mv <| callE rfl fk116 (rat_ct _ b w hw fd) sq ?_; intro _; refine yv y_mv <| yv y_ex <| yv y_ex <| yv y_as <| yv y_as <| fk [(0,_),(5,_),(6,_)] K2 ?_; refine Hd.seq fun _ K3 => ?_
 refine sr fun _ K4 => ?_
 refine yv y_mv <| yv (y_lss rfl rfl) ?_; refine fk [(0,_),(5,_),(6,_),(14,_)] K4 ?_; refine qz ?_ ?_ <;> intro hc0 <;> try simp only [hyZ] at hc0
 ·have hno := atN_no hc0
  refine sr fun _ K5 => ?_
  refine yv y_as <| fk [(4,_)] K5 ?_; refine Hd.ret <| Hd.thenRet ?_; rw [show shutR w fd = (110, w) by unfold shutR; rw [hno]]; exact Hd.ret1 rfl () rfl sq
 obtain ⟨n, k, hnk⟩ := atN_yes (by omega)
 obtain ⟨_, _, hk, _, x, hx, _, _⟩ := hw.at_lt hnk
 rw [show atN (w.at fd) = (n : Int) by rw [hnk]; rfl, show atK (w.at fd) = (k : Int) by rw [hnk]; rfl]; refine Hd.rw .here (fun i hi => ?_)
 have hrl := rows_n hi
 obtain ⟨j, hrow⟩ := row_at hi hx
 have hn : n < i.1.length := (List.getElem?_eq_some_iff.1 hrow).1
 refine qv K3 <| Hd.seq fun _ K6 => ?_
 refine sr fun _ K7 => ?_
 refine yv y_mv <| yv y_np <| yv (y_f 0 129 Tryz.underlying133 sz129) <| yv (y_l1 ag129 rfl) <| yv y_mv <| yv y_mv <| yv (y_idxR Tryz.underlying129 sz221 rfl rfl (by omega) (by exact RdS.own pkk)) ?_; refine yv (y_fR 0 219 Tryz.underlying221 sz219) ?_; refine yv (y_idxAR Tryz.underlying219 sz218 rfl rfl (by omega)) ?_; refine yv (y_fR 2 4 Tryz.underlying218 sz4) ?_; refine yv (y_rc ag4 rfl hrow hk 2 rfl) ?_; refine yv (y_not rfl) <| yv y_mv ?_; apply Hd.org 13 27 40 [(0,_),(5,_),(6,_)] rfl sbq
 ·intro hg4_27
  try simp only [hyZ] at hg4_27
  simp only [List.take]; refine n1 <| n1 <| n1 <| n1 <| n1 <| n1 <| n1 <| n1 <| n1 <| n1 <| n1 <| n1 <| yv (y_pickT rfl rfl) ?_; exact Hd.mn
 ·intro hg4_27
  try simp only [hyZ] at hg4_27
  simp only [List.take]; refine y2 y_mv <| y2 y_np <| y2 (y_f 0 129 Tryz.underlying133 sz129) <| y2 (y_l1 ag129 rfl) <| y2 y_mv <| y2 y_mv <| y2 (y_idxR Tryz.underlying129 sz221 rfl rfl (by omega) (by exact RdS.own pkk)) ?_; refine y2 (y_fR 0 219 Tryz.underlying221 sz219) ?_; refine y2 (y_idxAR Tryz.underlying219 sz218 rfl rfl (by omega)) ?_; refine y2 (y_fR 3 4 Tryz.underlying218 sz4) ?_; refine y2 (y_rc ag4 rfl hrow hk 3 rfl) ?_; refine y2 (y_not rfl) <| yv (y_pickF rfl rfl) ?_; exact Hd.mn
 simp only [List.drop]; refine fk [(0,_),(5,_),(6,_),(40,_)] K7 ?_; refine qz ?_ ?_ <;> intro hc1 <;> try simp only [hyZ] at hc1
 ·have h1 : (x.e k).rd = false ∨ (x.e k).wr = false := by simpa using hc1
  refine sr fun _ K8 => ?_
  refine yv y_as <| fk [(4,_)] K8 ?_; refine Hd.ret <| Hd.thenRet ?_; rw [show shutR w fd = (111, w) by unfold shutR; rw [hnk]; dsimp only; rw [hx]; exact if_pos h1]; exact Hd.ret1 rfl () rfl (rw_fold hi)
 have h1 : ¬ ((x.e k).rd = false ∨ (x.e k).wr = false) := by
  rintro (h | h) <;> simp [h] at hc1
 refine qv K6 <| sr fun _ K9 => ?_
 refine yv y_mv <| yv y_mv <| yv y_mv <| Hd.heap (RwP b w :: L) (rw_fold hi) ?_; refine callE rfl fk121 (rshut_ct _ b w n x hx k hk) sq ?_; intro _; refine fk [] K9 ?_; refine sr fun _ K10 => ?_
 refine yv y_as <| fk [(4,_)] K10 ?_; refine Hd.ret ?_; rw [show shutR w fd = (0, w.setW n (shutW x k)) by unfold shutR; rw [hnk]; dsimp only; rw [hx]; exact if_neg h1]; exact Hd.ret1 rfl () rfl sq
theorem rPshut_ct (L : List SP) (b : Nat) (w : WA) (n : Int) : Ct Tryz.prog 128 #[.pointer (some ⟨b, 0, none⟩), .int .i64 n] (RwP b w :: L) (fun _ : Unit => .int .i64 (pshutR w n).1) (fun _ : Unit => RwP b (pshutR w n).2 :: L) := by
 refine Ct.o2 Tryz.func128 ?_; intro E
 show Hd E 14 _ _ _ _
 refine sr fun _ K1 => ?_
 refine yv y_as <| fk [(0,_),(1,_)] K1 ?_; refine sr fun _ K2 => ?_
 refine yv y_mv <| yv y_mv <| callE rfl fk177 (router_ct _ b w n) sq ?_; intro _; refine yv y_as <| fk [(0,_),(1,_),(5,_)] K2 ?_; refine Hd.seq fun _ K3 => ?_
 refine sr fun _ K4 => ?_
 refine yv y_mv <| yv (y_not rfl) <| fk [(0,_),(1,_),(10,_)] K4 ?_; refine qz ?_ ?_ <;> intro hc0 <;> try simp only [hyZ] at hc0
 ·refine sr fun _ K5 => ?_
  refine yv y_as <| fk [(4,_)] K5 ?_; refine Hd.ret <| Hd.thenRet ?_
  have hno : outW w n = none := by cases h : outW w n with | none => rfl | some y => rw [h] at hc0; simp at hc0
  rw [show pshutR w n = (116, w) by unfold pshutR; rw [hno]]; exact Hd.ret1 rfl () rfl sq
 obtain ⟨x, ho⟩ : ∃ x, outW w n = some x := by cases h : outW w n with | none => rw [h] at hc0; simp at hc0 | some y => exact ⟨y, rfl⟩
 obtain ⟨h0, hx, _⟩ := outW_some ho
 obtain ⟨k, rfl⟩ : ∃ k : Nat, n = (k : Int) := ⟨n.toNat, by omega⟩
 rw [Int.toNat_natCast] at hx; refine qv K3 <| sr fun _ K6 => ?_
 refine yv y_mv <| yv y_mv <| callE rfl fk121 (rshut_ct _ b w k x hx 1 (by decide)) sq ?_; intro _; refine fk [] K6 ?_; refine sr fun _ K7 => ?_
 refine yv y_as <| fk [(4,_)] K7 ?_; refine Hd.ret ?_; rw [show pshutR w (k : Int) = (0, w.setW k (shutW x 1)) by unfold pshutR; rw [ho]; rfl]; exact Hd.ret1 rfl () rfl sq
theorem rPclose_ct (L : List SP) (b : Nat) (w : WA) (n : Int) : Ct Tryz.prog 130 #[.pointer (some ⟨b, 0, none⟩), .int .i64 n] (RwP b w :: L) (fun _ : Unit => .int .i64 (pcloseR w n).1) (fun _ : Unit => RwP b (pcloseR w n).2 :: L) := by
 refine Ct.o2 Tryz.func130 ?_; intro E
 show Hd E 14 _ _ _ _
 refine sr fun _ K1 => ?_
 refine yv y_as <| fk [(0,_),(1,_)] K1 ?_; refine sr fun _ K2 => ?_
 refine yv y_mv <| yv y_mv <| callE rfl fk177 (router_ct _ b w n) sq ?_; intro _; refine yv y_as <| fk [(0,_),(1,_),(5,_)] K2 ?_; refine Hd.seq fun _ K3 => ?_
 refine sr fun _ K4 => ?_
 refine yv y_mv <| yv (y_not rfl) <| fk [(0,_),(1,_),(10,_)] K4 ?_; refine qz ?_ ?_ <;> intro hc0 <;> try simp only [hyZ] at hc0
 ·refine sr fun _ K5 => ?_
  refine yv y_as <| fk [(4,_)] K5 ?_; refine Hd.ret <| Hd.thenRet ?_
  have hno : outW w n = none := by cases h : outW w n with | none => rfl | some y => rw [h] at hc0; simp at hc0
  rw [show pcloseR w n = (116, w) by unfold pcloseR; rw [hno]]; exact Hd.ret1 rfl () rfl sq
 obtain ⟨x, ho⟩ : ∃ x, outW w n = some x := by cases h : outW w n with | none => rw [h] at hc0; simp at hc0 | some y => exact ⟨y, rfl⟩
 obtain ⟨h0, hx, _⟩ := outW_some ho
 obtain ⟨k, rfl⟩ : ∃ k : Nat, n = (k : Int) := ⟨n.toNat, by omega⟩
 rw [Int.toNat_natCast] at hx; refine qv K3 <| sr fun _ K6 => ?_
 refine yv y_mv <| yv y_mv <| callE rfl fk123 (rclose_ct _ b w k x hx 1 (by decide)) sq ?_; intro _; refine fk [] K6 ?_; refine sr fun _ K7 => ?_
 refine yv y_as <| fk [(4,_)] K7 ?_; refine Hd.ret ?_; rw [show pcloseR w (k : Int) = (0, w.setW k (closeW x 1)) by unfold pcloseR; rw [ho]; rfl]; exact Hd.ret1 rfl () rfl sq
theorem rWire_ct (L : List SP) (b : Nat) (w : WA) (hw : WOk w) (fd : Int) : Ct Tryz.prog 79 #[.pointer (some ⟨b, 0, none⟩), .int .i64 fd] (RwP b w :: L) (fun _ : Unit => .tuple #[.int .i64 (wireN (w.at fd)), .int .i64 (fdErr (w.at fd))]) (fun _ : Unit => RwP b w :: L) := by
 refine Ct.o2 Tryz.func79 ?_; intro E
 show Hd E 17 _ _ _ _
 refine sr fun _ K1 => ?_
 refine yv y_as <| yv y_as <| fk [(0,_),(1,_)] K1 ?_; refine sr fun _ K2 => ?_
 refine yv y_mv <| yv y_mv <| callE rfl fk116 (rat_ct _ b w hw fd) sq ?_; intro _; refine yv y_mv <| yv y_ex <| yv y_ex <| yv y_as <| yv y_as <| fk [(6,_)] K2 ?_; refine Hd.seq fun _ K3 => ?_
 refine sr fun _ K4 => ?_
 refine yv y_mv <| yv (y_lss rfl rfl) ?_; refine fk [(6,_),(15,_)] K4 ?_; refine qz ?_ ?_ <;> intro hc0 <;> try simp only [hyZ] at hc0
 ·refine sr fun _ K5 => ?_
  refine yv y_as <| yv y_as <| fk [(4,_),(5,_)] K5 ?_; refine Hd.ret <| Hd.thenRet ?_
  have hno := atN_no hc0
  rw [hno]; exact Hd.ret2 rfl () rfl rfl rfl sq
 refine qv K3 <| sr fun _ K6 => ?_
 refine yv y_mv <| yv y_as <| yv y_as <| fk [(4,_),(5,_)] K6 ?_; refine Hd.ret ?_
 obtain ⟨n, k, hnk⟩ := atN_yes (by omega)
 rw [hnk]; exact Hd.ret2 rfl () rfl rfl rfl sq
theorem rPut_ct (L : List SP) (b : Nat) (w : WA) (hw : WOk w) (n : Int) (ad : Option Addr) (m c : Nat) (bs : List UInt8) (hm : bs.length = m) (hR : RdS L 1 ad m (bsl bs)) (hml : m ≤ 70368744177664) (hmc : m ≤ c) : Ct Tryz.prog 124 #[.pointer (some ⟨b, 0, none⟩), .int .i64 n, .slice ad m c] (RwP b w :: L) (fun _ : Unit => .tuple #[.int .i64 (putR w n bs).1.1, .int .i64 (putR w n bs).1.2]) (fun _ : Unit => RwP b (putR w n bs).2 :: L) := by
 refine Ct.o3 Tryz.func124 ?_; intro E
 show Hd E 49 _ _ _ _
 refine sr fun _ K1 => ?_
 refine yv y_as <| yv y_as <| fk [(0,_),(1,_),(2,_)] K1 ?_; refine sr fun _ K2 => ?_
 refine yv y_mv <| yv y_mv <| callE rfl fk177 (router_ct _ b w n) sq ?_; intro _; refine yv y_as <| fk [(0,_),(1,_),(2,_),(8,_)] K2 ?_; refine Hd.seq fun _ K3 => ?_
 refine sr fun _ K4 => ?_
 refine yv y_mv <| yv (y_not rfl) <| fk [(0,_),(1,_),(2,_),(13,_)] K4 ?_; refine qz ?_ ?_ <;> intro hc0 <;> try simp only [hyZ] at hc0
 ·refine sr fun _ K5 => ?_
  refine yv y_as <| yv y_as <| fk [(6,_),(7,_)] K5 ?_; refine Hd.ret <| Hd.thenRet ?_
  have hno : outW w n = none := by cases h : outW w n with | none => rfl | some y => rw [h] at hc0; simp at hc0
  rw [show putR w n bs = ((0, 116), w) by unfold putR; rw [hno]]; exact Hd.ret2 rfl () rfl rfl rfl sq
 obtain ⟨x, ho⟩ : ∃ x, outW w n = some x := by cases h : outW w n with | none => rw [h] at hc0; simp at hc0 | some y => exact ⟨y, rfl⟩
 obtain ⟨h0, hx, _⟩ := outW_some ho
 obtain ⟨k, rfl⟩ : ∃ k : Nat, n = (k : Int) := ⟨n.toNat, by omega⟩
 rw [Int.toNat_natCast] at hx
 have hwf := hw.wf x (List.mem_of_getElem? hx)
 refine Hd.rw .here (fun i hi => ?_)
 have hrl := rows_n hi
 obtain ⟨j, hrow⟩ := row_at hi hx
 have hn : k < i.1.length := (List.getElem?_eq_some_iff.1 hrow).1
 refine qv K3 <| Hd.seq fun _ K6 => ?_
 refine sr fun _ K7 => ?_
 refine yv y_mv <| yv y_np <| yv (y_f 0 129 Tryz.underlying133 sz129) <| yv (y_l1 ag129 rfl) <| yv y_mv <| yv (y_idxR Tryz.underlying129 sz221 rfl rfl (by omega) (by exact RdS.own pkk)) ?_; refine yv (y_fR 17 4 Tryz.underlying221 sz4) ?_; refine yv (y_rw ag4 rfl hrow 17 rfl) ?_; refine fk [(0,_),(1,_),(2,_),(21,_)] K7 ?_; refine qz ?_ ?_ <;> intro hc1 <;> try simp only [hyZ] at hc1
 ·refine sr fun _ K8 => ?_
  refine yv y_as <| yv y_as <| fk [(6,_),(7,_)] K8 ?_; refine Hd.ret <| Hd.thenRet ?_; rw [show putR w (k : Int) bs = ((0, 115), w) by unfold putR; rw [ho]; exact if_pos hc1]; exact Hd.ret2 rfl () rfl rfl rfl (rw_fold hi)
 refine qv K6 <| Hd.seq fun _ K9 => ?_
 refine sr fun _ K10 => ?_
 refine yv y_mv <| yv y_np <| yv (y_f 0 129 Tryz.underlying133 sz129) <| yv (y_l1 ag129 rfl) <| yv y_mv <| yv (y_idxR Tryz.underlying129 sz221 rfl rfl (by omega) (by exact RdS.own pkk)) ?_; refine yv (y_fR 0 219 Tryz.underlying221 sz219) ?_; refine yv (y_idxAR Tryz.underlying219 sz218 rfl rfl (by decide)) ?_; refine yv (y_f 5 4 Tryz.underlying218 sz4) <| yv (y_rc (o := k * 20 + 0 + 1 * 8 + 5) ag4 rfl hrow (show 1 < 2 from Nat.lt_succ_self 1) 5 rfl) ?_; refine yv y_mv ?_; apply Hd.org 12 32 44 [(0,_),(1,_),(2,_)] rfl sbq
 ·intro hg6_32
  try simp only [hyZ] at hg6_32
  simp only [List.take]; refine n1 <| n1 <| n1 <| n1 <| n1 <| n1 <| n1 <| n1 <| n1 <| n1 <| n1 <| yv (y_pickT rfl rfl) ?_; exact Hd.mn
 ·intro hg6_32
  try simp only [hyZ] at hg6_32
  simp only [List.take]; refine y2 y_mv <| y2 y_np <| y2 (y_f 0 129 Tryz.underlying133 sz129) <| y2 (y_l1 ag129 rfl) <| y2 y_mv <| y2 (y_idxR Tryz.underlying129 sz221 rfl rfl (by omega) (by exact RdS.own pkk)) ?_; refine y2 (y_fR 0 219 Tryz.underlying221 sz219) ?_; refine y2 (y_idxAR Tryz.underlying219 sz218 rfl rfl (by decide)) ?_; refine y2 (y_fR 0 3 Tryz.underlying218 sz3) ?_; refine y2 (y_rc (o := k * 20 + 0 + 0 * 8 + 0) ag3 rfl hrow (show 0 < 2 from Nat.succ_pos 1) 0 rfl) ?_; refine y2 (y_eql rfl rfl) ?_; refine yv (y_pickF rfl rfl) ?_; exact Hd.mn
 simp only [List.drop]; refine fk [(0,_),(1,_),(2,_),(44,_)] K10 ?_; refine qz ?_ ?_ <;> intro hc2 <;> try simp only [hyZ] at hc2
 ·have h2 : (x.e 1).shut = true ∨ (x.e 0).what = 3 := by simpa using hc2
  refine sr fun _ K11 => ?_
  refine yv y_as <| yv y_as <| fk [(6,_),(7,_)] K11 ?_; refine Hd.ret <| Hd.thenRet ?_; rw [show putR w (k : Int) bs = ((0, 114), w) by unfold putR; rw [ho]; dsimp only; rw [if_neg (by rw [hc1]; decide), if_pos h2]]; exact Hd.ret2 rfl () rfl rfl rfl (rw_fold hi)
 have h2 : ¬ ((x.e 1).shut = true ∨ (x.e 0).what = 3) := by
  rintro (h | h) <;> simp [h] at hc2
 refine qv K9 <| sr fun _ K12 => ?_
 refine yv y_mv <| yv y_mv <| yv y_mv <| Hd.heap (RwP b w :: L) (rw_fold hi) ?_; refine callE rfl fk119 (rfill_ct L b w k x hx hwf 1 (by decide) ad m c bs hm hR hml hmc) sq ?_; intro _; refine yv y_as <| yv y_as <| fk [(6,_),(7,_)] K12 ?_; refine Hd.ret ?_; rw [show putR w (k : Int) bs = ((((putN x 1 bs : Nat) : Int), 0), w.setW k (putW x 1 bs)) by unfold putR; rw [ho]; dsimp only; rw [if_neg (by rw [hc1]; decide), if_neg h2]; rfl]; exact Hd.ret2 rfl () rfl rfl rfl sq
theorem rTake_ct (L : List SP) (b : Nat) (w : WA) (n many : Int) : Ct Tryz.prog 126 #[.pointer (some ⟨b, 0, none⟩), .int .i64 n, .int .i64 many] (RwP b w :: L) (fun q_ : Option Addr × Nat => .tuple #[.slice q_.1 (takR w n many).1.1.length q_.2, .int .i64 (takR w n many).1.2]) (fun q_ : Option Addr × Nat => own 5 1 q_.1 (takR w n many).1.1.length (takR w n many).1.1.length (bsl (takR w n many).1.1) :: RwP b (takR w n many).2 :: L) := by
 refine Ct.o3 Tryz.func126 ?_; intro E
 show Hd E 28 _ _ _ _
 refine sr fun _ K1 => ?_
 refine yv y_as <| yv y_as <| fk [(0,_),(1,_),(2,_)] K1 ?_; refine sr fun _ K2 => ?_
 refine yv y_mv <| yv y_mv <| callE rfl fk177 (router_ct _ b w n) sq ?_; intro _; refine yv y_as <| fk [(0,_),(1,_),(2,_),(8,_)] K2 ?_; refine Hd.seq fun _ K3 => ?_
 refine sr fun _ K4 => ?_
 refine yv y_mv <| yv (y_not rfl) <| fk [(0,_),(1,_),(2,_),(13,_)] K4 ?_; refine qz ?_ ?_ <;> intro hc0 <;> try simp only [hyZ] at hc0
 ·refine sr fun _ K5 => ?_
  refine yv y_as <| yv y_as <| fk [(6,_),(7,_)] K5 ?_; refine Hd.ret <| Hd.thenRet ?_
  have hno : outW w n = none := by cases h : outW w n with | none => rfl | some y => rw [h] at hc0; simp at hc0
  rw [show takR w n many = (([], 116), w) by unfold takR; rw [hno]]; exact Hd.ret2 rfl (none, 0) rfl rfl rfl (Ent.sep (.ownNil .same))
 obtain ⟨x, ho⟩ : ∃ x, outW w n = some x := by cases h : outW w n with | none => rw [h] at hc0; simp at hc0 | some y => exact ⟨y, rfl⟩
 obtain ⟨h0, hx, _⟩ := outW_some ho
 obtain ⟨k, rfl⟩ : ∃ k : Nat, n = (k : Int) := ⟨n.toNat, by omega⟩
 rw [Int.toNat_natCast] at hx; refine qv K3 <| Hd.seq fun _ K6 => ?_
 refine sr fun _ K7 => ?_
 refine yv y_mv <| yv (y_lss rfl rfl) ?_; refine fk [(0,_),(1,_),(2,_),(15,_)] K7 ?_; refine qz ?_ ?_ <;> intro hc1 <;> try simp only [hyZ] at hc1
 ·refine sr fun _ K8 => ?_
  refine yv y_as <| yv y_as <| fk [(6,_),(7,_)] K8 ?_; refine Hd.ret <| Hd.thenRet ?_; rw [show takR w (k : Int) many = (([], 2), w) by unfold takR; rw [ho]; exact if_pos hc1]; exact Hd.ret2 rfl (none, 0) rfl rfl rfl (Ent.sep (.ownNil .same))
 refine Hd.rw .here (fun i hi => ?_)
 have hrl := rows_n hi
 obtain ⟨j, hrow⟩ := row_at hi hx
 have hn : k < i.1.length := (List.getElem?_eq_some_iff.1 hrow).1
 refine qv K6 <| Hd.seq fun _ K9 => ?_
 refine sr fun _ K10 => ?_
 refine yv y_mv <| yv y_np <| yv (y_f 0 129 Tryz.underlying133 sz129) <| yv (y_l1 ag129 rfl) <| yv y_mv <| yv (y_idxR Tryz.underlying129 sz221 rfl rfl (by omega) (by exact RdS.own pkk)) ?_; refine yv (y_fR 17 4 Tryz.underlying221 sz4) ?_; refine yv (y_rw ag4 rfl hrow 17 rfl) ?_; refine fk [(0,_),(1,_),(2,_),(23,_)] K10 ?_; refine qz ?_ ?_ <;> intro hc2 <;> try simp only [hyZ] at hc2
 ·refine sr fun _ K11 => ?_
  refine yv y_as <| yv y_as <| fk [(6,_),(7,_)] K11 ?_; refine Hd.ret <| Hd.thenRet ?_; rw [show takR w (k : Int) many = (([], 115), w) by unfold takR; rw [ho]; dsimp only; rw [if_neg (by omega), if_pos hc2]]; exact Hd.ret2 rfl (none, 0) rfl rfl rfl (fun q s => Ent.sep (.ownNil .same) q (rw_fold hi q s))
 refine qv K9 <| sr fun _ K12 => ?_
 refine yv y_mv <| yv y_mv <| yv y_mv <| Hd.heap (RwP b w :: L) (rw_fold hi) ?_; refine callE rfl fk118 (rget_ct _ b w k x hx 1 (by decide) many (by omega)) sq ?_; rintro ⟨ad, c⟩; dsimp only; refine yv y_as <| yv y_as <| fk [(6,_),(7,_)] K12 ?_; refine Hd.ret ?_; rw [show takR w (k : Int) many = (((x.e 1).b.take many.toNat, 0), w.setW k (takeW x 1 many.toNat)) by unfold takR; rw [ho]; dsimp only; rw [if_neg (by omega), if_neg (by rw [hc2]; decide)]; rfl]; exact Hd.ret2 rfl (ad, c) rfl rfl rfl sq
theorem rRead_ct (L : List SP) (b : Nat) (w : WA) (hw : WOk w) (fd many : Int) : Ct Tryz.prog 62 #[.pointer (some ⟨b, 0, none⟩), .int .i64 fd, .int .i64 many] (RwP b w :: L) (fun q_ : Option Addr × Nat => .tuple #[.slice q_.1 (readR w fd many).1.1.length q_.2, .bool (readR w fd many).1.2.1, .int .i64 (readR w fd many).1.2.2]) (fun q_ : Option Addr × Nat => own 5 1 q_.1 (readR w fd many).1.1.length (readR w fd many).1.1.length (bsl (readR w fd many).1.1) :: RwP b (readR w fd many).2 :: L) := by
 refine Ct.o3 Tryz.func62 ?_; intro E
 show Hd E 86 _ _ _ _
 refine sr fun _ K1 => ?_
 refine yv y_as <| yv y_as <| yv y_as <| fk [(0,_),(1,_),(2,_)] K1 ?_; refine sr fun _ K2 => ?_
 refine yv y_mv <| yv y_mv <| callE rfl fk116 (rat_ct _ b w hw fd) sq ?_; intro _; refine yv y_mv <| yv y_ex <| yv y_ex <| yv y_as <| yv y_as <| fk [(0,_),(2,_),(9,_),(10,_)] K2 ?_; refine Hd.seq fun _ K3 => ?_
 refine sr fun _ K4 => ?_
 refine yv y_mv <| yv (y_lss rfl rfl) ?_; refine fk [(0,_),(2,_),(9,_),(10,_),(18,_)] K4 ?_; refine qz ?_ ?_ <;> intro hc0 <;> try simp only [hyZ] at hc0
 ·have hno := atN_no hc0
  refine sr fun _ K5 => ?_
  refine yv y_as <| yv y_as <| yv y_as <| fk [(6,_),(7,_),(8,_)] K5 ?_; refine Hd.ret <| Hd.thenRet ?_; rw [show readR w fd many = (([], false, 110), w) by unfold readR; rw [hno]]; exact Hd.ret3 rfl (none, 0) rfl rfl rfl rfl (Ent.sep (.ownNil .same))
 obtain ⟨n, k, hnk⟩ := atN_yes (by omega)
 obtain ⟨_, _, hk, _, x, hx, _, _⟩ := hw.at_lt hnk
 rw [show atN (w.at fd) = (n : Int) by rw [hnk]; rfl, show atK (w.at fd) = (k : Int) by rw [hnk]; rfl]
 have hk1 : 1 - k < 2 := by omega
 refine Hd.rw .here (fun i hi => ?_)
 have hrl := rows_n hi
 obtain ⟨j, hrow⟩ := row_at hi hx
 have hn : n < i.1.length := (List.getElem?_eq_some_iff.1 hrow).1
 have hr : readR w fd many = (if (x.e k).rd = false then (([], false, 111), w) else if many < 1 then (([], false, 2), w) else if x.rs = true then (([], false, 115), w)
   else if (x.e k).b ≠ [] then (((x.e k).b.take many.toNat, false, 0), w.setW n (takeW x k many.toNat))
   else if silentW x k = true then (([], true, 0), w) else (([], false, 113), w)) := by unfold readR; rw [hnk]; dsimp only; rw [hx]
 refine qv K3 <| Hd.seq fun _ K6 => ?_
 refine sr fun _ K7 => ?_
 refine yv y_mv <| yv y_np <| yv (y_f 0 129 Tryz.underlying133 sz129) <| yv (y_l1 ag129 rfl) <| yv y_mv <| yv y_mv <| yv (y_idxR Tryz.underlying129 sz221 rfl rfl (by omega) (by exact RdS.own pkk)) ?_; refine yv (y_fR 0 219 Tryz.underlying221 sz219) ?_; refine yv (y_idxAR Tryz.underlying219 sz218 rfl rfl (by omega)) ?_; refine yv (y_fR 2 4 Tryz.underlying218 sz4) ?_; refine yv (y_rc ag4 rfl hrow hk 2 rfl) ?_; refine yv (y_not rfl) <| fk [(0,_),(2,_),(9,_),(10,_),(30,_)] K7 ?_; refine qz ?_ ?_ <;> intro hc1 <;> try simp only [hyZ] at hc1
 ·have h1 : (x.e k).rd = false := by simpa using hc1
  refine sr fun _ K8 => ?_
  refine yv y_as <| yv y_as <| yv y_as <| fk [(6,_),(7,_),(8,_)] K8 ?_; refine Hd.ret <| Hd.thenRet ?_; rw [hr, if_pos h1]; exact Hd.ret3 rfl (none, 0) rfl rfl rfl rfl (fun q s => Ent.sep (.ownNil .same) q (rw_fold hi q s))
 have h1 : ¬ ((x.e k).rd = false) := by simpa using hc1
 refine qv K6 <| Hd.seq fun _ K9 => ?_
 refine sr fun _ K10 => ?_
 refine yv y_mv <| yv (y_lss rfl rfl) ?_; refine fk [(0,_),(2,_),(9,_),(10,_),(32,_)] K10 ?_; refine qz ?_ ?_ <;> intro hc2 <;> try simp only [hyZ] at hc2
 ·refine sr fun _ K11 => ?_
  refine yv y_as <| yv y_as <| yv y_as <| fk [(6,_),(7,_),(8,_)] K11 ?_; refine Hd.ret <| Hd.thenRet ?_; rw [hr, if_neg h1, if_pos hc2]; exact Hd.ret3 rfl (none, 0) rfl rfl rfl rfl (fun q s => Ent.sep (.ownNil .same) q (rw_fold hi q s))
 have h2 : ¬ (many < 1) := by omega
 refine qv K9 <| Hd.seq fun _ K12 => ?_
 refine sr fun _ K13 => ?_
 refine yv y_mv <| yv y_np <| yv (y_f 0 129 Tryz.underlying133 sz129) <| yv (y_l1 ag129 rfl) <| yv y_mv <| yv (y_idxR Tryz.underlying129 sz221 rfl rfl (by omega) (by exact RdS.own pkk)) ?_; refine yv (y_fR 17 4 Tryz.underlying221 sz4) ?_; refine yv (y_rw ag4 rfl hrow 17 rfl) ?_; refine fk [(0,_),(2,_),(9,_),(10,_),(40,_)] K13 ?_; refine qz ?_ ?_ <;> intro hc3 <;> try simp only [hyZ] at hc3
 ·refine sr fun _ K14 => ?_
  refine yv y_as <| yv y_as <| yv y_as <| fk [(6,_),(7,_),(8,_)] K14 ?_; refine Hd.ret <| Hd.thenRet ?_; rw [hr, if_neg h1, if_neg h2, if_pos hc3]; exact Hd.ret3 rfl (none, 0) rfl rfl rfl rfl (fun q s => Ent.sep (.ownNil .same) q (rw_fold hi q s))
 have h3 : ¬ (x.rs = true) := by rw [hc3]; decide
 refine qv K12 <| Hd.seq fun _ K15 => ?_
 refine sr fun _ K16 => ?_
 refine yv y_mv <| yv y_np <| yv (y_f 0 129 Tryz.underlying133 sz129) <| yv (y_l1 ag129 rfl) <| yv y_mv <| yv y_mv <| yv (y_idxR Tryz.underlying129 sz221 rfl rfl (by omega) (by exact RdS.own pkk)) ?_; refine yv (y_fR 0 219 Tryz.underlying221 sz219) ?_; refine yv (y_idxAR Tryz.underlying219 sz218 rfl rfl (by omega)) ?_; refine yv (y_fR 4 31 Tryz.underlying218 sz31) ?_; refine yv (y_rc ag31 rfl hrow hk 4 rfl) ?_; refine yv (y_len Tryz.underlying31 rfl) ?_; refine yv (y_gtr rfl rfl) ?_; refine fk [(0,_),(2,_),(9,_),(10,_),(53,_)] K16 ?_; refine qz ?_ ?_ <;> intro hc4 <;> try simp only [hyZ] at hc4
 ·have h4 : (x.e k).b ≠ [] := fun h => by rw [h] at hc4; simp at hc4
  refine sr fun _ K17 => ?_
  refine yv y_mv <| yv y_mv <| yv y_mv <| yv y_mv <| Hd.heap (RwP b w :: L) (rw_fold hi) ?_; refine callE rfl fk118 (rget_ct _ b w n x hx k hk many (by omega)) sq ?_; rintro ⟨ad, c⟩; dsimp only; refine yv y_as <| yv y_as <| yv y_as <| fk [(6,_),(7,_),(8,_)] K17 ?_; refine Hd.ret <| Hd.thenRet ?_; rw [hr, if_neg h1, if_neg h2, if_neg h3, if_pos h4]; exact Hd.ret3 rfl (ad, c) rfl rfl rfl rfl sq
 have h4 : ¬ ((x.e k).b ≠ []) := fun h => h (List.eq_nil_of_length_eq_zero (by omega))
 refine qv K15 <| Hd.seq fun _ K18 => ?_
 refine sr fun _ K19 => ?_
 refine yv y_mv <| yv y_np <| yv (y_f 0 129 Tryz.underlying133 sz129) <| yv (y_l1 ag129 rfl) <| yv y_mv <| yv y_mv <| yv (y_to (v' := .int .i64 ((1 - k : Nat) : Int)) (y_subn rfl rfl (by simp only [InK]; omega)) (by (congr 1; omega))) ?_; refine yv (y_idxR Tryz.underlying129 sz221 rfl rfl (by omega) (by exact RdS.own pkk)) ?_; refine yv (y_fR 0 219 Tryz.underlying221 sz219) ?_; refine yv (y_idxAR Tryz.underlying219 sz218 rfl rfl (by omega)) ?_; refine yv (y_fR 0 3 Tryz.underlying218 sz3) ?_; refine yv (y_rc ag3 rfl hrow hk1 0 rfl) ?_; refine yv (y_eql rfl rfl) ?_; refine yv y_mv ?_; apply Hd.org 13 72 85 [] rfl sbq
 ·intro hg12_72
  try simp only [hyZ] at hg12_72
  simp only [List.take]; refine n1 <| n1 <| n1 <| n1 <| n1 <| n1 <| n1 <| n1 <| n1 <| n1 <| n1 <| n1 <| yv (y_pickT rfl rfl) ?_; exact Hd.mn
 ·intro hg12_72
  try simp only [hyZ] at hg12_72
  simp only [List.take]; refine y2 y_mv <| y2 y_np <| y2 (y_f 0 129 Tryz.underlying133 sz129) <| y2 (y_l1 ag129 rfl) <| y2 y_mv <| y2 y_mv <| y2 (y_to (v' := .int .i64 ((1 - k : Nat) : Int)) (y_subn rfl rfl (by simp only [InK]; omega)) (by (congr 1; omega))) ?_; refine y2 (y_idxR Tryz.underlying129 sz221 rfl rfl (by omega) (by exact RdS.own pkk)) ?_; refine y2 (y_fR 0 219 Tryz.underlying221 sz219) ?_; refine y2 (y_idxAR Tryz.underlying219 sz218 rfl rfl (by omega)) ?_; refine y2 (y_fR 5 4 Tryz.underlying218 sz4) ?_; refine y2 (y_rc ag4 rfl hrow hk1 5 rfl) ?_; refine yv (y_pickF rfl rfl) ?_; exact Hd.mn
 simp only [List.drop]; refine fk [(85,_)] K19 ?_; refine qz ?_ ?_ <;> intro hc5 <;> try simp only [hyZ] at hc5
 ·have h5 : silentW x k = true := by unfold silentW; simpa using hc5
  refine sr fun _ K20 => ?_
  refine yv y_as <| yv y_as <| yv y_as <| fk [(6,_),(7,_),(8,_)] K20 ?_; refine Hd.ret <| Hd.thenRet ?_; rw [hr, if_neg h1, if_neg h2, if_neg h3, if_neg h4, if_pos h5]; exact Hd.ret3 rfl (none, 0) rfl rfl rfl rfl (fun q s => Ent.sep (.ownNil .same) q (rw_fold hi q s))
 have h5 : ¬ (silentW x k = true) := by unfold silentW; simp [hc5.1, hc5.2]
 refine qv K18 <| sr fun _ K21 => ?_
 refine yv y_as <| yv y_as <| yv y_as <| fk [(6,_),(7,_),(8,_)] K21 ?_; refine Hd.ret ?_; rw [hr, if_neg h1, if_neg h2, if_neg h3, if_neg h4, if_neg h5]; exact Hd.ret3 rfl (none, 0) rfl rfl rfl rfl (fun q s => Ent.sep (.ownNil .same) q (rw_fold hi q s))
theorem rWrite_ct (L : List SP) (b : Nat) (w : WA) (hw : WOk w) (fd : Int) (ad : Option Addr) (m c : Nat) (bs : List UInt8) (hm : bs.length = m) (hR : RdS L 1 ad m (bsl bs)) (hml : m ≤ 70368744177664) (hmc : m ≤ c) : Ct Tryz.prog 64 #[.pointer (some ⟨b, 0, none⟩), .int .i64 fd, .slice ad m c] (RwP b w :: L) (fun _ : Unit => .tuple #[.int .i64 (writeR w fd bs).1.1, .int .i64 (writeR w fd bs).1.2]) (fun _ : Unit => RwP b (writeR w fd bs).2 :: L) := by
 refine Ct.o3 Tryz.func64 ?_; intro E
 show Hd E 76 _ _ _ _
 refine sr fun _ K1 => ?_
 refine yv y_as <| yv y_as <| fk [(0,_),(1,_),(2,_)] K1 ?_; refine sr fun _ K2 => ?_
 refine yv y_mv <| yv y_mv <| callE rfl fk116 (rat_ct _ b w hw fd) sq ?_; intro _; refine yv y_mv <| yv y_ex <| yv y_ex <| yv y_as <| yv y_as <| fk [(0,_),(2,_),(8,_),(9,_)] K2 ?_; refine Hd.seq fun _ K3 => ?_
 refine sr fun _ K4 => ?_
 refine yv y_mv <| yv (y_lss rfl rfl) ?_; refine fk [(0,_),(2,_),(8,_),(9,_),(18,_)] K4 ?_; refine qz ?_ ?_ <;> intro hc0 <;> try simp only [hyZ] at hc0
 ·have hno := atN_no hc0
  refine sr fun _ K5 => ?_
  refine yv y_as <| yv y_as <| fk [(6,_),(7,_)] K5 ?_; refine Hd.ret <| Hd.thenRet ?_; rw [show writeR w fd bs = ((0, 110), w) by unfold writeR; rw [hno]]; exact Hd.ret2 rfl () rfl rfl rfl sq
 obtain ⟨n, k, hnk⟩ := atN_yes (by omega)
 obtain ⟨_, _, hk, _, x, hx, _, _⟩ := hw.at_lt hnk
 have hwf := hw.wf x (List.mem_of_getElem? hx)
 rw [show atN (w.at fd) = (n : Int) by rw [hnk]; rfl, show atK (w.at fd) = (k : Int) by rw [hnk]; rfl]
 have hk1 : 1 - k < 2 := by omega
 refine Hd.rw .here (fun i hi => ?_)
 have hrl := rows_n hi
 obtain ⟨j, hrow⟩ := row_at hi hx
 have hn : n < i.1.length := (List.getElem?_eq_some_iff.1 hrow).1
 have hr : writeR w fd bs = (if (x.e k).wr = false then ((0, 111), w) else if x.rs = true then ((0, 115), w) else if (x.e k).shut = true ∨ (x.e (1 - k)).what = 3 then ((0, 114), w)
   else if bs.length = 0 then ((0, 0), w) else if putN x k bs = 0 then ((0, 113), w) else ((((putN x k bs : Nat) : Int), 0), w.setW n (putW x k bs))) := by unfold writeR; rw [hnk]; dsimp only; rw [hx]
 refine qv K3 <| Hd.seq fun _ K6 => ?_
 refine sr fun _ K7 => ?_
 refine yv y_mv <| yv y_np <| yv (y_f 0 129 Tryz.underlying133 sz129) <| yv (y_l1 ag129 rfl) <| yv y_mv <| yv y_mv <| yv (y_idxR Tryz.underlying129 sz221 rfl rfl (by omega) (by exact RdS.own pkk)) ?_; refine yv (y_fR 0 219 Tryz.underlying221 sz219) ?_; refine yv (y_idxAR Tryz.underlying219 sz218 rfl rfl (by omega)) ?_; refine yv (y_fR 3 4 Tryz.underlying218 sz4) ?_; refine yv (y_rc ag4 rfl hrow hk 3 rfl) ?_; refine yv (y_not rfl) <| fk [(0,_),(2,_),(8,_),(9,_),(30,_)] K7 ?_; refine qz ?_ ?_ <;> intro hc1 <;> try simp only [hyZ] at hc1
 ·have h1 : (x.e k).wr = false := by simpa using hc1
  refine sr fun _ K8 => ?_
  refine yv y_as <| yv y_as <| fk [(6,_),(7,_)] K8 ?_; refine Hd.ret <| Hd.thenRet ?_; rw [hr, if_pos h1]; exact Hd.ret2 rfl () rfl rfl rfl (rw_fold hi)
 have h1 : ¬ ((x.e k).wr = false) := by simpa using hc1
 refine qv K6 <| Hd.seq fun _ K9 => ?_
 refine sr fun _ K10 => ?_
 refine yv y_mv <| yv y_np <| yv (y_f 0 129 Tryz.underlying133 sz129) <| yv (y_l1 ag129 rfl) <| yv y_mv <| yv (y_idxR Tryz.underlying129 sz221 rfl rfl (by omega) (by exact RdS.own pkk)) ?_; refine yv (y_fR 17 4 Tryz.underlying221 sz4) ?_; refine yv (y_rw ag4 rfl hrow 17 rfl) ?_; refine fk [(0,_),(2,_),(8,_),(9,_),(38,_)] K10 ?_; refine qz ?_ ?_ <;> intro hc2 <;> try simp only [hyZ] at hc2
 ·refine sr fun _ K11 => ?_
  refine yv y_as <| yv y_as <| fk [(6,_),(7,_)] K11 ?_; refine Hd.ret <| Hd.thenRet ?_; rw [hr, if_neg h1, if_pos hc2]; exact Hd.ret2 rfl () rfl rfl rfl (rw_fold hi)
 have h2 : ¬ (x.rs = true) := by rw [hc2]; decide
 refine qv K9 <| Hd.seq fun _ K12 => ?_
 refine sr fun _ K13 => ?_
 refine yv y_mv <| yv y_np <| yv (y_f 0 129 Tryz.underlying133 sz129) <| yv (y_l1 ag129 rfl) <| yv y_mv <| yv y_mv <| yv (y_idxR Tryz.underlying129 sz221 rfl rfl (by omega) (by exact RdS.own pkk)) ?_; refine yv (y_fR 0 219 Tryz.underlying221 sz219) ?_; refine yv (y_idxAR Tryz.underlying219 sz218 rfl rfl (by omega)) ?_; refine yv (y_fR 5 4 Tryz.underlying218 sz4) ?_; refine yv (y_rc ag4 rfl hrow hk 5 rfl) ?_; refine yv y_mv ?_; apply Hd.org 14 50 64 [(0,_),(2,_),(8,_),(9,_)] rfl sbq
 ·intro hg8_50
  try simp only [hyZ] at hg8_50
  simp only [List.take]; refine n1 <| n1 <| n1 <| n1 <| n1 <| n1 <| n1 <| n1 <| n1 <| n1 <| n1 <| n1 <| n1 <| yv (y_pickT rfl rfl) ?_; exact Hd.mn
 ·intro hg8_50
  try simp only [hyZ] at hg8_50
  simp only [List.take]; refine y2 y_mv <| y2 y_np <| y2 (y_f 0 129 Tryz.underlying133 sz129) <| y2 (y_l1 ag129 rfl) <| y2 y_mv <| y2 y_mv <| y2 (y_to (v' := .int .i64 ((1 - k : Nat) : Int)) (y_subn rfl rfl (by simp only [InK]; omega)) (by (congr 1; omega))) ?_; refine y2 (y_idxR Tryz.underlying129 sz221 rfl rfl (by omega) (by exact RdS.own pkk)) ?_; refine y2 (y_fR 0 219 Tryz.underlying221 sz219) ?_; refine y2 (y_idxAR Tryz.underlying219 sz218 rfl rfl (by omega)) ?_; refine y2 (y_fR 0 3 Tryz.underlying218 sz3) ?_; refine y2 (y_rc ag3 rfl hrow hk1 0 rfl) ?_; refine y2 (y_eql rfl rfl) ?_; refine yv (y_pickF rfl rfl) ?_; exact Hd.mn
 simp only [List.drop]; refine fk [(0,_),(2,_),(8,_),(9,_),(64,_)] K13 ?_; refine qz ?_ ?_ <;> intro hc3 <;> try simp only [hyZ] at hc3
 ·have h3 : (x.e k).shut = true ∨ (x.e (1 - k)).what = 3 := by simpa using hc3
  refine sr fun _ K14 => ?_
  refine yv y_as <| yv y_as <| fk [(6,_),(7,_)] K14 ?_; refine Hd.ret <| Hd.thenRet ?_; rw [hr, if_neg h1, if_neg h2, if_pos h3]; exact Hd.ret2 rfl () rfl rfl rfl (rw_fold hi)
 have h3 : ¬ ((x.e k).shut = true ∨ (x.e (1 - k)).what = 3) := by
  rintro (h | h) <;> simp [h] at hc3
 refine qv K12 <| Hd.seq fun _ K15 => ?_
 refine sr fun _ K16 => ?_
 refine yv y_mv <| yv (y_len Tryz.underlying31 rfl) ?_; refine yv (y_eql rfl rfl) ?_; refine fk [(0,_),(2,_),(8,_),(9,_),(67,_)] K16 ?_; refine qz ?_ ?_ <;> intro hc4 <;> try simp only [hyZ] at hc4
 ·have h4 : bs.length = 0 := by omega
  refine sr fun _ K17 => ?_
  refine yv y_as <| yv y_as <| fk [(6,_),(7,_)] K17 ?_; refine Hd.ret <| Hd.thenRet ?_; rw [hr, if_neg h1, if_neg h2, if_neg h3, if_pos h4]; exact Hd.ret2 rfl () rfl rfl rfl (rw_fold hi)
 have h4 : ¬ (bs.length = 0) := by omega
 refine qv K15 <| sr fun _ K18 => ?_
 refine yv y_mv <| yv y_mv <| yv y_mv <| yv y_mv <| Hd.heap (RwP b w :: L) (rw_fold hi) ?_; refine callE rfl fk119 (rfill_ct L b w n x hx hwf k hk ad m c bs hm hR hml hmc) sq ?_; intro _; refine yv y_as <| fk [(10,_)] K18 ?_; refine Hd.seq fun _ K19 => ?_
 refine sr fun _ K20 => ?_
 refine yv y_mv <| yv (y_eql rfl rfl) ?_; refine fk [(10,_),(74,_)] K20 ?_; refine qz ?_ ?_ <;> intro hc5 <;> try simp only [hyZ] at hc5
 ·have h5 : putN x k bs = 0 := by omega
  refine sr fun _ K21 => ?_
  refine yv y_as <| yv y_as <| fk [(6,_),(7,_)] K21 ?_; refine Hd.ret <| Hd.thenRet ?_; rw [hr, if_neg h1, if_neg h2, if_neg h3, if_neg h4, if_pos h5]; exact Hd.ret2 rfl () rfl rfl rfl (Ent.sep (.eq pkk (by rw [putW_zero h5, setW_same hx]) enn))
 have h5 : ¬ (putN x k bs = 0) := by omega
 refine qv K19 <| sr fun _ K22 => ?_
 refine yv y_mv <| yv y_as <| yv y_as <| fk [(6,_),(7,_)] K22 ?_; refine Hd.ret ?_; rw [hr, if_neg h1, if_neg h2, if_neg h3, if_neg h4, if_neg h5]; exact Hd.ret2 rfl () rfl rfl rfl sq
end Rf
end Go.Proofs.YtbfddabjbkohdaaGreat
namespace Go.Proofs.YtbfddabjbkohdaaGreat
open Go.RX Fx
namespace Wo
def mkN (w : WA) (k : Nat) : Int := if mkE w k = 0 then (w.ws.length : Int) else 0
theorem mkW_len {w : WA} {k : Nat} {x : WireA} (h : mkE w k = 0) : (mkW w k x).ws.length = w.ws.length + 1 := by
 unfold mkE at h; unfold mkW
 by_cases h1 : mkOk w k = true
 ·rw [if_pos h1]
  show (w.ws ++ [_]).length = _
  rw [List.length_append]; rfl
 ·rw [if_neg h1] at h; exact absurd h (by decide)
theorem outer_mk (L : List SP) (wb : Nat) (w : WA) (n : Nat) (h1 : 1 ≤ n) (h2 : n ≤ 65536) : Ct Tryz.prog 50 #[.pointer (some ⟨wb, 0, none⟩), .int .i64 (n : Int)] (WorldP wb w :: L) (fun _ : Unit => .tuple #[.int .i64 (mkI w 1 0), .int .i64 (mkN w 1), .int .i64 (mkE w 1)]) (fun _ : Unit => WorldP wb (mkW w 1 (connW n)) :: L) := by
 refine Ct.o2 Tryz.func50 ?_; intro E
 show Hd E 35 _ _ _ _
 refine sr fun _ K1 => ?_
 refine yv y_as <| yv y_as <| yv y_as <| fk [(0,_),(1,_)] K1 ?_; refine sr fun _ K2 => ?_
 refine yv y_mv <| callE rfl fk109 (both_ct _ n h1 h2) sq ?_; intro b; refine yv y_as <| fk [(0,_),(1,_),(7,_)] K2 ?_; refine Hd.seq fun _ K3 => ?_
 refine Hd.wire pkk 1 (by omega) (fun i hi => ?_); refine Hd.region <| yv y_mv <| yv y_np <| yv (y_f 0 197 Tryz.underlying199 sz197) <| yv (y_idxA Tryz.underlying197 sz196 rfl rfl (by decide)) ?_; refine yv (y_f 0 3 Tryz.underlying196 sz3) <| Hd.store1 sz3 rfl rfl rfl pkk (by simp; done) ?_
 try simp only [hyS]
 refine Hd.nil ?_; rw [show (encW (halfW n 2) i).set (0 + 0 + 1 * 7 + 0) (.int .i64 2) = encW (connW n) i from rfl]; refine Hd.heap (WireP b (connW n) :: WorldP wb w :: L) (fun q s => wire_close (x := halfW n 2) (f := fun e => { e with what := 2 }) (k := 1) (k' := 1) hi (by omega) (fun _ => rfl) (fun _ => rfl) q (Ent.sep enn q s)) ?_; refine sk [(0,_),(1,_),(7,_)] K3 ?_; refine sr fun _ K4 => ?_
 refine yv y_mv <| yv y_mv <| yv y_mv <| callE rfl fk110 (make_ct _ wb b w n h1 h2 1 (by omega) (connW n) (conn_new h2)) sq ?_; rintro ⟨ad, c⟩; dsimp only; refine yv y_mv <| yv (y_to (v' := .slice ad (mkF w 1).length c) y_ex (by rfl)) ?_; refine yv (y_to (v' := .int .i64 (mkE w 1)) y_ex (by rfl)) ?_; refine yv y_as <| yv y_as <| fk [(0,_),(6,_),(8,_)] K4 ?_; refine Hd.seq fun _ K5 => ?_
 refine sr fun _ K6 => ?_
 refine yv y_mv <| yv (y_neq rfl rfl) ?_; refine fk [(0,_),(6,_),(8,_),(24,_)] K6 ?_; refine qz ?_ ?_ <;> intro hc0 <;> try simp only [hyZ] at hc0
 ·refine sr fun _ K7 => ?_
  refine yv y_mv <| yv y_as <| yv y_as <| yv y_as <| fk [(4,_),(5,_),(6,_)] K7 ?_; refine Hd.ret <| Hd.thenRet ?_
  have h : mkF w 1 = [] := by
   rcases mkF_len (w := w) (k := 1) with h | h
   ·exact absurd h.1 hc0
   ·exact h.2
  rw [show mkI w 1 0 = 0 by unfold mkI; rw [h]; rfl, show mkN w 1 = 0 by unfold mkN; rw [if_neg hc0]]; exact Hd.ret3 rfl () rfl rfl rfl rfl sq
 have hl : (mkF w 1).length = 1 := by
  rcases mkF_len (w := w) (k := 1) with h | h
  ·exact h.2
  ·rw [h.1] at hc0; exact absurd hc0 (by decide)
 have hg0 : (nats (mkF w 1))[0 * 1]? = some (.int .i64 (mkI w 1 0)) := nats_at (by omega)
 have hwl := mkW_len (x := connW n) hc0
 refine qv K5 <| Hd.seq fun _ K8 => ?_
 refine Hd.world pkk (fun i hw hrs => ?_)
 have hrl : i.rs.length = w.ws.length + 1 := by rw [← hwl, ← hrs, List.length_map]
 have hln : i.rs.length ≤ 1000 := by rw [hrl, ← hwl]; exact hw.len
 refine Hd.quiet mixed kq ?_; refine Hq.yv y_mv ?_; refine Hq.yv (y_idxR Tryz.underlying44 sz3 rfl rfl (by exact (show (0 : Nat) < _ by omega)) (by exact RdS.own pkk)) ?_; refine Hq.yv (y_loadR1 ag3 rfl (RdS.own (ad := ad) (us := nats (mkF w 1)) pkk) hg0) ?_; refine Hq.yv y_mv ?_; refine Hq.yv y_np ?_; refine Hq.yv (y_f 288 208 Tryz.underlying210 sz208) ?_; refine Hq.yv (y_load1 ag208 rfl (Rd.pt1 pkk (by exact woT_at (j := 0) (by omega) rfl))) ?_; refine Hq.yv (y_len Tryz.underlying208 rfl) ?_; refine Hq.yv (y_to (v' := .int .i64 (w.ws.length : Int)) (y_subn rfl rfl (by simp only [InK]; omega)) (by (congr 1; omega))) ?_; refine Hq.yv y_as ?_; refine Hq.yv y_as ?_; refine Hq.yv y_as ?_; refine Hq.nil ?_; refine sk [(4,_),(5,_),(6,_)] K8 ?_; refine Hd.ret ?_; rw [show mkN w 1 = (w.ws.length : Int) by unfold mkN; rw [if_pos hc0]]; exact Hd.ret3 rfl () rfl rfl (by rw [hc0]; rfl) rfl (Ent.sep (.ex i (.pure ⟨hw, hrs⟩ enn)))
theorem outer_bad (L : List SP) (wb : Nat) (w : WA) (n : Int) (h : n < 1 ∨ 65536 < n) : Ct Tryz.prog 50 #[.pointer (some ⟨wb, 0, none⟩), .int .i64 n] (WorldP wb w :: L) (fun _ : Unit => .tuple #[.int .i64 0, .int .i64 0, .int .i64 2]) (fun _ : Unit => WorldP wb w :: L) := by
 refine Ct.o2 Tryz.func50 ?_; intro E
 show Hd E 35 _ _ _ _
 refine sr fun _ K1 => ?_
 refine yv y_as <| yv y_as <| yv y_as <| fk [(0,_),(1,_)] K1 ?_; refine sr fun _ K2 => ?_
 refine yv y_mv <| callE rfl fk109 (bothbad_ct _ n h) sq ?_; rintro ⟨b, cs⟩; dsimp only; refine Hd.pure (fun hcs => ?_); refine yv y_as <| fk [(0,_),(1,_),(7,_)] K2 ?_; refine sr fun _ K3 => ?_
 refine yv y_mv <| yv y_np <| yv (y_f 0 197 Tryz.underlying199 sz197) <| yv (y_idxA Tryz.underlying197 sz196 rfl rfl (by decide)) ?_; refine yv (y_f 0 3 Tryz.underlying196 sz3) <| Hd.store1 sz3 rfl rfl rfl pkk (by rw [hcs]; decide) ?_
 try simp only [hyS]
 refine fk [(0,_),(1,_),(7,_)] K3 ?_; refine sr fun _ K4 => ?_
 refine yv y_mv <| yv y_mv <| yv y_mv <| callE rfl fk110 (makebad_ct _ wb b w n h 1) sq ?_; intro _; refine yv y_mv <| yv (y_to (v' := .slice none 0 0) y_ex (by rfl)) ?_; refine yv (y_to (v' := .int .i64 2) y_ex (by rfl)) ?_; refine yv y_as <| yv y_as <| fk [(0,_),(6,_),(8,_)] K4 ?_; refine Hd.seq fun _ K5 => ?_
 refine sr fun _ K6 => ?_
 refine yv y_mv <| yv (y_neq rfl rfl) ?_; refine fk [(0,_),(6,_),(8,_),(24,_)] K6 ?_; refine qz ?_ ?_ <;> intro hc0 <;> try simp only [hyZ] at hc0
 ·refine sr fun _ K7 => ?_
  refine yv y_mv <| yv y_as <| yv y_as <| yv y_as <| fk [(4,_),(5,_),(6,_)] K7 ?_; refine Hd.ret <| Hd.thenRet ?_; exact Hd.ret3 rfl () rfl rfl rfl rfl sq
 exact absurd hc0 (by decide)
def pipeW (n : Nat) : WireA := ((halfW n 2).up 0 fun e => { e with wr := false }).up 1 fun e => { e with rd := false }
theorem pipe_new {n l : Nat} (h : n ≤ 65536) : NewW (pipeW n) l := by
 have e : ∀ k, k < 2 → ((pipeW n).e k).b = [] ∧ ((pipeW n).e k).what = 0 := fun k hk => by
  rcases (show k = 0 ∨ k = 1 by omega) with rfl | rfl <;> exact ⟨rfl, rfl⟩
 refine ⟨⟨fun k hk => ?_, fun k hk => by rw [(e k hk).1]; exact Nat.zero_le _, fun k hk _ => (e k hk).1, h, fun k hk => by rw [(e k hk).2]; decide, ⟨Int.le_refl _, by show (0 : Int) ≤ 64; decide, by show ((0 : Nat) : Int) ≤ 0; decide⟩, fun h1 => absurd h1 (by rw [(e 1 (by omega)).2]; decide)⟩, fun k hk => by rw [(e k hk).2]; decide, rfl⟩
 rcases (show k = 0 ∨ k = 1 by omega) with rfl | rfl <;> rfl
abbrev pwi (i : WI) : WI := ⟨fun j => if j = 0 then i.p 0 else none, i.wa, i.wc⟩
theorem pipe_wire {b n : Nat} {i : WI} {L : List SP} (hi0 : (i.p 0).isSome = true) : ∀ h, sep (pt b (encW (pipeW n) (pwi i)) 199 :: RgO (i.p 0) n [] :: own 3 1 i.wa 0 i.wc [] :: L) h → sep (WireP b (pipeW n) :: L) h := fun h s => by
 refine Ent.sep (Ent.ex (pwi i, 0) (Ent.pure ⟨⟨fun j hj => by
  rcases (show j = 0 ∨ j = 1 by omega) with rfl | rfl
  ·exact hi0
  ·rfl⟩, by omega⟩ ?_)) h s
 show Ent _ (pt b (encW (pipeW n) (pwi i)) 199 :: RgO (i.p 0) n [] :: pu True :: own 3 1 i.wa 0 i.wc [] :: L)
 exact .pick pkk (.pick pkk (.pure trivial enn))
theorem pipe_mk (L : List SP) (wb : Nat) (w : WA) (n : Nat) (h1 : 1 ≤ n) (h2 : n ≤ 65536) : Ct Tryz.prog 54 #[.pointer (some ⟨wb, 0, none⟩), .int .i64 (n : Int)] (WorldP wb w :: L) (fun _ : Unit => .tuple #[.int .i64 (mkI w 2 0), .int .i64 (mkI w 2 1), .int .i64 (mkE w 2)]) (fun _ : Unit => WorldP wb (mkW w 2 (pipeW n)) :: L) := by
 refine Ct.o2 Tryz.func54 ?_; intro E
 show Hd E 37 _ _ _ _
 refine sr fun _ K1 => ?_
 refine yv y_as <| yv y_as <| yv y_as <| fk [(0,_),(1,_)] K1 ?_; refine sr fun _ K2 => ?_
 refine yv y_mv <| callE rfl fk109 (both_ct _ n h1 h2) sq ?_; intro b; refine yv y_as <| fk [(0,_),(1,_),(7,_)] K2 ?_; refine Hd.seq fun _ K3 => ?_
 refine Hd.wire pkk 0 (by omega) (fun i hi => ?_)
 have hi0 : (i.p 0).isSome = true := hi.rd 0 (by omega)
 refine Hd.draws mixed ?_; simp only [List.length, Nat.zero_add, Nat.reduceAdd]; refine Hd.take 0 rfl kq kq kq (fun _ => y_move rfl) fq ?_; refine Hd.take 1 rfl kq kq kq (fun _ => y_move rfl) fq ?_; refine Hd.take 2 rfl kq kq kq (fun _ => y_nilp rfl) fq ?_; refine Hd.take 3 rfl kq kq kq (fun _ => y_field' (q := 0) (ft := 197) Tryz.underlying199 rfl sz197 rfl rfl) fq ?_; refine Hd.take 7 rfl kq kq kq (fun _ => y_nilp rfl) fq ?_; refine Hd.take 8 rfl kq kq kq (fun _ => y_field' (q := 0) (ft := 197) Tryz.underlying199 rfl sz197 rfl rfl) fq ?_; refine Hd.tailAt 6 [4, 5] [6, 9, 10, 11] rfl rfl rfl kq ?_; simp only [pk, List.getElem?_cons_zero, List.getElem?_cons_succ]; refine Ht.yv (y_idxA Tryz.underlying197 sz196 rfl rfl (by decide)) ?_; refine Ht.yv (y_f 3 4 Tryz.underlying196 sz4) ?_; refine Ht.nil ?_; refine Hd.store1 sz4 rfl rfl rfl pkk (by simp; done) ?_
 try simp only [hyS]
 refine yv (y_idxA Tryz.underlying197 sz196 rfl rfl (by decide)) ?_; refine yv (y_f 2 194 Tryz.underlying196 sz194) <| Hd.store1 sz194 rfl rfl rfl pkk (by simp; done) ?_
 try simp only [hyS]
 refine Hd.nil <| Hd.noPn ?_; refine Hd.heap (WireP b (pipeW n) :: WorldP wb w :: L) (fun q s => pipe_wire hi0 q (Ent.sep (.eq pkk (pt_eq (by rfl)) (.eq pkk (show RgO (i.p 0) (halfW n 2).cap ((halfW n 2).e 0).b = RgO (i.p 0) n [] from rfl) (.eq pkk (show own 3 1 i.wa (halfW n 2).wt.length i.wc (nats (halfW n 2).wt) = own 3 1 i.wa 0 i.wc [] from rfl) enn))) q s)) ?_; refine sk [(0,_),(1,_),(7,_)] K3 ?_; refine sr fun _ K4 => ?_
 refine yv y_mv <| yv y_mv <| yv y_mv <| callE rfl fk110 (make_ct _ wb b w n h1 h2 2 (by omega) (pipeW n) (pipe_new h2)) sq ?_; rintro ⟨ad, c⟩; dsimp only; refine yv y_mv <| yv (y_to (v' := .slice ad (mkF w 2).length c) y_ex (by rfl)) ?_; refine yv (y_to (v' := .int .i64 (mkE w 2)) y_ex (by rfl)) ?_; refine yv y_as <| yv y_as <| fk [(6,_),(8,_)] K4 ?_; refine Hd.seq fun _ K5 => ?_
 refine sr fun _ K6 => ?_
 refine yv y_mv <| yv (y_neq rfl rfl) ?_; refine fk [(6,_),(8,_),(29,_)] K6 ?_; refine qz ?_ ?_ <;> intro hc0 <;> try simp only [hyZ] at hc0
 ·refine sr fun _ K7 => ?_
  refine yv y_mv <| yv y_as <| yv y_as <| yv y_as <| fk [(4,_),(5,_),(6,_)] K7 ?_; refine Hd.ret <| Hd.thenRet ?_
  have h : mkF w 2 = [] := by
   rcases mkF_len (w := w) (k := 2) with h | h
   ·exact absurd h.1 hc0
   ·exact h.2
  rw [show mkI w 2 0 = 0 by unfold mkI; rw [h]; rfl, show mkI w 2 1 = 0 by unfold mkI; rw [h]; rfl]; exact Hd.ret3 rfl () rfl rfl rfl rfl sq
 have hl : (mkF w 2).length = 2 := by
  rcases mkF_len (w := w) (k := 2) with h | h
  ·exact h.2
  ·rw [h.1] at hc0; exact absurd hc0 (by decide)
 have hg0 : (nats (mkF w 2))[0 * 1]? = some (.int .i64 (mkI w 2 0)) := nats_at (by omega)
 have hg1 : (nats (mkF w 2))[1 * 1]? = some (.int .i64 (mkI w 2 1)) := nats_at (by omega)
 refine qv K5 <| Hd.seq fun _ K8 => ?_
 refine Hd.quiet mixed kq ?_; refine Hq.yv y_mv ?_; refine Hq.yv (y_idxR Tryz.underlying44 sz3 rfl rfl (by exact (show (0 : Nat) < _ by omega)) (by exact RdS.own pkk)) ?_; refine Hq.yv (y_loadR1 ag3 rfl (RdS.own (ad := ad) (us := nats (mkF w 2)) pkk) hg0) ?_; refine Hq.yv y_mv ?_; refine Hq.yv (y_idxR Tryz.underlying44 sz3 rfl rfl (by exact (show (1 : Nat) < _ by omega)) (by exact RdS.own pkk)) ?_; refine Hq.yv (y_loadR1 ag3 rfl (RdS.own (ad := ad) (us := nats (mkF w 2)) pkk) hg1) ?_; refine Hq.yv y_as ?_; refine Hq.yv y_as ?_; refine Hq.yv y_as ?_; refine Hq.nil ?_; refine sk [(4,_),(5,_),(6,_)] K8 ?_; refine Hd.ret ?_; exact Hd.ret3 rfl () rfl rfl (by rw [hc0]; rfl) rfl sq
theorem pipe_bad (L : List SP) (wb : Nat) (w : WA) (n : Int) (h : n < 1 ∨ 65536 < n) : Ct Tryz.prog 54 #[.pointer (some ⟨wb, 0, none⟩), .int .i64 n] (WorldP wb w :: L) (fun _ : Unit => .tuple #[.int .i64 0, .int .i64 0, .int .i64 2]) (fun _ : Unit => WorldP wb w :: L) := by
 refine Ct.o2 Tryz.func54 ?_; intro E
 show Hd E 37 _ _ _ _
 refine sr fun _ K1 => ?_
 refine yv y_as <| yv y_as <| yv y_as <| fk [(0,_),(1,_)] K1 ?_; refine sr fun _ K2 => ?_
 refine yv y_mv <| callE rfl fk109 (bothbad_ct _ n h) sq ?_; rintro ⟨b, cs⟩; dsimp only; refine Hd.pure (fun hcs => ?_); refine yv y_as <| fk [(0,_),(1,_),(7,_)] K2 ?_; refine Hd.seq fun _ K3 => ?_
 refine Hd.draws mixed ?_; simp only [List.length, Nat.zero_add, Nat.reduceAdd]; refine Hd.take 0 rfl kq kq kq (fun _ => y_move rfl) fq ?_; refine Hd.take 1 rfl kq kq kq (fun _ => y_move rfl) fq ?_; refine Hd.take 2 rfl kq kq kq (fun _ => y_nilp rfl) fq ?_; refine Hd.take 3 rfl kq kq kq (fun _ => y_field' (q := 0) (ft := 197) Tryz.underlying199 rfl sz197 rfl rfl) fq ?_; refine Hd.take 7 rfl kq kq kq (fun _ => y_nilp rfl) fq ?_; refine Hd.take 8 rfl kq kq kq (fun _ => y_field' (q := 0) (ft := 197) Tryz.underlying199 rfl sz197 rfl rfl) fq ?_; refine Hd.tailAt 6 [4, 5] [6, 9, 10, 11] rfl rfl rfl kq ?_; simp only [pk, List.getElem?_cons_zero, List.getElem?_cons_succ]; refine Ht.yv (y_idxA Tryz.underlying197 sz196 rfl rfl (by decide)) ?_; refine Ht.yv (y_f 3 4 Tryz.underlying196 sz4) ?_; refine Ht.nil ?_; refine Hd.store1 sz4 rfl rfl rfl pkk (by rw [hcs]; decide) ?_
 try simp only [hyS]
 refine yv (y_idxA Tryz.underlying197 sz196 rfl rfl (by decide)) ?_; refine yv (y_f 2 194 Tryz.underlying196 sz194) <| Hd.store1 sz194 rfl rfl rfl pkk (by rw [List.length_set, hcs]; decide) ?_
 try simp only [hyS]
 refine Hd.nil <| Hd.noPn ?_; refine sk [(0,_),(1,_),(7,_)] K3 ?_; refine sr fun _ K4 => ?_
 refine yv y_mv <| yv y_mv <| yv y_mv <| callE rfl fk110 (makebad_ct _ wb b w n h 2) sq ?_; intro _; refine yv y_mv <| yv (y_to (v' := .slice none 0 0) y_ex (by rfl)) ?_; refine yv (y_to (v' := .int .i64 2) y_ex (by rfl)) ?_; refine yv y_as <| yv y_as <| fk [(6,_),(8,_)] K4 ?_; refine Hd.seq fun _ K5 => ?_
 refine sr fun _ K6 => ?_
 refine yv y_mv <| yv (y_neq rfl rfl) ?_; refine fk [(6,_),(8,_),(29,_)] K6 ?_; refine qz ?_ ?_ <;> intro hc0 <;> try simp only [hyZ] at hc0
 ·refine sr fun _ K7 => ?_
  refine yv y_mv <| yv y_as <| yv y_as <| yv y_as <| fk [(4,_),(5,_),(6,_)] K7 ?_; refine Hd.ret <| Hd.thenRet ?_; exact Hd.ret3 rfl () rfl rfl rfl rfl sq
 exact absurd hc0 (by decide)
def listW (n : Nat) : WireA := { e := fun _ => blankE, cap := n, rs := false, bl := (n : Int), wt := [] }
theorem list_new {n l : Nat} (h : n ≤ 64) : NewW (listW n) l :=
 ⟨⟨fun k hk => rfl, fun k hk => Nat.zero_le _, fun k hk _ => rfl, by show n ≤ 65536; omega, fun k hk => by show (0 : Int) ≤ 0 ∧ (0 : Int) ≤ 3; decide, ⟨by show (0 : Int) ≤ (n : Int); omega, by show (n : Int) ≤ 64; omega, by show ((0 : Nat) : Int) ≤ (n : Int); omega⟩, fun h1 => absurd (show (0 : Int) = 2 from h1) (by decide)⟩, fun k hk => by show (0 : Int) ≠ 1; decide, rfl⟩
theorem bd_list (n : Int) : Tryz.prog.built 199 [(2, .int .i64 n)] = some ([.int .i64 0, .int .i64 0, .pointer none, .bool false, .bool false, .int .u64 0, .int .u64 0, .int .i64 0, .int .i64 0, .pointer none, .bool false, .bool false, .int .u64 0, .int .u64 0, .bool false, .int .i64 n, .slice none 0 0] : List Value).toArray := by kernel_rfl
theorem listen_mk (L : List SP) (wb : Nat) (w : WA) (n : Nat) (h1 : 1 ≤ n) (h2 : n ≤ 64) : Ct Tryz.prog 56 #[.pointer (some ⟨wb, 0, none⟩), .int .i64 (n : Int)] (WorldP wb w :: L) (fun _ : Unit => .tuple #[.int .i64 (mkI w 1 0), .int .i64 (mkN w 1), .int .i64 (mkE w 1)]) (fun _ : Unit => WorldP wb (mkW w 1 (listW n)) :: L) := by
 refine Ct.o2 Tryz.func56 ?_; intro E
 show Hd E 36 _ _ _ _
 refine Hd.world .here (fun i hw hrs => ?_); refine sr fun _ K1 => ?_
 refine yv y_as <| yv y_as <| yv y_as <| fk [(0,_),(1,_)] K1 ?_; refine Hd.seq fun _ K2 => ?_
 refine sr fun _ K3 => ?_
 refine yv y_mv <| callE rfl fk113 (wnone_ct _ wb w.at w i.rs.length i) sq ?_; intro _; refine yv (y_not rfl) <| yv y_mv ?_; apply Hd.andg 3 11 14 [(0,_),(1,_)] rfl sbq
 ·intro hg1_11
  try simp only [hyZ] at hg1_11
  simp only [List.take]; refine y2 y_mv <| y2 (y_gtr rfl rfl) ?_; refine yv (y_pickT rfl rfl) ?_; exact Hd.mn
 ·intro hg1_11
  try simp only [hyZ] at hg1_11
  simp only [List.take]; refine n1 <| n1 <| yv (y_pickF rfl rfl) ?_; exact Hd.mn
 simp only [List.drop]; refine fk [(0,_),(1,_),(14,_)] K3 ?_; refine qz ?_ ?_ <;> intro hc0 <;> try simp only [hyZ] at hc0
 ·exfalso
  omega
 refine qv K2 <| sr fun _ K4 => ?_
 refine yv y_mv <| yv y_mv <| yv y_mv <| yv (y_build (vs := [(2,_)]) rfl (bd_list (n : Int))) ?_; refine Hd.box (us := [.int .i64 0, .int .i64 0, .pointer none, .bool false, .bool false, .int .u64 0, .int .u64 0, .int .i64 0, .int .i64 0, .pointer none, .bool false, .bool false, .int .u64 0, .int .u64 0, .bool false, .int .i64 (n : Int), .slice none 0 0]) rfl rfl (fun b20 => ?_); refine Hd.heap (WorldP wb w :: WireP b20 (listW n) :: L) (fun q s => Ent.sep (.ex i (.pure ⟨hw, hrs⟩ (.pick pkk (.pick pkk (.pick pkk (.pick pkk (.ex (⟨fun _ => none, none, 0⟩, 0) (.pure ⟨⟨fun j _ => rfl⟩, by omega⟩ (.eq pkk (pt_eq (by rfl)) (.pure trivial (.pure trivial (.ownNil enn)))))))))))) q s) ?_; refine callE rfl fk110 (make_ct _ wb b20 w n h1 (by omega) 1 (by omega) (listW n) (list_new h2)) sq ?_; rintro ⟨ad, c⟩; dsimp only; refine yv y_mv <| yv (y_to (v' := .slice ad (mkF w 1).length c) y_ex (by rfl)) ?_
 refine yv (y_to (v' := .int .i64 (mkE w 1)) y_ex (by rfl)) ?_; refine yv y_as <| yv y_as <| fk [(0,_),(6,_),(7,_)] K4 ?_; refine Hd.seq fun _ K5 => ?_
 refine sr fun _ K6 => ?_
 refine yv y_mv <| yv (y_neq rfl rfl) ?_; refine fk [(0,_),(6,_),(7,_),(25,_)] K6 ?_; refine qz ?_ ?_ <;> intro hc1 <;> try simp only [hyZ] at hc1
 ·refine sr fun _ K7 => ?_
  refine yv y_mv <| yv y_as <| yv y_as <| yv y_as <| fk [(4,_),(5,_),(6,_)] K7 ?_; refine Hd.ret <| Hd.thenRet ?_
  have h : mkF w 1 = [] := by
   rcases mkF_len (w := w) (k := 1) with h | h
   ·exact absurd h.1 hc1
   ·exact h.2
  rw [show mkI w 1 0 = 0 by unfold mkI; rw [h]; rfl, show mkN w 1 = 0 by unfold mkN; rw [if_neg hc1]]; exact Hd.ret3 rfl () rfl rfl rfl rfl sq
 have hl : (mkF w 1).length = 1 := by
  rcases mkF_len (w := w) (k := 1) with h | h
  ·exact h.2
  ·rw [h.1] at hc1; exact absurd hc1 (by decide)
 have hg0 : (nats (mkF w 1))[0 * 1]? = some (.int .i64 (mkI w 1 0)) := nats_at (by omega)
 have hwl := mkW_len (x := listW n) hc1
 refine qv K5 <| Hd.seq fun _ K8 => ?_
 refine Hd.world pkk (fun i hw hrs => ?_)
 have hrl : i.rs.length = w.ws.length + 1 := by rw [← hwl, ← hrs, List.length_map]
 have hln : i.rs.length ≤ 1000 := by rw [hrl, ← hwl]; exact hw.len
 refine Hd.quiet mixed kq ?_; refine Hq.yv y_mv ?_; refine Hq.yv (y_idxR Tryz.underlying44 sz3 rfl rfl (by exact (show (0 : Nat) < _ by omega)) (by exact RdS.own pkk)) ?_; refine Hq.yv (y_loadR1 ag3 rfl (RdS.own (ad := ad) (us := nats (mkF w 1)) pkk) hg0) ?_; refine Hq.yv y_mv ?_; refine Hq.yv y_np ?_; refine Hq.yv (y_f 288 208 Tryz.underlying210 sz208) ?_; refine Hq.yv (y_load1 ag208 rfl (Rd.pt1 pkk (by exact woT_at (j := 0) (by omega) rfl))) ?_; refine Hq.yv (y_len Tryz.underlying208 rfl) ?_; refine Hq.yv (y_to (v' := .int .i64 (w.ws.length : Int)) (y_subn rfl rfl (by simp only [InK]; omega)) (by (congr 1; omega))) ?_; refine Hq.yv y_as ?_; refine Hq.yv y_as ?_; refine Hq.yv y_as ?_; refine Hq.nil ?_; refine sk [(4,_),(5,_),(6,_)] K8 ?_; refine Hd.ret ?_; rw [show mkN w 1 = (w.ws.length : Int) by unfold mkN; rw [if_pos hc1]]; exact Hd.ret3 rfl () rfl rfl (by rw [hc1]; rfl) rfl (Ent.sep (.ex i (.pure ⟨hw, hrs⟩ enn)))
theorem listen_bad (L : List SP) (wb : Nat) (w : WA) (n : Int) (h : n < 1 ∨ 64 < n) : Ct Tryz.prog 56 #[.pointer (some ⟨wb, 0, none⟩), .int .i64 n] (WorldP wb w :: L) (fun _ : Unit => .tuple #[.int .i64 0, .int .i64 0, .int .i64 2]) (fun _ : Unit => WorldP wb w :: L) := by
 refine Ct.o2 Tryz.func56 ?_; intro E
 show Hd E 36 _ _ _ _
 refine Hd.world .here (fun i hw hrs => ?_); refine sr fun _ K1 => ?_
 refine yv y_as <| yv y_as <| yv y_as <| fk [(0,_),(1,_)] K1 ?_; refine Hd.seq fun _ K2 => ?_
 refine sr fun _ K3 => ?_
 refine yv y_mv <| callE rfl fk113 (wnone_ct _ wb w.at w i.rs.length i) sq ?_; intro _; refine yv (y_not rfl) <| yv y_mv ?_; apply Hd.andg 3 11 14 [(0,_),(1,_)] rfl sbq
 ·intro hg1_11
  try simp only [hyZ] at hg1_11
  simp only [List.take]; refine y2 y_mv <| y2 (y_gtr rfl rfl) ?_; refine yv (y_pickT rfl rfl) ?_; exact Hd.mn
 ·intro hg1_11
  try simp only [hyZ] at hg1_11
  simp only [List.take]; refine n1 <| n1 <| yv (y_pickF rfl rfl) ?_; exact Hd.mn
 simp only [List.drop]; refine fk [(0,_),(1,_),(14,_)] K3 ?_; refine qz ?_ ?_ <;> intro hc0 <;> try simp only [hyZ] at hc0
 ·refine sr fun _ K4 => ?_
  refine yv y_as <| yv y_as <| yv y_as <| fk [(4,_),(5,_),(6,_)] K4 ?_; refine Hd.ret <| Hd.thenRet ?_; exact Hd.ret3 rfl () rfl rfl rfl rfl (Ent.sep (.ex i (.pure ⟨hw, hrs⟩ enn)))
 have hn : n < 1 := by simp at hc0; omega
 refine Hd.heap (WorldP wb w :: L) (Ent.sep (.ex i (.pure ⟨hw, hrs⟩ enn))) ?_; refine qv K2 <| sr fun _ K5 => ?_
 refine yv y_mv <| yv y_mv <| yv y_mv <| yv (y_build (vs := [(2,_)]) rfl (bd_list n)) ?_; refine Hd.box (us := [.int .i64 0, .int .i64 0, .pointer none, .bool false, .bool false, .int .u64 0, .int .u64 0, .int .i64 0, .int .i64 0, .pointer none, .bool false, .bool false, .int .u64 0, .int .u64 0, .bool false, .int .i64 n, .slice none 0 0]) rfl rfl (fun b20 => ?_); refine callE rfl fk110 (makebad_ct _ wb b20 w n (.inl hn) 1) sq ?_; intro _; refine yv y_mv <| yv (y_to (v' := .slice none 0 0) y_ex (by rfl)) ?_; refine yv (y_to (v' := .int .i64 2) y_ex (by rfl)) ?_; refine yv y_as <| yv y_as <| fk [(0,_),(6,_),(7,_)] K5 ?_; refine Hd.seq fun _ K6 => ?_
 refine sr fun _ K7 => ?_
 refine yv y_mv <| yv (y_neq rfl rfl) ?_; refine fk [(0,_),(6,_),(7,_),(25,_)] K7 ?_; refine qz ?_ ?_ <;> intro hc1 <;> try simp only [hyZ] at hc1
 ·refine sr fun _ K8 => ?_
  refine yv y_mv <| yv y_as <| yv y_as <| yv y_as <| fk [(4,_),(5,_),(6,_)] K8 ?_; refine Hd.ret <| Hd.thenRet ?_; exact Hd.ret3 rfl () rfl rfl rfl rfl sq
 exact absurd hc1 (by decide)
theorem pass_ct (L : List SP) (wb : Nat) (w : WA) (n : Int) (hn : 0 ≤ n ∧ n ≤ 18446744073709551615) (h0 : 0 ≤ w.now ∧ w.now ≤ 18446744073709551615) : Ct Tryz.prog 135 #[.pointer (some ⟨wb, 0, none⟩), .int .u64 n] (WorldP wb w :: L) (fun _ : Unit => .tuple #[]) (fun _ : Unit => WorldP wb (passR w n) :: L) := by
 refine Ct.o2 Tryz.func135 ?_; intro E
 show Hd E 21 _ _ _ _
 refine Hd.world .here (fun i hw hrs => ?_); refine sr fun _ K1 => ?_
 refine yv y_mv <| callE rfl fk113 (wnone_ct _ wb w.at w i.rs.length i) sq ?_; intro _; refine yv (y_not rfl) <| fk [(0,_),(1,_),(6,_)] K1 ?_; refine Hd.condT rfl ?_; refine Hd.tail 14 mixed kq ?_; simp only [List.take, List.drop]; refine Ht.yv y_mv ?_; refine Ht.yv y_np ?_; refine Ht.yv (y_f 290 30 Tryz.underlying210 sz30) ?_; refine Ht.yv (y_load1 ag30 rfl (Rd.pt1 pkk (by exact woT_at (j := 2) (by omega) rfl))) ?_; refine Ht.yv y_mv ?_; refine Ht.yv y_mv ?_; refine Ht.yv y_np ?_; refine Ht.yv (y_f 290 30 Tryz.underlying210 sz30) ?_; refine Ht.yv (y_load1 ag30 rfl (Rd.pt1 pkk (by exact woT_at (j := 2) (by omega) rfl))) ?_; refine Ht.yv (y_subn rfl rfl (by simp only [InK]; omega)) ?_; refine Ht.yv (y_min rfl rfl) ?_; refine Ht.yv (y_to (v' := .int .u64 (w.now + min n (18446744073709551615 - w.now))) (y_addn rfl rfl (by simp only [InK]; omega)) (by (congr 1))) ?_; refine Ht.yv y_np ?_
 refine Ht.yv (y_f 290 30 Tryz.underlying210 sz30) ?_; refine Ht.nil ?_; refine Hd.store1 sz30 rfl rfl rfl pkk (by rw [List.length_append, fdC_len]; simp; omega) ?_
 try simp only [hyS]
 refine Hd.nil <| slots [] sbq ?_
 have e : (fdC w.at ++ woT w i.rs.length i).set (0 + 290) (.int .u64 (w.now + min n (18446744073709551615 - w.now))) = fdC (passR w n).at ++ woT (passR w n) i.rs.length i := by
  rw [List.set_append_right _ _ (by rw [fdC_len]; decide), fdC_len]; rfl
 exact Hd.end0 rfl () rfl (fun q s => Ent.sep (.ex i (.pure ⟨(pass_ok hw n hn.1).1, hrs⟩ (.eq pkk (pt_eq e) enn))) q s)
def rstW (x : WireA) (k : Nat) : WireA := { x with rs := true, e := fun j => if j < k then riseE true true { x.e j with b := [] } else x.e j }
theorem rst_same (x : WireA) (k j : Nat) : ((rstW x k).e j).rd = (x.e j).rd := by
 show (if j < k then riseE true true { x.e j with b := [] } else x.e j).rd = _
 split <;> rfl
theorem rst_up {x : WireA} {k : Nat} : ((rstW x k).up k fun e => { e with b := [] }).up k (riseE true true) = rstW x (k + 1) := by
 rw [up_up]; unfold rstW WireA.up; dsimp only
 congr 1
 funext j
 by_cases h : j = k
 ·subst h
  rw [if_pos rfl, if_neg (Nat.lt_irrefl j), if_pos (Nat.lt_succ_self j)]
 ·rw [if_neg h]
  by_cases h2 : j < k
  ·rw [if_pos h2, if_pos (by omega)]
  ·rw [if_neg h2, if_neg (by omega)]
theorem wreset_ct (L : List SP) (wb : Nat) (w : WA) (n : Int) : Ct Tryz.prog 131 #[.pointer (some ⟨wb, 0, none⟩), .int .i64 n] (WorldP wb w :: L) (fun _ : Unit => .int .i64 (resetR w n).1) (fun _ : Unit => WorldP wb (resetR w n).2 :: L) := by
 refine Ct.o2 Tryz.func131 ?_; intro E
 show Hd E 41 _ _ _ _
 refine Hd.world .here (fun i hw hrs => ?_); refine sr fun _ K1 => ?_
 refine yv y_as <| fk [(0,_),(1,_)] K1 ?_; refine sr fun _ K2 => ?_
 refine yv y_mv <| yv y_mv <| callE rfl fk111 (outer_ct _ wb w i hw hrs n) sq ?_; intro _; refine yv y_mv <| yv (y_to (v' := ptr (outB i w n)) y_ex (by rfl)) ?_; refine yv (y_to (v' := .int .i64 (outE w n)) y_ex (by rfl)) ?_; refine yv y_as <| yv y_as <| fk [(5,_),(6,_)] K2 ?_; refine Hd.seq fun _ K3 => ?_
 refine sr fun _ K4 => ?_
 refine yv y_mv <| yv (y_neq rfl rfl) ?_; refine yv y_mv <| Hd.part (gd := 16) rfl (fun hg2_16 => ?_) (fun hg2_16 => ?_)
 ·try simp only [hyZ] at hg2_16
  have e := outE_no hg2_16
  refine n1 <| n1 <| n1 <| n1 <| yv (y_pickT rfl rfl) ?_; refine fk [(5,_),(6,_),(21,_)] K4 ?_; refine Hd.condT rfl ?_; refine sr fun _ K5 => ?_
  refine yv y_mv <| yv y_as <| fk [(4,_)] K5 ?_; refine Hd.ret <| Hd.thenRet ?_; rw [show resetR w n = (116, w) by unfold resetR; rw [e]]; exact Hd.ret1 rfl () (by unfold outE; rw [e]; rfl) (Ent.sep (.ex i (.pure ⟨hw, hrs⟩ enn)))
 try simp only [hyZ] at hg2_16
 obtain ⟨k, b, x, rfl, hox, hx, hb, h2, hob⟩ := outE_yes hrs hg2_16
 have hwf := hw.wf x (List.mem_of_getElem? hx)
 have hrd : resetR w k = (0, if x.rs = true then w else w.setW k (resetW x)) := by unfold resetR; rw [hox]; rfl
 rw [hob]; refine Hd.wOut pkk hb ?_; refine Hd.wire .here 0 (by omega) (fun i2 hi => ?_); refine y2 y_mv <| y2 y_np <| y2 (y_f 14 4 Tryz.underlying199 sz4) <| y2 (y_l1 ag4 rfl) <| yv (y_pickF rfl rfl) ?_; refine fk [(5,_),(6,_),(21,_)] K4 ?_; refine qz ?_ ?_ <;> intro hc0 <;> try simp only [hyZ] at hc0
 ·refine sr fun _ K6 => ?_
  refine yv y_mv <| yv y_as <| fk [(4,_)] K6 ?_; refine Hd.ret <| Hd.thenRet ?_; rw [hrd, if_pos hc0]; exact Hd.ret1 rfl () (by rw [hg2_16]; rfl) (fun q s => world_back (k := 0) hw hrs hb hi (by omega) q (Ent.sep enn q s))
 rw [if_neg (by rw [hc0]; simp)] at hrd; refine qv K3 <| sr fun _ K7 => ?_
 refine yv y_mv <| yv y_np <| yv (y_f 14 4 Tryz.underlying199 sz4) <| Hd.store1 sz4 rfl rfl rfl pkk (by simp; done) ?_
 try simp only [hyS]
 refine Hd.nil <| Hd.heap (WireP b (rstW x 0) :: WoR wb k w i L) (fun q s => Ent.sep (.ex (i2, 0) (.pure ⟨⟨fun j hj => by rw [rst_same]; exact hi.rd j hj⟩, by omega⟩ (.eq pkk (pt_eq (by rfl)) (.eq pkk (show RgO (i2.p 0) x.cap (x.e 0).b = RgO (i2.p 0) (rstW x 0).cap ((rstW x 0).e 0).b from rfl) (.eq pkk (show RgO (i2.p (1 - 0)) x.cap (x.e (1 - 0)).b = RgO (i2.p (1 - 0)) (rstW x 0).cap ((rstW x 0).e (1 - 0)).b from rfl) (.eq pkk (show own 3 1 i2.wa x.wt.length i2.wc (nats x.wt) = own 3 1 i2.wa (rstW x 0).wt.length i2.wc (nats (rstW x 0).wt) from rfl) enn)))))) q s) ?_; refine sk [(5,_)] K7 ?_; refine Hd.seq fun _ K8 => ?_
 refine sr fun _ K9 => ?_
 refine yv y_mv <| fk [(5,_),(26,_)] K9 ?_; refine Hd.block <| Hd.loopK (ι := Nat) [(5,_)] (fun j => [(26, .int .i64 (j : Int))]) (fun j => pu (j ≤ 2) :: WireP b (rstW x j) :: WoR wb k w i L) (fun j => 2 - j) 0 sbq sbq (Ent.sep (.pure (by omega) enn)) ?_; intro j
 try dsimp only
 refine Hd.pure (fun hp0 => ?_)
 try dsimp only at hp0
 refine sr fun _ K10 => ?_
 refine yv (y_lss rfl rfl) ?_; refine fk [(5,_),(26,_),(27,_)] K10 ?_; refine Hd.seq fun _ K11 => ?_
 refine qz ?_ ?_ <;> intro hc1 <;> try simp only [hyZ] at hc1
 ·have hj : j < 2 := by omega
  have hrj : ((rstW x j).e j).rd = true := by
   rw [rst_same]
   rcases (show j = 0 ∨ j = 1 by omega) with rfl | rfl
   ·exact (hwf.ou h2).1
   ·exact (hwf.ou h2).2
  refine qv K11 <| Hd.seq fun _ K12 => ?_
  refine Hd.block <| sr fun _ K13 => ?_
  refine yv y_mv <| yv y_as <| fk [(5,_),(7,_),(26,_)] K13 ?_; refine Hd.seq fun _ K14 => ?_
  refine Hd.wireR .here j hj hrj (fun i3 rb hi3 hrb => ?_); refine Hd.region <| yv y_mv <| yv y_mv <| yv y_np <| yv (y_f 0 197 Tryz.underlying199 sz197) <| yv (y_idxA Tryz.underlying197 sz196 rfl rfl (by omega)) ?_; refine yv (y_f 2 194 Tryz.underlying196 sz194) <| yv (y_to (v' := .pointer (some ⟨rb, 0, none⟩)) (y_load1 ag194 rfl (Rd.pt1 pkk (by exact enc_at 2 hj (by omega) (by omega) rfl))) (by (show ptr (i3.p j) = _; rw [hrb]; rfl))) ?_; refine callE rfl fk178 (rclear_ct _ rb (rstW x j).cap ((rstW x j).e j).b) sq ?_; intro _; refine Hd.heap (WireP b ((rstW x j).up j fun e => { e with b := [] }) :: WoR wb k w i L) (fun q s => wire_ring (l' := []) hi3 hj hrb q (Ent.sep enn q s)) ?_; refine fk [(5,_),(7,_),(26,_)] K14 ?_; refine Hd.region <| yv y_mv <| yv y_mv <| callE rfl fk173 (came_ct _ b ((rstW x j).up j fun e => { e with b := [] }) j hj true true) sq ?_
  intro _; rw [rst_up]; refine Hd.nil <| slots [(5,_),(26,_)] sbq ?_; refine Hd.inB <| Hd.toK K12 ?_; refine Hd.region <| yv (y_addn rfl rfl (by simp only [InK]; omega)) ?_; refine yv y_mv <| Hd.nil <| slots [(5,_),(26,_)] sbq ?_; refine thenN ?_; exact Hd.again (j + 1) (by omega) sbq (Ent.sep (.pure (by omega) enn))
 obtain rfl : j = 2 := by omega
 refine Hd.exit <| Hd.thenExit <| Hd.thenExit <| Hd.inBexit <| Hd.toK K8 ?_; refine sr fun _ K15 => ?_
 refine yv y_as <| fk [(4,_)] K15 ?_; refine Hd.ret ?_; rw [hrd]; exact Hd.ret1 rfl () rfl (fun q s => world_fold' hw hrs hb (smW_reset x) q (Ent.sep enn q s))
end Wo
end Go.Proofs.YtbfddabjbkohdaaGreat
namespace Go.Proofs.YtbfddabjbkohdaaGreat
open Go.RX Fx
namespace Rf
open Wo
theorem rPass_ct (L : List SP) (b : Nat) (w : WA) (n : Int) (hn : 0 ≤ n ∧ n ≤ 18446744073709551615) (h0 : 0 ≤ w.now ∧ w.now ≤ 18446744073709551615) : Ct Tryz.prog 136 #[.pointer (some ⟨b, 0, none⟩), .int .u64 n] (RwP b w :: L) (fun _ : Unit => .tuple #[]) (fun _ : Unit => RwP b (passR w n) :: L) := by
 refine Ct.o2 Tryz.func136 ?_; intro E
 show Hd E 23 _ _ _ _
 refine Hd.rw .here (fun i hi => ?_); refine Hd.seq fun _ K1 => ?_
 refine sr fun _ K2 => ?_
 refine yv y_mv <| yv y_mv <| yv y_np <| yv (y_f 1 30 Tryz.underlying133 sz30) <| yv (y_l1 ag30 rfl) <| yv (y_subn rfl rfl (by simp only [InK]; omega)) ?_; refine yv (y_gtr rfl rfl) ?_; refine fk [(0,_),(1,_),(10,_)] K2 ?_; refine qz ?_ ?_ <;> intro hc0 <;> try simp only [hyZ] at hc0
 ·refine sr fun _ K3 => ?_
  refine yv y_mv <| yv y_np <| yv (y_f 1 30 Tryz.underlying133 sz30) <| Hd.store1 sz30 rfl rfl rfl pkk (by simp; done) ?_
  try simp only [hyS]
  refine fk [] K3 ?_; refine Hd.ret <| Hd.thenRet ?_
  have e : (18446744073709551615 : Int) = w.now + min n (18446744073709551615 - w.now) := by omega
  exact Hd.ret0 rfl () rfl (fun q s => rw_fold (w := passR w n) hi q (Ent.sep (.eq pkk (pt_eq (by show _ = RwC (passR w n) i.1.length i.2.1 i.2.2; unfold passR; rw [← e]; rfl)) enn) q s))
 refine qv K1 <| Hd.region <| yv y_mv <| yv y_mv <| yv y_np <| yv (y_f 1 30 Tryz.underlying133 sz30) <| yv (y_l1 ag30 rfl) <| yv y_mv <| yv (y_addn rfl rfl (by simp only [InK]; omega)) ?_; refine yv y_np <| yv (y_f 1 30 Tryz.underlying133 sz30) <| Hd.store1 sz30 rfl rfl rfl pkk (by simp; done) ?_
 try simp only [hyS]
 refine Hd.nil <| slots [] sbq ?_
 have e : w.now + n = w.now + min n (18446744073709551615 - w.now) := by omega
 exact Hd.end0 rfl () rfl (fun q s => rw_fold (w := passR w n) hi q (Ent.sep (.eq pkk (pt_eq (by show _ = RwC (passR w n) i.1.length i.2.1 i.2.2; unfold passR; rw [← e]; rfl)) enn) q s))
theorem rst0_e (x : WireA) (k : Nat) : (rstW x 0).e k = x.e k := by unfold rstW; simp
theorem rset_rs {rs : List Row} {n o : Nat} {x : WireA} {j : RwI} (h : rs[n]? = some (x, j)) (ho : o = n * 20 + 17) : (rs.flatMap encRW).set o (.bool true) = (rs.set n (rstW x 0, j)).flatMap encRW := by
 subst ho; refine rows_set (j := 17) encRW_len (by omega) ?_ h (by omega)
 rfl
theorem rReset_ct (L : List SP) (b : Nat) (w : WA) (n : Int) : Ct Tryz.prog 132 #[.pointer (some ⟨b, 0, none⟩), .int .i64 n] (RwP b w :: L) (fun _ : Unit => .int .i64 (resetR w n).1) (fun _ : Unit => RwP b (resetR w n).2 :: L) := by
 refine Ct.o2 Tryz.func132 ?_; intro E
 show Hd E 45 _ _ _ _
 refine sr fun _ K1 => ?_
 refine yv y_as <| fk [(0,_),(1,_)] K1 ?_; refine sr fun _ K2 => ?_
 refine yv y_mv <| yv y_mv <| callE rfl fk177 (router_ct _ b w n) sq ?_; intro _; refine yv y_as <| fk [(0,_),(1,_),(5,_)] K2 ?_; refine Hd.seq fun _ K3 => ?_
 refine sr fun _ K4 => ?_
 refine yv y_mv <| yv (y_not rfl) <| fk [(0,_),(1,_),(11,_)] K4 ?_; refine qz ?_ ?_ <;> intro hc0 <;> try simp only [hyZ] at hc0
 ·refine sr fun _ K5 => ?_
  refine yv y_as <| fk [(4,_)] K5 ?_; refine Hd.ret <| Hd.thenRet ?_
  have hno : outW w n = none := by cases h : outW w n with | none => rfl | some y => rw [h] at hc0; simp at hc0
  rw [show resetR w n = (116, w) by unfold resetR; rw [hno]]; exact Hd.ret1 rfl () rfl sq
 obtain ⟨x, ho⟩ : ∃ x, outW w n = some x := by cases h : outW w n with | none => rw [h] at hc0; simp at hc0 | some y => exact ⟨y, rfl⟩
 obtain ⟨h0, hx, _⟩ := outW_some ho
 obtain ⟨q, rfl⟩ : ∃ q : Nat, n = (q : Int) := ⟨n.toNat, by omega⟩
 rw [Int.toNat_natCast] at hx; refine Hd.rw .here (fun i hi => ?_)
 have hrl := rows_n hi
 obtain ⟨j, hrow⟩ := row_at hi hx
 have hn : q < i.1.length := (List.getElem?_eq_some_iff.1 hrow).1
 refine qv K3 <| Hd.seq fun _ K6 => ?_
 refine sr fun _ K7 => ?_
 refine yv y_mv <| yv y_np <| yv (y_f 0 129 Tryz.underlying133 sz129) <| yv (y_l1 ag129 rfl) <| yv y_mv <| yv (y_idxR Tryz.underlying129 sz221 rfl rfl (by omega) (by exact RdS.own pkk)) ?_; refine yv (y_fR 17 4 Tryz.underlying221 sz4) ?_; refine yv (y_rw ag4 rfl hrow 17 rfl) ?_; refine fk [(0,_),(1,_),(19,_)] K7 ?_; refine qz ?_ ?_ <;> intro hc1 <;> try simp only [hyZ] at hc1
 ·refine sr fun _ K8 => ?_
  refine yv y_as <| fk [(4,_)] K8 ?_; refine Hd.ret <| Hd.thenRet ?_; rw [show resetR w (q : Int) = (0, w) by unfold resetR; rw [ho]; show (0, if x.rs = true then w else _) = _; rw [if_pos hc1]]; exact Hd.ret1 rfl () rfl (rw_fold hi)
 refine qv K6 <| sr fun _ K9 => ?_
 refine yv y_mv <| yv y_np <| yv (y_f 0 129 Tryz.underlying133 sz129) <| yv (y_l1 ag129 rfl) <| yv y_mv <| yv (y_idxR Tryz.underlying129 sz221 rfl rfl (by omega) (by exact RdS.own pkk)) ?_; refine yv (y_fR 17 4 Tryz.underlying221 sz4) ?_; refine Hd.storeO1 sz4 rfl rfl rfl pkk (by rw [rows_len encRW_len]; omega) ?_
 try simp only [hyS]
 refine Hd.nil ?_; rw [rset_rs hrow (by omega)]; refine Hd.heap (RwP b (w.setW q (rstW x 0)) :: L) (fun p s => rw_head (x' := rstW x 0) hi hrow (fun k _ => by rw [rst0_e]) rfl p (Ent.sep enn p s)) ?_; refine sk [(0,_),(1,_)] K9 ?_; refine Hd.seq fun _ K10 => ?_
 refine sr fun _ K11 => ?_
 refine yv y_as <| fk [(0,_),(1,_),(6,_)] K11 ?_; refine Hd.block <| Hd.loopK (ι := Nat) [(0,_),(1,_)] (fun k => [(6, .int .i64 (k : Int))]) (fun k => pu (k ≤ 2) :: RwP b (w.setW q (rstW x k)) :: L) (fun k => 2 - k) 0 sbq sbq (Ent.sep (.pure (by omega) enn)) ?_; intro k
 try dsimp only
 refine Hd.pure (fun hp0 => ?_)
 try dsimp only at hp0
 refine Hd.seq fun _ K12 => ?_
 refine sr fun _ K13 => ?_
 refine yv y_mv <| yv (y_lss rfl rfl) ?_; refine fk [(0,_),(1,_),(6,_),(28,_)] K13 ?_; refine qz ?_ ?_ <;> intro hc2 <;> try simp only [hyZ] at hc2
 ·have hk : k < 2 := by omega
  have hx2 : (w.setW q (rstW x k)).ws[q]? = some (rstW x k) := setW_self hx
  refine Hd.rw .here (fun i' hi' => ?_)
  have hrl' := rows_n hi'
  obtain ⟨j', hrow'⟩ := row_at hi' hx2
  have hn' : q < i'.1.length := (List.getElem?_eq_some_iff.1 hrow').1
  refine Hd.bagOut pkk hrow' ?_; refine Hd.sd .here k hk ?_; refine qv K12 <| Hd.seq fun _ K14 => ?_
  refine Hd.block <| sr fun _ K15 => ?_
  refine yv y_mv <| yv y_np <| yv (y_f 0 129 Tryz.underlying133 sz129) <| yv (y_l1 ag129 rfl) <| yv y_mv <| yv y_mv <| yv (y_idxR Tryz.underlying129 sz221 rfl rfl (by omega) (by exact RdS.own pkk)) ?_; refine yv (y_fR 0 219 Tryz.underlying221 sz219) ?_; refine yv (y_idxAR Tryz.underlying219 sz218 rfl rfl (by omega)) ?_; refine yv (y_fR 4 31 Tryz.underlying218 sz31) ?_; refine Hd.storeO1 sz31 rfl rfl rfl pkk (by rw [rows_len encRW_len]; omega) ?_
  try simp only [hyS]
  refine Hd.nil ?_; rw [rset_b (l := []) (m := 0) (o := q * 20 + 0 + k * 8 + 4) hrow' hk (by omega) rfl]; refine Hd.heap (RwP b ((w.setW q (rstW x k)).setW q ((rstW x k).up k fun e => { e with b := [] })) :: L) (sep_trans (sep_trans (Ent.sep (.ownNil (.pick pkk (.pick pkk .same)))) (sd_b (l := []) (a := none) (c := 0) hk)) (sep_trans sq (rw_put hi' hn'))) ?_; rw [setW_setW]; refine sk [(0,_),(1,_),(6,_)] K15 ?_; refine Hd.region <| yv y_mv <| yv y_mv <| yv y_mv <| callE rfl fk176 (rrise_ct _ b _ q _ (setW_self hx) k hk true true) sq ?_; intro _; rw [setW_setW, rst_up]; refine Hd.nil <| slots [(0,_),(1,_),(6,_)] sbq ?_; refine Hd.inB <| Hd.toK K14 ?_; refine Hd.region <| yv y_mv <| yv (y_addn rfl rfl (by simp only [InK]; omega)) ?_; refine yv y_as <| Hd.nil <| slots [(0,_),(1,_),(6,_)] sbq ?_; refine thenN ?_; exact Hd.again (k + 1) (by omega) sbq (Ent.sep (.pure (by omega) enn))
 obtain rfl : k = 2 := by omega
 refine Hd.exit <| Hd.thenExit <| Hd.thenExit <| Hd.inBexit <| Hd.toK K10 ?_; refine sr fun _ K16 => ?_
 refine yv y_as <| fk [(4,_)] K16 ?_; refine Hd.ret ?_
 have e : rstW x 2 = resetW x := rfl
 rw [show resetR w (q : Int) = (0, w.setW q (resetW x)) by unfold resetR; rw [ho]; show (0, if x.rs = true then w else _) = _; rw [if_neg (by rw [hc1]; decide)]; rfl, ← e]; exact Hd.ret1 rfl () rfl sq
end Rf
end Go.Proofs.YtbfddabjbkohdaaGreat
namespace Go.Proofs.YtbfddabjbkohdaaGreat
open Go.RX Fx
namespace Wo
def mayE (s : Int) : Int := if 1 ≤ s ∧ s ≤ 31 then 0 else 100
theorem mayE_0 {s : Int} : mayE s = 0 ↔ 1 ≤ s ∧ s ≤ 31 := by unfold mayE; split <;> simp_all
theorem is_ct (L : List SP) (s : Int) : Ct Tryz.prog 215 #[.int .i64 s] (L) (fun _ : Unit => .bool (decide (s ≥ 1) && decide (s ≤ 31))) (fun _ : Unit => L) := by
 refine Ct.o1 Tryz.func215 ?_; intro E
 show Hd E 9 _ _ _ _
 refine sr fun _ K1 => ?_
 refine yv y_as <| fk [(0,_)] K1 ?_; refine sr fun _ K2 => ?_
 refine yv y_mv <| yv (y_geq rfl rfl) ?_; refine yv y_mv ?_; apply Hd.andg 3 5 8 [] rfl sbq
 ·intro hg1_5
  try simp only [hyZ] at hg1_5
  simp only [List.take]; refine y2 y_mv <| y2 (y_leq rfl rfl) ?_; refine yv (y_pickT rfl rfl) ?_; exact Hd.mn
 ·intro hg1_5
  try simp only [hyZ] at hg1_5
  simp only [List.take]; refine n1 <| n1 <| yv (y_pickF rfl rfl) ?_; exact Hd.mn
 simp only [List.drop]; refine yv y_as <| fk [(2,_)] K2 ?_; refine Hd.ret ?_; exact Hd.ret1 rfl () (by rfl) sq
theorem may_ct (L : List SP) (sb : Nat) (s : Int) : Ct Tryz.prog 197 #[.pointer (some ⟨sb, 0, none⟩), .int .i64 s] (L) (fun _ : Unit => .int .i64 (mayE s)) (fun _ : Unit => L) := by
 refine Ct.o2 Tryz.func197 ?_; intro E
 show Hd E 12 _ _ _ _
 refine sr fun _ K1 => ?_
 refine yv y_as <| fk [(0,_),(1,_)] K1 ?_; refine Hd.seq fun _ K2 => ?_
 refine Hd.block <| sr fun _ K3 => ?_
 refine yv y_mv <| yv (y_eql_pointer Tryz.underlying205 rfl rfl) ?_; refine yv y_as <| fk [(1,_),(5,_)] K3 ?_; refine Hd.condF rfl ?_; refine sr fun _ K4 => ?_
 refine yv y_mv <| callE rfl fk215 (is_ct _ s) sq ?_; intro _; refine yv (y_not rfl) <| yv y_as <| fk [(8,_)] K4 ?_; refine qz ?_ ?_ <;> intro hc1 <;> try simp only [hyZ] at hc1
 ·refine sr fun _ K5 => ?_
  refine yv y_as <| fk [(4,_)] K5 ?_; refine Hd.ret <| Hd.inBret <| Hd.thenRet ?_; rw [show mayE s = 100 from if_neg (by omega)]; exact Hd.ret1 rfl () rfl sq
 refine Hd.skip <| Hd.inB <| Hd.toK K2 ?_; refine sr fun _ K6 => ?_
 refine yv y_as <| fk [(4,_)] K6 ?_; refine Hd.ret ?_; rw [show mayE s = 0 from if_pos (by omega)]; exact Hd.ret1 rfl () rfl sq
abbrev SgV (hd : List Bool) (ct : List Int) : List Value := hd.map .bool ++ ct.map (Value.int .i64)
theorem sg_hd {hd : List Bool} {ct : List Int} {s o : Nat} (hl : hd.length = 32) (hs : s < 32) (ho : o = s) : (SgV hd ct)[o]? = some (.bool (hd.getD s false)) := by
 subst ho; rw [List.getElem?_append_left (by rw [List.length_map]; omega), List.getElem?_map, List.getD_eq_getElem?_getD, List.getElem?_eq_getElem (by omega)]; rfl
theorem sg_ct {hd : List Bool} {ct : List Int} {s o : Nat} (hl : hd.length = 32) (hc : ct.length = 32) (hs : s < 32) (ho : o = 32 + s) : (SgV hd ct)[o]? = some (.int .i64 (ct.getD s 0)) := by
 subst ho; rw [List.getElem?_append_right (by rw [List.length_map]; omega), List.length_map, hl, Nat.add_sub_cancel_left, List.getElem?_map, List.getD_eq_getElem?_getD, List.getElem?_eq_getElem (by omega)]; rfl
theorem sg_set_hd {hd : List Bool} {ct : List Int} {s o : Nat} {v : Bool} (hl : hd.length = 32) (hs : s < 32) (ho : o = s) : (SgV hd ct).set o (.bool v) = SgV (hd.set s v) ct := by
 subst ho; rw [List.set_append_left _ _ (by rw [List.length_map]; omega)]
 show _ = (hd.set o v).map Value.bool ++ _
 rw [List.map_set]
theorem sg_set_ct {hd : List Bool} {ct : List Int} {s o : Nat} {v : Int} (hl : hd.length = 32) (hs : s < 32) (ho : o = 32 + s) : (SgV hd ct).set o (.int .i64 v) = SgV hd (ct.set s v) := by
 subst ho; rw [List.set_append_right _ _ (by rw [List.length_map]; omega), List.length_map, hl, Nat.add_sub_cancel_left]
 show _ = _ ++ (ct.set s v).map (Value.int .i64)
 rw [List.map_set]
theorem sg_len {hd : List Bool} {ct : List Int} (hl : hd.length = 32) (hc : ct.length = 32) : (SgV hd ct).length = 64 := by
 rw [List.length_append, List.length_map, List.length_map, hl, hc]
def cntS (ct : List Int) (s : Int) : Int := if 1 ≤ s ∧ s ≤ 31 then ct.getD s.toNat 0 else 0
theorem count_ct (L : List SP) (sb : Nat) (hd : List Bool) (ct : List Int) (hl : hd.length = 32) (hcl : ct.length = 32) (s : Int) : Ct Tryz.prog 203 #[.pointer (some ⟨sb, 0, none⟩), .int .i64 s] (SigP sb hd ct :: L) (fun _ : Unit => .int .i64 (cntS ct s)) (fun _ : Unit => SigP sb hd ct :: L) := by
 refine Ct.o2 Tryz.func203 ?_; intro E
 show Hd E 15 _ _ _ _
 refine sr fun _ K1 => ?_
 refine yv y_as <| fk [(0,_),(1,_)] K1 ?_; refine Hd.seq fun _ K2 => ?_
 refine sr fun _ K3 => ?_
 refine yv y_mv <| yv y_mv <| callE rfl fk197 (may_ct _ sb s) sq ?_; intro _; refine yv (y_neq rfl rfl) ?_; refine fk [(0,_),(1,_),(8,_)] K3 ?_; refine qz ?_ ?_ <;> intro hc0 <;> try simp only [hyZ] at hc0
 ·refine sr fun _ K4 => ?_
  refine yv y_as <| fk [(4,_)] K4 ?_; refine Hd.ret <| Hd.thenRet ?_; rw [show cntS ct s = 0 from if_neg (fun h => hc0 (mayE_0.2 h))]; exact Hd.ret1 rfl () rfl sq
 have hs := mayE_0.1 hc0
 obtain ⟨k, rfl⟩ : ∃ k : Nat, s = (k : Int) := ⟨s.toNat, by omega⟩
 have hk : k < 32 := by omega
 refine qv K2 <| sr fun _ K5 => ?_
 refine yv y_mv <| yv y_mv <| yv y_np <| yv (y_f 32 131 Tryz.underlying265 sz131) <| yv (y_idxA Tryz.underlying131 sz3 rfl rfl (by omega)) ?_; refine yv (y_load1 ag3 rfl (Rd.pt1 pkk (by exact sg_ct hl hcl hk (by omega)))) ?_; refine yv y_as <| fk [(4,_)] K5 ?_; refine Hd.ret ?_; rw [show cntS ct (k : Int) = ct.getD k 0 from if_pos hs]; exact Hd.ret1 rfl () rfl sq
theorem cntF_app : ∀ (a b : List Int) (i : Nat), cntF i (a ++ b) = cntF i a ++ cntF (i + a.length) b
 | [], b, i => rfl
 | c :: t, b, i => by
  show (if i = 0 ∨ c = 0 then cntF (i + 1) (t ++ b) else ((i : Int), c) :: cntF (i + 1) (t ++ b)) = (if i = 0 ∨ c = 0 then cntF (i + 1) t else ((i : Int), c) :: cntF (i + 1) t) ++ cntF (i + (t.length + 1)) b
  rw [cntF_app t b (i + 1), show i + 1 + t.length = i + (t.length + 1) by omega]
  split <;> rfl
theorem cntF_succ {ct : List Int} {i : Nat} (h : i < ct.length) : cntF 0 (ct.take (i + 1)) = cntF 0 (ct.take i) ++ (if i = 0 ∨ ct.getD i 0 = 0 then [] else [((i : Int), ct.getD i 0)]) := by
 rw [List.take_add_one, List.getElem?_eq_getElem h, Option.toList_some, cntF_app, List.length_take, Nat.min_eq_left (by omega), Nat.zero_add, List.getD_eq_getElem?_getD, List.getElem?_eq_getElem h]
 show _ ++ (if i = 0 ∨ ct[i] = 0 then cntF (i + 1) [] else ((i : Int), ct[i]) :: cntF (i + 1) []) = _
 rfl
theorem cntF_pre (ct : List Int) (i : Nat) : cntF 0 (ct.take i) <+: cntF 0 ct := by
 conv => rhs; rw [← List.take_append_drop i ct]
 rw [cntF_app]; exact List.prefix_append _ _
theorem cntF_le : ∀ (l : List Int) (i : Nat), (cntF i l).length ≤ l.length
 | [], _ => Nat.le_refl _
 | c :: t, i => by
  have := cntF_le t (i + 1)
  show (if i = 0 ∨ c = 0 then cntF (i + 1) t else ((i : Int), c) :: cntF (i + 1) t).length ≤ _
  split <;> simp only [List.length_cons] <;> omega
abbrev encCn (p : Int × Int) : List Value := [.int .i64 p.1, .int .i64 p.2]
abbrev encCA (p : Int × Int) : List Value := [.agg (encCn p).toArray]
abbrev SgX (bx sb : Nat) (hd : List Bool) (ct : List Int) (L : List SP) : List SP := pt bx [.pointer (some ⟨sb, 0, none⟩)] 205 :: SigP sb hd ct :: L
theorem counts_ct (L : List SP) (sb : Nat) : Ct Tryz.prog 200 #[.pointer (some ⟨sb, 0, none⟩)] (L) (fun bx : Nat => .func (.func 216) #[] #[.pointer (some ⟨bx, 0, none⟩)]) (fun bx : Nat => pt bx [.pointer (some ⟨sb, 0, none⟩)] 205 :: L) := by
 refine Ct.o1 Tryz.func200 ?_; intro E
 show Hd E 4 _ _ _ _
 refine sr fun _ K1 => ?_
 refine Hd.box rfl rfl (fun b1 => ?_); refine yv y_as <| fk [(1,_)] K1 ?_; refine sr fun _ K2 => ?_
 refine yv (y_mkf (fv := []) (cv := [_]) rfl rfl) ?_; refine yv y_as <| fk [(2,_)] K2 ?_; refine Hd.ret ?_; exact Hd.ret1 rfl b1 rfl sq
theorem counts_it (bx sb : Nat) (hd : List Bool) (ct : List Int) (hl : hd.length = 32) (hcl : ct.length = 32) : RX.It Tryz.prog 216 [.pointer (some ⟨bx, 0, none⟩)] encCA (fun ys => ys = cntF 0 ct) (fun ys => ys <+: cntF 0 ct)
  (SgX bx sb hd ct []) (SgX bx sb hd ct []) := by
 intro l J X hy; refine Ct.of (vs := [.func (.yield l) #[] #[], .pointer (some ⟨bx, 0, none⟩)]) Tryz.func216 rfl rfl [(0, .func (.yield l) #[] #[]), (1, .pointer (some ⟨bx, 0, none⟩))] ⟨rfl, rfl, trivial⟩ ?_; intro E
 show Hd E 20 _ _ _ _
 refine Hd.heap (SgX bx sb hd ct (J [])) (fun k h => by have := sep_app h; exact this) ?_; refine Hd.scope ?_; refine Hd.seq fun _ K1 => ?_
 refine Hd.label ?_; refine Hd.toK K1 ?_; refine sr fun _ K2 => ?_
 refine yv y_mv <| fk [(0,_),(1,_),(5,_)] K2 ?_; refine Hd.block <| Hd.loopK (ι := Nat) [(0,_),(1,_)] (fun i => [(5, .int .i64 (i : Int))]) (fun i => pu (i ≤ 32) :: SgX bx sb hd ct (J (cntF 0 (ct.take i)))) (fun i => 32 - i) 0 sbq sbq (Ent.sep (.pure (by omega) enn)) ?_; intro i
 try dsimp only
 refine Hd.pure (fun hp0 => ?_)
 try dsimp only at hp0
 refine sr fun _ K3 => ?_
 refine yv (y_lss rfl rfl) ?_; refine fk [(0,_),(1,_),(5,_),(6,_)] K3 ?_; refine Hd.seq fun _ K4 => ?_
 refine qz ?_ ?_ <;> intro hc0 <;> try simp only [hyZ] at hc0
 ·have hi : i < 32 := by omega
  have hsc := cntF_succ (ct := ct) (i := i) (by omega)
  have hpr := cntF_pre ct (i + 1)
  refine qv K4 <| Hd.seq fun _ K5 => ?_
  refine Hd.block <| sr fun _ K6 => ?_
  refine yv y_mv <| yv y_as <| fk [(0,_),(1,_),(3,_),(5,_)] K6 ?_; refine sr fun _ K7 => ?_
  refine yv (y_l1 ag205 rfl) <| yv y_mv <| callE rfl fk203 (count_ct _ sb hd ct hl hcl (i : Int)) sq ?_; intro _; refine yv y_as <| fk [(0,_),(1,_),(3,_),(4,_),(5,_)] K7 ?_; refine Hd.seq fun _ K8 => ?_
  refine sr fun _ K9 => ?_
  refine yv y_mv <| yv (y_eql rfl rfl) ?_; refine fk [(0,_),(1,_),(3,_),(4,_),(5,_),(12,_)] K9 ?_; refine qz ?_ ?_ <;> intro hc1 <;> try simp only [hyZ] at hc1
  ·refine Hd.exit ?_
   refine Hd.thenExit <| Hd.inBexit <| Hd.toK K5 ?_; refine Hd.region <| yv (y_addn rfl rfl (by simp only [InK]; omega)) ?_; refine yv y_mv <| Hd.nil <| slots [(0,_),(1,_),(5,_)] sbq ?_; refine thenN ?_
   rw [if_pos (by
    unfold cntS at hc1
    by_cases h0 : i = 0
    ·exact .inl h0
    ·rw [if_pos (by omega), Int.toNat_natCast] at hc1; exact .inr hc1), List.append_nil] at hsc
   rw [← hsc]; exact Hd.again (i + 1) (by omega) sbq (Ent.sep (.pure (by omega) enn))
  have hi0 : i ≠ 0 := fun h => by subst h; exact hc1 rfl
  have hcv : cntS ct (i : Int) = ct.getD i 0 := by unfold cntS; rw [if_pos (by omega), Int.toNat_natCast]
  rw [hcv] at hc1; rw [if_neg (by rintro (h | h); exact hi0 h; exact hc1 h)] at hsc; rw [hsc] at hpr; rw [hcv]; refine qv K8 <| sr fun _ K10 => ?_
  refine yv y_mv <| yv y_mv <| yv y_mv <| yv (y_build (vs := [(0,_),(1,_)]) rfl (by exact bd216_16 ..)) ?_; refine Hd.yield (pre := cntF 0 (ct.take i)) (c := ((i : Int), ct.getD i 0)) (M := SgX bx sb hd ct []) hy rfl rfl hpr (fun k' h => sep_app (show sep ((SgX bx sb hd ct []) ++ J (cntF 0 (ct.take i))) k' from Ent.sep enn k' h)) ?_; intro yb; refine yv (y_not rfl) <| fk [(0,_),(1,_),(5,_),(18,_)] K10 ?_; refine qz ?_ ?_ <;> intro hc2 <;> try simp only [hyZ] at hc2
  ·subst hc2
   simp only [cond_false]; refine Hd.ret <| Hd.inBret <| Hd.thenRet <| Hd.thenRet <| Hd.inBret <| Hd.scRet ?_; exact Hd.ret0 rfl (cntF 0 (ct.take i) ++ [((i : Int), ct.getD i 0)], false) rfl (fun k' h => Ent.sep (.pure hpr .same) k' h)
  subst hc2; simp only [cond_true]; refine Hd.heap (SgX bx sb hd ct (J (cntF 0 (ct.take i) ++ [((i : Int), ct.getD i 0)]))) (fun k' h => sep_app h) ?_; rw [← hsc]; refine Hd.skip <| Hd.inB <| Hd.toK K5 ?_; refine Hd.region <| yv (y_addn rfl rfl (by simp only [InK]; omega)) ?_; refine yv y_mv <| Hd.nil <| slots [(0,_),(1,_),(5,_)] sbq ?_; refine thenN ?_; exact Hd.again (i + 1) (by omega) sbq (Ent.sep (.pure (by omega) enn))
 refine Hd.exit <| Hd.thenExit <| Hd.thenExit <| Hd.inBexit <| Hd.scNorm ?_
 obtain rfl : i = 32 := by omega
 rw [show ct.take 32 = ct from List.take_of_length_le (by omega)]; exact Hd.end0 rfl (cntF 0 ct, true) rfl (fun k' h => Ent.sep (.pure rfl .same) k' (sep_app (M := SgX bx sb hd ct []) (N := J (cntF 0 ct)) (Ent.sep enn k' h)))
theorem cntF_mem : ∀ (l : List Int) (i : Nat) (p : Int × Int), p ∈ cntF i l → ∃ j : Nat, l[j]? = some p.2 ∧ p.1 = ((i + j : Nat) : Int) ∧ 0 < i + j
 | [], _, _, h => by cases h
 | c :: t, i, p, h => by
  have h' : p ∈ (if i = 0 ∨ c = 0 then cntF (i + 1) t else ((i : Int), c) :: cntF (i + 1) t) := h
  have rec_ : p ∈ cntF (i + 1) t → ∃ j : Nat, (c :: t)[j]? = some p.2 ∧ p.1 = ((i + j : Nat) : Int) ∧ 0 < i + j := fun h => by
   obtain ⟨j, h1, h2, h3⟩ := cntF_mem t (i + 1) p h
   exact ⟨j + 1, by simpa using h1, by rw [h2]; congr 1; omega, by omega⟩
  split at h'
  ·exact rec_ h'
  ·rename_i hn
   rcases List.mem_cons.1 h' with rfl | h'
   ·exact ⟨0, rfl, rfl, by omega⟩
   ·exact rec_ h'
theorem cntF_sum : ∀ (l : List Int) (i : Nat), 0 < i → ((cntF i l).map Prod.snd).sum = l.sum
 | [], _, _ => rfl
 | c :: t, i, h => by
  show ((if i = 0 ∨ c = 0 then cntF (i + 1) t else ((i : Int), c) :: cntF (i + 1) t).map Prod.snd).sum = c + t.sum
  have ih := cntF_sum t (i + 1) (by omega)
  split
  ·rename_i h1
   rw [ih]; omega
  ·show c + ((cntF (i + 1) t).map Prod.snd).sum = _
   rw [ih]
theorem cntF_sum0 (ct : List Int) : ((cntF 0 ct).map Prod.snd).sum = (ct.drop 1).sum := by
 cases ct with
 | nil => rfl
 | cons c t =>
  show ((if 0 = 0 ∨ c = 0 then cntF 1 t else (((0 : Nat) : Int), c) :: cntF 1 t).map Prod.snd).sum = t.sum
  rw [if_pos (.inl rfl)]; exact cntF_sum t 1 (by omega)
theorem sum_bd {l : List (Int × Int)} {K : Int} (h : ∀ p ∈ l, 0 ≤ p.2 ∧ p.2 ≤ K) : 0 ≤ (l.map Prod.snd).sum ∧ (l.map Prod.snd).sum ≤ l.length * K := by
 induction l with
 | nil => simp
 | cons p t ih =>
  have h1 := h p List.mem_cons_self
  have h2 := ih fun q hq => h q (List.mem_cons_of_mem _ hq)
  simp only [List.map_cons, List.sum_cons, List.length_cons]
  have : ((t.length + 1 : Nat) : Int) * K = (t.length : Int) * K + K := by
   rw [Int.natCast_add, Int.add_mul]; simp
  omega
theorem pending_ct (L : List SP) (sb : Nat) (hd : List Bool) (ct : List Int) (hl : hd.length = 32) (hcl : ct.length = 32) (hb : ∀ c ∈ ct, 0 ≤ c ∧ c ≤ 2000000000) : Ct Tryz.prog 198 #[.pointer (some ⟨sb, 0, none⟩)] (SigP sb hd ct :: L) (fun _ : Unit => .int .i64 (ct.drop 1).sum) (fun _ : Unit => SigP sb hd ct :: L) := by
 refine Ct.o1M Tryz.func198 ?_; intro E
 show Hd E 13 _ _ _ _
 have hmb : ∀ p ∈ cntF 0 ct, 0 ≤ p.2 ∧ p.2 ≤ 2000000000 := fun p hp => by
  obtain ⟨j, hj, _, _⟩ := cntF_mem ct 0 p hp
  exact hb _ (List.mem_of_getElem? hj)
 have hcle := cntF_le ct 0
 refine sr fun _ K1 => ?_
 refine yv y_as <| fk [(0,_)] K1 ?_; refine sr fun _ K2 => ?_
 refine Hd.alloc zr3 (fun b3 => ?_); refine Hd.store1 sz3 rfl rfl rfl pkk (by decide) ?_
 try simp only [hyS]
 refine fk [(0,_),(3,_)] K2 ?_; refine Hd.seq fun _ K3 => ?_
 refine sr fun _ K4 => ?_
 refine yv y_mv <| callE rfl fk200 (counts_ct _ sb) sq ?_; intro bx; refine fk [(3,_),(6,_)] K4 ?_; refine Hd.block <| Hd.rangeF (enc := encCA) (S := fun ys => ys = cntF 0 ct) (Sp := fun ys => ys <+: cntF 0 ct)
  (fun pre => pt b3 [.int .i64 (pre.map Prod.snd).sum] 3 :: L) (fun _ _ => [pu False])
  rfl kq (fun _ => rfl) rfl (counts_it bx sb hd ct hl hcl) (by refine Ent.sep ?_; refine Ent.eq pkk (pt_eq (by rfl)) ?_; exact Ent.swap (L := [_, _])) ?_ ?_ ?_
 ·intro E l' R pre c N hR hG
  have hpl := hG.length_le
  have hs1 := sum_bd (l := pre) (K := 2000000000) fun p hp => hmb p (hG.subset (List.mem_append_left _ hp))
  have hc1 := hmb c (hG.subset (by simp))
  rw [List.length_append] at hpl
  have hpl2 : pre.length ≤ 32 := by simp at hpl; omega
  unfold Rnd; simp only [List.cons_append, List.nil_append, pz, encCA]; refine Hd.region <| Hd.alloc zr241 (fun b4 => ?_); refine Hd.storeA (us := encCn c) sz241 rfl rfl rfl (by simp [Value.oneCell']) pkk (by exact rfl) ?_; refine Hd.nil <| slots [(3,_),(4,_)] sbq ?_; refine thenN <| Hd.begin hR pkk ?_; refine Hd.block <| Hd.region <| yv (y_l1 ag3 rfl) <| yv (y_f 1 3 Tryz.underlying241 sz3) <| yv (y_l1 ag3 rfl) <| yv (y_addn rfl rfl (by simp only [InK]; omega)) ?_; refine Hd.store1 sz3 rfl rfl rfl pkk (by simp; done) ?_
  try simp only [hyS]
  refine Hd.nil <| slots [(3,_)] sbq ?_; refine Hd.inB <| Hd.reN ?_; simp only [List.cons_append, List.nil_append]; exact Ent.sep (.pick pkk (.eq pkk (pt_eq (by simp)) enn))
 ·intro r0 ys hys
  obtain rfl : ys = cntF 0 ct := hys
  try simp only [List.cons_append, List.nil_append]
  refine Hd.inB <| Hd.toK K3 ?_; refine sr fun _ K5 => ?_
  refine yv (y_l1 ag3 rfl) <| yv y_as <| fk [(2,_)] K5 ?_; refine Hd.ret ?_; rw [← cntF_sum0]; exact Hd.retM (fun a fr => Lv.mark pkk (Lv.end1 fr rfl () rfl sq))
 rintro r0_0 (_ | id0) pre0 hG0
 ·exact Hd.absurd (by exact id)
 exact Hd.absurd (by exact id)
theorem sig_open {s : Int} (h : mayE s = 0) : ∃ k : Nat, s = (k : Int) ∧ 1 ≤ k ∧ k < 32 := by
 have := mayE_0.1 h
 exact ⟨s.toNat, by omega, by omega, by omega⟩
theorem shandle_ct (L : List SP) (sb : Nat) (hd : List Bool) (ct : List Int) (hl : hd.length = 32) (hcl : ct.length = 32) (s : Int) (on : Bool) : Ct Tryz.prog 180 #[.pointer (some ⟨sb, 0, none⟩), .int .i64 s, .bool on] (SigP sb hd ct :: L) (fun _ : Unit => .int .i64 (mayE s)) (fun _ : Unit => SigP sb (if mayE s = 0 then hd.set s.toNat on else hd) (if mayE s = 0 ∧ on = false then ct.set s.toNat 0 else ct) :: L) := by
 refine Ct.o3 Tryz.func180 ?_; intro E
 show Hd E 27 _ _ _ _
 refine sr fun _ K1 => ?_
 refine yv y_as <| fk [(0,_),(1,_),(2,_)] K1 ?_; refine Hd.seq fun _ K2 => ?_
 refine sr fun _ K3 => ?_
 refine yv y_mv <| yv y_mv <| callE rfl fk197 (may_ct _ sb s) sq ?_; intro _; refine yv y_as <| fk [(0,_),(1,_),(2,_),(7,_)] K3 ?_; refine sr fun _ K4 => ?_
 refine yv y_mv <| yv (y_neq rfl rfl) ?_; refine fk [(0,_),(1,_),(2,_),(7,_),(12,_)] K4 ?_; refine qz ?_ ?_ <;> intro hc0 <;> try simp only [hyZ] at hc0
 ·refine sr fun _ K5 => ?_
  refine yv y_mv <| yv y_as <| fk [(6,_)] K5 ?_; refine Hd.ret <| Hd.thenRet ?_; rw [if_neg hc0, if_neg (fun h => hc0 h.1)]; exact Hd.ret1 rfl () rfl sq
 obtain ⟨k, rfl, hk1, hk⟩ := sig_open hc0
 refine qv K2 <| Hd.seq fun _ K6 => ?_
 refine sr fun _ K7 => ?_
 refine yv y_mv <| yv y_mv <| yv y_mv <| yv y_np <| yv (y_f 0 130 Tryz.underlying265 sz130) <| yv (y_idxA Tryz.underlying130 sz4 rfl rfl (by omega)) ?_; refine Hd.store1 sz4 rfl rfl rfl pkk (by rw [sg_len hl hcl]; omega) ?_
 try simp only [hyS]
 refine Hd.nil ?_; rw [show (hd.map Value.bool ++ ct.map (Value.int .i64)).set (0 + 0 + k * 1) (.bool on) = SgV (hd.set k on) ct from sg_set_hd hl hk (by omega)]; refine sk [(0,_),(1,_),(2,_)] K7 ?_; refine sr fun _ K8 => ?_
 refine yv y_mv <| yv (y_not rfl) <| fk [(0,_),(1,_),(21,_)] K8 ?_; refine qz ?_ ?_ <;> intro hc1 <;> try simp only [hyZ] at hc1
 ·refine Hd.region ?_
  refine yv y_mv <| yv y_mv <| yv y_np <| yv (y_f 32 131 Tryz.underlying265 sz131) <| yv (y_idxA Tryz.underlying131 sz3 rfl rfl (by omega)) ?_; refine Hd.store1 sz3 rfl rfl rfl pkk (by rw [sg_len (by rw [List.length_set]; exact hl) hcl]; omega) ?_
  try simp only [hyS]
  refine Hd.nil ?_; rw [show (SgV (hd.set k on) ct).set (0 + 32 + k * 1) (.int .i64 0) = SgV (hd.set k on) (ct.set k 0) from sg_set_ct (by rw [List.length_set]; exact hl) hk (by omega)]; refine sk [] K6 ?_; refine sr fun _ K9 => ?_
  refine yv y_as <| fk [(6,_)] K9 ?_; refine Hd.ret ?_; rw [if_pos hc0, if_pos ⟨hc0, by simpa using hc1⟩]; exact Hd.ret1 rfl () (by rw [hc0]; rfl) sq
 refine qv K6 <| sr fun _ K10 => ?_
 refine yv y_as <| fk [(6,_)] K10 ?_; refine Hd.ret ?_; rw [if_pos hc0, if_neg (fun h => by rw [h.2] at hc1; simp at hc1)]; exact Hd.ret1 rfl () (by rw [hc0]; rfl) sq
theorem sraise_ct (L : List SP) (sb : Nat) (hd : List Bool) (ct : List Int) (hl : hd.length = 32) (hcl : ct.length = 32) (hb : ∀ c ∈ ct, 0 ≤ c ∧ c ≤ 2000000000) (s : Int) : Ct Tryz.prog 183 #[.pointer (some ⟨sb, 0, none⟩), .int .i64 s] (SigP sb hd ct :: L) (fun _ : Unit => .int .i64 (mayE s)) (fun _ : Unit => SigP sb hd (if mayE s = 0 ∧ hd.getD s.toNat false = true then ct.set s.toNat (ct.getD s.toNat 0 + 1) else ct) :: L) := by
 refine Ct.o2 Tryz.func183 ?_; intro E
 show Hd E 36 _ _ _ _
 refine sr fun _ K1 => ?_
 refine yv y_as <| fk [(0,_),(1,_)] K1 ?_; refine Hd.seq fun _ K2 => ?_
 refine sr fun _ K3 => ?_
 refine yv y_mv <| yv y_mv <| callE rfl fk197 (may_ct _ sb s) sq ?_; intro _; refine yv y_as <| fk [(0,_),(1,_),(5,_)] K3 ?_; refine sr fun _ K4 => ?_
 refine yv y_mv <| yv (y_neq rfl rfl) ?_; refine fk [(0,_),(1,_),(5,_),(10,_)] K4 ?_; refine qz ?_ ?_ <;> intro hc0 <;> try simp only [hyZ] at hc0
 ·refine sr fun _ K5 => ?_
  refine yv y_mv <| yv y_as <| fk [(4,_)] K5 ?_; refine Hd.ret <| Hd.thenRet ?_; rw [if_neg (fun h => hc0 h.1)]; exact Hd.ret1 rfl () rfl sq
 obtain ⟨k, rfl, hk1, hk⟩ := sig_open hc0
 have hcb : 0 ≤ ct.getD k 0 ∧ ct.getD k 0 ≤ 2000000000 := by
  rw [List.getD_eq_getElem?_getD, List.getElem?_eq_getElem (by omega)]; exact hb _ (List.getElem_mem _)
 refine qv K2 <| Hd.seq fun _ K6 => ?_
 refine sr fun _ K7 => ?_
 refine yv y_mv <| yv y_mv <| yv y_np <| yv (y_f 0 130 Tryz.underlying265 sz130) <| yv (y_idxA Tryz.underlying130 sz4 rfl rfl (by omega)) ?_; refine yv (y_load1 ag4 rfl (Rd.pt1 pkk (by exact sg_hd hl hk (by omega)))) ?_; refine fk [(0,_),(1,_),(17,_)] K7 ?_; refine qz ?_ ?_ <;> intro hc1 <;> try simp only [hyZ] at hc1
 ·refine Hd.tail 18 mixed kq ?_
  simp only [List.take, List.drop]; refine Ht.yv y_mv ?_; refine Ht.yv y_mv ?_; refine Ht.yv y_np ?_; refine Ht.yv (y_f 32 131 Tryz.underlying265 sz131) ?_; refine Ht.yv (y_idxA Tryz.underlying131 sz3 rfl rfl (by omega)) ?_; refine Ht.yv (y_load1 ag3 rfl (Rd.pt1 pkk (by exact sg_ct hl hcl hk (by omega)))) ?_; refine Ht.yv y_mv ?_; refine Ht.yv y_mv ?_; refine Ht.yv y_np ?_; refine Ht.yv (y_f 32 131 Tryz.underlying265 sz131) ?_; refine Ht.yv (y_idxA Tryz.underlying131 sz3 rfl rfl (by omega)) ?_; refine Ht.yv (y_load1 ag3 rfl (Rd.pt1 pkk (by exact sg_ct hl hcl hk (by omega)))) ?_; refine Ht.yv (y_subn rfl rfl (by simp only [InK]; omega)) ?_; refine Ht.yv (y_min rfl rfl) ?_; refine Ht.yv (y_to (v' := .int .i64 (ct.getD k 0 + 1)) (y_addn rfl rfl (by simp only [InK]; omega)) (by (congr 1; omega))) ?_; refine Ht.yv y_np ?_; refine Ht.yv (y_f 32 131 Tryz.underlying265 sz131) ?_; refine Ht.yv (y_idxA Tryz.underlying131 sz3 rfl rfl (by omega)) ?_
  refine Ht.nil ?_; refine Hd.store1 sz3 rfl rfl rfl pkk (by rw [sg_len hl hcl]; omega) ?_
  try simp only [hyS]
  refine Hd.nil ?_; rw [show (hd.map Value.bool ++ ct.map (Value.int .i64)).set (0 + 32 + k * 1) (.int .i64 (ct.getD k 0 + 1)) = SgV hd (ct.set k (ct.getD k 0 + 1)) from sg_set_ct hl hk (by omega)]; refine sk [] K6 ?_; refine sr fun _ K8 => ?_
  refine yv y_as <| fk [(4,_)] K8 ?_; refine Hd.ret ?_; rw [if_pos ⟨hc0, hc1⟩]; exact Hd.ret1 rfl () (by rw [hc0]; rfl) sq
 refine qv K6 <| sr fun _ K9 => ?_
 refine yv y_as <| fk [(4,_)] K9 ?_; refine Hd.ret ?_; rw [if_neg (fun h => by rw [show ((k : Int)).toNat = k from Int.toNat_natCast k] at h; rw [h.2] at hc1; cases hc1)]; exact Hd.ret1 rfl () (by rw [hc0]; rfl) sq
abbrev OutCn (b : Nat) (l : List (Int × Int)) : SP := RX.ex fun i : Option Addr × Nat => [pt b [.slice i.1 l.length i.2] 238, own 241 2 i.1 l.length i.2 (l.flatMap encCn)]
def zerF (ct : List Int) (l : List (Int × Int)) : List Int := l.foldl (fun ct p => ct.set p.1.toNat 0) ct
theorem zerF_len (l : List (Int × Int)) (ct : List Int) : (zerF ct l).length = ct.length := by
 induction l generalizing ct with
 | nil => rfl
 | cons p t ih => show (zerF (ct.set p.1.toNat 0) t).length = _; rw [ih, List.length_set]
theorem zerF_snoc (ct : List Int) (l : List (Int × Int)) (p : Int × Int) : zerF ct (l ++ [p]) = (zerF ct l).set p.1.toNat 0 := by unfold zerF; rw [List.foldl_append]; rfl
theorem zerF_at : ∀ (l : List (Int × Int)) (ct : List Int) (j : Nat), j < ct.length → (zerF ct l)[j]? = if ∃ p ∈ l, p.1.toNat = j then some 0 else ct[j]?
 | [], ct, j, _ => by simp [zerF]
 | p :: t, ct, j, h => by
  show (zerF (ct.set p.1.toNat 0) t)[j]? = _
  rw [zerF_at t _ j (by rw [List.length_set]; exact h)]
  by_cases h1 : ∃ q ∈ t, q.1.toNat = j
  ·rw [if_pos h1, if_pos]
   obtain ⟨q, hq, e⟩ := h1
   exact ⟨q, List.mem_cons_of_mem _ hq, e⟩
  ·rw [if_neg h1]
   by_cases h2 : p.1.toNat = j
   ·rw [if_pos ⟨p, List.mem_cons_self, h2⟩, h2, List.getElem?_set_self h]
   ·rw [List.getElem?_set_ne h2, if_neg]
    rintro ⟨q, hq, e⟩
    rcases List.mem_cons.1 hq with rfl | hq
    ·exact h2 e
    ·exact h1 ⟨q, hq, e⟩
theorem cntF_has : ∀ (l : List Int) (i j : Nat) (c : Int), l[j]? = some c → c ≠ 0 → 0 < i + j → (((i + j : Nat) : Int), c) ∈ cntF i l
 | [], _, _, _, h, _, _ => by simp at h
 | a :: t, i, 0, c, h, hc, hi => by
  obtain rfl : a = c := by simpa using h
  show _ ∈ (if i = 0 ∨ a = 0 then cntF (i + 1) t else ((i : Int), a) :: cntF (i + 1) t)
  rw [if_neg (by rintro (h | h); omega; exact hc h)]; exact List.mem_cons_self
 | a :: t, i, j + 1, c, h, hc, hi => by
  have := cntF_has t (i + 1) j c (by simpa using h) hc (by omega)
  rw [show i + 1 + j = i + (j + 1) by omega] at this
  show _ ∈ (if i = 0 ∨ a = 0 then cntF (i + 1) t else ((i : Int), a) :: cntF (i + 1) t)
  split
  ·exact this
  ·exact List.mem_cons_of_mem _ this
def zer1 : List Int → List Int
 | [] => []
 | c :: t => c :: t.map fun _ => 0
theorem zerF_all (ct : List Int) : zerF ct (cntF 0 ct) = zer1 ct := by
 apply List.ext_getElem?; intro j
 by_cases hj : j < ct.length
 ·rw [zerF_at _ _ _ hj]
  cases ct with
  | nil => simp at hj
  | cons c t =>
   cases j with
   | zero =>
    rw [if_neg]
    ·rfl
    ·rintro ⟨p, hp, e⟩
     obtain ⟨k, _, h2, h3⟩ := cntF_mem _ _ _ hp
     omega
   | succ j =>
    have hjt : j < t.length := by simpa using hj
    show _ = (t.map fun _ => (0 : Int))[j]?
    rw [List.getElem?_map, List.getElem?_eq_getElem hjt]
    by_cases hz : t[j] = 0
    ·have e : (c :: t)[j + 1]? = some 0 := by rw [List.getElem?_cons_succ, List.getElem?_eq_getElem hjt, hz]
     rw [e]; split <;> rfl
    ·rw [if_pos]
     ·rfl
     ·refine ⟨_, cntF_has (c :: t) 0 (j + 1) t[j] (by rw [List.getElem?_cons_succ, List.getElem?_eq_getElem hjt]) hz (by omega), ?_⟩
      show ((0 + (j + 1) : Nat) : Int).toNat = j + 1
      omega
 ·rw [List.getElem?_eq_none (by rw [zerF_len]; omega), List.getElem?_eq_none]
  cases ct with
  | nil => exact Nat.zero_le _
  | cons c t => simp [zer1] at hj ⊢; omega
theorem stake_ct (L : List SP) (sb : Nat) (hd : List Bool) (ct : List Int) (hl : hd.length = 32) (hcl : ct.length = 32) : Ct Tryz.prog 184 #[.pointer (some ⟨sb, 0, none⟩)] (SigP sb hd ct :: L) (fun q_ : Option Addr × Nat => .slice q_.1 (cntF 0 ct).length q_.2) (fun q_ : Option Addr × Nat => own 241 2 q_.1 (cntF 0 ct).length q_.2 ((cntF 0 ct).flatMap encCn) :: SigP sb hd (zer1 ct) :: L) := by
 refine Ct.o1M Tryz.func184 ?_; intro E
 show Hd E 28 _ _ _ _
 have hcle := cntF_le ct 0
 refine sr fun _ K1 => ?_
 refine yv y_as <| fk [(0,_)] K1 ?_; refine sr fun _ K2 => ?_
 refine Hd.alloc zr238 (fun b3 => ?_); refine fk [(0,_),(3,_)] K2 ?_; refine Hd.seq fun _ K3 => ?_
 refine sr fun _ K4 => ?_
 refine yv y_mv <| callE rfl fk200 (counts_ct _ sb) sq ?_; intro bx; refine fk [(0,_),(3,_),(8,_)] K4 ?_; refine Hd.block <| Hd.rangeF (enc := encCA) (S := fun ys => ys = cntF 0 ct) (Sp := fun ys => ys <+: cntF 0 ct)
  (fun pre => OutCn b3 pre :: L) (fun _ _ => [pu False])
  rfl kq (fun _ => rfl) rfl (counts_it bx sb hd ct hl hcl) (by refine Ent.sep ?_; refine Ent.ex (none, 0) ?_; refine Ent.eq pkk (pt_eq (by rfl)) ?_; refine Ent.ownNil ?_; exact Ent.swap (L := [_, _])) ?_ ?_ ?_
 ·intro E l' R pre c N hR hG
  have hpl : pre.length + 1 ≤ 32 := by have h1 := hG.length_le; simp at h1; omega
  unfold Rnd; simp only [List.cons_append, List.nil_append, pz, encCA]; refine Hd.region <| Hd.alloc zr241 (fun b4 => ?_); refine Hd.storeA (us := encCn c) sz241 rfl rfl rfl (by simp [Value.oneCell']) pkk (by exact rfl) ?_; refine Hd.nil <| slots [(0,_),(3,_),(4,_)] sbq ?_; refine thenN <| Hd.begin hR pkk ?_; refine Hd.block <| Hd.exs pkk ?_; rintro ⟨a3, c3⟩; simp only [List.cons_append, List.nil_append]; refine Hd.region <| yv (y_l1 ag238 rfl) <| yv (y_loadn (us := encCn c) ag241 rfl (Rd.pt pkk (fun j v e => by rw [Nat.zero_add]; exact e)) (by exact sz241)) ?_; refine Hd.bslice (vs := [(0,_)]) rfl (by exact bs184_12 ..) (fun b12 => ?_); refine Hd.append Tryz.underlying238 ty241 rfl rfl rfl pkk (by exact RdS.rd (Rd.pt pkk (fun j v e => by simpa using e)) rfl) (by simp [Value.oneCell']; done) (by simp only [maxLen]; omega) (by omega) (fun ad13 cap13 => ?_)
  refine Hd.store1 sz238 rfl rfl rfl pkk (by simp; done) ?_
  try simp only [hyS]
  refine Hd.nil <| slots [(0,_),(3,_)] sbq ?_; refine Hd.inB <| Hd.reN ?_; simp only [List.cons_append, List.nil_append]; exact Ent.sep (.pick pkk (.ex (ad13, cap13) (.eq pkk (pt_eq (by simp)) (.eq pkk (own_eq (by simp) (by simp)) enn))))
 ·intro r0 ys hys
  obtain rfl : ys = cntF 0 ct := hys
  try simp only [List.cons_append, List.nil_append]
  refine Hd.inB <| Hd.toK K3 ?_; refine Hd.seq fun _ K5 => ?_
  refine Hd.seq fun _ K6 => ?_
  refine Hd.exs pkk ?_; rintro ⟨a3, c3⟩; simp only [List.cons_append, List.nil_append]; refine Hd.region <| yv (y_l1 ag238 rfl) <| yv (y_len Tryz.underlying238 rfl) ?_; refine yv y_mv <| fk [(0,_),(3,_),(14,_),(15,_),(16,_)] K6 ?_; refine Hd.block <| Hd.loopK (ι := Nat) [(0,_),(3,_),(14,_),(15,_)] (fun j => [(16, .int .i64 (j : Int))]) (fun j => pu (j ≤ (cntF 0 ct).length) :: ob r0 (Obj.deferred (some [])) :: pt b3 [.slice a3 (cntF 0 ct).length c3] 238 :: own 241 2 a3 (cntF 0 ct).length c3 ((cntF 0 ct).flatMap encCn) :: SigP sb hd (zerF ct ((cntF 0 ct).take j)) :: L) (fun j => (cntF 0 ct).length - j) 0 sbq sbq (Ent.sep (.pure (Nat.zero_le _) (.pick pkk (.pick pkk (.pick pkk (.eq pkk (show SigP sb hd ct = SigP sb hd (zerF ct ((cntF 0 ct).take 0)) from rfl) enn)))))) ?_; intro j
  try dsimp only
  refine Hd.pure (fun hp0 => ?_)
  try dsimp only at hp0
  refine sr fun _ K7 => ?_
  refine yv (y_lss rfl rfl) ?_; refine fk [(0,_),(3,_),(14,_),(15,_),(16,_),(17,_)] K7 ?_; refine Hd.seq fun _ K8 => ?_
  refine qz ?_ ?_ <;> intro hc0 <;> try simp only [hyZ] at hc0
  ·have hj : j < (cntF 0 ct).length := by omega
   have hgj : (cntF 0 ct)[j]? = some (cntF 0 ct)[j] := List.getElem?_eq_getElem hj
   obtain ⟨s, hs1, hs2, hs3⟩ := cntF_mem ct 0 _ (List.getElem_mem hj)
   have hsl : s < 32 := by rw [← hcl]; exact (List.getElem?_eq_some_iff.1 hs1).1
   have hsc : (cntF 0 ct).take (j + 1) = (cntF 0 ct).take j ++ [(cntF 0 ct)[j]] := by rw [List.take_add_one, hgj]; rfl
   rw [Nat.zero_add] at hs2; refine qv K8 <| Hd.seq fun _ K9 => ?_
   refine Hd.block <| sr fun _ K10 => ?_
   refine yv (y_idxR Tryz.underlying238 sz241 rfl rfl (by omega) (by exact RdS.own pkk)) ?_; refine yv (y_loadRn (vs := encCn (cntF 0 ct)[j]) ag241 rfl (RdS.own (ad := a3) (us := (cntF 0 ct).flatMap encCn) pkk) (flat_cells encCn 2 (fun _ => rfl) hgj) (by exact sz241) (by simp)) ?_; refine Hd.alloc zr241 (fun b6 => ?_); refine Hd.storeA (us := encCn (cntF 0 ct)[j]) sz241 rfl rfl rfl (by simp [Value.oneCell']) pkk (by exact rfl) ?_; refine fk [(0,_),(3,_),(6,_),(14,_),(15,_),(16,_)] K10 ?_; refine Hd.tail 6 mixed kq ?_; simp only [List.take, List.drop]; refine Ht.yv y_mv ?_; refine Ht.yv (y_f 0 3 Tryz.underlying241 sz3) ?_; refine Ht.yv (y_to (v' := .int .i64 (s : Int)) (y_l1 ag3 rfl) (by rw [hs2])) ?_; refine Ht.yv y_np ?_; refine Ht.yv (y_f 32 131 Tryz.underlying265 sz131) ?_; refine Ht.yv (y_idxA Tryz.underlying131 sz3 rfl rfl (by omega)) ?_; refine Ht.nil ?_; refine Hd.store1 sz3 rfl rfl rfl pkk (by rw [sg_len hl (by rw [zerF_len]; exact hcl)]; omega) ?_
   try simp only [hyS]
   refine Hd.nil ?_
   rw [show (hd.map Value.bool ++ (zerF ct ((cntF 0 ct).take j)).map (Value.int .i64)).set (0 + 32 + s * 1) (.int .i64 0) = SgV hd (zerF ct ((cntF 0 ct).take (j + 1))) from by
    rw [hsc, zerF_snoc, show (cntF 0 ct)[j].1.toNat = s by rw [hs2]; exact Int.toNat_natCast s]
    exact sg_set_ct hl hsl (by omega)]
   refine slots [(0,_),(3,_),(14,_),(15,_),(16,_)] sbq ?_; refine Hd.inB <| Hd.toK K9 ?_; refine Hd.region <| yv (y_addn rfl rfl (by simp only [InK]; omega)) ?_; refine yv y_mv <| Hd.nil <| slots [(0,_),(3,_),(14,_),(15,_),(16,_)] sbq ?_; refine thenN ?_; exact Hd.again (j + 1) (by omega) sbq (Ent.sep (.pure (by omega) enn))
  obtain rfl : j = (cntF 0 ct).length := by omega
  rw [List.take_length, zerF_all]; refine Hd.exit <| Hd.thenExit <| Hd.thenExit <| Hd.inBexit <| Hd.toK K5 ?_; refine sr fun _ K11 => ?_
  refine yv (y_l1 ag238 rfl) <| yv y_as <| fk [(2,_)] K11 ?_; refine Hd.ret ?_; exact Hd.retM (fun a fr => Lv.mark pkk (Lv.end1 fr rfl (a3, c3) rfl sq))
 rintro r0_0 (_ | id0) pre0 hG0
 ·exact Hd.absurd (by exact id)
 exact Hd.absurd (by exact id)
theorem plc_o {o : Option (Nat × Nat)} : plc o = [.bool o.isSome, .int .i64 (match o with | none => 0 | some p => (p.1 : Int)), .int .i64 (match o with | none => 0 | some p => (p.2 : Int))] := by
 cases o with
 | none => rfl
 | some p => rfl
theorem woT_nt {t : Int → Option (Nat × Nat)} {w : WA} {n j o : Nat} {i : WoI} {v : Value} (ho : o = 291 + j) (hv : (plc w.nt)[j]? = some v) : (fdC t ++ woT w n i)[o]? = some v := by
 refine woT_at (j := 3 + j) (by omega) ?_
 show ([.slice i.wa n i.wc, ptr (some i.sb), .int .u64 w.now] ++ plc w.nt)[3 + j]? = _
 rw [List.getElem?_append_right (by simp), show 3 + j - List.length ([.slice i.wa n i.wc, ptr (some i.sb), .int .u64 w.now] : List Value) = j by simp]; exact hv
theorem wire_ring_same {b : Nat} {x : WireA} {i : WI} {k rb : Nat} {L : List SP} (hi : WIOk x i) (hk : k < 2) (hrb : i.p k = some rb) : ∀ h, sep (WireH b x i :: Rg rb x.cap (x.e k).b :: RgO (i.p (1 - k)) x.cap (x.e (1 - k)).b :: own 3 1 i.wa x.wt.length i.wc (nats x.wt) :: L) h → sep (WireP b x :: L) h := fun h s => by
 have := wire_ring (l' := (x.e k).b) hi hk hrb h s
 rwa [show (x.up k fun e => { e with b := (x.e k).b }) = x from up_id rfl] at this
theorem noticed_ct (L : List SP) (wb : Nat) (w : WA) (hb : ∀ c ∈ w.ct, 0 ≤ c ∧ c ≤ 2000000000) : Ct Tryz.prog 181 #[.pointer (some ⟨wb, 0, none⟩)] (WorldP wb w :: L) (fun _ : Unit => .tuple #[]) (fun _ : Unit => WorldP wb (ntcR w) :: L) := by
 refine Ct.o1 Tryz.func181 ?_; intro E
 show Hd E 57 _ _ _ _
 refine Hd.world .here (fun i hw hrs => ?_); refine Hd.seq fun _ K1 => ?_
 refine sr fun _ K2 => ?_
 refine yv y_mv <| yv y_np <| yv (y_f 291 190 Tryz.underlying210 sz190) <| yv (y_f 0 4 Tryz.underlying190 sz4) <| yv (y_load1 (v := .bool w.nt.isSome) ag4 rfl (Rd.pt1 pkk (woT_nt (j := 0) (by omega) (by rw [plc_o]; rfl)))) ?_; refine yv (y_not rfl) <| fk [(0,_),(10,_)] K2 ?_; refine qz ?_ ?_ <;> intro hc0 <;> try simp only [hyZ] at hc0
 ·refine Hd.ret ?_
  refine Hd.thenRet ?_
  have hn : w.nt = none := by cases h : w.nt with | none => rfl | some p => rw [h] at hc0; cases hc0
  rw [show ntcR w = w by unfold ntcR; rw [hn]]; exact Hd.ret0 rfl () rfl (Ent.sep (.ex i (.pure ⟨hw, hrs⟩ enn)))
 obtain ⟨n, k, hnt⟩ : ∃ n k, w.nt = some (n, k) := by cases h : w.nt with | none => rw [h] at hc0; cases hc0 | some p => exact ⟨p.1, p.2, rfl⟩
 obtain ⟨hk, x, hx, z0, z1⟩ := hw.nt n k hnt
 obtain ⟨b, hb'⟩ := rs_at hrs hx
 have hwf := hw.wf x (List.mem_of_getElem? hx)
 have hnl : n < i.rs.length := (List.getElem?_eq_some_iff.1 hb').1
 have hk1 : 1 - k < 2 := by omega
 have hrd : ∀ j, j < 2 → (x.e j).rd = true := fun j hj => by
  rcases (show j = 0 ∨ j = 1 by omega) with rfl | rfl
  ·exact z0
  ·exact z1
 have hsum : (w.ct.drop 1).sum = pendN w := rfl
 have hR : ntcR w = if pendN w = 0 then w.setW n (takeW x k (x.e k).b.length) else if (x.e k).b = [] then w.setW n (putW x (1 - k) [1]) else w := by
  unfold ntcR; rw [hnt]; dsimp only; rw [hx]
 refine qv K1 <| Hd.seq fun _ K3 => ?_
 refine Hd.quiet mixed kq ?_; refine Hq.yv y_mv ?_; refine Hq.yv y_np ?_; refine Hq.yv (y_f 288 208 Tryz.underlying210 sz208) ?_; refine Hq.yv (y_load1 ag208 rfl (Rd.pt1 pkk (by exact woT_at (j := 0) (by omega) rfl))) ?_; refine Hq.yv y_mv ?_; refine Hq.yv y_np ?_; refine Hq.yv (y_f 291 190 Tryz.underlying210 sz190) ?_; refine Hq.yv (y_f 1 3 Tryz.underlying190 sz3) ?_; refine Hq.yv (y_load1 ag3 rfl (Rd.pt1 pkk (by exact woT_nt (j := 1) (by omega) (by rw [hnt]; rfl)))) ?_; refine Hq.yv (y_idxR Tryz.underlying208 sz191 rfl rfl (by omega) (by exact RdS.own pkk)) ?_; refine Hq.yv (y_loadR1 ag191 rfl (by exact RdS.own pkk) (by exact pws_at hb')) ?_; refine Hq.yv y_mv ?_; refine Hq.yv y_np ?_; refine Hq.yv (y_f 291 190 Tryz.underlying210 sz190) ?_; refine Hq.yv (y_f 2 3 Tryz.underlying190 sz3) ?_; refine Hq.yv (y_load1 ag3 rfl (Rd.pt1 pkk (by exact woT_nt (j := 2) (by omega) (by rw [hnt]; rfl)))) ?_
 refine Hq.yv y_as ?_; refine Hq.yv y_as ?_; refine Hq.nil ?_; refine sk [(0,_),(2,_),(3,_)] K3 ?_; refine Hd.seq fun _ K4 => ?_
 refine Hd.wOut pkk hb' ?_; refine Hd.wireR .here k hk (hrd k hk) (fun i2 rb hi hrb => ?_); refine Hd.region <| yv y_mv <| yv y_mv <| yv y_np <| yv (y_f 0 197 Tryz.underlying199 sz197) <| yv (y_idxA Tryz.underlying197 sz196 rfl rfl (by omega)) ?_; refine yv (y_f 2 194 Tryz.underlying196 sz194) <| yv (y_to (v' := .pointer (some ⟨rb, 0, none⟩)) (y_load1 ag194 rfl (Rd.pt1 pkk (by exact enc_at 2 hk (by omega) (by omega) rfl))) (by (show ptr (i2.p k) = _; rw [hrb]; rfl))) ?_; refine yv y_as <| fk [(0,_),(2,_),(3,_),(4,_)] K4 ?_; refine Hd.block <| sr fun _ K5 => ?_
 refine yv y_mv <| yv y_np <| yv (y_f 289 205 Tryz.underlying210 sz205) <| yv (y_load1 ag205 rfl (Rd.pt1 pkk (by exact woT_at (j := 1) (by omega) rfl))) ?_; refine callE rfl fk198 (pending_ct _ i.sb w.hd w.ct hw.hdl hw.ctl hb) sq ?_; intro _; refine yv (y_eql rfl rfl) ?_; refine yv y_as <| fk [(2,_),(3,_),(4,_),(34,_)] K5 ?_; refine qz ?_ ?_ <;> intro hc1 <;> try simp only [hyZ] at hc1
 ·rw [if_pos (show pendN w = 0 from hc1)] at hR
  refine Hd.region <| yv y_mv <| yv y_mv <| yv (y_to (v' := .int .i64 ((1 - k : Nat) : Int)) (y_subn rfl rfl (by simp only [InK]; omega)) (by (congr 1; omega))) ?_; refine yv y_mv <| callE rfl fk178 (rclear_ct _ rb x.cap (x.e k).b) sq ?_; intro _; refine Hd.heap (WireP b (x.up k fun e => { e with b := [] }) :: WoR wb n w i L) (fun q s => wire_ring (l' := []) hi hk hrb q (Ent.sep enn q s)) ?_; refine yv (y_to (v' := .bool (decide (0 < ((x.e k).b.take (x.e k).b.length).length))) (y_gtr rfl rfl) (by (congr 1; rw [List.take_length]; simp only [decide_eq_decide]; omega))) ?_; refine callE rfl fk173 (came_ct _ b (x.up k fun e => { e with b := [] }) (1 - k) hk1 false (decide (0 < ((x.e k).b.take (x.e k).b.length).length))) sq ?_; intro _; refine Hd.nil <| slots [] sbq ?_; refine Hd.inB ?_
  have e : (x.up k fun e => { e with b := [] }).up (1 - k) (riseE false (decide (0 < ((x.e k).b.take (x.e k).b.length).length))) = takeW x k (x.e k).b.length := by
   unfold takeW
   congr 1
   exact up_eq (by rw [List.drop_length])
  rw [hR, e]; exact Hd.end0 rfl () rfl (fun q s => world_fold' hw hrs hb' (smW_take hwf hk (hrd k hk)) q (Ent.sep enn q s))
 rw [if_neg (show ¬ pendN w = 0 from hc1)] at hR; refine sr fun _ K6 => ?_
 refine yv y_mv <| callE rfl fk102 (rlen_ct _ rb x.cap (x.e k).b) sq ?_; intro _; refine yv (y_eql rfl rfl) ?_; refine yv y_as <| fk [(2,_),(3,_),(48,_)] K6 ?_; refine qz ?_ ?_ <;> intro hc2 <;> try simp only [hyZ] at hc2
 ·have hnil : (x.e k).b = [] := List.eq_nil_of_length_eq_zero (by omega)
  rw [if_pos hnil] at hR; refine Hd.region <| yv y_mv <| yv y_mv <| yv (y_to (v' := .int .i64 ((1 - k : Nat) : Int)) (y_subn rfl rfl (by simp only [InK]; omega)) (by (congr 1; omega))) ?_; refine Hd.bslice (vs := [(0,_)]) rfl (by exact bs181_55 ..) (fun b55 => ?_); refine Hd.heap (WireP b x :: pt b55 [.int .u8 1] 5 :: WoR wb n w i L) (fun q s => wire_ring_same hi hk hrb q (Ent.sep enn q s)) ?_; refine callE rfl fk112 (put_ct _ b x (1 - k) hk1 (hrd (1 - (1 - k)) (by omega)) (some ⟨b55, 0, none⟩) 1 1 [1] rfl ?hD (by omega) (by omega)) sq ?_
  case hD => exact RdS.rd (Rd.pt pkk (fun j v e => by rw [Nat.zero_add]; exact e)) rfl
  intro _; refine Hd.nil <| slots [] sbq ?_; refine Hd.inB ?_; rw [hR]; exact Hd.end0 rfl () rfl (fun q s => world_fold' hw hrs hb' (smW_put hwf hk1 [1] (hrd (1 - (1 - k)) (by omega))) q (Ent.sep enn q s))
 rw [if_neg (fun h => hc2 (by rw [h]; rfl))] at hR; refine Hd.skip <| Hd.inB ?_; rw [hR]; exact Hd.end0 rfl () rfl (fun q s => world_same hw hrs hb' q (wire_ring_same hi hk hrb q (Ent.sep enn q s)))
theorem world_ct {wb : Nat} {w : WA} {i : WoI} {hd : List Bool} {ct : List Int} {L : List SP} (hw : WOk w) (hrs : i.rs.map Prod.snd = w.ws) (h1 : hd.length = 32) (h2 : ct.length = 32) :
  ∀ h, sep (SigP i.sb hd ct :: WoH wb w.at w i.rs.length i :: own 191 1 i.wa i.rs.length i.wc (pws i.rs) :: Wires i.rs :: L) h → sep (WorldP wb { w with hd := hd, ct := ct } :: L) h := fun h s => by
 refine Ent.sep (.ex i (.pure ⟨ct_ok hw h1 h2, hrs⟩ ?_)) h s
 show Ent _ (WoH wb w.at w i.rs.length i :: own 191 1 i.wa i.rs.length i.wc (pws i.rs) :: Wires i.rs :: SigP i.sb hd ct :: L)
 exact enn
theorem whandle_ct (L : List SP) (wb : Nat) (w : WA) (hb : ∀ c ∈ w.ct, 0 ≤ c ∧ c ≤ 2000000000) (s : Int) (on : Bool) : Ct Tryz.prog 137 #[.pointer (some ⟨wb, 0, none⟩), .int .i64 s, .bool on] (WorldP wb w :: L) (fun _ : Unit => .int .i64 (hanR w s on).1) (fun _ : Unit => WorldP wb (hanR w s on).2 :: L) := by
 refine Ct.o3 Tryz.func137 ?_; intro E
 show Hd E 20 _ _ _ _
 refine Hd.world .here (fun i hw hrs => ?_); refine sr fun _ K1 => ?_
 refine yv y_as <| fk [(0,_),(1,_),(2,_)] K1 ?_; refine Hd.seq fun _ K2 => ?_
 refine sr fun _ K3 => ?_
 refine yv y_mv <| callE rfl fk113 (wnone_ct _ wb w.at w i.rs.length i) sq ?_; intro _; refine fk [(0,_),(1,_),(2,_),(9,_)] K3 ?_; refine Hd.condF rfl ?_; refine qv K2 <| sr fun _ K4 => ?_
 refine yv y_mv <| yv y_np <| yv (y_f 289 205 Tryz.underlying210 sz205) <| yv (y_load1 ag205 rfl (Rd.pt1 pkk (by exact woT_at (j := 1) (by omega) rfl))) ?_; refine yv y_mv <| yv y_mv <| callE rfl fk180 (shandle_ct _ i.sb w.hd w.ct hw.hdl hw.ctl s on) sq ?_; intro _
 obtain ⟨hd', hhd⟩ : ∃ z, z = if mayE s = 0 then w.hd.set s.toNat on else w.hd := ⟨_, rfl⟩
 obtain ⟨ct', hct⟩ : ∃ z, z = if mayE s = 0 ∧ on = false then w.ct.set s.toNat 0 else w.ct := ⟨_, rfl⟩
 rw [← hhd, ← hct]
 have hb' : ∀ c ∈ ct', 0 ≤ c ∧ c ≤ 2000000000 := fun c hc => by
  rw [hct] at hc
  split at hc
  ·rcases List.mem_or_eq_of_mem_set hc with h | rfl
   ·exact hb c h
   ·decide
  ·exact hb c hc
 have hR : hanR w s on = (mayE s, ntcR { w with hd := hd', ct := ct' }) := by
  unfold hanR
  by_cases h : s < 1 ∨ 31 < s
  ·have h0 : mayE s = 100 := if_neg (by omega)
   rw [if_pos h, hhd, hct, h0, if_neg (by decide), if_neg (fun h => absurd h.1 (by decide))]
  ·have h0 : mayE s = 0 := if_pos (by omega)
   rw [if_neg h, hhd, hct, h0, if_pos rfl]
   cases on with
   | true => rw [if_pos rfl, if_neg (by simp)]
   | false => rw [if_neg (by simp), if_pos ⟨rfl, rfl⟩]
 refine Hd.heap (WorldP wb { w with hd := hd', ct := ct' } :: L) (fun q t => world_ct hw hrs (by rw [hhd]; split; rw [List.length_set]; exact hw.hdl; exact hw.hdl) (by rw [hct]; split; rw [List.length_set]; exact hw.ctl; exact hw.ctl) q (Ent.sep enn q t)) ?_; refine yv y_as <| fk [(0,_),(7,_)] K4 ?_; refine sr fun _ K5 => ?_
 refine yv y_mv <| callE rfl fk181 (noticed_ct _ wb { w with hd := hd', ct := ct' } hb') sq ?_; intro _; refine fk [(7,_)] K5 ?_; refine sr fun _ K6 => ?_
 refine yv y_mv <| yv y_as <| fk [(6,_)] K6 ?_; refine Hd.ret ?_; rw [hR]; exact Hd.ret1 rfl () rfl sq
theorem wraise_ct (L : List SP) (wb : Nat) (w : WA) (hb : ∀ c ∈ w.ct, 0 ≤ c ∧ c ≤ 1000000000) (s : Int) : Ct Tryz.prog 139 #[.pointer (some ⟨wb, 0, none⟩), .int .i64 s] (WorldP wb w :: L) (fun _ : Unit => .int .i64 (raiR w s).1) (fun _ : Unit => WorldP wb (raiR w s).2 :: L) := by
 refine Ct.o2 Tryz.func139 ?_; intro E
 show Hd E 17 _ _ _ _
 refine Hd.world .here (fun i hw hrs => ?_); refine sr fun _ K1 => ?_
 refine yv y_as <| fk [(0,_),(1,_)] K1 ?_; refine Hd.seq fun _ K2 => ?_
 refine sr fun _ K3 => ?_
 refine yv y_mv <| callE rfl fk113 (wnone_ct _ wb w.at w i.rs.length i) sq ?_; intro _; refine fk [(0,_),(1,_),(7,_)] K3 ?_; refine Hd.condF rfl ?_; refine qv K2 <| sr fun _ K4 => ?_
 refine yv y_mv <| yv y_np <| yv (y_f 289 205 Tryz.underlying210 sz205) <| yv (y_load1 ag205 rfl (Rd.pt1 pkk (by exact woT_at (j := 1) (by omega) rfl))) ?_; refine yv y_mv <| callE rfl fk183 (sraise_ct _ i.sb w.hd w.ct hw.hdl hw.ctl (fun c hc => by have := hb c hc; omega) s) sq ?_; intro _
 obtain ⟨ct', hct⟩ : ∃ z, z = if mayE s = 0 ∧ w.hd.getD s.toNat false = true then w.ct.set s.toNat (w.ct.getD s.toNat 0 + 1) else w.ct := ⟨_, rfl⟩
 rw [← hct]
 have hb' : ∀ c ∈ ct', 0 ≤ c ∧ c ≤ 2000000000 := fun c hc => by
  rw [hct] at hc
  split at hc
  ·rename_i hm
   rcases List.mem_or_eq_of_mem_set hc with h | rfl
   ·have := hb c h; omega
   ·obtain ⟨k, rfl, hk1, hk⟩ := sig_open hm.1
    obtain ⟨v, hv⟩ : ∃ v, w.ct[k]? = some v := ⟨_, List.getElem?_eq_getElem (by rw [hw.ctl]; omega)⟩
    rw [Int.toNat_natCast, List.getD_eq_getElem?_getD, hv]
    have := hb v (List.mem_of_getElem? hv)
    show 0 ≤ v + 1 ∧ v + 1 ≤ 2000000000
    omega
  ·have := hb c hc; omega
 have hR : raiR w s = (mayE s, ntcR { w with hd := w.hd, ct := ct' }) := by
  unfold raiR
  by_cases h : s < 1 ∨ 31 < s
  ·have h0 : mayE s = 100 := if_neg (by omega)
   rw [if_pos h, hct, h0, if_neg (fun h => absurd h.1 (by decide))]
  ·have h0 : mayE s = 0 := if_pos (by omega)
   rw [if_neg h, hct, h0]
   by_cases hh : w.hd.getD s.toNat false = true
   ·rw [if_pos hh, if_pos ⟨rfl, hh⟩]
   ·rw [if_neg hh, if_neg (fun h => hh h.2)]
 refine Hd.heap (WorldP wb { w with hd := w.hd, ct := ct' } :: L) (fun q t => world_ct hw hrs hw.hdl (by rw [hct]; split; rw [List.length_set]; exact hw.ctl; exact hw.ctl) q (Ent.sep enn q t)) ?_; refine yv y_as <| fk [(0,_),(5,_)] K4 ?_; refine sr fun _ K5 => ?_
 refine yv y_mv <| callE rfl fk181 (noticed_ct _ wb { w with hd := w.hd, ct := ct' } hb') sq ?_; intro _; refine fk [(5,_)] K5 ?_; refine sr fun _ K6 => ?_
 refine yv y_mv <| yv y_as <| fk [(4,_)] K6 ?_; refine Hd.ret ?_; rw [hR]; exact Hd.ret1 rfl () rfl sq
theorem zer1_len (l : List Int) : (zer1 l).length = l.length := by cases l <;> simp [zer1]
theorem zer1_mem {l : List Int} {c : Int} (h : c ∈ zer1 l) : c ∈ l ∨ c = 0 := by
 cases l with
 | nil => cases h
 | cons a t =>
  rcases List.mem_cons.1 h with rfl | h
  ·exact .inl List.mem_cons_self
  ·obtain ⟨_, _, rfl⟩ := List.mem_map.1 h; exact .inr rfl
theorem sigR_eq (w : WA) : sigR w = (cntF 0 w.ct, ntcR { w with hd := w.hd, ct := zer1 w.ct }) := by
 unfold sigR zer1
 cases w.ct <;> rfl
theorem wsignals_ct (L : List SP) (wb : Nat) (w : WA) (hb : ∀ c ∈ w.ct, 0 ≤ c ∧ c ≤ 2000000000) : Ct Tryz.prog 141 #[.pointer (some ⟨wb, 0, none⟩)] (WorldP wb w :: L) (fun q_ : Option Addr × Nat => .slice q_.1 (sigR w).1.length q_.2) (fun q_ : Option Addr × Nat => own 241 2 q_.1 (sigR w).1.length q_.2 ((sigR w).1.flatMap encCn) :: WorldP wb (sigR w).2 :: L) := by
 refine Ct.o1 Tryz.func141 ?_; intro E
 show Hd E 14 _ _ _ _
 refine Hd.world .here (fun i hw hrs => ?_); refine sr fun _ K1 => ?_
 refine yv y_as <| fk [(0,_)] K1 ?_; refine Hd.seq fun _ K2 => ?_
 refine sr fun _ K3 => ?_
 refine yv y_mv <| callE rfl fk113 (wnone_ct _ wb w.at w i.rs.length i) sq ?_; intro _; refine fk [(0,_),(5,_)] K3 ?_; refine Hd.condF rfl ?_; refine qv K2 <| sr fun _ K4 => ?_
 refine yv y_mv <| yv y_np <| yv (y_f 289 205 Tryz.underlying210 sz205) <| yv (y_load1 ag205 rfl (Rd.pt1 pkk (by exact woT_at (j := 1) (by omega) rfl))) ?_; refine callE rfl fk184 (stake_ct _ i.sb w.hd w.ct hw.hdl hw.ctl) sq ?_; rintro ⟨ad, c⟩; dsimp only; refine Hd.heap (WorldP wb { w with hd := w.hd, ct := zer1 w.ct } :: own 241 2 ad (cntF 0 w.ct).length c ((cntF 0 w.ct).flatMap encCn) :: L) (fun q t => world_ct hw hrs hw.hdl (by rw [zer1_len]; exact hw.ctl) q (Ent.sep enn q t)) ?_; refine yv y_as <| fk [(0,_),(3,_)] K4 ?_; refine sr fun _ K5 => ?_
 refine yv y_mv <| callE rfl fk181 (noticed_ct _ wb { w with hd := w.hd, ct := zer1 w.ct } (fun c hc => by rcases zer1_mem hc with h | rfl; exact hb c h; decide)) sq ?_; intro _; refine fk [(3,_)] K5 ?_; refine sr fun _ K6 => ?_
 refine yv y_mv <| yv y_as <| fk [(2,_)] K6 ?_; refine Hd.ret ?_; rw [sigR_eq]; exact Hd.ret1 rfl (ad, c) rfl sq
theorem not_yes {w : WA} {n k m j : Nat} {x : WireA} {a b : Int} (ha : w.at a = some (n, k)) (hb : w.at b = some (m, j)) (hx : w.ws[n]? = some x) : notR w a b = if n ≠ m ∨ k = j ∨ (x.e 0).rd = false ∨ (x.e 1).rd = false then (111, w) else (0, ntcR { w with nt := some (n, k) }) := by
 unfold notR; rw [ha, hb]; dsimp only; rw [hx]
theorem world_nt {wb n k : Nat} {w : WA} {i : WoI} {cs : List Value} {L : List SP} (hok : WOk { w with nt := some (n, k) }) (hrs : i.rs.map Prod.snd = w.ws) (hcs : cs = fdC w.at ++ woT { w with nt := some (n, k) } i.rs.length i) :
  ∀ h, sep (pt wb cs 210 :: own 191 1 i.wa i.rs.length i.wc (pws i.rs) :: Wires i.rs :: SigP i.sb w.hd w.ct :: L) h → sep (WorldP wb { w with nt := some (n, k) } :: L) h := fun h s => by
 subst hcs; exact Ent.sep (.ex i (.pure ⟨hok, hrs⟩ enn)) h s
theorem nt_set {t : Int → Option (Nat × Nat)} {w : WA} {m n k : Nat} {i : WoI} : (fdC t ++ woT w m i).take (0 + 291) ++ plc (some (n, k)) ++ (fdC t ++ woT w m i).drop (0 + 291 + (plc (some (n, k))).length) = fdC t ++ woT { w with nt := some (n, k) } m i := by
 have h3 : (plc (some (n, k))).length = 3 := rfl
 rw [h3, List.take_append, List.drop_append, fdC_len, List.take_of_length_le (by rw [fdC_len]; omega), List.drop_of_length_le (l := fdC t) (by rw [fdC_len]; omega), List.nil_append]; unfold woT; rw [plc_o (o := w.nt)]; simp
theorem woT_len (w : WA) (n : Nat) (i : WoI) : (woT w n i).length = 6 := by
 unfold woT; rw [List.length_append, plc_len]; rfl
theorem wnotice_ct (L : List SP) (wb : Nat) (w : WA) (hb : ∀ c ∈ w.ct, 0 ≤ c ∧ c ≤ 2000000000) (fa fb : Int) : Ct Tryz.prog 143 #[.pointer (some ⟨wb, 0, none⟩), .int .i64 fa, .int .i64 fb] (WorldP wb w :: L) (fun _ : Unit => .int .i64 (notR w fa fb).1) (fun _ : Unit => WorldP wb (notR w fa fb).2 :: L) := by
 refine Ct.o3 Tryz.func143 ?_; intro E
 show Hd E 72 _ _ _ _
 refine Hd.world .here (fun i hw hrs => ?_); refine sr fun _ K1 => ?_
 refine yv y_as <| fk [(0,_),(1,_),(2,_)] K1 ?_; refine sr fun _ K2 => ?_
 refine yv y_mv <| yv y_mv <| callE rfl fk101 (find_ct _ wb w i hw hrs fa) sq ?_; intro _; refine yv y_mv <| yv y_ex <| yv y_ex <| yv y_ex <| Hd.alloc zr190 (fun b7 => ?_); refine Hd.storeA (us := plc (w.at fa)) (by rw [plc_len]; exact sz190) rfl rfl rfl (plc_one _) pkk (by rw [plc_len]; rfl) ?_; refine yv (y_to (v' := ptr (wfb i (w.at fa))) y_as (by rfl)) ?_; refine yv (y_to (v' := .int .i64 (fdErr (w.at fa))) y_as (by rfl)) ?_; refine fk [(0,_),(2,_),(7,_),(8,_),(9,_)] K2 ?_; refine sr fun _ K3 => ?_
 refine yv y_mv <| yv y_mv <| callE rfl fk101 (find_ct _ wb w i hw hrs fb) sq ?_; intro _; refine yv y_mv <| yv y_ex <| yv y_ex <| yv y_ex <| Hd.alloc zr190 (fun b10 => ?_); refine Hd.storeA (us := plc (w.at fb)) (by rw [plc_len]; exact sz190) rfl rfl rfl (plc_one _) pkk (by rw [plc_len]; rfl) ?_; refine yv y_as <| yv (y_to (v' := .int .i64 (fdErr (w.at fb))) y_as (by rfl)) ?_; refine fk [(0,_),(7,_),(8,_),(9,_),(10,_),(12,_)] K3 ?_; refine Hd.seq fun _ K4 => ?_
 refine Hd.block <| sr fun _ K5 => ?_
 refine yv y_mv <| yv (y_neq rfl rfl) ?_; refine yv y_as <| fk [(0,_),(7,_),(8,_),(9,_),(10,_),(12,_),(27,_)] K5 ?_; refine qz ?_ ?_ <;> intro hc0 <;> try simp only [hyZ] at hc0
 ·have hno : w.at fa = none := by
   cases h : w.at fa with
   | none => rfl
   | some p => rw [h] at hc0; exact absurd rfl hc0
  refine sr fun _ K6 => ?_
  refine yv y_mv <| yv y_as <| fk [(6,_)] K6 ?_; refine Hd.ret <| Hd.inBret <| Hd.thenRet ?_; rw [show notR w fa fb = (110, w) by unfold notR; rw [hno]]; exact Hd.ret1 rfl () (by rw [hno]; rfl) (Ent.sep (.ex i (.pure ⟨hw, hrs⟩ enn)))
 obtain ⟨n, k, hnk⟩ : ∃ m k, w.at fa = some (m, k) := by
  cases h : w.at fa with
  | none => rw [h] at hc0; exact absurd hc0 (by decide)
  | some p => exact ⟨p.1, p.2, rfl⟩
 refine sr fun _ K7 => ?_
 refine yv y_mv <| yv (y_neq rfl rfl) ?_; refine yv y_as <| fk [(0,_),(7,_),(8,_),(10,_),(12,_),(31,_)] K7 ?_; refine qz ?_ ?_ <;> intro hc1 <;> try simp only [hyZ] at hc1
 ·have hno : w.at fb = none := by
   cases h : w.at fb with
   | none => rfl
   | some p => rw [h] at hc1; exact absurd rfl hc1
  refine sr fun _ K8 => ?_
  refine yv y_mv <| yv y_as <| fk [(6,_)] K8 ?_; refine Hd.ret <| Hd.inBret <| Hd.thenRet ?_; rw [show notR w fa fb = (110, w) by unfold notR; rw [hno, hnk]]; exact Hd.ret1 rfl () (by rw [hno]; rfl) (Ent.sep (.ex i (.pure ⟨hw, hrs⟩ enn)))
 obtain ⟨m, j, hmj⟩ : ∃ m k, w.at fb = some (m, k) := by
  cases h : w.at fb with
  | none => rw [h] at hc1; exact absurd hc1 (by decide)
  | some p => exact ⟨p.1, p.2, rfl⟩
 obtain ⟨hf0, hf1, hk, hn, x, hx, _, _⟩ := hw.at_lt hnk
 obtain ⟨b, hb'⟩ := rs_at hrs hx
 have hwf := hw.wf x (List.mem_of_getElem? hx)
 have hR := not_yes hnk hmj hx
 have hnl : n < i.rs.length := (List.getElem?_eq_some_iff.1 hb').1
 rw [hnk, hmj, wfb_eq hb']; refine Hd.wOut pkk hb' ?_; refine Hd.wire .here 0 (by omega) (fun i2 hi => ?_)
 have hp0 := hi.rd 0 (by omega)
 have hp1 := hi.rd 1 (by omega)
 refine sr fun _ K9 => ?_
 refine yv (y_f 1 3 Tryz.underlying190 sz3) <| yv (y_l1 ag3 rfl) <| yv (y_f 1 3 Tryz.underlying190 sz3) <| yv (y_l1 ag3 rfl) <| yv (y_neq rfl rfl) ?_; refine yv y_mv ?_; apply Hd.org 6 41 47 [(0,_),(7,_),(8,_)] rfl sbq
 ·intro hg7_41
  try simp only [hyZ] at hg7_41
  simp only [List.take]; refine n1 <| n1 <| n1 <| n1 <| n1 <| yv (y_pickT rfl rfl) ?_; exact Hd.mn
 ·intro hg7_41
  try simp only [hyZ] at hg7_41
  simp only [List.take]; refine y2 (y_f 2 3 Tryz.underlying190 sz3) <| y2 (y_l1 ag3 rfl) <| y2 (y_f 2 3 Tryz.underlying190 sz3) <| y2 (y_l1 ag3 rfl) <| y2 (y_eql rfl rfl) ?_; refine yv (y_pickF rfl rfl) ?_; exact Hd.mn
 simp only [List.drop]; refine yv y_mv ?_; apply Hd.org 8 48 56 [(0,_),(7,_),(8,_)] rfl sbq
 ·intro hg7_48
  try simp only [hyZ] at hg7_48
  simp only [List.take]; refine n1 <| n1 <| n1 <| n1 <| n1 <| n1 <| n1 <| yv (y_pickT rfl rfl) ?_; exact Hd.mn
 ·intro hg7_48
  try simp only [hyZ] at hg7_48
  simp only [List.take]; refine y2 y_mv <| y2 y_np <| y2 (y_f 0 197 Tryz.underlying199 sz197) <| y2 (y_idxA Tryz.underlying197 sz196 rfl rfl (by decide)) ?_; refine y2 (y_f 2 194 Tryz.underlying196 sz194) <| y2 (y_l1 ag194 rfl) <| y2 (y_to (v' := .bool (!(x.e 0).rd)) (y_eql_pointer Tryz.underlying194 rfl rfl) (by (show Value.bool (Option.isNone _) = _; rw [ptr_no, hp0]))) ?_; refine yv (y_pickF rfl rfl) ?_; exact Hd.mn
 simp only [List.drop]; refine yv y_mv ?_; apply Hd.org 8 57 65 [(0,_),(7,_)] rfl sbq
 ·intro hg7_57
  try simp only [hyZ] at hg7_57
  simp only [List.take]; refine n1 <| n1 <| n1 <| n1 <| n1 <| n1 <| n1 <| yv (y_pickT rfl rfl) ?_; exact Hd.mn
 ·intro hg7_57
  try simp only [hyZ] at hg7_57
  simp only [List.take]; refine y2 y_mv <| y2 y_np <| y2 (y_f 0 197 Tryz.underlying199 sz197) <| y2 (y_idxA Tryz.underlying197 sz196 rfl rfl (by decide)) ?_; refine y2 (y_f 2 194 Tryz.underlying196 sz194) <| y2 (y_l1 ag194 rfl) <| y2 (y_to (v' := .bool (!(x.e 1).rd)) (y_eql_pointer Tryz.underlying194 rfl rfl) (by (show Value.bool (Option.isNone _) = _; rw [ptr_no, hp1]))) ?_; refine yv (y_pickF rfl rfl) ?_; exact Hd.mn
 simp only [List.drop]; refine yv y_as <| fk [(0,_),(7,_),(35,_)] K9 ?_; refine qz ?_ ?_ <;> intro hc2 <;> try simp only [hyZ] at hc2
 ·refine sr fun _ K10 => ?_
  refine yv y_as <| fk [(6,_)] K10 ?_; refine Hd.ret <| Hd.inBret <| Hd.thenRet ?_
  have h2 : n ≠ m ∨ k = j ∨ (x.e 0).rd = false ∨ (x.e 1).rd = false := by
   rcases hc2 with ((h | h) | h) | h
   ·exact .inl (fun e => h (by rw [e]))
   ·exact .inr (.inl (by omega))
   ·exact .inr (.inr (.inl h))
   ·exact .inr (.inr (.inr h))
  rw [hR, if_pos h2]; exact Hd.ret1 rfl () rfl (fun q s => world_back (k := 0) hw hrs hb' hi (by omega) q (Ent.sep enn q s))
 have h2 : ¬ (n ≠ m ∨ k = j ∨ (x.e 0).rd = false ∨ (x.e 1).rd = false) := by
  rintro (h | h | h | h)
  ·exact h (by omega)
  ·exact hc2.1.1.2 (by rw [h])
  ·rw [h] at hc2; cases hc2.1.2
  ·rw [h] at hc2; cases hc2.2
 have h0 : (x.e 0).rd = true := hc2.1.2
 have h1 : (x.e 1).rd = true := hc2.2
 have hok : WOk { w with nt := some (n, k) } := ⟨hw.uq, hw.fd, hw.len, hw.hdl, hw.ctl, hw.wf, hw.wn, hw.wm, fun a c e => by
  obtain ⟨rfl, rfl⟩ := Prod.mk.inj (Option.some.inj e)
  exact ⟨hk, x, hx, h0, h1⟩, hw.ns⟩
 rw [if_neg h2] at hR; refine Hd.skip <| Hd.inB <| Hd.toK K4 ?_; refine sr fun _ K11 => ?_
 refine yv y_mv <| yv (y_loadn (us := [_, _, _]) ag190 rfl (Rd.pt pkk (by (first | (intro j v e; rcases j with _|_|_|_|_|_|_|_|_|_|_|_|j <;> first | exact e | exact absurd e (by simp))))) (by exact sz190)) ?_; refine yv y_np <| yv (y_f 291 190 Tryz.underlying210 sz190) <| Hd.store (us := plc (some (n, k))) sz190 rfl rfl rfl (plc_one _) pkk (by rw [List.length_append, fdC_len, woT_len, plc_len]; decide) ?_; rw [nt_set]; refine Hd.nil ?_
 refine Hd.heap (WorldP wb { w with nt := some (n, k) } :: L) (fun q s => by
  have h1 : sep (WireP b x :: WoH wb w.at { w with nt := some (n, k) } i.rs.length i :: own 191 1 i.wa i.rs.length i.wc (pws i.rs) :: SigP i.sb w.hd w.ct :: Wires (i.rs.take n) :: Wires (i.rs.drop (n + 1)) :: L) q := Ent.sep (show Ent (WireL b x i2 0 (WoH wb w.at { w with nt := some (n, k) } i.rs.length i :: own 191 1 i.wa i.rs.length i.wc (pws i.rs) :: SigP i.sb w.hd w.ct :: Wires (i.rs.take n) :: Wires (i.rs.drop (n + 1)) :: L)) _ from .ex (i2, 0) (.pure ⟨hi, by omega⟩ enn)) q (Ent.sep enn q s)
  obtain ⟨hln, e⟩ := List.getElem?_eq_some_iff.1 hb'
  have h2 := ws_in (L := WoH wb w.at { w with nt := some (n, k) } i.rs.length i :: own 191 1 i.wa i.rs.length i.wc (pws i.rs) :: SigP i.sb w.hd w.ct :: L) hln (Ent.sep enn q h1)
  rw [← e, List.set_getElem_self] at h2
  exact world_nt hok hrs rfl q (Ent.sep enn q h2)) ?_
 refine sk [(0,_)] K11 ?_; refine sr fun _ K12 => ?_
 refine yv y_mv <| callE rfl fk181 (noticed_ct _ wb { w with nt := some (n, k) } hb) sq ?_; intro _; refine fk [] K12 ?_; refine sr fun _ K13 => ?_
 refine yv y_as <| fk [(6,_)] K13 ?_; refine Hd.ret ?_; rw [hR]; exact Hd.ret1 rfl () rfl sq
end Wo
end Go.Proofs.YtbfddabjbkohdaaGreat
namespace Go.Proofs.YtbfddabjbkohdaaGreat
open Go.RX Fx
namespace Rf
open Wo
theorem rc_hd {w : WA} {n c s o : Nat} {ad : Option Addr} (hl : w.hd.length = 32) (hs : s < 32) (ho : o = 2 + s) : (RwC w n ad c)[o]? = some (.bool (w.hd.getD s false)) := by
 subst ho; rw [List.getElem?_append_right (by simp), List.getElem?_append_left (by simp; omega), List.getElem?_map, List.getD_eq_getElem?_getD]
 have e : 2 + s - ([Value.slice ad n c, Value.int .u64 w.now] : List Value).length = s := by simp
 rw [e, List.getElem?_eq_getElem (by omega)]; rfl
theorem rc_ct {w : WA} {n c s o : Nat} {ad : Option Addr} (hl : w.hd.length = 32) (hc : w.ct.length = 32) (hs : s < 32) (ho : o = 34 + s) : (RwC w n ad c)[o]? = some (.int .i64 (w.ct.getD s 0)) := by
 subst ho; rw [List.getElem?_append_right (by simp; omega), List.getElem?_append_right (by simp; omega), List.getElem?_append_left (by simp; omega), List.getElem?_map, List.getD_eq_getElem?_getD]
 have e : 34 + s - ([Value.slice ad n c, Value.int .u64 w.now] : List Value).length - (w.hd.map Value.bool).length = s := by simp; omega
 rw [e, List.getElem?_eq_getElem (by omega)]; rfl
theorem rc_nt {w : WA} {n c j o : Nat} {ad : Option Addr} {v : Value} (hl : w.hd.length = 32) (hc : w.ct.length = 32) (hv : (ntV w.nt)[j]? = some v) (ho : o = 66 + j) : (RwC w n ad c)[o]? = some v := by
 subst ho; rw [List.getElem?_append_right (by simp; omega), List.getElem?_append_right (by simp; omega), List.getElem?_append_right (by simp; omega)]
 have e : 66 + j - ([Value.slice ad n c, Value.int .u64 w.now] : List Value).length - (w.hd.map Value.bool).length - (w.ct.map (Value.int .i64)).length = j := by simp; omega
 rw [e]; exact hv
theorem sum_take_bd {l : List Int} {K : Int} (h : ∀ c ∈ l, 0 ≤ c ∧ c ≤ K) (s : Nat) : 0 ≤ (l.take s).sum ∧ (l.take s).sum ≤ (l.take s).length * K := by
 have h' : ∀ c ∈ l.take s, 0 ≤ c ∧ c ≤ K := fun c hc => h c (List.mem_of_mem_take hc)
 generalize l.take s = t at h'
 induction t with
 | nil => simp
 | cons c t ih =>
  have h1 := h' c List.mem_cons_self
  have h2 := ih fun q hq => h' q (List.mem_cons_of_mem _ hq)
  simp only [List.sum_cons, List.length_cons]
  have : ((t.length + 1 : Nat) : Int) * K = (t.length : Int) * K + K := by
   rw [Int.natCast_add, Int.add_mul]; simp
  omega
theorem rPending_ct (L : List SP) (b : Nat) (w : WA) (hw : WOk w) (hb : ∀ c ∈ w.ct, 0 ≤ c ∧ c ≤ 2000000000) : Ct Tryz.prog 199 #[.pointer (some ⟨b, 0, none⟩)] (RwP b w :: L) (fun _ : Unit => .int .i64 (pendN w)) (fun _ : Unit => RwP b w :: L) := by
 refine Ct.o1 Tryz.func199 ?_; intro E
 show Hd E 18 _ _ _ _
 refine Hd.rw .here (fun i hi => ?_)
 have hl := hw.hdl
 have hcl := hw.ctl
 have hdb : ∀ c ∈ w.ct.drop 1, 0 ≤ c ∧ c ≤ 2000000000 := fun c hc => hb c (List.mem_of_mem_drop hc)
 have hdl : (w.ct.drop 1).length = 31 := by rw [List.length_drop, hcl]
 refine sr fun _ K1 => ?_
 refine yv y_as <| fk [(0,_)] K1 ?_; refine sr fun _ K2 => ?_
 refine yv y_as <| fk [(0,_),(3,_)] K2 ?_; refine Hd.seq fun _ K3 => ?_
 refine sr fun _ K4 => ?_
 refine yv y_as <| fk [(0,_),(3,_),(4,_)] K4 ?_; refine Hd.block <| Hd.loopK (ι := Nat) [(0,_)] (fun s => [(3, .int .i64 ((w.ct.drop 1).take s).sum), (4, .int .i64 ((s + 1 : Nat) : Int))]) (fun s => pu (s ≤ 31) :: RwL b w i L) (fun s => 31 - s) 0 sbq sbq (Ent.sep (.pure (by omega) enn)) ?_; intro s
 try dsimp only
 refine Hd.pure (fun hp0 => ?_)
 try dsimp only at hp0
 refine Hd.seq fun _ K5 => ?_
 refine sr fun _ K6 => ?_
 refine yv y_mv <| yv (y_leq rfl rfl) ?_; refine fk [(0,_),(3,_),(4,_),(6,_)] K6 ?_; refine qz ?_ ?_ <;> intro hc0 <;> try simp only [hyZ] at hc0
 ·have hs : s < 31 := by omega
  have hbd := sum_take_bd hdb s
  have htl : ((w.ct.drop 1).take s).length = s := by rw [List.length_take]; omega
  have hsc : ((w.ct.drop 1).take (s + 1)).sum = ((w.ct.drop 1).take s).sum + w.ct.getD (s + 1) 0 := by
   rw [List.take_add_one, List.getElem?_drop, List.getD_eq_getElem?_getD, Nat.add_comm 1 s, List.getElem?_eq_getElem (show s + 1 < w.ct.length by omega)]; simp
  have hcb : 0 ≤ w.ct.getD (s + 1) 0 ∧ w.ct.getD (s + 1) 0 ≤ 2000000000 := by
   rw [List.getD_eq_getElem?_getD, List.getElem?_eq_getElem (show s + 1 < w.ct.length by omega)]; exact hb _ (List.getElem_mem _)
  rw [htl] at hbd; refine qv K5 <| Hd.seq fun _ K7 => ?_
  refine Hd.block <| Hd.region <| yv y_mv <| yv y_mv <| yv y_mv <| yv y_np <| yv (y_f 34 131 Tryz.underlying133 sz131) <| yv (y_idxA Tryz.underlying131 sz3 rfl rfl (by omega)) ?_; refine yv (y_load1 ag3 rfl (Rd.pt1 pkk (rc_ct hl hcl (show s + 1 < 32 by omega) (by omega)))) ?_; refine yv (y_addn rfl rfl (by simp only [InK]; omega)) ?_; refine yv y_as <| Hd.nil <| slots [(0,_),(3,_),(4,_)] sbq ?_; refine Hd.inB <| Hd.toK K7 ?_; refine Hd.region <| yv y_mv <| yv (y_addn rfl rfl (by simp only [InK]; omega)) ?_; refine yv y_as <| Hd.nil <| slots [(0,_),(3,_),(4,_)] sbq ?_; refine thenN ?_; rw [← hsc]; exact Hd.again (s + 1) (by omega) sbq (Ent.sep (.pure (by omega) enn))
 obtain rfl : s = 31 := by omega
 refine Hd.exit <| Hd.thenExit <| Hd.thenExit <| Hd.inBexit <| Hd.toK K3 ?_; refine sr fun _ K8 => ?_
 refine yv y_mv <| yv y_as <| fk [(2,_)] K8 ?_; refine Hd.ret ?_
 have e : ((w.ct.drop 1).take 31).sum = pendN w := by unfold pendN; rw [List.take_of_length_le (by omega)]
 rw [← e]; exact Hd.ret1 rfl () rfl (rw_fold hi)
abbrev frN (w : WA) (i : Nat) : List Nat := (List.range i).filter fun fd : Nat => (w.at (fd : Int)).isNone
theorem rfree_ct (L : List SP) (b : Nat) (w : WA) (hw : WOk w) : Ct Tryz.prog 114 #[.pointer (some ⟨b, 0, none⟩)] (RwP b w :: L) (fun q_ : Option Addr × Nat => .slice q_.1 (frees w.at).length q_.2) (fun q_ : Option Addr × Nat => own 3 1 q_.1 (frees w.at).length q_.2 (nats (frees w.at)) :: RwP b w :: L) := by
 refine Ct.o1 Tryz.func114 ?_; intro E
 show Hd E 24 _ _ _ _
 refine sr fun _ K1 => ?_
 refine yv y_as <| fk [(0,_)] K1 ?_; refine sr fun _ K2 => ?_
 refine yv y_as <| fk [(0,_),(3,_)] K2 ?_; refine Hd.seq fun _ K3 => ?_
 refine sr fun _ K4 => ?_
 refine yv y_as <| fk [(0,_),(3,_),(4,_)] K4 ?_; refine Hd.block <| Hd.loopK (ι := Nat × Option Addr × Nat) [(0,_)] (fun q_ => [(3, .slice q_.2.1 (frN w q_.1).length q_.2.2), (4, .int .i64 (q_.1 : Int))]) (fun q_ => pu (q_.1 ≤ 96) :: own 3 1 q_.2.1 (frN w q_.1).length q_.2.2 (nats (frN w q_.1)) :: RwP b w :: L) (fun q_ => 96 - q_.1) (0, none, 0) sbq sbq (fun q t => Ent.sep (.pure (Nat.zero_le _) (.ownNil .same)) q t) ?_; rintro ⟨i, ad, c⟩
 try dsimp only
 refine Hd.pure (fun hp0 => ?_)
 try dsimp only at hp0
 refine Hd.seq fun _ K5 => ?_
 refine sr fun _ K6 => ?_
 refine yv y_mv <| yv (y_leq rfl rfl) ?_; refine fk [(0,_),(3,_),(4,_),(8,_)] K6 ?_; refine qz ?_ ?_ <;> intro hc0 <;> try simp only [hyZ] at hc0
 ·have hi : i < 96 := by omega
  have hsf := range_succ_filter (fun fd : Nat => (w.at (fd : Int)).isNone) i
  have hll : (frN w i).length ≤ i := by
   have := List.length_filter_le (fun fd : Nat => (w.at (fd : Int)).isNone) (List.range i)
   rwa [List.length_range] at this
  obtain ⟨g, hg⟩ : ∃ g, g = frN w i := ⟨_, rfl⟩
  rw [← hg] at hll ⊢
  have hsg : frN w (i + 1) = g ++ (if (w.at (i : Int)).isNone = true then [i] else []) := by rw [hg]; refine Eq.trans hsf ?_; split <;> simp
  refine qv K5 <| Hd.seq fun _ K7 => ?_
  refine Hd.block <| sr fun _ K8 => ?_
  refine yv y_mv <| yv y_mv <| callE rfl fk116 (rat_ct _ b w hw (i : Int)) sq ?_; intro _; refine yv y_mv <| yv y_ex <| yv y_ex <| yv y_as <| yv y_as <| fk [(0,_),(3,_),(4,_),(5,_)] K8 ?_; refine sr fun _ K9 => ?_
  refine yv y_mv <| yv (y_lss rfl rfl) ?_; refine fk [(0,_),(3,_),(4,_),(18,_)] K9 ?_; refine qz ?_ ?_ <;> intro hc1 <;> try simp only [hyZ] at hc1
  ·refine Hd.region ?_
   refine yv y_mv <| yv y_mv <| Hd.bslice (vs := [(0,_)]) rfl (by exact bs114_21 ..) (fun b21 => ?_); refine Hd.append Tryz.underlying44 ty3 rfl rfl rfl pkk (by exact RdS.rd (Rd.pt pkk (fun j v e => by simpa using e)) rfl) (by simp [Value.oneCell']; done) (by simp only [maxLen]; omega) (by omega) (fun ad22 cap22 => ?_); refine yv y_as <| Hd.nil <| slots [(0,_),(3,_),(4,_)] sbq ?_; refine Hd.inB <| Hd.toK K7 ?_; refine Hd.region <| yv y_mv <| yv (y_addn rfl rfl (by simp only [InK]; omega)) ?_; refine yv y_as <| Hd.nil <| slots [(0,_),(3,_),(4,_)] sbq ?_; refine thenN ?_
   have hfr : (w.at (i : Int)).isNone = true := by rw [atN_no hc1]; rfl
   rw [if_pos hfr] at hsg; refine Hd.again (i + 1, ad22, cap22) (by show 96 - (i + 1) < 96 - i; omega) (by rw [hsg]; simp only [List.length_append, List.length_singleton]; repeat (first | exact trivial | refine ⟨rfl, ?_⟩)) (fun q t => ?_); rw [hsg]; exact Ent.sep (.pure (show i + 1 ≤ 96 by omega) (.eq pkk (own_eq3 (by simp) rfl (by simp [nats])) enn)) q t
  refine Hd.skip <| Hd.inB <| Hd.toK K7 ?_; refine Hd.region <| yv y_mv <| yv (y_addn rfl rfl (by simp only [InK]; omega)) ?_; refine yv y_as <| Hd.nil <| slots [(0,_),(3,_),(4,_)] sbq ?_; refine thenN ?_
  have hfr : ¬ ((w.at (i : Int)).isNone = true) := by
   obtain ⟨n, k, hnk⟩ := atN_yes (by omega : 0 ≤ atN (w.at (i : Int)))
   rw [hnk]; simp
  rw [if_neg hfr, List.append_nil] at hsg; refine Hd.again (i + 1, ad, c) (by show 96 - (i + 1) < 96 - i; omega) (by rw [hsg]; repeat (first | exact trivial | refine ⟨rfl, ?_⟩)) (fun q t => ?_); rw [hsg]; exact Ent.sep (.pure (show i + 1 ≤ 96 by omega) enn) q t
 obtain rfl : i = 96 := by omega
 refine Hd.exit <| Hd.thenExit <| Hd.thenExit <| Hd.inBexit <| Hd.toK K3 ?_; refine sr fun _ K10 => ?_
 refine yv y_mv <| yv y_as <| fk [(2,_)] K10 ?_; refine Hd.ret ?_; exact Hd.ret1 rfl (ad, c) rfl sq
end Rf
end Go.Proofs.YtbfddabjbkohdaaGreat
