/-
  Kqueue: one change.
-/
import Derived.Shelf.SlSortCmp.NoneTotal
import Derived.Shelf.SlGeneric
import Derived.Ground.SlsfProg
import Derived.Test.YtbfddabjbkohdaaGreatProg
import Derived.Shelf.SortM.Plain
import Derived.Shelf.SortM.SortNone
import Derived.Ground.SlgmProg
import Derived.Test.YtbfddabjbkohdaaGreatZChangeKernelsI
set_option linter.unusedSimpArgs false
set_option linter.unusedVariables false
set_option linter.unnecessarySimpa false
set_option maxRecDepth 8000
set_option maxHeartbeats 2000000
open Go.RX.Hd (yv y2 n1 fk sk sr tH callE heldK qo qk qn qt qz qv endH thenN slots)
namespace Go.Proofs.YtbfddabjbkohdaaGreat
open Go.RX Fx
namespace Kq
open Wo
def updK (f : Int × Int → Option KnA) (k : Int × Int) (o : Option KnA) : Int × Int → Option KnA := fun a => if a = k then o else f a
theorem kmap_upd (f : Int × Int → Option KnA) (k : Int × Int) (x : KnA) : kmap (updK f k (some x)) = fun c => if c = k then some (.agg (encKn x).toArray) else kmap f c := by
 funext c
 unfold kmap updK
 by_cases h : c = k
 ·rw [if_pos h, if_pos h]; rfl
 ·rw [if_neg h, if_neg h]
theorem kmap_del (f : Int × Int → Option KnA) (k : Int × Int) : kmap (updK f k none) = fun c => if c = k then none else kmap f c := by
 funext c
 unfold kmap updK
 by_cases h : c = k
 ·rw [if_pos h, if_pos h]; rfl
 ·rw [if_neg h, if_neg h]
theorem mpP_eq {b : Nat} {f f' : Int × Int → Option Value} {m m' : Nat} (h : f = f') (hm : m = m') : mpP b .i64 f m = mpP b .i64 f' m' := by rw [h, hm]
def wireK (w : WA) (p : NoA) : Int := if p.2.1 = 3 then 0 else wireN (w.at p.1)
def newK (w : WA) (p : NoA) : KnA := ⟨wireK w p, bits .and .i64 p.2.2.1 56, true, riseK p.2.1 (readyR w p.1)⟩
abbrev oldK (f : Int × Int → Option KnA) (p : NoA) : KnA := (f (p.1, p.2.1)).getD zKn
def keepK (f : Int × Int → Option KnA) (w : WA) (p : NoA) : Prop := isK f w (p.1, p.2.1) = true ∧ (bits .and .i64 (oldK f p).flags 16 ≠ 0 ∨ bits .and .i64 (newK w p).flags 16 = 0)
instance (f : Int × Int → Option KnA) (w : WA) (p : NoA) : Decidable (keepK f w p) := by unfold keepK; infer_instance
def addK (f : Int × Int → Option KnA) (w : WA) (p : NoA) : KnA := if keepK f w p then { newK w p with armed := (oldK f p).armed, seen := (oldK f p).seen } else newK w p
def modK (f : Int × Int → Option KnA) (p : NoA) : KnA := { oldK f p with flags := bits .or .i64 (bits .andNot .i64 (oldK f p).flags 8) (bits .and .i64 p.2.2.1 8) }
def chgK (f : Int × Int → Option KnA) (w : WA) (p : NoA) : Int × (Int × Int → Option KnA) :=
 if mayK p = false then (2, f)
 else if p.2.1 = 3 ∧ (p.1 < 1 ∨ 31 < p.1) then (100, f)
 else if p.2.1 ≠ 3 ∧ w.at p.1 = none then (110, f)
 else if hasF p 1 then (0, updK f (p.1, p.2.1) (some (addK f w p)))
 else if isK f w (p.1, p.2.1) = false then (151, f)
 else if hasF p 2 then (0, updK f (p.1, p.2.1) none)
 else (0, updK f (p.1, p.2.1) (some (modK f p)))
theorem fdErr_no {o : Option (Nat × Nat)} : fdErr o ≠ 0 ↔ o = none := by cases o <;> simp [fdErr]
theorem kchange_ct (L : List SP) (qb wb mb : Nat) (f : Int × Int → Option KnA) (m : Nat) (w : WA) (p : NoA) : Ct Tryz.prog 92 #[.pointer (some ⟨qb, 0, none⟩), .agg (encNo p).toArray] (KqB qb wb mb f m w L) (fun m' : Nat => .int .i64 (chgK f w p).1) (fun m' : Nat => pu (m' ≤ m + 1) :: KqB qb wb mb (chgK f w p).2 m' w L) := by
 refine Ct.o2 Tryz.func92 ?_; intro E
 show Hd E 122 _ _ _ _
 refine sr fun _ K1 => ?_
 refine Hd.box rfl rfl (fun b3 => ?_); refine yv y_as <| fk [(0,_),(3,_)] K1 ?_; refine sr fun _ K2 => ?_
 refine yv (y_f 0 3 Tryz.underlying82 sz3) <| yv (y_l1 ag3 rfl) <| yv (y_f 1 3 Tryz.underlying82 sz3) <| yv (y_l1 ag3 rfl) <| yv (y_build (vs := [(0,_),(1,_)]) rfl (by exact bd92_16 ..)) ?_; refine Hd.alloc zr170 (fun b5 => ?_); refine Hd.store (us := [_, _]) sz170 rfl rfl rfl (by simp [Value.oneCell']) pkk (by simp) ?_
 try simp only [hyS]
 refine fk [(0,_),(3,_),(5,_)] K2 ?_; refine Hd.seq fun _ K3 => ?_
 refine sr fun _ K4 => ?_
 refine yv (y_loadn (us := [_, _, _, _]) ag82 rfl (Rd.pt pkk (by (first | (intro j v e; rcases j with _|_|_|_|_|_|_|_|_|_|_|_|j <;> first | exact e | exact absurd e (by simp))))) (by exact sz82)) ?_; refine callE rfl fk157 (kmay_ct _ p) sq ?_; intro _; refine yv (y_not rfl) <| fk [(0,_),(3,_),(5,_),(19,_)] K4 ?_; refine qz ?_ ?_ <;> intro hc0 <;> try simp only [hyZ] at hc0
 ·have h0 : mayK p = false := by simpa using hc0
  refine sr fun _ K5 => ?_
  refine yv y_as <| fk [(4,_)] K5 ?_; refine Hd.ret <| Hd.thenRet ?_; rw [show chgK f w p = (2, f) from if_pos h0]; exact Hd.ret1 rfl m rfl (Ent.sep (.pure (by omega) enn))
 have h0 : ¬ (mayK p = false) := by simpa using hc0
 refine qv K3 <| sr fun _ K6 => ?_
 refine yv y_as <| fk [(0,_),(3,_),(5,_),(6,_)] K6 ?_; refine Hd.cutK (ι := PLift (¬ (p.2.1 = 3 ∧ (p.1 < 1 ∨ 31 < p.1)) ∧ ¬ (p.2.1 ≠ 3 ∧ w.at p.1 = none))) [(0,_),(3,_),(5,_)] (fun _ => [(6, .int .i64 (wireK w p))]) (fun _ => pt b3 (encNo p) 82 :: pt b5 [.int .i64 p.1, .int .i64 p.2.1] 170 :: KqB qb wb mb f m w L) ?_ ?_ ⟨rfl, rfl, rfl, trivial⟩
 ·refine sr fun _ K7 => ?_
  refine yv (y_f 1 3 Tryz.underlying82 sz3) <| yv (y_l1 ag3 rfl) <| yv (y_eql rfl rfl) ?_; refine fk [(0,_),(3,_),(5,_),(6,_),(22,_)] K7 ?_; refine qz ?_ ?_ <;> intro hc1 <;> try simp only [hyZ] at hc1
  ·refine sr fun _ K8 => ?_
   refine yv (y_f 0 3 Tryz.underlying82 sz3) <| yv (y_l1 ag3 rfl) <| yv (y_lss rfl rfl) ?_; refine yv y_mv ?_; apply Hd.org 4 26 30 [(0,_),(3,_),(5,_),(6,_)] rfl sbq
   ·intro hg6_26
    try simp only [hyZ] at hg6_26
    simp only [List.take]; refine n1 <| n1 <| n1 <| yv (y_pickT rfl rfl) ?_; exact Hd.mn
   ·intro hg6_26
    try simp only [hyZ] at hg6_26
    simp only [List.take]; refine y2 (y_f 0 3 Tryz.underlying82 sz3) <| y2 (y_l1 ag3 rfl) <| y2 (y_gtr rfl rfl) ?_; refine yv (y_pickF rfl rfl) ?_; exact Hd.mn
   simp only [List.drop]; refine fk [(0,_),(3,_),(5,_),(6,_),(30,_)] K8 ?_; refine qz ?_ ?_ <;> intro hc2 <;> try simp only [hyZ] at hc2
   ·refine sr fun _ K9 => ?_
    refine yv y_as <| fk [(4,_)] K9 ?_; refine Hd.ret <| Hd.thenRet ?_; rw [show chgK f w p = (100, f) by unfold chgK; rw [if_neg h0, if_pos ⟨hc1, hc2⟩]]; exact Hd.ret1 rfl m rfl (Ent.sep (.pure (by omega) enn))
   refine Hd.skip <| thenN ?_; exact Hd.meet ⟨fun h => by omega, fun h => h.1 hc1⟩ ⟨congrArg (fun z => some (Value.int .i64 z)) (show (0 : Int) = wireK w p by unfold wireK; rw [if_pos hc1]), by repeat (first | exact trivial | refine ⟨rfl, ?_⟩)⟩ sq
  refine Hd.seq fun _ K10 => ?_
  refine Hd.quiet mixed kq ?_; refine Hq.yv y_mv ?_; refine Hq.yv y_np ?_; refine Hq.yv (y_f 0 38 Tryz.underlying175 sz38) ?_; refine Hq.yv (y_l1 ag38 rfl) ?_; refine Hq.yv (y_f 0 3 Tryz.underlying82 sz3) ?_; refine Hq.yv (y_l1 ag3 rfl) ?_; refine Hq.call rfl fk71 ((wwire_ct _ wb w p.1).swap sq sq) ?_; refine Hq.yv y_mv ?_; refine Hq.yv y_ex ?_; refine Hq.yv y_ex ?_; refine Hq.yv y_as ?_; refine Hq.yv y_as ?_; refine Hq.nil ?_; refine sk [(0,_),(3,_),(5,_),(7,_),(8,_)] K10 ?_; refine Hd.seq fun _ K11 => ?_
  refine sr fun _ K12 => ?_
  refine yv y_mv <| yv (y_neq rfl rfl) ?_; refine fk [(0,_),(3,_),(5,_),(7,_),(42,_)] K12 ?_; refine qz ?_ ?_ <;> intro hc3 <;> try simp only [hyZ] at hc3
  ·refine sr fun _ K13 => ?_
   refine yv y_as <| fk [(4,_)] K13 ?_; refine Hd.ret <| Hd.thenRet <| Hd.thenRet ?_; rw [show chgK f w p = (110, f) by unfold chgK; rw [if_neg h0, if_neg (fun h => hc1 h.1), if_pos ⟨hc1, fdErr_no.1 hc3⟩]]; exact Hd.ret1 rfl m rfl (Ent.sep (.pure (by omega) enn))
  refine qv K11 <| Hd.region <| yv y_mv <| yv y_as <| Hd.nil <| slots [(0,_),(3,_),(5,_),(6,_)] sbq ?_; refine thenN ?_; exact Hd.meet ⟨fun h => hc1 h.1, fun h => absurd hc3 (fdErr_no.2 h.2)⟩ ⟨congrArg (fun z => some (Value.int .i64 z)) (show wireN (w.at p.1) = wireK w p by unfold wireK; rw [if_neg hc1]), by repeat (first | exact trivial | refine ⟨rfl, ?_⟩)⟩ sq
 rintro ⟨h1, h2⟩; refine sr fun _ K14 => ?_
 refine yv y_mv <| yv (y_loadn (us := [_, _]) ag170 rfl (Rd.pt pkk (by (first | (intro j v e; rcases j with _|_|_|_|_|_|_|_|_|_|_|_|j <;> first | exact e | exact absurd e (by simp))))) (by exact sz170)) ?_; refine callE rfl fk158 (kfind_ct _ qb wb mb f m w p.1 p.2.1) sq ?_; intro _; refine yv y_mv <| yv y_ex <| yv (y_to (v' := .bool (isK f w (p.1, p.2.1))) y_ex (by rfl)) ?_; refine Hd.alloc zr172 (fun b9 => ?_); refine Hd.storeA (us := encKn (oldK f p)) sz172 rfl rfl rfl (by simp [Value.oneCell']) pkk (by exact rfl) ?_; refine yv y_as <| fk [(0,_),(3,_),(5,_),(6,_),(9,_),(10,_)] K14 ?_; refine Hd.seq fun _ K15 => ?_
 refine Hd.block <| sr fun _ K16 => ?_
 refine yv (y_f 2 3 Tryz.underlying82 sz3) <| yv (y_l1 ag3 rfl) <| yv (y_and rfl rfl) ?_; refine yv (y_neq rfl rfl) ?_; refine yv y_as <| fk [(0,_),(3,_),(5,_),(6,_),(9,_),(10,_),(64,_)] K16 ?_; refine qz ?_ ?_ <;> intro hc4 <;> try simp only [hyZ] at hc4
 ·have h4 : hasF p 1 := hc4
  refine Hd.cutK (ι := Nat) [(0,_),(5,_),(9,_),(10,_)] (fun b11 => [(11, .pointer (some ⟨b11, 0, none⟩))]) (fun b11 => pt b11 (encKn (newK w p)) 172 :: pt b9 (encKn (oldK f p)) 172 :: pt b5 [.int .i64 p.1, .int .i64 p.2.1] 170 :: KqB qb wb mb f m w L) ?_ ?_ ⟨rfl, rfl, rfl, rfl, trivial⟩
  ·refine Hd.drawsH ([KqH qb wb mb, pt b3 (encNo p) 82]) (fun j => !([16].contains j)) mixed ?_
   simp only [List.length, Nat.zero_add, Nat.reduceAdd]; refine tH 0 rfl y_mv <| tH 1 rfl (y_f 2 3 Tryz.underlying82 sz3) <| tH 2 rfl (y_l1 ag3 rfl) <| tH 3 rfl (y_and rfl rfl) ?_; refine tH 4 rfl (y_f 1 3 Tryz.underlying82 sz3) <| tH 5 rfl (y_l1 ag3 rfl) <| tH 6 rfl y_mv <| tH 7 rfl y_np <| tH 8 rfl (y_f 0 38 Tryz.underlying175 sz38) <| tH 9 rfl (y_l1 ag38 rfl) <| tH 10 rfl (y_f 0 3 Tryz.underlying82 sz3) <| tH 11 rfl (y_l1 ag3 rfl) <| Hd.eitherH 12 15 rfl rfl kq ?_ ?_
   ·refine callE rfl fk43 (wready_ct _ wb w p.1) sq ?_
    intro _; refine qk <| Hd.eitherH 13 15 rfl rfl kq ?_ ?_
    ·refine callE rfl fk91 (krises_ct _ p.2.1 (readyR w p.1)) sq ?_
     intro _; refine qk <| tH 14 rfl (y_build (vs := [(0,_),(1,_),(2,_),(3,_)]) rfl (by exact bd92_83 ..)) ?_; refine qo 15 ?_; refine Hd.alloc zr172 (fun b11 => ?_); refine qk <| qo 16 ?_; refine Hd.storeA (us := encKn (newK w p)) sz172 rfl rfl rfl (by simp [Value.oneCell']) pkk (by exact rfl) ?_; refine qn <| endH kq ?_; refine slots [(0,_),(5,_),(9,_),(10,_),(11,_)] sbq ?_; refine thenN ?_; exact Hd.meet b11 sbq sq
    refine Hd.alloc zr172 (fun b11 => ?_); refine qk <| qo 13 ?_; refine callE rfl fk91 (krises_ct _ p.2.1 (readyR w p.1)) sq ?_; intro _; refine qk <| tH 14 rfl (y_build (vs := [(0,_),(1,_),(2,_),(3,_)]) rfl (by exact bd92_83 ..)) ?_; refine qo 16 ?_; refine Hd.storeA (us := encKn (newK w p)) sz172 rfl rfl rfl (by simp [Value.oneCell']) pkk (by exact rfl) ?_; refine qn <| endH kq ?_; refine slots [(0,_),(5,_),(9,_),(10,_),(11,_)] sbq ?_; refine thenN ?_; exact Hd.meet b11 sbq sq
   refine Hd.alloc zr172 (fun b11 => ?_); refine qk <| qo 12 ?_; refine callE rfl fk43 (wready_ct _ wb w p.1) sq ?_; intro _; refine qk <| qo 13 ?_; refine callE rfl fk91 (krises_ct _ p.2.1 (readyR w p.1)) sq ?_; intro _; refine qk <| tH 14 rfl (y_build (vs := [(0,_),(1,_),(2,_),(3,_)]) rfl (by exact bd92_83 ..)) ?_; refine qo 16 ?_; refine Hd.storeA (us := encKn (newK w p)) sz172 rfl rfl rfl (by simp [Value.oneCell']) pkk (by exact rfl) ?_; refine qn <| endH kq ?_; refine slots [(0,_),(5,_),(9,_),(10,_),(11,_)] sbq ?_; refine thenN ?_; exact Hd.meet b11 sbq sq
  intro b11; refine Hd.cutK (ι := Unit) [(0,_),(5,_),(11,_)] (fun _ => []) (fun _ => pt b11 (encKn (addK f w p)) 172 :: pt b5 [.int .i64 p.1, .int .i64 p.2.1] 170 :: KqB qb wb mb f m w L) ?_ ?_ ⟨rfl, rfl, rfl, trivial⟩
  ·refine sr fun _ K17 => ?_
   refine yv y_mv <| yv y_mv ?_; apply Hd.andg 11 85 96 [(0,_),(5,_),(9,_),(11,_)] rfl sbq
   ·intro hg17_85
    try simp only [hyZ] at hg17_85
    simp only [List.take]; refine y2 (y_f 1 3 Tryz.underlying172 sz3) <| y2 (y_l1 ag3 rfl) <| y2 (y_and rfl rfl) ?_; refine y2 (y_neq rfl rfl) ?_; refine y2 y_mv ?_; apply Hd.org 5 90 95 [(0,_),(5,_),(9,_),(11,_),(85,_)] rfl sbq
    ·intro hg17_90
     try simp only [hyZ] at hg17_90
     simp only [List.take]; refine n1 <| n1 <| n1 <| n1 <| y2 (y_pickT rfl rfl) ?_; exact Hd.mn
    ·intro hg17_90
     try simp only [hyZ] at hg17_90
     simp only [List.take]; refine y2 (y_f 1 3 Tryz.underlying172 sz3) <| y2 (y_l1 ag3 rfl) <| y2 (y_and rfl rfl) ?_; refine y2 (y_eql rfl rfl) ?_; refine y2 (y_pickF rfl rfl) ?_; exact Hd.mn
    simp only [List.drop]; refine yv (y_pickT rfl rfl) ?_; exact Hd.mn
   ·intro hg17_85
    try simp only [hyZ] at hg17_85
    simp only [List.take]; refine n1 <| n1 <| n1 <| n1 <| n1 <| n1 <| n1 <| n1 <| n1 <| n1 <| yv (y_pickF rfl rfl) ?_; exact Hd.mn
   simp only [List.drop]; refine fk [(0,_),(5,_),(9,_),(11,_),(96,_)] K17 ?_; refine qz ?_ ?_ <;> intro hc5 <;> try simp only [hyZ] at hc5
   ·have h5 : keepK f w p := by unfold keepK; simpa using hc5
    refine Hd.drawsH ([pt b9 (encKn (oldK f p)) 172]) (fun j => !(([1000] : List Nat).contains j)) mixed ?_; simp only [List.length, Nat.zero_add, Nat.reduceAdd]; refine tH 0 rfl (y_f 2 4 Tryz.underlying172 sz4) <| tH 1 rfl (y_l1 ag4 rfl) <| tH 2 rfl (y_f 3 30 Tryz.underlying172 sz30) <| tH 3 rfl (y_l1 ag30 rfl) <| tH 4 rfl (y_f 2 4 Tryz.underlying172 sz4) <| qo 5 ?_; refine Hd.store1 sz4 rfl rfl rfl pkk (by simp; done) ?_
    try simp only [hyS]
    refine qk <| tH 6 rfl (y_f 3 30 Tryz.underlying172 sz30) <| qo 7 ?_; refine Hd.store1 sz30 rfl rfl rfl pkk (by simp; done) ?_
    try simp only [hyS]
    refine qk <| endH kq ?_; refine slots [(0,_),(5,_),(11,_)] sbq ?_; refine thenN ?_; exact Hd.meet () sbq (Ent.sep (.eq pkk (pt_eq (by unfold addK; rw [if_pos h5])) enn))
   have h5 : ¬ keepK f w p := by
    unfold keepK; rintro ⟨a1, a2⟩; simp [a1] at hc5
    rcases a2 with a2 | a2
    ·exact a2 hc5.1
    ·exact hc5.2 a2
   refine Hd.skip <| thenN ?_; exact Hd.meet () sbq (Ent.sep (.eq pkk (pt_eq (by unfold addK; rw [if_neg h5])) enn))
  intro _; refine Hd.tail 6 mixed kq ?_; simp only [List.take, List.drop]; refine Ht.yv y_mv ?_; refine Ht.yv y_np ?_; refine Ht.yv (y_f 1 173 Tryz.underlying175 sz173) ?_; refine Ht.yv (y_l1 ag173 rfl) ?_; refine Ht.yv (y_loadn (us := [_, _]) ag170 rfl (Rd.pt pkk (by (first | (intro j v e; rcases j with _|_|_|_|_|_|_|_|_|_|_|_|j <;> first | exact e | exact absurd e (by simp))))) (by exact sz170)) ?_; refine Ht.yv (y_loadn (us := [_, _, _, _]) ag172 rfl (Rd.pt pkk (by (first | (intro j v e; rcases j with _|_|_|_|_|_|_|_|_|_|_|_|j <;> first | exact e | exact absurd e (by simp))))) (by exact sz172)) ?_; refine Ht.nil ?_; refine Hd.mapUpdateK mapt173 rfl rfl rfl pkk ?_; refine Hd.nil <| slots [] sbq ?_; refine Hd.inB <| Hd.toK K15 ?_; refine sr fun _ K18 => ?_
  refine yv y_as <| fk [(4,_)] K18 ?_; refine Hd.ret ?_; rw [show chgK f w p = (0, updK f (p.1, p.2.1) (some (addK f w p))) by unfold chgK; rw [if_neg h0, if_neg h1, if_neg h2, if_pos h4]]; exact Hd.ret1 rfl (if (kmap f (p.1, p.2.1)).isSome then m else m + 1) rfl (Ent.sep (.pure (by split <;> omega) (.pick pkk (.eq pkk (mpP_eq (by rw [kmap_upd]) rfl) enn))))
 have h4 : ¬ hasF p 1 := fun h => h hc4
 refine sr fun _ K19 => ?_
 refine yv y_mv <| yv (y_not rfl) <| yv y_as <| fk [(0,_),(3,_),(5,_),(9,_),(109,_)] K19 ?_; refine qz ?_ ?_ <;> intro hc6 <;> try simp only [hyZ] at hc6
 ·have h6 : isK f w (p.1, p.2.1) = false := by simpa using hc6
  refine sr fun _ K20 => ?_
  refine yv y_as <| fk [(4,_)] K20 ?_; refine Hd.ret <| Hd.inBret <| Hd.thenRet ?_; rw [show chgK f w p = (151, f) by unfold chgK; rw [if_neg h0, if_neg h1, if_neg h2, if_neg h4, if_pos h6]]; exact Hd.ret1 rfl m rfl (Ent.sep (.pure (by omega) enn))
 have h6 : ¬ (isK f w (p.1, p.2.1) = false) := by simpa using hc6
 refine sr fun _ K21 => ?_
 refine yv (y_f 2 3 Tryz.underlying82 sz3) <| yv (y_l1 ag3 rfl) <| yv (y_and rfl rfl) ?_; refine yv (y_neq rfl rfl) ?_; refine yv y_as <| fk [(0,_),(3,_),(5,_),(9,_),(112,_)] K21 ?_; refine qz ?_ ?_ <;> intro hc7 <;> try simp only [hyZ] at hc7
 ·have h7 : hasF p 2 := hc7
  refine Hd.tail 5 mixed kq ?_; simp only [List.take, List.drop]; refine Ht.yv y_mv ?_; refine Ht.yv y_np ?_; refine Ht.yv (y_f 1 173 Tryz.underlying175 sz173) ?_; refine Ht.yv (y_l1 ag173 rfl) ?_; refine Ht.yv (y_loadn (us := [_, _]) ag170 rfl (Rd.pt pkk (by (first | (intro j v e; rcases j with _|_|_|_|_|_|_|_|_|_|_|_|j <;> first | exact e | exact absurd e (by simp))))) (by exact sz170)) ?_; refine Ht.nil ?_; refine Hd.mapDelete0K mapt173 rfl rfl pkk ?_; refine Hd.nil <| slots [] sbq ?_; refine Hd.inB <| Hd.toK K15 ?_; refine sr fun _ K22 => ?_
  refine yv y_as <| fk [(4,_)] K22 ?_; refine Hd.ret ?_; rw [show chgK f w p = (0, updK f (p.1, p.2.1) none) by unfold chgK; rw [if_neg h0, if_neg h1, if_neg h2, if_neg h4, if_neg h6, if_pos h7]]; exact Hd.ret1 rfl (if (kmap f (p.1, p.2.1)).isSome then m - 1 else m) rfl (Ent.sep (.pure (by split <;> omega) (.pick pkk (.eq pkk (mpP_eq (by rw [kmap_del]) rfl) enn))))
 have h7 : ¬ hasF p 2 := fun h => h hc7
 refine sr fun _ K23 => ?_
 refine yv (y_f 1 3 Tryz.underlying172 sz3) <| yv (y_l1 ag3 rfl) <| yv (y_andNot rfl rfl) ?_; refine yv (y_f 2 3 Tryz.underlying82 sz3) <| yv (y_l1 ag3 rfl) <| yv (y_and rfl rfl) ?_; refine yv (y_or rfl rfl) ?_; refine yv (y_f 1 3 Tryz.underlying172 sz3) <| Hd.store1 sz3 rfl rfl rfl pkk (by simp; done) ?_
 try simp only [hyS]
 refine fk [(0,_),(5,_),(9,_)] K23 ?_; refine Hd.tail 6 mixed kq ?_; simp only [List.take, List.drop]; refine Ht.yv y_mv ?_; refine Ht.yv y_np ?_; refine Ht.yv (y_f 1 173 Tryz.underlying175 sz173) ?_; refine Ht.yv (y_l1 ag173 rfl) ?_; refine Ht.yv (y_loadn (us := [_, _]) ag170 rfl (Rd.pt pkk (by (first | (intro j v e; rcases j with _|_|_|_|_|_|_|_|_|_|_|_|j <;> first | exact e | exact absurd e (by simp))))) (by exact sz170)) ?_; refine Ht.yv (y_loadn (us := [_, _, _, _]) ag172 rfl (Rd.pt pkk (by (first | (intro j v e; rcases j with _|_|_|_|_|_|_|_|_|_|_|_|j <;> first | exact e | exact absurd e (by simp))))) (by exact sz172)) ?_; refine Ht.nil ?_; refine Hd.mapUpdateK mapt173 rfl rfl rfl pkk ?_; refine Hd.nil <| slots [] sbq ?_; refine Hd.inB <| Hd.toK K15 ?_; refine sr fun _ K24 => ?_
 refine yv y_as <| fk [(4,_)] K24 ?_; refine Hd.ret ?_; rw [show chgK f w p = (0, updK f (p.1, p.2.1) (some (modK f p))) by unfold chgK; rw [if_neg h0, if_neg h1, if_neg h2, if_neg h4, if_neg h6, if_neg h7]]; exact Hd.ret1 rfl (if (kmap f (p.1, p.2.1)).isSome then m else m + 1) rfl (Ent.sep (.pure (by split <;> omega) (.pick pkk (.eq pkk (mpP_eq (by rw [kmap_upd]; rfl) rfl) enn))))
def oneK (e : Int) (p : NoA) : List NoA := if e = 0 ∧ bits .and .i64 p.2.2.1 64 = 0 then [] else [(p.1, p.2.1, 256, e)]
def chsK (f : Int × Int → Option KnA) (w : WA) : List NoA → List NoA × (Int × Int → Option KnA)
 | [] => ([], f)
 | p :: l => (oneK (chgK f w p).1 p ++ (chsK (chgK f w p).2 w l).1, (chsK (chgK f w p).2 w l).2)
theorem chsK_app (w : WA) : ∀ (a b : List NoA) (f : Int × Int → Option KnA), chsK f w (a ++ b) = ((chsK f w a).1 ++ (chsK (chsK f w a).2 w b).1, (chsK (chsK f w a).2 w b).2)
 | [], _, _ => rfl
 | p :: a, b, f => by
  rw [List.cons_append]
  show (oneK (chgK f w p).1 p ++ (chsK (chgK f w p).2 w (a ++ b)).1, (chsK (chgK f w p).2 w (a ++ b)).2) = (oneK (chgK f w p).1 p ++ (chsK (chgK f w p).2 w a).1 ++ (chsK (chsK (chgK f w p).2 w a).2 w b).1, (chsK (chsK (chgK f w p).2 w a).2 w b).2)
  rw [chsK_app w a b]; simp only [List.append_assoc]
theorem chsK_succ (f : Int × Int → Option KnA) (w : WA) {xs : List NoA} {i : Nat} (h : i < xs.length) : chsK f w (xs.take (i + 1)) = ((chsK f w (xs.take i)).1 ++ oneK (chgK (chsK f w (xs.take i)).2 w xs[i]).1 xs[i], (chgK (chsK f w (xs.take i)).2 w xs[i]).2) := by
 rw [List.take_add_one, List.getElem?_eq_getElem h, Option.toList_some, chsK_app]; simp [chsK]
theorem chsK_len (w : WA) : ∀ (a : List NoA) (f : Int × Int → Option KnA), (chsK f w a).1.length ≤ a.length
 | [], _ => Nat.le_refl _
 | p :: a, f => by
  unfold chsK
  have := chsK_len w a (chgK f w p).2
  have h1 : (oneK (chgK f w p).1 p).length ≤ 1 := by unfold oneK; split <;> simp
  simp only [List.length_append, List.length_cons]; omega
theorem encNo_one (p : NoA) : ∀ u ∈ encNo p, u.oneCell' = true := by simp [Value.oneCell']
theorem kchs_ct (L : List SP) (qb wb mb : Nat) (f : Int × Int → Option KnA) (m : Nat) (w : WA) (al : Option Addr) (cl : Nat) (xs : List NoA) (h : RdS L 4 al xs.length (xs.flatMap encNo)) (hb : xs.length ≤ 1000000) : Ct Tryz.prog 33 #[.pointer (some ⟨qb, 0, none⟩), .slice al xs.length cl] (KqB qb wb mb f m w L) (fun q_ : Option Addr × Nat × Nat => .tuple #[.slice q_.1 (chsK f w xs).1.length q_.2.1, .int .i64 0]) (fun q_ : Option Addr × Nat × Nat => pu (q_.2.2 ≤ m + xs.length) :: own 82 4 q_.1 (chsK f w xs).1.length q_.2.1 ((chsK f w xs).1.flatMap encNo) :: KqB qb wb mb (chsK f w xs).2 q_.2.2 w L) := by
 refine Ct.o2 Tryz.func33 ?_; intro E
 show Hd E 40 _ _ _ _
 refine sr fun _ K1 => ?_
 refine yv y_as <| yv y_as <| fk [(0,_),(1,_)] K1 ?_; refine Hd.scope ?_; refine Hd.seq fun _ K2 => ?_
 refine sr fun _ K3 => ?_
 refine yv y_mv <| callE rfl fk87 (knone_ct _ qb wb mb) sq ?_; intro _; refine fk [(0,_),(1,_),(11,_)] K3 ?_; refine Hd.condF rfl ?_; refine qv K2 <| sr fun _ K4 => ?_
 refine yv y_as <| fk [(0,_),(1,_),(6,_)] K4 ?_; refine Hd.seq fun _ K5 => ?_
 refine Hd.label ?_; refine Hd.toK K5 ?_; refine Hd.seq fun _ K6 => ?_
 refine sr fun _ K7 => ?_
 refine yv y_mv <| yv (y_len Tryz.underlying67 rfl) ?_; refine yv y_mv <| fk [(0,_),(6,_),(12,_),(13,_),(14,_)] K7 ?_; refine Hd.block <| Hd.loopK (ι := Nat × Option Addr × Nat × Nat) [(0,_),(12,_),(13,_)] (fun q_ => [(6, .slice q_.2.1 (chsK f w (xs.take q_.1)).1.length q_.2.2.1), (14, .int .i64 (q_.1 : Int))]) (fun q_ => pu (q_.1 ≤ xs.length ∧ q_.2.2.2 ≤ m + q_.1) :: own 82 4 q_.2.1 (chsK f w (xs.take q_.1)).1.length q_.2.2.1 ((chsK f w (xs.take q_.1)).1.flatMap encNo) :: KqB qb wb mb (chsK f w (xs.take q_.1)).2 q_.2.2.2 w L) (fun q_ => xs.length - q_.1) (0, none, 0, m) sbq sbq (fun q t => Ent.sep (.pure ⟨Nat.zero_le _, Nat.le_refl _⟩ (.ownNil .same)) q t) ?_; rintro ⟨i, ad, c, m'⟩
 try dsimp only
 refine Hd.pure (fun hp0 => ?_)
 try dsimp only at hp0
 refine sr fun _ K8 => ?_
 refine yv (y_lss rfl rfl) ?_; refine fk [(0,_),(6,_),(12,_),(13,_),(14,_),(15,_)] K8 ?_; refine Hd.seq fun _ K9 => ?_
 refine qz ?_ ?_ <;> intro hc1 <;> try simp only [hyZ] at hc1
 ·have hi : i < xs.length := by omega
  have hgi : xs[i]? = some xs[i] := List.getElem?_eq_getElem hi
  have hsc := chsK_succ f w hi
  obtain ⟨g, hg⟩ : ∃ g, g = (chsK f w (xs.take i)).2 := ⟨_, rfl⟩
  obtain ⟨o, ho⟩ : ∃ o, o = (chsK f w (xs.take i)).1 := ⟨_, rfl⟩
  have hol : o.length ≤ i := by
   have := chsK_len w (xs.take i) f
   rw [← ho, List.length_take] at this; omega
  rw [← hg, ← ho] at hsc; rw [← hg, ← ho]; refine qv K9 <| Hd.seq fun _ K10 => ?_
  refine Hd.block <| sr fun _ K11 => ?_
  refine yv (y_idxR Tryz.underlying67 sz82 rfl rfl (by omega) (by exact RdS.mono h sq)) ?_; refine yv (y_loadRn (vs := encNo xs[i]) ag82 rfl (RdS.mono h sq) (flat_cells encNo 4 (fun _ => rfl) hgi) (by exact sz82) (by simp)) ?_; refine Hd.alloc zr82 (fun b8 => ?_); refine Hd.storeA (us := encNo xs[i]) sz82 rfl rfl rfl (encNo_one _) pkk (by exact rfl) ?_; refine fk [(0,_),(6,_),(8,_),(12,_),(13,_),(14,_)] K11 ?_; refine sr fun _ K12 => ?_
  refine yv y_mv <| yv (y_loadn (us := [_, _, _, _]) ag82 rfl (Rd.pt pkk (by (first | (intro j v e; rcases j with _|_|_|_|_|_|_|_|_|_|_|_|j <;> first | exact e | exact absurd e (by simp))))) (by exact sz82)) ?_; refine callE rfl fk92 (kchange_ct _ qb wb mb g m' w xs[i]) sq ?_; intro m2; refine Hd.pure (fun hm2 => ?_); refine yv y_as <| fk [(0,_),(6,_),(8,_),(9,_),(12,_),(13,_),(14,_)] K12 ?_; refine Hd.seq fun _ K13 => ?_
  refine sr fun _ K14 => ?_
  refine yv y_mv <| yv (y_eql rfl rfl) ?_; refine yv y_mv ?_; apply Hd.andg 5 23 28 [(0,_),(6,_),(8,_),(9,_),(12,_),(13,_),(14,_)] rfl sbq
  ·intro hg8_23
   try simp only [hyZ] at hg8_23
   simp only [List.take]; refine y2 (y_f 2 3 Tryz.underlying82 sz3) <| y2 (y_l1 ag3 rfl) <| y2 (y_and rfl rfl) ?_; refine y2 (y_eql rfl rfl) ?_; refine yv (y_pickT rfl rfl) ?_; exact Hd.mn
  ·intro hg8_23
   try simp only [hyZ] at hg8_23
   simp only [List.take]; refine n1 <| n1 <| n1 <| n1 <| yv (y_pickF rfl rfl) ?_; exact Hd.mn
  simp only [List.drop]; refine fk [(0,_),(6,_),(8,_),(9,_),(12,_),(13,_),(14,_),(28,_)] K14 ?_; refine qz ?_ ?_ <;> intro hc2 <;> try simp only [hyZ] at hc2
  ·refine Hd.exit ?_
   refine Hd.thenExit <| Hd.inBexit <| Hd.toK K10 ?_; refine Hd.region <| yv (y_addn rfl rfl (by simp only [InK]; omega)) ?_; refine yv y_mv <| Hd.nil <| slots [(0,_),(6,_),(12,_),(13,_),(14,_)] sbq ?_; refine thenN ?_
   have hon : oneK (chgK g w xs[i]).1 xs[i] = [] := if_pos hc2
   refine Hd.again (i + 1, ad, c, m2) (by show xs.length - (i + 1) < xs.length - i; omega) (by rw [hsc, hon, List.append_nil]; repeat (first | exact trivial | refine ⟨rfl, ?_⟩)) (fun q t => ?_); rw [hsc, hon, List.append_nil]; exact Ent.sep (.pure (show i + 1 ≤ xs.length ∧ m2 ≤ m + (i + 1) from ⟨hi, by omega⟩) enn) q t
  refine qv K13 <| Hd.region <| yv y_mv <| yv (y_f 0 3 Tryz.underlying82 sz3) <| yv (y_l1 ag3 rfl) <| yv (y_f 1 3 Tryz.underlying82 sz3) <| yv (y_l1 ag3 rfl) <| yv y_mv <| yv (y_build (vs := [(0,_),(1,_),(2,_),(3,_)]) rfl (by exact bd33_35 ..)) ?_; refine Hd.bslice (vs := [(0,_)]) rfl (by exact bs33_36 ..) (fun b36 => ?_); refine Hd.append Tryz.underlying67 ty82 rfl rfl rfl pkk (by exact RdS.rd (Rd.pt pkk (fun j v e => by simpa using e)) rfl) (by simp [Value.oneCell']; done) (by simp only [maxLen]; omega) (by omega) (fun ad37 cap37 => ?_); refine yv y_as <| Hd.nil <| slots [(0,_),(6,_),(12,_),(13,_),(14,_)] sbq ?_; refine Hd.inB <| Hd.toK K10 ?_; refine Hd.region <| yv (y_addn rfl rfl (by simp only [InK]; omega)) ?_; refine yv y_mv <| Hd.nil <| slots [(0,_),(6,_),(12,_),(13,_),(14,_)] sbq ?_
  refine thenN ?_
  have hon : oneK (chgK g w xs[i]).1 xs[i] = [(xs[i].1, xs[i].2.1, 256, (chgK g w xs[i]).1)] := if_neg (fun hh => by simp [hh.1, hh.2] at hc2)
  refine Hd.again (i + 1, ad37, cap37, m2) (by show xs.length - (i + 1) < xs.length - i; omega) (by rw [hsc, hon]; simp only [List.length_append, List.length_singleton]; repeat (first | exact trivial | refine ⟨rfl, ?_⟩)) (fun q t => ?_); rw [hsc, hon]; exact Ent.sep (.pure (show i + 1 ≤ xs.length ∧ m2 ≤ m + (i + 1) from ⟨hi, by omega⟩) (.eq pkk (own_eq3 (by simp) rfl (by simp only [List.flatMap_append]; rfl)) enn)) q t
 obtain rfl : i = xs.length := by omega
 rw [List.take_length]; refine Hd.exit <| Hd.thenExit <| Hd.thenExit <| Hd.inBexit <| Hd.toK K6 ?_; refine sr fun _ K15 => ?_
 refine yv y_mv <| yv y_as <| yv y_as <| fk [(4,_),(5,_)] K15 ?_; refine Hd.ret <| Hd.scRet ?_; exact Hd.ret2 rfl (ad, c, m') rfl rfl rfl (Ent.sep (.pure hp0.2 enn))
end Kq
end Go.Proofs.YtbfddabjbkohdaaGreat
namespace Go.Proofs
open Go.Shelf
def Tryz.sortI_ren : Go.Shelf.Ren := ⟨fun | 6 => 159 | 15 => 192 | 14 => 191 | 28 => 212 | 29 => 213 | 20 => 204 | 21 => 205 | 22 => 206 | 23 => 207 | 24 => 208 | 25 => 209 | 26 => 210 | 27 => 211 | 46 => 226 | 47 => 227 | 48 => 228 | 49 => 229 | 50 => 230 | 57 => 234 | n => n, fun | 22 => 178 | 24 => 170 | 25 => 256 | 3 => 3 | 39 => 280 | 0 => 0 | 53 => 299 | 55 => 30 | 4 => 4 | 46 => 292 | 45 => 291 | 50 => 296 | 5 => 5 | 9 => 9 | 66 => 308 | 70 => 312 | 76 => 316 | 77 => 114 | n => n, fun | n => n⟩
theorem Tryz.sortI : Go.Proofs.SlLaysF0.n6 Tryz.prog Tryz.sortI_ren := {
  mixed := by kernel_rfl
  f6 := ⟨Tryz.f159.name, by decide, Tryz.func159.trans (congrArg some (by kernel_rfl))⟩
  f14 := ⟨Tryz.f191.name, by decide, Tryz.func191.trans (congrArg some (by kernel_rfl))⟩
  f15 := Tryz.func192.trans (congrArg some (by kernel_rfl))
  f20 := ⟨Tryz.f204.name, by decide, Tryz.func204.trans (congrArg some (by kernel_rfl))⟩
  f21 := ⟨Tryz.f205.name, by decide, Tryz.func205.trans (congrArg some (by kernel_rfl))⟩
  f22 := ⟨Tryz.f206.name, by decide, Tryz.func206.trans (congrArg some (by kernel_rfl))⟩
  f23 := ⟨Tryz.f207.name, by decide, Tryz.func207.trans (congrArg some (by kernel_rfl))⟩
  f24 := ⟨Tryz.f208.name, by decide, Tryz.func208.trans (congrArg some (by kernel_rfl))⟩
  f25 := ⟨Tryz.f209.name, by decide, Tryz.func209.trans (congrArg some (by kernel_rfl))⟩
  f26 := ⟨Tryz.f210.name, by decide, Tryz.func210.trans (congrArg some (by kernel_rfl))⟩
  f27 := ⟨Tryz.f211.name, by decide, Tryz.func211.trans (congrArg some (by kernel_rfl))⟩
  f28 := Tryz.func212.trans (congrArg some (by kernel_rfl))
  f29 := Tryz.func213.trans (congrArg some (by kernel_rfl))
  f46 := ⟨Tryz.f226.name, by decide, Tryz.func226.trans (congrArg some (by kernel_rfl))⟩
  f47 := Tryz.func227.trans (congrArg some (by kernel_rfl))
  f48 := Tryz.func228.trans (congrArg some (by kernel_rfl))
  f49 := ⟨Tryz.f229.name, by decide, Tryz.func229.trans (congrArg some (by kernel_rfl))⟩
  f50 := ⟨Tryz.f230.name, by decide, Tryz.func230.trans (congrArg some (by kernel_rfl))⟩
  f57 := ⟨Tryz.f234.name, by decide, Tryz.func234.trans (congrArg some (by kernel_rfl))⟩
  t0 := Tryz.underlying0
  a0 := Tryz.isAgg0
  z0 := Tryz.sizeOf0
  v0 := Tryz.zeroValue0
  t3 := Tryz.underlying3
  a3 := Tryz.isAgg3
  z3 := Tryz.sizeOf3
  v3 := Tryz.zeroValue3
  t4 := Tryz.underlying4
  a4 := Tryz.isAgg4
  z4 := Tryz.sizeOf4
  v4 := Tryz.zeroValue4
  t5 := Tryz.underlying5
  a5 := Tryz.isAgg5
  z5 := Tryz.sizeOf5
  v5 := Tryz.zeroValue5
  t9 := Tryz.underlying9
  a9 := Tryz.isAgg9
  z9 := Tryz.sizeOf9
  v9 := Tryz.zeroValue9
  t22 := Tryz.underlying178
  a22 := Tryz.isAgg178
  z22 := Tryz.sizeOf178
  v22 := Tryz.zeroValue178
  t25 := Tryz.underlying256
  a25 := Tryz.isAgg256
  z25 := Tryz.sizeOf256
  v25 := Tryz.zeroValue256
  t39 := Tryz.underlying280
  a39 := Tryz.isAgg280
  z39 := Tryz.sizeOf280
  v39 := Tryz.zeroValue280
  t45 := Tryz.underlying291
  a45 := Tryz.isAgg291
  z45 := Tryz.sizeOf291
  v45 := Tryz.zeroValue291
  t46 := Tryz.underlying292
  a46 := Tryz.isAgg292
  z46 := Tryz.sizeOf292
  v46 := Tryz.zeroValue292
  t50 := Tryz.underlying296
  a50 := Tryz.isAgg296
  z50 := Tryz.sizeOf296
  v50 := Tryz.zeroValue296
  t53 := Tryz.underlying299
  a53 := Tryz.isAgg299
  z53 := Tryz.sizeOf299
  v53 := Tryz.zeroValue299
  t55 := Tryz.underlying30
  a55 := Tryz.isAgg30
  z55 := Tryz.sizeOf30
  v55 := Tryz.zeroValue30
  t66 := Tryz.underlying308
  a66 := Tryz.isAgg308
  z66 := Tryz.sizeOf308
  v66 := Tryz.zeroValue308
  t70 := Tryz.underlying312
  a70 := Tryz.isAgg312
  z70 := Tryz.sizeOf312
  v70 := Tryz.zeroValue312
  t76 := Tryz.underlying316
  a76 := Tryz.isAgg316
  z76 := Tryz.sizeOf316
  v76 := Tryz.zeroValue316
  t77 := Tryz.underlying114
  a77 := Tryz.isAgg114
  z77 := Tryz.sizeOf114
  v77 := Tryz.zeroValue114 }
end Go.Proofs
namespace Go.Proofs.YtbfddabjbkohdaaGreat
open Go.RX Fx
namespace Kq
open Wo
def cmpZ (x y : Int) : Int := if x < y then -1 else if y < x then 1 else 0
theorem nan_ct (L : List SP) (x : Int) : Ct Tryz.prog 193 #[.int .i64 x] (L) (fun _ : Unit => .bool false) (fun _ : Unit => L) := by
 refine Ct.o1 Tryz.func193 ?_; intro E
 show Hd E 6 _ _ _ _
 refine sr fun _ K1 => ?_
 refine yv y_as <| fk [(0,_)] K1 ?_; refine sr fun _ K2 => ?_
 refine yv y_mv <| yv y_mv <| yv (y_to (y_neq rfl rfl) (congrArg Value.bool (decide_eq_false ((fun h => h rfl))))) ?_; refine yv y_as <| fk [(2,_)] K2 ?_; refine Hd.ret ?_; exact Hd.ret1 rfl () (by rfl) sq
theorem cmp_ct (L : List SP) (x y : Int) : Ct Tryz.prog 162 #[.int .i64 x, .int .i64 y] (L) (fun _ : Unit => .int .i64 (cmpZ x y)) (fun _ : Unit => L) := by
 refine Ct.o2 Tryz.func162 ?_; intro E
 show Hd E 20 _ _ _ _
 refine sr fun _ K1 => ?_
 refine yv y_as <| fk [(0,_),(1,_)] K1 ?_; refine sr fun _ K2 => ?_
 refine yv y_mv <| callE rfl fk193 (nan_ct _ _) sq ?_; intro _; refine yv y_as <| fk [(0,_),(1,_),(5,_)] K2 ?_; refine sr fun _ K3 => ?_
 refine yv y_mv <| callE rfl fk193 (nan_ct _ _) sq ?_; intro _; refine yv y_as <| fk [(0,_),(1,_),(5,_),(6,_)] K3 ?_; refine Hd.seq fun _ K4 => ?_
 refine sr fun _ K5 => ?_
 refine yv y_mv <| fk [(0,_),(1,_),(6,_),(11,_)] K5 ?_; refine Hd.condF rfl ?_; refine qv K4 <| Hd.seq fun _ K6 => ?_
 refine sr fun _ K7 => ?_
 refine yv y_mv <| fk [(0,_),(1,_),(13,_)] K7 ?_; refine Hd.condF rfl ?_; refine qv K6 <| Hd.seq fun _ K8 => ?_
 refine sr fun _ K9 => ?_
 refine yv y_mv <| yv y_mv <| yv (y_lss rfl rfl) ?_; refine fk [(0,_),(1,_),(16,_)] K9 ?_; refine qz ?_ ?_ <;> intro hc3 <;> try simp only [hyZ] at hc3
 ·refine sr fun _ K10 => ?_
  refine yv y_as <| fk [(4,_)] K10 ?_; refine Hd.ret <| Hd.thenRet ?_; exact Hd.ret1 rfl () (by unfold cmpZ; rw [if_pos hc3]; rfl) sq
 refine qv K8 <| Hd.seq fun _ K11 => ?_
 refine sr fun _ K12 => ?_
 refine yv y_mv <| yv y_mv <| yv (y_gtr rfl rfl) ?_; refine fk [(19,_)] K12 ?_; refine qz ?_ ?_ <;> intro hc4 <;> try simp only [hyZ] at hc4
 ·refine sr fun _ K13 => ?_
  refine yv y_as <| fk [(4,_)] K13 ?_; refine Hd.ret <| Hd.thenRet ?_; exact Hd.ret1 rfl () (by unfold cmpZ; rw [if_neg (by omega), if_pos (by omega)]; rfl) sq
 refine qv K11 <| sr fun _ K14 => ?_
 refine yv y_as <| fk [(4,_)] K14 ?_; refine Hd.ret ?_; exact Hd.ret1 rfl () (by unfold cmpZ; rw [if_neg (by omega), if_neg (by omega)]; rfl) sq
theorem or2_ct (L : List SP) (b : Nat) (x y : Int) : Ct Tryz.prog 161 #[.slice (some ⟨b, 0, none⟩) 2 2] (pt b [.int .i64 x, .int .i64 y] 3 :: L) (fun _ : Unit => .int .i64 (if x ≠ 0 then x else y)) (fun _ : Unit => pt b [.int .i64 x, .int .i64 y] 3 :: L) := by
 refine Ct.o1 Tryz.func161 ?_; intro E
 show Hd E 18 _ _ _ _
 refine sr fun _ K1 => ?_
 refine yv y_as <| fk [(0,_)] K1 ?_; refine sr fun _ K2 => ?_
 refine yv y_as <| fk [(0,_),(3,_)] K2 ?_; refine Hd.seq fun _ K3 => ?_
 refine sr fun _ K4 => ?_
 refine yv y_mv <| yv (y_len Tryz.underlying44 rfl) ?_; refine yv y_mv <| fk [(3,_),(6,_),(7,_),(8,_)] K4 ?_; refine Hd.block <| Hd.rounds 3 ?_; refine Hd.roundS ?_; refine sr fun _ K5 => ?_
 refine yv (y_lss rfl rfl) ?_; refine fk [(3,_),(6,_),(7,_),(8,_),(9,_)] K5 ?_; refine Hd.seq fun _ K6 => ?_
 refine Hd.condT rfl ?_; refine qv K6 <| Hd.seq fun _ K7 => ?_
 refine Hd.block <| sr fun _ K8 => ?_
 refine yv (y_idxS Tryz.underlying44 sz3 rfl rfl (by decide)) ?_; refine yv (y_l1 ag3 rfl) <| yv y_as <| fk [(3,_),(5,_),(6,_),(7,_),(8,_)] K8 ?_; refine sr fun _ K9 => ?_
 refine yv y_mv <| yv y_mv <| yv (y_neq rfl rfl) ?_; refine fk [(3,_),(5,_),(6,_),(7,_),(8,_),(14,_)] K9 ?_; refine qz ?_ ?_ <;> intro hc1 <;> try simp only [hyZ] at hc1
 ·refine sr fun _ K10 => ?_
  refine yv y_mv <| yv y_as <| fk [(2,_)] K10 ?_; refine Hd.ret <| Hd.inBret <| Hd.thenRet <| Hd.thenRet <| Hd.inBret <| Hd.thenRet ?_; exact Hd.ret1 rfl () (show some (Value.int .i64 x) = some (Value.int .i64 (if x ≠ 0 then x else y)) from by simp_all) sq
 refine Hd.skip <| Hd.inB <| Hd.toK K7 ?_; refine Hd.region <| yv (y_addn rfl rfl (by simp only [InK]; omega)) ?_; refine yv y_mv <| Hd.nil <| slots [(3,_),(6,_),(7,_),(8,_)] sbq ?_; refine Hd.roundN ?_; refine sr fun _ K11 => ?_
 refine yv (y_lss rfl rfl) ?_; refine fk [(3,_),(6,_),(7,_),(8,_),(9,_)] K11 ?_; refine Hd.seq fun _ K12 => ?_
 refine Hd.condT rfl ?_; refine qv K12 <| Hd.seq fun _ K13 => ?_
 refine Hd.block <| sr fun _ K14 => ?_
 refine yv (y_idxS Tryz.underlying44 sz3 rfl rfl (by decide)) ?_; refine yv (y_l1 ag3 rfl) <| yv y_as <| fk [(3,_),(5,_),(6,_),(7,_),(8,_)] K14 ?_; refine sr fun _ K15 => ?_
 refine yv y_mv <| yv y_mv <| yv (y_neq rfl rfl) ?_; refine fk [(3,_),(5,_),(6,_),(7,_),(8,_),(14,_)] K15 ?_; refine qz ?_ ?_ <;> intro hc1 <;> try simp only [hyZ] at hc1
 ·refine sr fun _ K16 => ?_
  refine yv y_mv <| yv y_as <| fk [(2,_)] K16 ?_; refine Hd.ret <| Hd.inBret <| Hd.thenRet <| Hd.thenRet <| Hd.inBret <| Hd.thenRet ?_; exact Hd.ret1 rfl () (show some (Value.int .i64 y) = some (Value.int .i64 (if x ≠ 0 then x else y)) from by simp_all) sq
 refine Hd.skip <| Hd.inB <| Hd.toK K13 ?_; refine Hd.region <| yv (y_addn rfl rfl (by simp only [InK]; omega)) ?_; refine yv y_mv <| Hd.nil <| slots [(3,_),(6,_),(7,_),(8,_)] sbq ?_; refine Hd.roundN ?_; refine sr fun _ K17 => ?_
 refine yv (y_lss rfl rfl) ?_; refine fk [(3,_),(6,_),(7,_),(8,_),(9,_)] K17 ?_; refine Hd.seq fun _ K18 => ?_
 refine Hd.condF rfl ?_; refine Hd.exit <| Hd.thenExit <| Hd.thenExit <| Hd.inBexit <| Hd.toK K3 ?_; refine sr fun _ K19 => ?_
 refine yv y_mv <| yv y_as <| fk [(2,_)] K19 ?_; refine Hd.ret ?_; exact Hd.ret1 rfl () (show some (Value.int .i64 0) = some (Value.int .i64 (if x ≠ 0 then x else y)) from by simp_all) sq
abbrev Ky := Int × Int
abbrev encKy (a : Ky) : List Value := [.int .i64 a.1, .int .i64 a.2]
theorem encKy_one (a : Ky) : ∀ u ∈ encKy a, u.oneCell' = true := by simp [Value.oneCell']
def cmpK (a b : Ky) : Int := if cmpZ a.1 b.1 ≠ 0 then cmpZ a.1 b.1 else cmpZ a.2 b.2
def ltK (a b : Ky) : Prop := a.1 < b.1 ∨ (a.1 = b.1 ∧ a.2 < b.2)
instance (a b : Ky) : Decidable (ltK a b) := by unfold ltK; exact inferInstance
theorem cmpK_neg (a b : Ky) : cmpK a b < 0 ↔ ltK a b := by
 unfold cmpK cmpZ ltK; repeat' split
 all_goals omega
theorem compK_ct (L : List SP) (a b : Ky) : Ct Tryz.prog 160 #[.agg (encKy a).toArray, .agg (encKy b).toArray] (L) (fun _ : Unit => .int .i64 (cmpK a b)) (fun _ : Unit => L) := by
 refine Ct.o2 Tryz.func160 ?_; intro E
 show Hd E 17 _ _ _ _
 refine sr fun _ K1 => ?_
 refine Hd.box rfl rfl (fun b2 => ?_); refine Hd.box rfl rfl (fun b3 => ?_); refine yv y_as <| fk [(2,_),(3,_)] K1 ?_; refine Hd.seq fun _ K2 => ?_
 refine Hd.drawsH ([pt b2 (encKy a) 170, pt b3 (encKy b) 170]) (fun _ => true) mixed ?_; simp only [List.length, Nat.zero_add, Nat.reduceAdd]; refine tH 0 rfl (y_f 0 3 Tryz.underlying170 sz3) <| tH 1 rfl (y_l1 ag3 rfl) <| tH 2 rfl (y_f 0 3 Tryz.underlying170 sz3) <| tH 3 rfl (y_l1 ag3 rfl) <| tH 5 rfl (y_f 1 3 Tryz.underlying170 sz3) <| tH 6 rfl (y_l1 ag3 rfl) <| tH 7 rfl (y_f 1 3 Tryz.underlying170 sz3) <| tH 8 rfl (y_l1 ag3 rfl) <| qo 4 ?_; refine callE rfl fk162 (cmp_ct _ a.1 b.1) sq ?_; intro _; refine qk <| qo 9 ?_; refine callE rfl fk162 (cmp_ct _ a.2 b.2) sq ?_; intro _; refine qk <| qo 10 ?_; refine Hd.bslice (vs := [(0,_),(1,_)]) rfl (by exact bs160_15 ..) (fun b15 => ?_); refine qk <| qo 11 ?_; refine callE rfl fk161 (or2_ct _ b15 (cmpZ a.1 b.1) (cmpZ a.2 b.2)) sq ?_; intro _; refine qk <| tH 12 rfl y_as ?_
 refine endH kq ?_; refine sk [(4,_)] K2 ?_; refine Hd.ret ?_; exact Hd.ret1 rfl () (by rfl) sq
theorem ltOf_K (x y : Ky) : ltOf cmpK x y = decide (ltK x y) := by
 unfold ltOf
 by_cases h : ltK x y
 ·simp [h, (cmpK_neg x y).2 h]
 ·have hn : ¬ cmpK x y < 0 := fun q => h ((cmpK_neg x y).1 q)
  rw [decide_eq_false hn, decide_eq_false h]
theorem swo_K : Go.Sort.SWO (ltOf cmpK) where
 irrefl x := by rw [ltOf_K]; simp [ltK]
 trans x y z h1 h2 := by rw [ltOf_K] at *; simp only [decide_eq_true_eq] at *; unfold ltK at *; omega
 ntrans x y z h1 h2 := by rw [ltOf_K] at *; simp only [decide_eq_false_iff_not] at *; unfold ltK at *; omega
def srtK (xs : List Ky) : List Ky := xs.mergeSort fun x y => !(ltOf cmpK) y x
theorem srtK_nil : srtK [] = [] := by simp [srtK]
theorem srtK_perm (xs : List Ky) : (srtK xs).Perm xs := List.mergeSort_perm _ _
theorem srtK_lt {xs : List Ky} (hn : xs.Nodup) : (srtK xs).Pairwise ltK := by
 have hle : ∀ x y : Ky, (!(ltOf cmpK) y x) = true ↔ ¬ ltK y x := fun x y => by rw [ltOf_K]; simp
 have h1 := List.pairwise_mergeSort (le := fun x y => !(ltOf cmpK) y x) (fun a b c h1 h2 => (hle _ _).2 (by have a1 := (hle _ _).1 h1; have a2 := (hle _ _).1 h2; unfold ltK at *; omega)) (fun a b => by
  rw [Bool.or_eq_true, hle, hle]
  unfold ltK; omega) xs
 have h2 : (srtK xs).Pairwise fun a b => ¬ ltK b a := h1.imp fun h => (hle _ _).1 h
 have h3 : (srtK xs).Nodup := (srtK_perm xs).nodup_iff.2 hn
 refine (h2.and h3).imp fun {a b} h => ?_
 obtain ⟨h4, h5⟩ := h
 have h6 : ¬ (a.1 = b.1 ∧ a.2 = b.2) := fun h => h5 (Prod.ext h.1 h.2)
 unfold ltK at *; omega
abbrev OwK (ad : Option Addr) (n cap : Nat) (xs : List Ky) : SP := own 170 2 ad n cap (xs.flatMap encKy)
theorem fkK : fnk Tryz.prog 160 = true := by kernel_rfl
theorem sortK_ct (L : List SP) (ad : Option Addr) (n cap : Nat) (xs : List Ky) (hn : xs.length = n) (hlen : n ≤ 1000000) :
  Ct Tryz.prog 159 #[.slice ad n cap, .func (.func 160) #[] #[]] (OwK ad n cap xs :: L) (fun _ : Unit => .tuple #[]) (fun _ => OwK ad n cap (srtK xs) :: L) := by
 intro E w hsat
 have hls : (srtK xs).length = n := by rw [(srtK_perm xs).length_eq, hn]
 obtain ⟨hos, htp, hou, h1, h2, dd, s1, s2, ⟨hul, hv⟩, hL⟩ := hsat
 rcases hv with ⟨h0, hc0⟩ | ⟨b, o, sp, rfl, hmc, hcm, hsp, hpt⟩
 ·subst h0
  obtain rfl := List.eq_nil_of_length_eq_zero hn
  refine (AnyF.slices_SortFunc_none Tryz.sortI ad cap _ w).mono ?_; rintro e w' ⟨rfl, rfl⟩; rw [srtK_nil]; exact ⟨(), rfl, hos, htp, hou, h1, h2, dd, s1, s2, ⟨hul, .inl ⟨rfl, hc0⟩⟩, hL⟩
 ·by_cases hn0 : n = 0
  ·subst hn0
   obtain rfl := List.eq_nil_of_length_eq_zero hn
   refine (AnyF.slices_SortFunc_none Tryz.sortI (some ⟨b, o, none⟩) cap _ w).mono ?_; rintro e w' ⟨rfl, rfl⟩; rw [srtK_nil]; exact ⟨(), rfl, hos, htp, hou, h1, h2, dd, s1, s2, ⟨hul, .inr ⟨b, o, sp, rfl, hmc, hcm, hsp, hpt⟩⟩, hL⟩
  have s0 : Sat E (seg b o (xs.flatMap encKy ++ sp) :: L) w := ⟨hos, htp, hou, h1, h2, dd, s1, s2, hpt, hL⟩
  have s3 : Sat E (seg b o (xs.flatMap encKy) :: seg b (o + (xs.flatMap encKy).length) sp :: L) w := s0.mp fun k h => seg_split h
  have h0x : 0 < xs.length := by omega
  have hH := Sat.holdsK (enc := encKy) (k := 2) (fun _ => rfl) (by omega) h0x s3
  have eg : ∀ args w, (callFunc 160 args).run Tryz.prog w = .ok (.enter 160 args) w := fun args w => run_call fkK args w
  have hc := AnyQ.slices_SortFunc_total Tryz.sortI 2 Tryz.isAgg170 Tryz.sizeOf170 encKy (fun _ => rfl) encKy_one cmpK swo_K 160 #[] b o cap xs.toArray w eg
   (cmpLays_of fun L x y => compK_ct L x y) hH.1 hH.2 (by simp; omega) (fun x y h1 h2 => by
    rw [ltOf_K] at h1 h2; simp only [decide_eq_false_iff_not] at h1 h2; unfold ltK at h1 h2
    exact Prod.ext (by omega) (by omega))
  have hsz : xs.toArray.size = n := by simpa using hn
  rw [hsz] at hc; refine Calls.mono (show Calls Tryz.prog 159 _ _ _ from hc) ?_; rintro e w' ⟨rfl, m, os, rfl⟩; refine ⟨(), rfl, ?_⟩
  have s4 := s3.sortW (ys := srtK xs) (enc := encKy) (k := 2) (fun _ => rfl) (by omega) (by omega) h0x m os
  have hfl : (xs.flatMap encKy).length = ((srtK xs).flatMap encKy).length := by rw [rows_len (k := 2) (fun _ => rfl), rows_len (k := 2) (fun _ => rfl)]; omega
  rw [hfl] at s4
  have s5 := s4.mp fun k h => seg_join h
  exact s5.mp fun k h => sep_head h fun k2 x => ⟨by rw [rows_len (k := 2) (fun _ => rfl), hls], .inr ⟨b, o, sp, rfl, hmc, hcm, hsp, x⟩⟩
theorem nodup_le : ∀ {a b : List Nat}, a.Nodup → (∀ x ∈ a, x ∈ b) → a.length ≤ b.length
 | [], _, _, _ => Nat.zero_le _
 | x :: a, b, hn, hs => by
  rw [List.nodup_cons] at hn
  have hx := hs x List.mem_cons_self
  have h1 := nodup_le (b := b.erase x) hn.2 (fun y hy => (List.mem_erase_of_ne (fun e => hn.1 (by rw [← e]; exact hy))).2 (hs y (List.mem_cons_of_mem _ hy)))
  rw [List.length_erase_of_mem hx] at h1
  have := List.length_pos_of_mem hx
  simp only [List.length_cons]; omega
theorem es_len {f : Ky → Option Value} {m c : Nat} {l es : List KVP} (h : MpIP f m l c) (hE : EsIP l es) : es.length ≤ m := by
 have h1 := nodup_le (a := es.map (·.2.2)) (b := l.map (·.2.2)) (List.pairwise_map.2 (hE.nd.imp_of_mem fun {a b} ha hb hab e => hab (inj_of_map (fun e : KVP => e.2.2) h.nd a (hE.mem a ha) b (hE.mem b hb) e))) (fun x hx => by
  obtain ⟨e, he, rfl⟩ := List.mem_map.1 hx
  exact List.mem_map.2 ⟨e, hE.mem e he, rfl⟩)
 rw [List.length_map, List.length_map, h.len] at h1; exact h1
structure AllK (f : Ky → Option KnA) (m : Nat) (w : WA) (ks : List Ky) : Prop where
 srt : ks.Pairwise ltK
 mem : ∀ a, a ∈ ks ↔ isK f w a = true
 len : ks.length ≤ m
theorem isK_some {f : Ky → Option KnA} {w : WA} {a : Ky} (h : isK f w a = true) : (f a).isSome = true := by
 unfold isK at h
 cases hf : f a with
 | none => rw [hf] at h; cases h
 | some x => rfl
theorem allK_of {f : Ky → Option KnA} {m c : Nat} {w : WA} {l es : List KVP} (h : MpIP (kmap f) m l c) (hE : EsIP l es) (hall : ∀ e ∈ l, e.2.2 ∈ es.map (·.2.2)) : AllK f m w (srtK ((es.map (·.1)).filter (isK f w))) where
 srt := srtK_lt ((es_keysP h hE hall).nd.sublist List.filter_sublist)
 mem a := by
  rw [(srtK_perm _).mem_iff, List.mem_filter]; refine ⟨fun h => h.2, fun hk => ⟨?_, hk⟩⟩; rw [(es_keysP h hE hall).mem a, kmap_some]; exact isK_some hk
 len := by
  rw [(srtK_perm _).length_eq]
  have := List.length_filter_le (isK f w) (es.map (·.1))
  rw [List.length_map] at this
  have := es_len h hE
  omega
theorem flt_app (f : Ky → Option KnA) (w : WA) (es : List KVP) (e : KVP) : ((es ++ [e]).map (·.1)).filter (isK f w) = (es.map (·.1)).filter (isK f w) ++ (if isK f w e.1 = true then [e.1] else []) := by
 rw [List.map_append, List.filter_append]
 congr 1
 simp only [List.map_cons, List.map_nil, List.filter_cons, List.filter_nil]
theorem kkeys_ct (L : List SP) (qb wb mb : Nat) (f : Int × Int → Option KnA) (m : Nat) (hm : m ≤ 1000000) (w : WA) : Ct Tryz.prog 93 #[.pointer (some ⟨qb, 0, none⟩)] (KqB qb wb mb f m w L) (fun q_ : Option Addr × Nat × List Ky => .slice q_.1 q_.2.2.length q_.2.1) (fun q_ : Option Addr × Nat × List Ky => pu (AllK f m w q_.2.2) :: OwK q_.1 q_.2.2.length q_.2.1 q_.2.2 :: KqB qb wb mb f m w L) := by
 refine Ct.o1 Tryz.func93 ?_; intro E
 show Hd E 30 _ _ _ _
 refine Hd.mpOutP (.there .here) (fun ml mc hM => ?_); refine sr fun _ K1 => ?_
 refine yv y_as <| fk [(0,_)] K1 ?_; refine sr fun _ K2 => ?_
 refine yv y_as <| fk [(0,_),(3,_)] K2 ?_; refine Hd.seq fun _ K3 => ?_
 refine sr fun _ K4 => ?_
 refine yv y_mv <| yv y_np <| yv (y_f 1 173 Tryz.underlying175 sz173) <| yv (y_l1 ag173 rfl) <| Hd.rangeMapP Tryz.underlying173 rfl pkk (fun rb => ?_); refine fk [(0,_),(3,_),(11,_)] K4 ?_; refine Hd.block <| Hd.loopK (ι := List KVP × Option Addr × Nat) [(0,_)] (fun q_ => [(3, .slice q_.2.1 ((q_.1.map (·.1)).filter (isK f w)).length q_.2.2), (11, .pointer (some ⟨rb, 0, none⟩))]) (fun q_ => pu (EsIP ml q_.1) :: OwK q_.2.1 ((q_.1.map (·.1)).filter (isK f w)).length q_.2.2 ((q_.1.map (·.1)).filter (isK f w)) :: io rb mb mc (q_.1.map (·.2.2)) :: moP mb .i64 ml mc :: KqH qb wb mb :: WorldP wb w :: L) (fun q_ => ml.length + 1 - q_.1.length) ([], none, 0) sbq sbq (fun q t => Ent.sep (.pure (EsIP.nil ml) (.ownNil .same)) q t) ?_; rintro ⟨es, ad, c⟩
 try dsimp only
 refine Hd.pure (fun hp0 => ?_)
 try dsimp only at hp0
 refine sr fun _ K5 => ?_
 refine Hd.nextMapP (seen := es.map (·.2.2)) rfl pkk pkk hM.lt (fun o ho => ?_); refine yv (y_extOP (k := .i64) o rfl) ?_; refine fk [(0,_),(3,_),(11,_),(13,_)] K5 ?_; refine Hd.seq fun _ K6 => ?_
 refine qz ?_ ?_ <;> intro hc0 <;> try simp only [hyZ] at hc0
 ·obtain ⟨e, rfl⟩ : ∃ e, o = some e := Option.isSome_iff_exists.1 hc0
  have hE2 := hp0.step ho.1 ho.2
  have hlen := es_len hM hE2
  rw [List.length_append, List.length_singleton, ← hM.len] at hlen
  have hml := hM.len
  have hfa := flt_app f w es e
  have hfl : ((es.map (·.1)).filter (isK f w)).length ≤ es.length := by
   have := List.length_filter_le (isK f w) (es.map (·.1))
   rwa [List.length_map] at this
  obtain ⟨g, hg⟩ : ∃ g, g = (es.map (·.1)).filter (isK f w) := ⟨_, rfl⟩
  rw [← hg] at hfa hfl ⊢; simp only [seenOP]; refine qv K6 <| Hd.block <| sr fun _ K7 => ?_
  refine yv (y_entryP (k := .i64) (e := e) (seen := es.map (·.2.2)) rfl pkk pkk ho.1 hM.nd) ?_; refine yv y_ex <| Hd.alloc zr170 (fun b4 => ?_); refine Hd.storeA (us := encKy e.1) sz170 rfl rfl rfl (encKy_one _) pkk (by exact rfl) ?_; refine fk [(0,_),(3,_),(4,_),(11,_)] K7 ?_; refine sr fun _ K8 => ?_
  refine yv y_mv <| yv (y_loadn (us := [_, _]) ag170 rfl (Rd.pt pkk (by (first | (intro j v e; rcases j with _|_|_|_|_|_|_|_|_|_|_|_|j <;> first | exact e | exact absurd e (by simp))))) (by exact sz170)) ?_; refine callE rfl fk158 (kfindG_ct _ qb wb mb f m w e.1.1 e.1.2 (moP mb .i64 ml mc) (fun L0 q s => mp_inP hM q s)) sq ?_; intro _; refine yv y_mv <| yv y_ex <| yv y_ex <| Hd.alloc zr172 (fun b5 => ?_); refine Hd.storeA (us := encKn ((f (e.1.1, e.1.2)).getD zKn)) sz172 rfl rfl rfl (by simp [Value.oneCell']) pkk (by exact rfl) ?_; refine yv y_as <| fk [(0,_),(3,_),(4,_),(6,_),(11,_)] K8 ?_; refine sr fun _ K9 => ?_
  refine yv y_mv <| fk [(0,_),(3,_),(4,_),(11,_),(22,_)] K9 ?_; refine qz ?_ ?_ <;> intro hc1 <;> try simp only [hyZ] at hc1
  ·refine Hd.region ?_
   refine yv y_mv <| yv (y_loadn (us := [_, _]) ag170 rfl (Rd.pt pkk (by (first | (intro j v e; rcases j with _|_|_|_|_|_|_|_|_|_|_|_|j <;> first | exact e | exact absurd e (by simp))))) (by exact sz170)) ?_; refine Hd.bslice (vs := [(0,_)]) rfl (by exact bs93_25 ..) (fun b25 => ?_); refine Hd.append Tryz.underlying178 ty170 rfl rfl rfl pkk (by exact RdS.rd (Rd.pt pkk (fun j v e => by simpa using e)) rfl) (by simp [Value.oneCell']; done) (by simp only [maxLen]; omega) (by omega) (fun ad26 cap26 => ?_); refine yv y_as <| Hd.nil <| slots [(0,_),(3,_),(11,_)] sbq ?_; refine Hd.inB <| thenN ?_; rw [if_pos hc1] at hfa; refine Hd.again (es ++ [e], ad26, cap26) (by show ml.length + 1 - (es ++ [e]).length < ml.length + 1 - es.length; simp only [List.length_append, List.length_singleton]; omega) (by rw [hfa]; simp only [List.length_append, List.length_singleton]; repeat (first | exact trivial | refine ⟨rfl, ?_⟩)) (fun q t => ?_)
   rw [hfa]; simp only [List.map_append, List.map_singleton]; exact Ent.sep (.pure hE2 (.eq pkk (own_eq3 (by simp) rfl (by simp only [List.flatMap_append]; rfl)) enn)) q t
  refine Hd.skip <| Hd.inB <| thenN ?_; rw [if_neg (show ¬ (isK f w e.1 = true) from fun hh => by rw [show isK f w (e.1.1, e.1.2) = true from hh] at hc1; cases hc1), List.append_nil] at hfa; refine Hd.again (es ++ [e], ad, c) (by show ml.length + 1 - (es ++ [e]).length < ml.length + 1 - es.length; simp only [List.length_append, List.length_singleton]; omega) (by rw [hfa]; repeat (first | exact trivial | refine ⟨rfl, ?_⟩)) (fun q t => ?_); rw [hfa]; simp only [List.map_append, List.map_singleton]; exact Ent.sep (.pure hE2 enn) q t
 obtain rfl : o = none := by cases o with | none => rfl | some e => simp at hc0
 simp only [seenOP]
 have hK := allK_of (w := w) hM hp0 ho
 have hlen := es_len hM hp0
 have hfl : ((es.map (·.1)).filter (isK f w)).length ≤ es.length := by
  have := List.length_filter_le (isK f w) (es.map (·.1))
  rwa [List.length_map] at this
 refine Hd.exit <| Hd.thenExit <| Hd.thenExit <| Hd.inBexit <| Hd.toK K3 ?_; refine sr fun _ K10 => ?_
 refine yv y_mv <| callE rfl fk159 (sortK_ct _ ad _ c ((es.map (·.1)).filter (isK f w)) rfl (by omega)) sq ?_; intro _; refine fk [(3,_)] K10 ?_; refine sr fun _ K11 => ?_
 refine yv y_mv <| yv y_as <| fk [(2,_)] K11 ?_; refine Hd.ret <| Hd.ret1 rfl (ad, c, srtK ((es.map (·.1)).filter (isK f w))) (by dsimp only; rw [(srtK_perm _).length_eq]; rfl) (fun q s => ?_)
 have s2 : sep (moP mb .i64 ml mc :: OwK ad ((es.map (·.1)).filter (isK f w)).length c (srtK ((es.map (·.1)).filter (isK f w))) :: KqH qb wb mb :: WorldP wb w :: L) q := Ent.sep enn q s
 exact Ent.sep (.pure hK (.eq pkk (own_eq (by dsimp only; rw [(srtK_perm _).length_eq]) rfl) enn)) q (mp_inP hM q s2)
def noK (f : Ky → Option KnA) (a : Ky) : NoA := (a.1, a.2, ((f a).getD zKn).flags, 0)
theorem noK_succ (f : Ky → Option KnA) {ks : List Ky} {i : Nat} (h : i < ks.length) : (ks.take (i + 1)).map (noK f) = (ks.take i).map (noK f) ++ [noK f ks[i]] := by
 rw [List.take_add_one, List.getElem?_eq_getElem h, List.map_append]; rfl
theorem knotes_ct (L : List SP) (qb wb mb : Nat) (f : Ky → Option KnA) (m : Nat) (hm : m ≤ 1000000) (w : WA) : Ct Tryz.prog 34 #[.pointer (some ⟨qb, 0, none⟩)] (KqB qb wb mb f m w L) (fun q_ : Option Addr × Nat × List Ky => .slice q_.1 q_.2.2.length q_.2.1) (fun q_ : Option Addr × Nat × List Ky => pu (AllK f m w q_.2.2) :: own 82 4 q_.1 q_.2.2.length q_.2.1 ((q_.2.2.map (noK f)).flatMap encNo) :: KqB qb wb mb f m w L) := by
 refine Ct.o1 Tryz.func34 ?_; intro E
 show Hd E 32 _ _ _ _
 refine sr fun _ K1 => ?_
 refine yv y_as <| fk [(0,_)] K1 ?_; refine Hd.seq fun _ K2 => ?_
 refine sr fun _ K3 => ?_
 refine yv y_mv <| callE rfl fk87 (knone_ct _ qb wb mb) sq ?_; intro _; refine fk [(0,_),(7,_)] K3 ?_; refine Hd.condF rfl ?_; refine qv K2 <| sr fun _ K4 => ?_
 refine yv y_as <| fk [(0,_),(3,_)] K4 ?_; refine Hd.seq fun _ K5 => ?_
 refine sr fun _ K6 => ?_
 refine yv y_mv <| callE rfl fk93 (kkeys_ct _ qb wb mb f m hm w) sq ?_; rintro ⟨ka, kc, ks⟩; dsimp only; refine Hd.pure (fun hA => ?_); refine yv (y_len Tryz.underlying178 rfl) ?_; refine yv y_mv <| fk [(0,_),(3,_),(9,_),(10,_),(11,_)] K6 ?_; refine Hd.block <| Hd.loopK (ι := Nat × Option Addr × Nat) [(0,_),(9,_),(10,_)] (fun q_ => [(3, .slice q_.2.1 q_.1 q_.2.2), (11, .int .i64 (q_.1 : Int))]) (fun q_ => pu (q_.1 ≤ ks.length) :: own 82 4 q_.2.1 q_.1 q_.2.2 (((ks.take q_.1).map (noK f)).flatMap encNo) :: OwK ka ks.length kc ks :: KqB qb wb mb f m w L) (fun q_ => ks.length - q_.1) (0, none, 0) sbq sbq (fun q t => Ent.sep (.pure (Nat.zero_le _) (.ownNil .same)) q t) ?_; rintro ⟨i, ad, c⟩
 try dsimp only
 refine Hd.pure (fun hp0 => ?_)
 try dsimp only at hp0
 refine sr fun _ K7 => ?_
 refine yv (y_lss rfl rfl) ?_; refine fk [(0,_),(3,_),(9,_),(10,_),(11,_),(12,_)] K7 ?_; refine Hd.seq fun _ K8 => ?_
 refine qz ?_ ?_ <;> intro hc1 <;> try simp only [hyZ] at hc1
 ·have hi : i < ks.length := by omega
  have hgi : ks[i]? = some ks[i] := List.getElem?_eq_getElem hi
  have hkl := hA.len
  have hsc := noK_succ f hi
  refine qv K8 <| Hd.seq fun _ K9 => ?_
  refine Hd.block <| sr fun _ K10 => ?_
  refine yv (y_idxR Tryz.underlying178 sz170 rfl rfl (by omega) (by exact RdS.own pkk)) ?_; refine yv (y_loadRn (vs := encKy ks[i]) ag170 rfl (RdS.own (ad := ka) (us := ks.flatMap encKy) pkk) (flat_cells encKy 2 (fun _ => rfl) hgi) (by exact sz170) (by simp)) ?_; refine Hd.alloc zr170 (fun b5 => ?_); refine Hd.storeA (us := encKy ks[i]) sz170 rfl rfl rfl (encKy_one _) pkk (by exact rfl) ?_; refine fk [(0,_),(3,_),(5,_),(9,_),(10,_),(11,_)] K10 ?_; refine Hd.draws mixed ?_; simp only [List.length, Nat.zero_add, Nat.reduceAdd]; refine Hd.take 0 rfl kq kq kq (fun _ => y_move rfl) fq ?_; refine Hd.take 1 rfl kq kq kq (fun _ => y_field' (q := 0) (ft := 3) Tryz.underlying170 rfl sz3 rfl rfl) fq ?_; refine Hd.take 3 rfl kq kq kq (fun _ => y_field' (q := 1) (ft := 3) Tryz.underlying170 rfl sz3 rfl rfl) fq ?_; refine Hd.take 5 rfl kq kq kq (fun _ => y_move rfl) fq ?_; refine Hd.take 6 rfl kq kq kq (fun _ => y_nilp rfl) fq ?_
  refine Hd.take 7 rfl kq kq kq (fun _ => y_field' (q := 1) (ft := 173) Tryz.underlying175 rfl sz173 rfl rfl) fq ?_; refine Hd.tailAt 13 [2, 4, 8, 9, 10, 11, 12] [13, 14, 15] rfl rfl rfl kq ?_; simp only [pk, List.getElem?_cons_zero, List.getElem?_cons_succ]; refine Ht.yv (y_l1 ag3 rfl) ?_; refine Ht.yv (y_l1 ag3 rfl) ?_; refine Ht.yv (y_l1 ag173 rfl) ?_; refine Ht.yv (y_loadn (us := [_, _]) ag170 rfl (Rd.pt pkk (by (first | (intro j v e; rcases j with _|_|_|_|_|_|_|_|_|_|_|_|j <;> first | exact e | exact absurd e (by simp))))) (by exact sz170)) ?_; refine Ht.yv (y_to (v' := .agg (encKn ((f ks[i]).getD zKn)).toArray) (y_lookupK mapt173 rfl rfl pkk) (by exact kmap_get f ks[i])) ?_; refine Ht.yv (y_fieldv1 (q := 1) (ft := 3) (cs := encKn ((f ks[i]).getD zKn)) (v := .int .i64 ((f ks[i]).getD zKn).flags) Tryz.underlying172 rfl ag3 rfl rfl) ?_; refine Ht.yv (y_build (vs := [(0,_),(1,_),(2,_)]) rfl (by exact bd34_27 ..)) ?_
  refine Ht.nil ?_; refine Hd.bslice (vs := [(0,_)]) rfl (by exact bs34_28 ..) (fun b28 => ?_); refine Hd.append Tryz.underlying67 ty82 rfl rfl rfl pkk (by exact RdS.rd (Rd.pt pkk (fun j v e => by simpa using e)) rfl) (by simp [Value.oneCell']; done) (by simp only [maxLen]; omega) (by omega) (fun ad29 cap29 => ?_); refine yv y_as <| Hd.nil <| Hd.noPn ?_; refine slots [(0,_),(3,_),(9,_),(10,_),(11,_)] sbq ?_; refine Hd.inB <| Hd.toK K9 ?_; refine Hd.region <| yv (y_addn rfl rfl (by simp only [InK]; omega)) ?_; refine yv y_mv <| Hd.nil <| slots [(0,_),(3,_),(9,_),(10,_),(11,_)] sbq ?_; refine thenN <| Hd.again (i + 1, ad29, cap29) (by show ks.length - (i + 1) < ks.length - i; omega) sbq (fun q t => ?_); exact Ent.sep (.pure (show i + 1 ≤ ks.length by omega) (.eq pkk (own_eq3 rfl rfl (by simp only [hsc, List.flatMap_append]; rfl)) enn)) q t
 obtain rfl : i = ks.length := by omega
 rw [List.take_length]; refine Hd.exit <| Hd.thenExit <| Hd.thenExit <| Hd.inBexit <| Hd.toK K5 ?_; refine sr fun _ K11 => ?_
 refine yv y_mv <| yv y_as <| fk [(2,_)] K11 ?_; refine Hd.ret ?_; exact Hd.ret1 rfl (ad, c, ks) rfl (Ent.sep (.pure hA enn))
def onK (flt : Int) (r : RdyA) : Bool := (r.h || r.e || (decide (flt = 1) && r.i)) || (decide (flt = 2) && r.o)
def eofK (r : RdyA) : Int := if (r.h || r.e) = true then 128 else 0
def newsK (x : KnA) (flt : Int) (r : RdyA) : Bool := decide (bits .and .i64 x.flags 16 = 0) || x.armed || decide (riseK flt r > x.seen)
def toldK (f : Ky → Option KnA) (w : WA) (a : Ky) : NoA × Bool :=
 if bits .and .i64 ((f a).getD zKn).flags 8 ≠ 0 then ((a.1, a.2, 0, 0), false)
 else if a.2 = 3 then ((a.1, a.2, 0, cntS w.ct a.1), decide (cntS w.ct a.1 > 0))
 else ((a.1, a.2, eofK (readyR w a.1), 0), onK a.2 (readyR w a.1) && newsK ((f a).getD zKn) a.2 (readyR w a.1))
end Kq
end Go.Proofs.YtbfddabjbkohdaaGreat
namespace Go.Proofs.YtbfddabjbkohdaaGreat
open Go.RX Fx
namespace Wo
end Wo
namespace Kq
open Wo
theorem ltK_ext : ∀ {a b : List Ky}, a.Pairwise ltK → b.Pairwise ltK → (∀ x, x ∈ a ↔ x ∈ b) → a = b
 | [], [], _, _, _ => rfl
 | [], y :: b, _, _, h => absurd ((h y).2 List.mem_cons_self) (by simp)
 | x :: a, [], _, _, h => absurd ((h x).1 List.mem_cons_self) (by simp)
 | x :: a, y :: b, ha, hb, h => by
  rw [List.pairwise_cons] at ha hb
  have hxy : x = y := by
   rcases List.mem_cons.1 ((h x).1 List.mem_cons_self) with e | e
   ·exact e
   ·rcases List.mem_cons.1 ((h y).2 List.mem_cons_self) with e2 | e2
    ·exact e2.symm
    ·have h1 := hb.1 x e
     have h2 := ha.1 y e2
     unfold ltK at h1 h2; omega
  subst hxy
  congr 1
  refine ltK_ext ha.2 hb.2 fun z => ?_
  have := h z
  simp only [List.mem_cons] at this
  constructor
  ·intro hz
   rcases this.1 (.inr hz) with rfl | e
   ·have := ha.1 z hz; unfold ltK at this; omega
   ·exact e
  ·intro hz
   rcases this.2 (.inr hz) with rfl | e
   ·have := hb.1 z hz; unfold ltK at this; omega
   ·exact e
structure OkK (f : Ky → Option KnA) : Prop where
 fl : ∀ a x, f a = some x → 1 ≤ a.2 ∧ a.2 ≤ 3
 sg : ∀ a x, f a = some x → a.2 = 3 → 1 ≤ a.1 ∧ a.1 ≤ 31
def gridK : List Ky := (List.range 96).flatMap fun n : Nat => [((n : Int), 1), ((n : Int), 2), ((n : Int), 3)]
theorem mem_grid {a : Ky} : a ∈ gridK ↔ (0 ≤ a.1 ∧ a.1 < 96) ∧ 1 ≤ a.2 ∧ a.2 ≤ 3 := by
 unfold gridK; rw [List.mem_flatMap]
 constructor
 ·rintro ⟨n, hn, h⟩
  have := List.mem_range.1 hn
  simp only [List.mem_cons, List.not_mem_nil, or_false] at h
  rcases h with rfl | rfl | rfl <;> exact ⟨⟨by omega, by omega⟩, by omega, by omega⟩
 ·rintro ⟨⟨h1, h2⟩, h3, h4⟩
  refine ⟨a.1.toNat, List.mem_range.2 (by omega), ?_⟩
  have e : ((a.1.toNat : Nat) : Int) = a.1 := by omega
  rw [e]; simp only [List.mem_cons, List.not_mem_nil, or_false]
  have h5 : a.2 = 1 ∨ a.2 = 2 ∨ a.2 = 3 := by omega
  rcases h5 with h | h | h
  ·exact .inl (Prod.ext rfl h)
  ·exact .inr (.inl (Prod.ext rfl h))
  ·exact .inr (.inr (Prod.ext rfl h))
theorem grid_srt : gridK.Pairwise ltK := by
 unfold gridK; rw [List.pairwise_flatMap]; refine ⟨fun n _ => by simp [ltK], ?_⟩; refine List.pairwise_lt_range.imp fun {a b} h x hx y hy => ?_
 simp only [List.mem_cons, List.not_mem_nil, or_false] at hx hy
 have h1 : x.1 = (a : Int) := by rcases hx with rfl | rfl | rfl <;> rfl
 have h2 : y.1 = (b : Int) := by rcases hy with rfl | rfl | rfl <;> rfl
 exact .inl (by omega)
def allK (f : Ky → Option KnA) (w : WA) : List Ky := gridK.filter (isK f w)
theorem mem_allK {f : Ky → Option KnA} {w : WA} (hw : WOk w) (hf : OkK f) {a : Ky} : a ∈ allK f w ↔ isK f w a = true := by
 unfold allK; rw [List.mem_filter, mem_grid]; refine ⟨fun h => h.2, fun h => ⟨?_, h⟩⟩
 obtain ⟨x, hx⟩ := Option.isSome_iff_exists.1 (isK_some h)
 have h1 := hf.fl a x hx
 refine ⟨?_, h1⟩
 by_cases h3 : a.2 = 3
 ·have := hf.sg a x hx h3
  omega
 ·unfold isK at h
  rw [hx] at h; simp only [if_neg h3, decide_eq_true_eq] at h
  obtain ⟨p, hp⟩ := Option.isSome_iff_exists.1 h.1
  have := hw.at_lt (n := p.1) (k := p.2) hp
  omega
theorem AllK.eq {f : Ky → Option KnA} {m : Nat} {w : WA} {ks : List Ky} (hw : WOk w) (hf : OkK f) (h : AllK f m w ks) : ks = allK f w :=
 ltK_ext h.srt (grid_srt.sublist List.filter_sublist) fun a => by rw [h.mem, mem_allK hw hf]
theorem allK_len (f : Ky → Option KnA) (w : WA) : (allK f w).length ≤ 288 := by
 unfold allK
 have := List.length_filter_le (isK f w) gridK
 have e : gridK.length = 288 := by decide +kernel
 omega
theorem OkK.upd {f : Ky → Option KnA} (h : OkK f) {k : Ky} {o : Option KnA} (hk : ∀ x, o = some x → (1 ≤ k.2 ∧ k.2 ≤ 3) ∧ (k.2 = 3 → 1 ≤ k.1 ∧ k.1 ≤ 31)) : OkK (updK f k o) := by
 constructor
 ·intro a x ha
  unfold updK at ha
  split at ha
  ·rename_i e; subst e; exact (hk x ha).1
  ·exact h.fl a x ha
 ·intro a x ha h3
  unfold updK at ha
  split at ha
  ·rename_i e; subst e; exact (hk x ha).2 h3
  ·exact h.sg a x ha h3
theorem mayK_fl {p : NoA} (h : ¬ (mayK p = false)) : 1 ≤ p.2.1 ∧ p.2.1 ≤ 3 := by
 by_cases hb : badN p
 ·exact absurd (if_pos hb) h
 ·unfold badN at hb
  simp only [not_or] at hb; omega
theorem OkK.chg {f : Ky → Option KnA} (h : OkK f) (w : WA) (p : NoA) : OkK (chgK f w p).2 := by
 unfold chgK
 split
 ·exact h
 rename_i h0
 split
 ·exact h
 rename_i h1
 have hk : ∀ (o : Option KnA) x, o = some x → (1 ≤ ((p.1, p.2.1) : Ky).2 ∧ ((p.1, p.2.1) : Ky).2 ≤ 3) ∧ (((p.1, p.2.1) : Ky).2 = 3 → 1 ≤ ((p.1, p.2.1) : Ky).1 ∧ ((p.1, p.2.1) : Ky).1 ≤ 31) := fun o x _ => ⟨mayK_fl h0, fun h3 => by
  have h3' : p.2.1 = 3 := h3
  show 1 ≤ p.1 ∧ p.1 ≤ 31
  omega⟩
 repeat' split
 all_goals first | exact h | exact h.upd (hk _)
theorem OkK.chs {w : WA} : ∀ {f : Ky → Option KnA} (_ : OkK f) (l : List NoA), OkK (chsK f w l).2
 | _, h, [] => h
 | _, h, p :: l => OkK.chs (h.chg w p) l
def dueT (f : Ky → Option KnA) (w : WA) (l : List Ky) : List NoA := l.filterMap fun a => if (toldK f w a).2 = true then some (toldK f w a).1 else none
abbrev dueK (f : Ky → Option KnA) (w : WA) : List NoA := dueT f w (allK f w)
end Kq
end Go.Proofs.YtbfddabjbkohdaaGreat
namespace Go.Proofs.YtbfddabjbkohdaaGreat
open Go.RX Fx
namespace Kq
open Wo
abbrev vi (l : List Int) : List Value := l.map fun v => Value.int .i64 v
abbrev OutN (b : Nat) (l : List NoA) : SP := RX.ex fun i : Option Addr × Nat => [pt b [.slice i.1 l.length i.2] 67, own 82 4 i.1 l.length i.2 (l.flatMap encNo)]
def offX (w : WA) (y : KnA) (k : Ky) : KnA := { y with armed := false, seen := riseK k.2 (readyR w k.1) }
def off1 (w : WA) (f : Ky → Option KnA) (x : NoA) : Ky → Option KnA :=
 if bits .and .i64 (oldK f x).flags 32 ≠ 0 then updK (updK f (x.1, x.2.1) (some (offX w (oldK f x) (x.1, x.2.1)))) (x.1, x.2.1) none else updK f (x.1, x.2.1) (some (offX w (oldK f x) (x.1, x.2.1)))
def offK (w : WA) (f : Ky → Option KnA) : List NoA → (Ky → Option KnA)
 | [] => f
 | x :: t => offK w (off1 w f x) t
theorem same16_ct (L : List SP) (a1 : Option Addr) (c1 : Nat) (xs : List NoA) (h1 : RdS L 4 a1 xs.length (xs.flatMap encNo)) (hb1 : xs.length ≤ 1000000) (a2 : Option Addr) (c2 : Nat) (ys : List NoA) (h2 : RdS L 4 a2 ys.length (ys.flatMap encNo)) (hb2 : ys.length ≤ 1000000) : Ct Tryz.prog 31 #[.slice a1 xs.length c1, .slice a2 ys.length c2] (L) (fun _ : Unit => .bool (decide (xs = ys))) (fun _ : Unit => L) := by
 refine Ct.o2 Tryz.func31 ?_; intro E
 show Hd E 26 _ _ _ _
 refine sr fun _ K1 => ?_
 refine yv y_as <| fk [(0,_),(1,_)] K1 ?_; refine Hd.seq fun _ K2 => ?_
 refine sr fun _ K3 => ?_
 refine yv y_mv <| yv (y_len Tryz.underlying67 rfl) ?_; refine yv y_mv <| yv (y_len Tryz.underlying67 rfl) ?_; refine yv (y_neq rfl rfl) ?_; refine fk [(0,_),(1,_),(10,_)] K3 ?_; refine qz ?_ ?_ <;> intro hc0 <;> try simp only [hyZ] at hc0
 ·have hne : xs ≠ ys := fun e => hc0 (by rw [e])
  refine sr fun _ K4 => ?_
  refine yv y_as <| fk [(4,_)] K4 ?_; refine Hd.ret <| Hd.thenRet ?_; rw [decide_eq_false hne]; exact Hd.ret1 rfl () rfl sq
 have hl : xs.length = ys.length := by omega
 refine qv K2 <| Hd.seq fun _ K5 => ?_
 refine sr fun _ K6 => ?_
 refine yv y_as <| fk [(0,_),(1,_),(5,_)] K6 ?_; refine Hd.block <| Hd.loopK (ι := Nat) [(0,_),(1,_)] (fun i => [(5, .int .i64 (i : Int))]) (fun i => pu (i ≤ xs.length ∧ xs.take i = ys.take i) :: L) (fun i => xs.length - i) 0 sbq sbq (Ent.sep (.pure ⟨Nat.zero_le _, rfl⟩ enn)) ?_; intro i
 try dsimp only
 refine Hd.pure (fun hp0 => ?_)
 try dsimp only at hp0
 refine Hd.seq fun _ K7 => ?_
 refine sr fun _ K8 => ?_
 refine yv y_mv <| yv y_mv <| yv (y_len Tryz.underlying67 rfl) ?_; refine yv (y_lss rfl rfl) ?_; refine fk [(0,_),(1,_),(5,_),(14,_)] K8 ?_; refine qz ?_ ?_ <;> intro hc1 <;> try simp only [hyZ] at hc1
 ·have hi : i < xs.length := by omega
  have hi2 : i < ys.length := by omega
  have hgx : xs[i]? = some xs[i] := List.getElem?_eq_getElem hi
  have hgy : ys[i]? = some ys[i] := List.getElem?_eq_getElem hi2
  refine qv K7 <| Hd.seq fun _ K9 => ?_
  refine Hd.block <| Hd.seq fun _ K10 => ?_
  refine Hd.quiet mixed kq ?_; refine Hq.yv y_mv ?_; refine Hq.yv y_mv ?_; refine Hq.yv (y_idxR Tryz.underlying67 sz82 rfl rfl hi h1) ?_; refine Hq.yv (y_loadRn (vs := encNo xs[i]) ag82 rfl h1 (flat_cells encNo 4 (fun _ => rfl) hgx) (by exact sz82) (by simp)) ?_; refine Hq.yv y_mv ?_; refine Hq.yv y_mv ?_; refine Hq.yv (y_idxR Tryz.underlying67 sz82 rfl rfl hi2 h2) ?_; refine Hq.yv (y_loadRn (vs := encNo ys[i]) ag82 rfl h2 (flat_cells encNo 4 (fun _ => rfl) hgy) (by exact sz82) (by simp)) ?_; refine Hq.yv (y_to (v' := .bool (decide (xs[i] ≠ ys[i]))) (y_neq_agg rfl rfl eqt82 rfl ⟨rfl, rfl⟩) (by (congr 1; simp [allEq, eqv, Prod.ext_iff]))) ?_; refine Hq.nil ?_; refine sk [(0,_),(1,_),(5,_),(25,_)] K10 ?_; refine qz ?_ ?_ <;> intro hc2 <;> try simp only [hyZ] at hc2
  ·refine sr fun _ K11 => ?_
   refine yv y_as <| fk [(4,_)] K11 ?_; refine Hd.ret <| Hd.inBret <| Hd.thenRet <| Hd.thenRet <| Hd.inBret <| Hd.thenRet ?_
   have hne : xs ≠ ys := fun e => hc2 (by subst e; rfl)
   rw [decide_eq_false hne]; exact Hd.ret1 rfl () rfl sq
  refine Hd.skip <| Hd.inB <| Hd.toK K9 ?_; refine Hd.region <| yv y_mv <| yv (y_addn rfl rfl (by simp only [InK]; omega)) ?_; refine yv y_as <| Hd.nil <| slots [(0,_),(1,_),(5,_)] sbq ?_; refine thenN ?_
  have ht : xs.take (i + 1) = ys.take (i + 1) := by
   rw [List.take_add_one, List.take_add_one, hgx, hgy, hp0.2, hc2]
  exact Hd.again (i + 1) (by omega) sbq (Ent.sep (.pure ⟨hi, ht⟩ enn))
 refine Hd.exit <| Hd.thenExit <| Hd.thenExit <| Hd.inBexit <| Hd.toK K5 ?_; refine sr fun _ K12 => ?_
 refine yv y_as <| fk [(4,_)] K12 ?_; refine Hd.ret ?_
 have he : xs = ys := by
  have := hp0.2
  rwa [List.take_of_length_le (by omega), List.take_of_length_le (by omega)] at this
 rw [decide_eq_true he]; exact Hd.ret1 rfl () rfl sq
theorem changes_ct (L : List SP) (qb wb mb : Nat) (f : Ky → Option KnA) (m : Nat) (w : WA) (al : Option Addr) (cl : Nat) (xs : List NoA) (h : RdS L 4 al xs.length (xs.flatMap encNo)) (hb : xs.length ≤ 1000000) (aw : Option Addr) (cw : Nat) (ys : List NoA) (h2 : RdS L 4 aw ys.length (ys.flatMap encNo)) (hb2 : ys.length ≤ 1000000) : Ct Tryz.prog 85 #[.pointer (some ⟨qb, 0, none⟩), .slice al xs.length cl, .slice aw ys.length cw] (KqB qb wb mb f m w L) (fun m' : Nat => .bool (decide ((chsK f w xs).1 = ys))) (fun m' : Nat => pu (m' ≤ m + xs.length) :: KqB qb wb mb (chsK f w xs).2 m' w L) := by
 refine Ct.o3 Tryz.func85 ?_; intro E
 show Hd E 22 _ _ _ _
 refine sr fun _ K1 => ?_
 refine yv y_as <| fk [(0,_),(1,_),(2,_)] K1 ?_; refine sr fun _ K2 => ?_
 refine yv y_mv <| yv y_mv <| callE rfl fk33 (kchs_ct L qb wb mb f m w al cl xs h hb) sq ?_; rintro ⟨ad, c, m'⟩; dsimp only; refine Hd.pure (fun hm' => ?_)
 have hcl := chsK_len w xs f
 refine yv y_mv <| yv (y_to (v' := .slice ad (chsK f w xs).1.length c) y_ex (by rfl)) ?_; refine yv (y_to (v' := .int .i64 0) y_ex (by rfl)) ?_; refine yv y_as <| yv y_as <| fk [(2,_),(7,_),(8,_)] K2 ?_; refine sr fun _ K3 => ?_
 refine yv y_mv <| yv (y_to (v' := .bool true) (y_eqlT rfl rfl) (by rfl)) ?_; refine yv y_mv <| y2 y_mv <| y2 y_mv <| Hd.unguard rfl rfl ?_; refine callE rfl fk31 (same16_ct _ ad c (chsK f w xs).1 ?hD (by omega) aw cw ys ?hE hb2) sq ?_
 case hD => exact RdS.own pkk
 case hE => exact RdS.mono h2 sq
 intro _; refine yv (y_pickT rfl rfl) ?_; refine yv y_as <| fk [(6,_)] K3 ?_; refine Hd.ret ?_; exact Hd.ret1 rfl m' rfl (Ent.sep (.pure hm' enn))
theorem OkK.off {w : WA} : ∀ {l : List NoA} {f : Ky → Option KnA} (_ : OkK f) (_ : ∀ x ∈ l, (1 ≤ x.2.1 ∧ x.2.1 ≤ 3) ∧ (x.2.1 = 3 → 1 ≤ x.1 ∧ x.1 ≤ 31)), OkK (offK w f l)
 | [], _, h, _ => h
 | x :: l, f, h, hl => by
  have hx := hl x List.mem_cons_self
  refine OkK.off (l := l) (f := off1 w f x) ?_ (fun y hy => hl y (List.mem_cons_of_mem _ hy)); unfold off1
  split
  ·exact (h.upd (fun _ _ => hx)).upd (fun _ _ => hx)
  ·exact h.upd (fun _ _ => hx)
def wA1 : WA := mkW newA 1 (connW 8)
def wA2 : WA := (putR wA1 0 [97]).2
def af1 : Ky → Option KnA := (chsK k0 wA2 [(0, 1, 1, 0), (0, 2, 17, 0), (9, 1, 1, 0), (0, 1, 66, 0)]).2
theorem ad2 : (dueK af1 wA2).take 99 = [(0, 2, 0, 0)] := by decide +kernel
end Kq
end Go.Proofs.YtbfddabjbkohdaaGreat
namespace Go.Proofs.YtbfddabjbkohdaaGreat
open Go.RX Fx
namespace Ep
theorem nodup_le : ∀ {a b : List Nat}, a.Nodup → (∀ x ∈ a, x ∈ b) → a.length ≤ b.length
 | [], _, _, _ => Nat.zero_le _
 | x :: a, b, hn, hs => by
  rw [List.nodup_cons] at hn
  have hx := hs x List.mem_cons_self
  have h1 := nodup_le (b := b.erase x) hn.2 (fun y hy => (List.mem_erase_of_ne (fun e => hn.1 (by rw [← e]; exact hy))).2 (hs y (List.mem_cons_of_mem _ hy)))
  rw [List.length_erase_of_mem hx] at h1
  have := List.length_pos_of_mem hx
  simp only [List.length_cons]; omega
theorem es_len {f : Int → Option Value} {m c : Nat} {l es : List KV} (h : MpI f m l c) (hE : EsI l es) : es.length ≤ m := by
 have h1 := nodup_le (a := es.map (·.2.2)) (b := l.map (·.2.2)) (List.pairwise_map.2 (hE.nd.imp_of_mem fun {a b} ha hb hab e => hab (inj_of_map (fun e : KV => e.2.2) h.nd a (hE.mem a ha) b (hE.mem b hb) e))) (fun x hx => by
  obtain ⟨e, he, rfl⟩ := List.mem_map.1 hx
  exact List.mem_map.2 ⟨e, hE.mem e he, rfl⟩)
 rw [List.length_map, List.length_map, h.len] at h1; exact h1
abbrev encK (a : Int) : List Value := [.int .i64 a]
structure PreK (f : Int → Option Value) (m : Nat) (ks : List Int) : Prop where
 nd : ks.Nodup
 mem : ∀ a ∈ ks, (f a).isSome = true
 len : ks.length ≤ m
abbrev KmP (b mb : Nat) : SP := pt b [.map (some mb)] 143
theorem pre_k {f : Int → Option Value} {m c : Nat} {l es : List KV} (h : MpI f m l c) (hE : EsI l es) : PreK f m (es.map (·.1)) := ⟨(es_pre h hE).1, (es_pre h hE).2, by rw [List.length_map]; exact es_len h hE⟩
theorem y_extO {E : World} {n : Nat} {ds : List Deferred} {st : List (Nat × Value)} {L : List SP} {P : Program} {d : Nat} {ty : TypeId} {pos : String} {af : Array Edge} {g : Option (Nat × Bool)} {x : Operand} {k : IntKind} (o : Option KV) (hx : evo st x = some (tupO k o)) : Yv E n ds st L P ⟨some d, .extract x 0, ty, pos, af, g⟩ (.bool o.isSome) := by
 cases o with
 | none => exact y_extract hx rfl
 | some e => exact y_extract hx rfl
theorem keys_ct (L : List SP) (mb : Nat) : Ct Tryz.prog 147 #[.map (some mb)] (L) (fun b : Nat => .func (.func 188) #[] #[.pointer (some ⟨b, 0, none⟩)]) (fun b : Nat => KmP b mb :: L) := by
 refine Ct.o1 Tryz.func147 ?_; intro E
 show Hd E 4 _ _ _ _
 refine sr fun _ K1 => ?_
 refine Hd.box rfl rfl (fun b1 => ?_); refine yv y_as <| fk [(1,_)] K1 ?_; refine sr fun _ K2 => ?_
 refine yv (y_mkf (fv := []) (cv := [_]) rfl rfl) ?_; refine yv y_as <| fk [(2,_)] K2 ?_; refine Hd.ret ?_; exact Hd.ret1 rfl b1 rfl sq
theorem keys_it (b mb : Nat) (f : Int → Option Value) (m : Nat) : RX.It Tryz.prog 188 [.pointer (some ⟨b, 0, none⟩)] encK (fun ys => KeysOf f ys ∧ ys.length ≤ m) (PreK f m)
  [KmP b mb, mp mb .i64 f m] [KmP b mb, mp mb .i64 f m] := by
 intro l J X hy; refine Ct.of (vs := [.func (.yield l) #[] #[], .pointer (some ⟨b, 0, none⟩)]) Tryz.func188 rfl rfl [(0, .func (.yield l) #[] #[]), (1, .pointer (some ⟨b, 0, none⟩))] ⟨rfl, rfl, trivial⟩ ?_; intro E
 show Hd E 14 _ _ _ _
 refine Hd.heap (KmP b mb :: mp mb .i64 f m :: J []) (fun k h => by have := sep_app h; exact this) ?_; refine Hd.mpOut (.there .here) (fun ml c hM => ?_); refine sr fun _ K1 => ?_
 refine yv (y_l1 ag143 rfl) <| Hd.rangeMap Tryz.underlying143 rfl pkk (fun rb => ?_); refine fk [(0,_),(5,_)] K1 ?_; refine Hd.block <| Hd.loopK (ι := List KV) [(0,_)] (fun es => [(5, .pointer (some ⟨rb, 0, none⟩))]) (fun es => pu (EsI ml es) :: io rb mb c (es.map (·.2.2)) :: mo mb .i64 ml c :: KmP b mb :: J (es.map (·.1))) (fun es => ml.length + 1 - es.length) ([]) sbq sbq (Ent.sep (.pure (EsI.nil ml) enn)) ?_; intro es
 try dsimp only
 refine Hd.pure (fun hp0 => ?_)
 try dsimp only at hp0
 refine sr fun _ K2 => ?_
 refine Hd.nextMap (seen := es.map (·.2.2)) rfl pkk pkk hM.lt (fun o ho => ?_); refine yv (y_extO (k := .i64) o rfl) ?_; refine fk [(0,_),(5,_),(7,_)] K2 ?_; refine Hd.seq fun _ K3 => ?_
 refine qz ?_ ?_ <;> intro hc0 <;> try simp only [hyZ] at hc0
 ·obtain ⟨e, rfl⟩ : ∃ e, o = some e := Option.isSome_iff_exists.1 hc0
  have hE2 := hp0.step ho.1 ho.2
  have hpr := pre_k hM hE2
  rw [List.map_append, List.map_singleton] at hpr
  have hlen := es_len hM hE2
  rw [List.length_append, List.length_singleton, ← hM.len] at hlen; simp only [seenO]; refine qv K3 <| Hd.block <| sr fun _ K4 => ?_
  refine yv (y_entry (k := .i64) (e := e) (seen := es.map (·.2.2)) rfl pkk pkk ho.1 hM.nd) ?_; refine yv y_ex <| yv y_as <| fk [(0,_),(3,_),(5,_)] K4 ?_; refine sr fun _ K5 => ?_
  refine yv y_mv <| yv y_mv <| Hd.yield (pre := es.map (·.1)) (c := e.1) (M := [io rb mb c (es.map (·.2.2) ++ [e.2.2]), mo mb .i64 ml c, KmP b mb]) hy rfl rfl hpr (fun k' h => sep_app (show sep ([io rb mb c (es.map (·.2.2) ++ [e.2.2]), mo mb .i64 ml c, KmP b mb] ++ J (es.map (·.1))) k' from Ent.sep enn k' h)) ?_; intro yb; refine yv (y_not rfl) <| fk [(0,_),(5,_),(13,_)] K5 ?_; refine qz ?_ ?_ <;> intro hc1 <;> try simp only [hyZ] at hc1
  ·subst hc1
   simp only [cond_false]; refine Hd.ret <| Hd.inBret <| Hd.thenRet <| Hd.inBret ?_; exact Hd.ret0 rfl (es.map (·.1) ++ [e.1], false) rfl (fun k' h => Ent.sep (.pure hpr .same) k' (sep_right (fun k s => Ent.sep (.pick (.there .here) (.pick .here .same)) k (mp_in hM k (Ent.sep (show Ent [io rb mb c (es.map (·.2.2) ++ [e.2.2]), mo mb .i64 ml c, KmP b mb] [mo mb .i64 ml c, KmP b mb] from .skip .same) k s))) h))
  subst hc1; simp only [cond_true]; refine Hd.heap (io rb mb c (es.map (·.2.2) ++ [e.2.2]) :: mo mb .i64 ml c :: KmP b mb :: J (es.map (·.1) ++ [e.1])) (fun k' h => sep_app h) ?_; refine Hd.skip <| Hd.inB <| thenN <| Hd.again (es ++ [e]) (by simp only [List.length_append, List.length_singleton]; omega) sbq (fun q t => ?_); simp only [List.map_append, List.map_singleton]; exact Ent.sep (.pure hE2 enn) q t
 obtain rfl : o = none := by cases o with | none => rfl | some e => simp at hc0
 simp only [seenO]
 have hK := es_keys hM hp0 ho
 have hl := (pre_k hM hp0).len
 refine Hd.exit <| Hd.thenExit <| Hd.thenExit <| Hd.inBexit <| Hd.end0 rfl (es.map (·.1), true) rfl (fun k' h => Ent.sep (.pure ⟨hK, hl⟩ .same) k' ?_)
 have h2 : sep ([mo mb .i64 ml c, KmP b mb] ++ J (es.map (·.1))) k' := Ent.sep enn k' h
 exact sep_right (fun k s => Ent.sep (.pick (.there .here) (.pick .here .same)) k (mp_in hM k s)) (sep_app h2)
abbrev vi (l : List Int) : List Value := l.map (Value.int .i64)
abbrev OutK (b : Nat) (l : List Int) : SP := RX.ex fun i : Option Addr × Nat => [pt b [.slice i.1 l.length i.2] 44, own 3 1 i.1 l.length i.2 (vi l)]
abbrev seqK (b : Nat) : Value := .func (.func 188) #[] #[.pointer (some ⟨b, 0, none⟩)]
theorem appk_ct (L : List SP) (b mb : Nat) (f : Int → Option Value) (m : Nat) (hm : m ≤ 1000000) : Ct Tryz.prog 201 #[.slice none 0 0, seqK b] (KmP b mb :: mp mb .i64 f m :: L) (fun q_ : Option Addr × Nat × List Int => .slice q_.1 q_.2.2.length q_.2.1) (fun q_ : Option Addr × Nat × List Int => pu (KeysOf f q_.2.2 ∧ q_.2.2.length ≤ m) :: own 3 1 q_.1 q_.2.2.length q_.2.1 (vi q_.2.2) :: KmP b mb :: mp mb .i64 f m :: L) := by
 refine Ct.o2M Tryz.func201 ?_; intro E
 show Hd E 13 _ _ _ _
 refine sr fun _ K1 => ?_
 refine Hd.box rfl rfl (fun b2 => ?_); refine yv y_as <| fk [(1,_),(2,_)] K1 ?_; refine Hd.seq fun _ K2 => ?_
 refine sr fun _ K3 => ?_
 refine yv y_mv <| fk [(2,_),(6,_)] K3 ?_; refine Hd.block <| Hd.rangeF (enc := encK) (S := fun ys => KeysOf f ys ∧ ys.length ≤ m) (Sp := PreK f m)
  (fun pre => OutK b2 pre :: L) (fun _ _ => [pu False])
  rfl kq (fun _ => rfl) rfl (keys_it b mb f m) (Ent.sep (.ex (none, 0) (.eq pkk (pt_eq (by rfl)) (.ownNil Ent.two)))) ?_ ?_ ?_
 ·intro E l' R pre c N hR hG
  have hpl : pre.length + 1 ≤ 1000000 := by have h1 := hG.len; simp at h1; omega
  unfold Rnd; simp only [List.cons_append, List.nil_append, pz, encK]; refine Hd.region <| yv y_as <| Hd.nil <| slots [(2,_),(5,_)] sbq ?_; refine thenN <| Hd.begin hR pkk ?_; refine Hd.block <| Hd.exs pkk ?_; rintro ⟨a3, c3⟩; simp only [List.cons_append, List.nil_append]; refine Hd.region <| yv (y_l1 ag44 rfl) <| yv y_mv <| Hd.bslice (vs := [(0,_)]) rfl (by exact bs201_10 ..) (fun b10 => ?_); refine Hd.append Tryz.underlying44 ty3 rfl rfl rfl pkk (by exact RdS.rd (Rd.pt pkk (fun j v e => by simpa using e)) rfl) (by simp [Value.oneCell']; done) (by simp only [maxLen]; omega) (by omega) (fun ad11 cap11 => ?_); refine Hd.store1 sz44 rfl rfl rfl pkk (by simp; done) ?_
  try simp only [hyS]
  refine Hd.nil <| slots [(2,_)] sbq ?_; refine Hd.inB <| Hd.reN ?_; simp only [List.cons_append, List.nil_append]; exact Ent.sep (.pick pkk (.ex (ad11, cap11) (.eq pkk (pt_eq (by simp)) (.eq pkk (own_eq (by simp) (by simp)) enn))))
 ·intro r0 ys hys
  try simp only [List.cons_append, List.nil_append]
  refine Hd.inB <| Hd.toK K2 ?_; refine Hd.seq fun _ K4 => ?_
  refine Hd.exs pkk ?_; rintro ⟨a3, c3⟩; simp only [List.cons_append, List.nil_append]; refine Hd.region <| yv (y_l1 ag44 rfl) <| yv y_as <| fk [(4,_)] K4 ?_; refine Hd.ret ?_; exact Hd.retM (fun a fr => Lv.mark pkk (Lv.end1 fr rfl (a3, c3, ys) rfl (Ent.sep (.pure hys enn))))
 rintro r0_0 (_ | id0) pre0 hG0
 ·exact Hd.absurd (by exact id)
 exact Hd.absurd (by exact id)
theorem collk_ct (L : List SP) (b mb : Nat) (f : Int → Option Value) (m : Nat) (hm : m ≤ 1000000) : Ct Tryz.prog 186 #[seqK b] (KmP b mb :: mp mb .i64 f m :: L) (fun q_ : Option Addr × Nat × List Int => .slice q_.1 q_.2.2.length q_.2.1) (fun q_ : Option Addr × Nat × List Int => pu (KeysOf f q_.2.2 ∧ q_.2.2.length ≤ m) :: own 3 1 q_.1 q_.2.2.length q_.2.1 (vi q_.2.2) :: KmP b mb :: mp mb .i64 f m :: L) := by
 refine Ct.o1 Tryz.func186 ?_; intro E
 show Hd E 5 _ _ _ _
 refine sr fun _ K1 => ?_
 refine yv y_as <| fk [(0,_)] K1 ?_; refine sr fun _ K2 => ?_
 refine yv y_mv <| callE rfl fk201 (appk_ct L b mb f m hm) sq ?_; rintro ⟨ad, c, ks⟩; dsimp only; refine yv y_as <| fk [(2,_)] K2 ?_; refine Hd.ret ?_; exact Hd.ret1 rfl (ad, c, ks) rfl sq
end Ep
end Go.Proofs.YtbfddabjbkohdaaGreat
namespace Go.Proofs
open Go.Shelf
def Tryz.sortA_ren : Go.Shelf.Ren := ⟨fun | 5 => 187 | 8 => 192 | 7 => 202 | 19 => 212 | 20 => 213 | 10 => 217 | 11 => 218 | 12 => 219 | 13 => 220 | 14 => 221 | 15 => 222 | 16 => 223 | 17 => 224 | 18 => 225 | 30 => 231 | 31 => 227 | 32 => 228 | 33 => 232 | 34 => 233 | 35 => 193 | 40 => 235 | n => n, fun | 23 => 44 | 25 => 3 | 3 => 3 | 32 => 280 | 22 => 44 | 0 => 0 | 44 => 299 | 46 => 30 | 4 => 4 | 36 => 292 | 35 => 291 | 41 => 296 | 5 => 5 | 9 => 9 | 53 => 308 | 57 => 312 | 63 => 316 | 64 => 114 | n => n, fun | n => n⟩
theorem Tryz.sortA : Go.Proofs.SlLaysM.n5 Tryz.prog Tryz.sortA_ren := {
  mixed := by kernel_rfl
  f5 := ⟨Tryz.f187.name, by decide, Tryz.func187.trans (congrArg some (by kernel_rfl))⟩
  f7 := ⟨Tryz.f202.name, by decide, Tryz.func202.trans (congrArg some (by kernel_rfl))⟩
  f8 := Tryz.func192.trans (congrArg some (by kernel_rfl))
  f10 := ⟨Tryz.f217.name, by decide, Tryz.func217.trans (congrArg some (by kernel_rfl))⟩
  f11 := ⟨Tryz.f218.name, by decide, Tryz.func218.trans (congrArg some (by kernel_rfl))⟩
  f12 := ⟨Tryz.f219.name, by decide, Tryz.func219.trans (congrArg some (by kernel_rfl))⟩
  f13 := ⟨Tryz.f220.name, by decide, Tryz.func220.trans (congrArg some (by kernel_rfl))⟩
  f14 := ⟨Tryz.f221.name, by decide, Tryz.func221.trans (congrArg some (by kernel_rfl))⟩
  f15 := ⟨Tryz.f222.name, by decide, Tryz.func222.trans (congrArg some (by kernel_rfl))⟩
  f16 := ⟨Tryz.f223.name, by decide, Tryz.func223.trans (congrArg some (by kernel_rfl))⟩
  f17 := ⟨Tryz.f224.name, by decide, Tryz.func224.trans (congrArg some (by kernel_rfl))⟩
  f18 := ⟨Tryz.f225.name, by decide, Tryz.func225.trans (congrArg some (by kernel_rfl))⟩
  f19 := Tryz.func212.trans (congrArg some (by kernel_rfl))
  f20 := Tryz.func213.trans (congrArg some (by kernel_rfl))
  f30 := ⟨Tryz.f231.name, by decide, Tryz.func231.trans (congrArg some (by kernel_rfl))⟩
  f31 := Tryz.func227.trans (congrArg some (by kernel_rfl))
  f32 := Tryz.func228.trans (congrArg some (by kernel_rfl))
  f33 := ⟨Tryz.f232.name, by decide, Tryz.func232.trans (congrArg some (by kernel_rfl))⟩
  f34 := ⟨Tryz.f233.name, by decide, Tryz.func233.trans (congrArg some (by kernel_rfl))⟩
  f35 := ⟨Tryz.f193.name, by decide, Tryz.func193.trans (congrArg some (by kernel_rfl))⟩
  f40 := ⟨Tryz.f235.name, by decide, Tryz.func235.trans (congrArg some (by kernel_rfl))⟩
  t0 := Tryz.underlying0
  a0 := Tryz.isAgg0
  z0 := Tryz.sizeOf0
  v0 := Tryz.zeroValue0
  t3 := Tryz.underlying3
  a3 := Tryz.isAgg3
  z3 := Tryz.sizeOf3
  v3 := Tryz.zeroValue3
  t4 := Tryz.underlying4
  a4 := Tryz.isAgg4
  z4 := Tryz.sizeOf4
  v4 := Tryz.zeroValue4
  t5 := Tryz.underlying5
  a5 := Tryz.isAgg5
  z5 := Tryz.sizeOf5
  v5 := Tryz.zeroValue5
  t9 := Tryz.underlying9
  a9 := Tryz.isAgg9
  z9 := Tryz.sizeOf9
  v9 := Tryz.zeroValue9
  t22 := Tryz.underlying44
  a22 := Tryz.isAgg44
  z22 := Tryz.sizeOf44
  v22 := Tryz.zeroValue44
  t23 := Tryz.underlying44
  a23 := Tryz.isAgg44
  z23 := Tryz.sizeOf44
  v23 := Tryz.zeroValue44
  t25 := Tryz.underlying3
  a25 := Tryz.isAgg3
  z25 := Tryz.sizeOf3
  v25 := Tryz.zeroValue3
  t32 := Tryz.underlying280
  a32 := Tryz.isAgg280
  z32 := Tryz.sizeOf280
  v32 := Tryz.zeroValue280
  t35 := Tryz.underlying291
  a35 := Tryz.isAgg291
  z35 := Tryz.sizeOf291
  v35 := Tryz.zeroValue291
  t36 := Tryz.underlying292
  a36 := Tryz.isAgg292
  z36 := Tryz.sizeOf292
  v36 := Tryz.zeroValue292
  t41 := Tryz.underlying296
  a41 := Tryz.isAgg296
  z41 := Tryz.sizeOf296
  v41 := Tryz.zeroValue296
  t44 := Tryz.underlying299
  a44 := Tryz.isAgg299
  z44 := Tryz.sizeOf299
  v44 := Tryz.zeroValue299
  t46 := Tryz.underlying30
  a46 := Tryz.isAgg30
  z46 := Tryz.sizeOf30
  v46 := Tryz.zeroValue30
  t53 := Tryz.underlying308
  a53 := Tryz.isAgg308
  z53 := Tryz.sizeOf308
  v53 := Tryz.zeroValue308
  t57 := Tryz.underlying312
  a57 := Tryz.isAgg312
  z57 := Tryz.sizeOf312
  v57 := Tryz.zeroValue312
  t63 := Tryz.underlying316
  a63 := Tryz.isAgg316
  z63 := Tryz.sizeOf316
  v63 := Tryz.zeroValue316
  t64 := Tryz.underlying114
  a64 := Tryz.isAgg114
  z64 := Tryz.sizeOf114
  v64 := Tryz.zeroValue114 }
end Go.Proofs
namespace Go.Proofs.YtbfddabjbkohdaaGreat
open Go.RX Fx Go.Sort Go.Shelf
namespace Ep
def srt (l : List Int) : List Int := l.mergeSort fun x y => decide (x ≤ y)
theorem srt_len (l : List Int) : (srt l).length = l.length := List.length_mergeSort l
theorem srt_perm (l : List Int) : (srt l).Perm l := List.mergeSort_perm l _
theorem srt_le (l : List Int) : (srt l).Pairwise (· ≤ ·) := (List.pairwise_mergeSort (le := fun x y : Int => decide (x ≤ y)) (fun a b c h1 h2 => by simp only [decide_eq_true_eq] at *; omega) (fun a b => by simp only [Bool.or_eq_true, decide_eq_true_eq]; omega) l).imp fun h => by simpa using h
theorem sorti_ct (L : List SP) (ad : Option Addr) (cap : Nat) (xs : List Int) (hlen : xs.length ≤ 1000000) :
  Ct Tryz.prog 187 #[.slice ad xs.length cap] (own 3 1 ad xs.length cap (vi xs) :: L) (fun _ : Unit => .tuple #[]) (fun _ => own 3 1 ad xs.length cap (vi (srt xs)) :: L) := by
 intro E w hsat
 have hls := srt_len xs
 obtain ⟨hos, htp, hou, h1, h2, dd, s1, s2, ⟨hul, hv⟩, hL⟩ := hsat
 by_cases hn0 : xs = []
 ·subst hn0
  refine (AnyM.slices_Sort_int_none Tryz.sortA ad cap w).mono ?_; rintro e w' ⟨rfl, rfl⟩; refine ⟨(), rfl, ?_⟩; rw [show srt ([] : List Int) = [] from List.eq_nil_of_length_eq_zero (srt_len [])]; exact ⟨hos, htp, hou, h1, h2, dd, s1, s2, ⟨hul, hv⟩, hL⟩
 ·have h0 : 0 < xs.length := List.length_pos_iff.2 hn0
  rcases hv with ⟨h00, hc0⟩ | ⟨b, o, sp, rfl, hmc, hcm, hsp, hpt⟩
  ·omega
  have s0 : Sat E (seg b o (vi xs ++ sp) :: L) w := ⟨hos, htp, hou, h1, h2, dd, s1, s2, hpt, hL⟩
  have s3 : Sat E (seg b o (vi xs) :: seg b (o + (vi xs).length) sp :: L) w := s0.mp fun k h => seg_split h
  have hH := Sat.holds1 h0 s3
  refine Calls.mono (AnyM.slices_Sort_int Tryz.sortA b o cap xs w hH.1 hH.2 (by omega)) ?_; rintro e w' ⟨rfl, m, os, rfl⟩; refine ⟨(), rfl, ?_⟩
  have s4 := s3.sort1 (ys := srt xs) hls h0 m os
  have hfl : (vi xs).length = (vi (srt xs)).length := by rw [List.length_map, List.length_map, hls]
  rw [hfl] at s4
  have s5 := s4.mp fun k h => seg_join h
  exact s5.mp fun k h => sep_head h fun k2 x => ⟨by rw [List.length_map, hls]; simpa using hul, .inr ⟨b, o, sp, rfl, hmc, hcm, hsp, x⟩⟩
theorem sortedk_ct (L : List SP) (b mb : Nat) (f : Int → Option Value) (m : Nat) (hm : m ≤ 1000000) : Ct Tryz.prog 146 #[seqK b] (KmP b mb :: mp mb .i64 f m :: L) (fun q_ : Option Addr × Nat × List Int => .slice q_.1 q_.2.2.length q_.2.1) (fun q_ : Option Addr × Nat × List Int => pu (KeysOf f q_.2.2 ∧ q_.2.2.length ≤ m ∧ q_.2.2.Pairwise (· ≤ ·)) :: own 3 1 q_.1 q_.2.2.length q_.2.1 (vi q_.2.2) :: KmP b mb :: mp mb .i64 f m :: L) := by
 refine Ct.o1 Tryz.func146 ?_; intro E
 show Hd E 9 _ _ _ _
 refine sr fun _ K1 => ?_
 refine yv y_as <| fk [(0,_)] K1 ?_; refine sr fun _ K2 => ?_
 refine yv y_mv <| callE rfl fk186 (collk_ct L b mb f m hm) sq ?_; rintro ⟨ad, c, ks⟩; dsimp only; refine yv y_as <| fk [(3,_)] K2 ?_; refine Hd.seq fun _ K3 => ?_
 refine Hd.pure (fun hks => ?_); refine Hd.region <| yv y_mv <| callE rfl fk187 (sorti_ct _ ad c ks (by omega)) sq ?_; intro _; refine fk [(3,_)] K3 ?_; refine sr fun _ K4 => ?_
 refine yv y_mv <| yv y_as <| fk [(2,_)] K4 ?_; refine Hd.ret ?_
 have hK : KeysOf f (srt ks) := ⟨(srt_perm ks).nodup_iff.2 hks.1.nd, fun a => by rw [(srt_perm ks).mem_iff]; exact hks.1.mem a⟩
 exact Hd.ret1 rfl (ad, c, srt ks) (by dsimp only; rw [srt_len]; rfl) (Ent.sep (.pure ⟨hK, by rw [srt_len]; exact hks.2, srt_le ks⟩ (.eq pkk (own_eq3 (srt_len ks).symm rfl rfl) enn)))
end Ep
end Go.Proofs.YtbfddabjbkohdaaGreat
namespace Go.Proofs.YtbfddabjbkohdaaGreat
open Go.RX Fx
namespace Ep
open Wo
structure IxA where
 wire : Int
 events : Int
 armed : Int
 reads : Int
 writes : Int
abbrev encIx (x : IxA) : List Value := [.int .i64 x.wire, .int .i64 x.events, .int .i64 x.armed, .int .u64 x.reads, .int .u64 x.writes]
abbrev zIx : IxA := ⟨0, 0, 0, 0, 0⟩
def fmap (f : Int → Option IxA) : Int → Option Value := fun a => (f a).map fun x => .agg (encIx x).toArray
theorem fmap_get (f : Int → Option IxA) (a : Int) : (fmap f a).getD (.agg (encIx zIx).toArray) = .agg (encIx ((f a).getD zIx)).toArray := by
 unfold fmap; cases f a <;> rfl
theorem fmap_some (f : Int → Option IxA) (a : Int) : (fmap f a).isSome = (f a).isSome := by unfold fmap; cases f a <;> rfl
abbrev EpH (pb wb mb : Nat) (limit : Int) : SP := pt pb [.pointer (some ⟨wb, 0, none⟩), .int .i64 limit, .map (some mb)] 145
def findE (f : Int → Option IxA) (w : WA) (fd : Int) : Option IxA := match f fd with
 | none => none
 | some x => if (w.at fd).isSome = true ∧ wireN (w.at fd) = x.wire then some x else none
theorem efind_ct (L : List SP) (pb wb mb : Nat) (limit : Int) (f : Int → Option IxA) (m : Nat) (w : WA) (fd : Int) : Ct Tryz.prog 72 #[.pointer (some ⟨pb, 0, none⟩), .int .i64 fd] (EpH pb wb mb limit :: mp mb .i64 (fmap f) m :: WorldP wb w :: L) (fun _ : Unit => .tuple #[.agg (encIx ((findE f w fd).getD zIx)).toArray, .bool (findE f w fd).isSome]) (fun _ : Unit => EpH pb wb mb limit :: mp mb .i64 (fmap f) m :: WorldP wb w :: L) := by
 refine Ct.o2 Tryz.func72 ?_; intro E
 show Hd E 42 _ _ _ _
 refine sr fun _ K1 => ?_
 refine Hd.alloc zr148 (fun b4 => ?_); refine yv y_as <| fk [(0,_),(1,_),(4,_)] K1 ?_; refine sr fun _ K2 => ?_
 refine yv y_mv <| yv y_np <| yv (y_f 2 143 Tryz.underlying145 sz143) <| yv (y_l1 ag143 rfl) <| yv y_mv <| yv (y_lookup2 mapt143 rfl rfl pkk) ?_; refine yv y_mv <| yv (y_to (v' := .agg (encIx ((f fd).getD zIx)).toArray) y_ex (by exact fmap_get f fd)) ?_; refine yv (y_to (v' := .bool (f fd).isSome) y_ex (by (rw [← fmap_some]; rfl))) ?_; refine Hd.alloc zr148 (fun b6 => ?_); refine Hd.storeA (us := encIx ((f fd).getD zIx)) sz148 rfl rfl rfl (by simp [Value.oneCell']) pkk (by exact rfl) ?_; refine yv y_as <| fk [(0,_),(1,_),(4,_),(6,_),(7,_)] K2 ?_; refine sr fun _ K3 => ?_
 refine yv y_mv <| yv y_np <| yv (y_f 0 38 Tryz.underlying145 sz38) <| yv (y_l1 ag38 rfl) <| yv y_mv <| callE rfl fk71 (wwire_ct _ wb w fd) sq ?_; intro _; refine yv y_mv <| yv y_ex <| yv y_ex <| yv y_as <| yv y_as <| fk [(4,_),(6,_),(7,_),(8,_),(9,_)] K3 ?_; refine Hd.seq fun _ K4 => ?_
 refine sr fun _ K5 => ?_
 refine yv y_mv <| yv (y_not rfl) <| yv y_mv ?_; apply Hd.org 3 30 33 [(4,_),(6,_),(8,_)] rfl sbq
 ·intro hg3_30
  try simp only [hyZ] at hg3_30
  simp only [List.take]; refine n1 <| n1 <| yv (y_pickT rfl rfl) ?_; exact Hd.mn
 ·intro hg3_30
  try simp only [hyZ] at hg3_30
  simp only [List.take]; refine y2 y_mv <| y2 (y_neq rfl rfl) ?_; refine yv (y_pickF rfl rfl) ?_; exact Hd.mn
 simp only [List.drop]; refine yv y_mv ?_; apply Hd.org 5 34 39 [(4,_),(6,_)] rfl sbq
 ·intro hg3_34
  try simp only [hyZ] at hg3_34
  simp only [List.take]; refine n1 <| n1 <| n1 <| n1 <| yv (y_pickT rfl rfl) ?_; exact Hd.mn
 ·intro hg3_34
  try simp only [hyZ] at hg3_34
  simp only [List.take]; refine y2 y_mv <| y2 (y_f 0 3 Tryz.underlying148 sz3) <| y2 (y_l1 ag3 rfl) <| y2 (y_neq rfl rfl) ?_; refine yv (y_pickF rfl rfl) ?_; exact Hd.mn
 simp only [List.drop]; refine fk [(4,_),(6,_),(39,_)] K5 ?_; refine qz ?_ ?_ <;> intro hc0 <;> try simp only [hyZ] at hc0
 ·refine sr fun _ K6 => ?_
  refine yv (y_build (vs := []) rfl (by exact bd72_40 ..)) ?_; refine Hd.storeA (us := [_, _, _, _, _]) sz148 rfl rfl rfl (by simp [Value.oneCell']) pkk rfl ?_
  try simp only [hyS]
  refine yv y_as <| fk [(4,_),(5,_)] K6 ?_; refine Hd.ret <| Hd.thenRet ?_
  have hno : findE f w fd = none := by
   unfold findE
   cases hf : f fd with
   | none => rfl
   | some x =>
    refine if_neg (fun h => ?_); rw [hf] at hc0; unfold fdErr at hc0; rw [h.1] at hc0; simp [h.2] at hc0
  rw [hno]; exact Hd.retCT rfl () ag148 rfl rfl (Rd.pt (b := b4) (us := encIx zIx) pkk (fun j v e => by rw [Nat.zero_add]; exact e)) (by exact sz148) rfl sq
 refine qv K4 <| sr fun _ K7 => ?_
 refine yv (y_loadn (us := [_, _, _, _, _]) ag148 rfl (Rd.pt pkk (by (first | (intro j v e; rcases j with _|_|_|_|_|_|_|_|_|_|_|_|j <;> first | exact e | exact absurd e (by simp))))) (by exact sz148)) ?_; refine Hd.storeA (us := encIx ((f fd).getD zIx)) sz148 rfl rfl rfl (by simp [Value.oneCell']) pkk (by exact rfl) ?_; refine yv y_as <| fk [(4,_),(5,_)] K7 ?_; refine Hd.ret ?_
 have hyes : findE f w fd = f fd ∧ (f fd).isSome = true := by
  unfold findE
  cases hf : f fd with
  | none => rw [hf] at hc0; simp at hc0
  | some x =>
   rw [hf] at hc0
   cases ho : w.at fd with
   | none => rw [ho] at hc0; simp [fdErr] at hc0
   | some p =>
    rw [ho] at hc0; simp [fdErr] at hc0; exact ⟨if_pos ⟨rfl, hc0⟩, rfl⟩
 rw [hyes.1, hyes.2]; exact Hd.retCT rfl () ag148 rfl rfl (Rd.pt (b := b4) (us := encIx ((f fd).getD zIx)) pkk (fun j v e => by rw [Nat.zero_add]; exact e)) (by exact sz148) rfl sq
abbrev EpM (px pb wb mb : Nat) (limit : Int) (f : Int → Option IxA) (m : Nat) (w : WA) (L : List SP) : List SP := pt px [.pointer (some ⟨pb, 0, none⟩)] 34 :: EpH pb wb mb limit :: mp mb .i64 (fmap f) m :: WorldP wb w :: L
theorem all1_ct (L : List SP) (px pb wb mb : Nat) (limit : Int) (f : Int → Option IxA) (m : Nat) (w : WA) (fd : Int) : Ct Tryz.prog 148 #[.int .i64 fd, .pointer (some ⟨px, 0, none⟩)] (EpM px pb wb mb limit f m w L) (fun _ : Unit => .bool (!(findE f w fd).isSome)) (fun _ : Unit => EpM px pb wb mb limit f m w L) := by
 refine Ct.o2 Tryz.func148 ?_; intro E
 show Hd E 14 _ _ _ _
 refine sr fun _ K1 => ?_
 refine yv y_as <| fk [(0,_),(1,_)] K1 ?_; refine sr fun _ K2 => ?_
 refine yv (y_l1 ag34 rfl) <| yv y_mv <| callE rfl fk72 (efind_ct _ pb wb mb limit f m w fd) sq ?_; intro _; refine yv y_mv <| yv y_ex <| yv y_ex <| Hd.alloc zr148 (fun b4 => ?_); refine Hd.storeA (us := encIx ((findE f w fd).getD zIx)) sz148 rfl rfl rfl (by simp [Value.oneCell']) pkk (by exact rfl) ?_; refine yv y_as <| fk [(5,_)] K2 ?_; refine sr fun _ K3 => ?_
 refine yv y_mv <| yv (y_not rfl) <| yv y_as <| fk [(3,_)] K3 ?_; refine Hd.ret ?_; exact Hd.ret1 rfl () (by rfl) sq
abbrev qE (f : Int → Option IxA) (w : WA) (fd : Int) : Bool := (findE f w fd).isSome
abbrev allK (px : Nat) : Value := .func (.func 148) #[] #[.pointer (some ⟨px, 0, none⟩)]
theorem vi_at {xs : List Int} {i : Nat} (h : i < xs.length) : (vi xs)[i * 1]? = some (.int .i64 xs[i]) := by rw [Nat.mul_one, List.getElem?_map, List.getElem?_eq_getElem h]; rfl
theorem idxn_ct (L : List SP) (px pb wb mb : Nat) (limit : Int) (f : Int → Option IxA) (m : Nat) (w : WA) (ad : Option Addr) (cap : Nat) (xs : List Int) (hb : xs.length ≤ 1000000) (hq : ∀ y ∈ xs, qE f w y = true) : Ct Tryz.prog 185 #[.slice ad xs.length cap, allK px] (own 3 1 ad xs.length cap (vi xs) :: EpM px pb wb mb limit f m w L) (fun _ : Unit => .int .i64 (-1)) (fun _ : Unit => own 3 1 ad xs.length cap (vi xs) :: EpM px pb wb mb limit f m w L) := by
 refine Ct.o2 Tryz.func185 ?_; intro E
 show Hd E 19 _ _ _ _
 refine sr fun _ K1 => ?_
 refine yv y_as <| fk [(0,_),(1,_)] K1 ?_; refine Hd.seq fun _ K2 => ?_
 refine sr fun _ K3 => ?_
 refine yv y_mv <| yv (y_len Tryz.underlying44 rfl) ?_; refine yv y_mv <| fk [(0,_),(1,_),(7,_),(8,_)] K3 ?_; refine Hd.block <| Hd.loopK (ι := Nat) [(0,_),(1,_),(7,_)] (fun i => [(8, .int .i64 (i : Int))]) (fun i => pu (i ≤ xs.length) :: own 3 1 ad xs.length cap (vi xs) :: EpM px pb wb mb limit f m w L) (fun i => xs.length - i) 0 sbq sbq (Ent.sep (.pure (by omega) enn)) ?_; intro i
 try dsimp only
 refine Hd.pure (fun hp0 => ?_)
 try dsimp only at hp0
 refine sr fun _ K4 => ?_
 refine yv (y_lss rfl rfl) ?_; refine fk [(0,_),(1,_),(7,_),(8,_),(9,_)] K4 ?_; refine Hd.seq fun _ K5 => ?_
 refine qz ?_ ?_ <;> intro hc0 <;> try simp only [hyZ] at hc0
 ·have hi : i < xs.length := by omega
  have hgi := vi_at hi
  have hqi := hq xs[i] (List.getElem_mem hi)
  refine qv K5 <| Hd.seq fun _ K6 => ?_
  refine Hd.block <| sr fun _ K7 => ?_
  refine yv y_mv <| yv y_as <| fk [(0,_),(1,_),(5,_),(7,_),(8,_)] K7 ?_; refine sr fun _ K8 => ?_
  refine yv y_mv <| yv y_mv <| yv y_mv <| yv (y_idxR Tryz.underlying44 sz3 rfl rfl (by omega) (by exact RdS.own pkk)) ?_; refine yv (y_loadR1 ag3 rfl (RdS.own (ad := ad) (us := vi xs) pkk) hgi) ?_; refine Hd.callvE (vs := [_]) (cap := [_]) rfl rfl kq (all1_ct _ px pb wb mb limit f m w xs[i]) sq ?_; intro _; rw [show (!(findE f w xs[i]).isSome) = false by rw [show (findE f w xs[i]).isSome = true from hqi]; rfl]; refine fk [(0,_),(1,_),(5,_),(7,_),(8,_),(16,_)] K8 ?_; refine Hd.condF rfl ?_; refine Hd.skip <| Hd.inB <| Hd.toK K6 ?_; refine Hd.region <| yv (y_addn rfl rfl (by simp only [InK]; omega)) ?_; refine yv y_mv <| Hd.nil <| slots [(0,_),(1,_),(7,_),(8,_)] sbq ?_; refine thenN ?_; exact Hd.again (i + 1) (by omega) sbq (Ent.sep (.pure (by omega) enn))
 refine Hd.exit <| Hd.thenExit <| Hd.thenExit <| Hd.inBexit <| Hd.toK K2 ?_; refine sr fun _ K9 => ?_
 refine yv y_as <| fk [(4,_)] K9 ?_; refine Hd.ret ?_; exact Hd.ret1 rfl () (by rfl) sq
theorem idxf_ct (L : List SP) (px pb wb mb : Nat) (limit : Int) (f : Int → Option IxA) (m : Nat) (w : WA) (ad : Option Addr) (cap : Nat) (xs : List Int) (hb : xs.length ≤ 1000000) (n : Nat) (hn : n < xs.length) (hq : ∀ j (h : j < xs.length), j < n → qE f w xs[j] = true) (hx : qE f w xs[n] = false) : Ct Tryz.prog 185 #[.slice ad xs.length cap, allK px] (own 3 1 ad xs.length cap (vi xs) :: EpM px pb wb mb limit f m w L) (fun _ : Unit => .int .i64 (n : Int)) (fun _ : Unit => own 3 1 ad xs.length cap (vi xs) :: EpM px pb wb mb limit f m w L) := by
 refine Ct.o2 Tryz.func185 ?_; intro E
 show Hd E 19 _ _ _ _
 refine sr fun _ K1 => ?_
 refine yv y_as <| fk [(0,_),(1,_)] K1 ?_; refine Hd.seq fun _ K2 => ?_
 refine sr fun _ K3 => ?_
 refine yv y_mv <| yv (y_len Tryz.underlying44 rfl) ?_; refine yv y_mv <| fk [(0,_),(1,_),(7,_),(8,_)] K3 ?_; refine Hd.block <| Hd.loopK (ι := Nat) [(0,_),(1,_),(7,_)] (fun i => [(8, .int .i64 (i : Int))]) (fun i => pu (i ≤ n) :: own 3 1 ad xs.length cap (vi xs) :: EpM px pb wb mb limit f m w L) (fun i => xs.length - i) 0 sbq sbq (Ent.sep (.pure (by omega) enn)) ?_; intro i
 try dsimp only
 refine Hd.pure (fun hp0 => ?_)
 try dsimp only at hp0
 refine sr fun _ K4 => ?_
 refine yv (y_lss rfl rfl) ?_; refine fk [(0,_),(1,_),(7,_),(8,_),(9,_)] K4 ?_; refine Hd.seq fun _ K5 => ?_
 refine qz ?_ ?_ <;> intro hc0 <;> try simp only [hyZ] at hc0
 ·have hi : i < xs.length := by omega
  have hgi := vi_at hi
  refine qv K5 <| Hd.seq fun _ K6 => ?_
  refine Hd.block <| sr fun _ K7 => ?_
  refine yv y_mv <| yv y_as <| fk [(0,_),(1,_),(5,_),(7,_),(8,_)] K7 ?_; refine sr fun _ K8 => ?_
  refine yv y_mv <| yv y_mv <| yv y_mv <| yv (y_idxR Tryz.underlying44 sz3 rfl rfl (by omega) (by exact RdS.own pkk)) ?_; refine yv (y_loadR1 ag3 rfl (RdS.own (ad := ad) (us := vi xs) pkk) hgi) ?_; refine Hd.callvE (vs := [_]) (cap := [_]) rfl rfl kq (all1_ct _ px pb wb mb limit f m w xs[i]) sq ?_; intro _; refine fk [(0,_),(1,_),(5,_),(7,_),(8,_),(16,_)] K8 ?_; refine qz ?_ ?_ <;> intro hc1 <;> try simp only [hyZ] at hc1
  ·refine sr fun _ K9 => ?_
   refine yv y_mv <| yv y_as <| fk [(4,_)] K9 ?_; refine Hd.ret <| Hd.inBret <| Hd.thenRet <| Hd.thenRet <| Hd.inBret <| Hd.thenRet ?_
   have hin : i = n := by
    refine Decidable.byContradiction fun hne => ?_
    have := hq i hi (by omega)
    rw [show (findE f w xs[i]).isSome = true from this] at hc1; simp at hc1
   exact Hd.ret1 rfl () (by rw [← hin]; rfl) sq
  refine Hd.skip <| Hd.inB <| Hd.toK K6 ?_; refine Hd.region <| yv (y_addn rfl rfl (by simp only [InK]; omega)) ?_; refine yv y_mv <| Hd.nil <| slots [(0,_),(1,_),(7,_),(8,_)] sbq ?_; refine thenN ?_
  have hin : i ≠ n := by
   rintro rfl; rw [show (findE f w xs[i]).isSome = false from hx] at hc1; simp at hc1
  exact Hd.again (i + 1) (by omega) sbq (Ent.sep (.pure (by omega) enn))
 omega
structure DlI (q : Int → Bool) (xs cs : List Int) (i j : Nat) : Prop where
 len : cs.length = xs.length
 lt : i < j
 le : j ≤ xs.length
 tk : cs.take i = (xs.take j).filter q
 dr : cs.drop j = xs.drop j
theorem DlI.init {q : Int → Bool} {xs : List Int} {n : Nat} (hn : n < xs.length) (hq : ∀ j (h : j < xs.length), j < n → q xs[j] = true) (hx : q xs[n] = false) : DlI q xs xs n (n + 1) := by
 refine ⟨rfl, Nat.lt_succ_self n, hn, ?_, rfl⟩; rw [List.take_add_one, List.getElem?_eq_getElem hn, List.filter_append]
 show _ = _ ++ [xs[n]].filter q
 rw [List.filter_cons_of_neg (by rw [hx]; simp), List.filter_nil, List.append_nil]; refine (List.filter_eq_self.2 fun a ha => ?_).symm
 obtain ⟨j, hj, rfl⟩ := List.getElem_of_mem ha
 rw [List.length_take] at hj; rw [List.getElem_take]; exact hq j (by omega) (by omega)
theorem DlI.at_ {q : Int → Bool} {xs cs : List Int} {i j : Nat} (h : DlI q xs cs i j) (hj : j < xs.length) : cs[j]? = some xs[j] := by
 have h1 := congrArg (fun l : List Int => l[0]?) h.dr
 simpa [List.getElem?_drop, hj] using h1
theorem DlI.keep {q : Int → Bool} {xs cs : List Int} {i j : Nat} (h : DlI q xs cs i j) (hj : j < xs.length) (hq : q xs[j] = true) : DlI q xs (cs.set i xs[j]) (i + 1) (j + 1) := by
 have hl := h.len
 have hlt := h.lt
 refine ⟨by rw [List.length_set]; exact hl, by omega, hj, ?_, ?_⟩
 ·rw [List.take_add_one, List.getElem?_set_self (by omega), List.take_set_of_le (Nat.le_refl i), h.tk, List.take_add_one, List.getElem?_eq_getElem hj, List.filter_append]
  show _ = _ ++ [xs[j]].filter q
  rw [List.filter_cons_of_pos hq]; rfl
 ·rw [List.drop_set_of_lt (by omega)]
  have := congrArg (fun l : List Int => l.drop 1) h.dr
  simpa [List.drop_drop, Nat.add_comm] using this
theorem DlI.drop {q : Int → Bool} {xs cs : List Int} {i j : Nat} (h : DlI q xs cs i j) (hj : j < xs.length) (hq : q xs[j] = false) : DlI q xs cs i (j + 1) := by
 refine ⟨h.len, by have := h.lt; omega, hj, ?_, ?_⟩
 ·rw [h.tk, List.take_add_one, List.getElem?_eq_getElem hj, List.filter_append]
  show _ = _ ++ [xs[j]].filter q
  rw [List.filter_cons_of_neg (by rw [hq]; simp), List.filter_nil, List.append_nil]
 ·have := congrArg (fun l : List Int => l.drop 1) h.dr
  simpa [List.drop_drop, Nat.add_comm] using this
theorem DlI.done {q : Int → Bool} {xs cs : List Int} {i j : Nat} (h : DlI q xs cs i j) (hj : j = xs.length) : cs.take i = xs.filter q := by rw [h.tk, hj, List.take_length]
theorem deln_ct (L : List SP) (px pb wb mb : Nat) (limit : Int) (f : Int → Option IxA) (m : Nat) (w : WA) (ad : Option Addr) (cap : Nat) (xs : List Int) (hb : xs.length ≤ 1000000) (hq : ∀ y ∈ xs, qE f w y = true) : Ct Tryz.prog 145 #[.slice ad xs.length cap, allK px] (own 3 1 ad xs.length cap (vi xs) :: EpM px pb wb mb limit f m w L) (fun _ : Unit => .slice ad xs.length cap) (fun _ : Unit => own 3 1 ad xs.length cap (vi xs) :: EpM px pb wb mb limit f m w L) := by
 refine Ct.o2 Tryz.func145 ?_; intro E
 show Hd E 42 _ _ _ _
 refine sr fun _ K1 => ?_
 refine yv y_as <| fk [(0,_),(1,_)] K1 ?_; refine sr fun _ K2 => ?_
 refine yv y_mv <| yv y_mv <| callE rfl fk185 (idxn_ct _ px pb wb mb limit f m w ad cap xs hb hq) sq ?_; intro _; refine yv y_as <| fk [(0,_),(1,_),(5,_)] K2 ?_; refine Hd.seq fun _ K3 => ?_
 refine sr fun _ K4 => ?_
 refine yv y_mv <| yv (y_eqlT rfl rfl) ?_; refine fk [(0,_),(1,_),(5,_),(12,_)] K4 ?_; refine Hd.condT rfl ?_; refine sr fun _ K5 => ?_
 refine yv y_mv <| yv y_as <| fk [(4,_)] K5 ?_; refine Hd.ret <| Hd.thenRet ?_; exact Hd.ret1 rfl () (by rfl) sq
theorem delf_ct (L : List SP) (px pb wb mb : Nat) (limit : Int) (f : Int → Option IxA) (m : Nat) (w : WA) (ad : Option Addr) (cap : Nat) (xs : List Int) (hb : xs.length ≤ 1000000) (n : Nat) (hn : n < xs.length) (hq : ∀ j (h : j < xs.length), j < n → qE f w xs[j] = true) (hx : qE f w xs[n] = false) : Ct Tryz.prog 145 #[.slice ad xs.length cap, allK px] (own 3 1 ad xs.length cap (vi xs) :: EpM px pb wb mb limit f m w L) (fun _ : Unit => .slice ad (xs.filter (qE f w)).length cap) (fun _ : Unit => own 3 1 ad (xs.filter (qE f w)).length cap (vi (xs.filter (qE f w))) :: EpM px pb wb mb limit f m w L) := by
 refine Ct.o2 Tryz.func145 ?_; intro E
 show Hd E 42 _ _ _ _
 refine Hd.ownCap (e := 3) (ad := ad) (m := xs.length) (cap := cap) pkk (fun hcap => ?_); refine sr fun _ K1 => ?_
 refine yv y_as <| fk [(0,_),(1,_)] K1 ?_; refine sr fun _ K2 => ?_
 refine yv y_mv <| yv y_mv <| callE rfl fk185 (idxf_ct _ px pb wb mb limit f m w ad cap xs hb n hn hq hx) sq ?_; intro _; refine yv y_as <| fk [(0,_),(1,_),(5,_)] K2 ?_; refine Hd.seq fun _ K3 => ?_
 refine sr fun _ K4 => ?_
 refine yv y_mv <| yv (y_eql rfl rfl) ?_; refine fk [(0,_),(1,_),(5,_),(12,_)] K4 ?_; refine qz ?_ ?_ <;> intro hc0 <;> try simp only [hyZ] at hc0
 ·omega
 refine qv K3 <| Hd.seq fun _ K5 => ?_
 refine sr fun _ K6 => ?_
 refine yv y_mv <| yv (y_addn rfl rfl (by simp only [InK]; omega)) ?_; refine yv y_as <| fk [(0,_),(1,_),(5,_),(6,_)] K6 ?_; refine Hd.block <| Hd.loopK (ι := Nat × Nat × List Int) [(0,_),(1,_)] (fun q_ => [(5, .int .i64 (q_.1 : Int)), (6, .int .i64 (q_.2.1 : Int))]) (fun q_ => pu (DlI (qE f w) xs q_.2.2 q_.1 q_.2.1) :: own 3 1 ad xs.length cap (vi q_.2.2) :: EpM px pb wb mb limit f m w L) (fun q_ => xs.length - q_.2.1) (n, n + 1, xs) sbq sbq (Ent.sep (.pure (DlI.init hn hq hx) enn)) ?_; rintro ⟨i, j, cs⟩
 try dsimp only
 refine Hd.pure (fun hp0 => ?_)
 try dsimp only at hp0
 refine Hd.seq fun _ K7 => ?_
 refine sr fun _ K8 => ?_
 refine yv y_mv <| yv y_mv <| yv (y_len Tryz.underlying44 rfl) ?_; refine yv (y_lss rfl rfl) ?_; refine fk [(0,_),(1,_),(5,_),(6,_),(19,_)] K8 ?_; refine qz ?_ ?_ <;> intro hc1 <;> try simp only [hyZ] at hc1
 ·have hj : j < xs.length := by omega
  have hil : i < j := hp0.lt
  have hvl : (vi cs).length = xs.length := by rw [List.length_map]; exact hp0.len
  have hgj : (vi cs)[j * 1]? = some (.int .i64 xs[j]) := by rw [Nat.mul_one, List.getElem?_map, hp0.at_ hj]; rfl
  refine qv K7 <| Hd.seq fun _ K9 => ?_
  refine Hd.block <| sr fun _ K10 => ?_
  refine yv y_mv <| yv y_mv <| yv (y_idxR Tryz.underlying44 sz3 rfl rfl (by omega) (by exact RdS.own pkk)) ?_; refine yv (y_loadR1 ag3 rfl (RdS.own (ad := ad) (us := vi cs) pkk) hgj) ?_; refine yv y_as <| fk [(0,_),(1,_),(5,_),(6,_),(7,_)] K10 ?_; refine sr fun _ K11 => ?_
  refine yv y_mv <| yv y_mv <| Hd.callvE (vs := [_]) (cap := [_]) rfl rfl kq (all1_ct _ px pb wb mb limit f m w xs[j]) sq ?_; intro _; refine yv (y_not rfl) <| fk [(0,_),(1,_),(5,_),(6,_),(7,_),(29,_)] K11 ?_; refine qz ?_ ?_ <;> intro hc2 <;> try simp only [hyZ] at hc2
  ·refine sr fun _ K12 => ?_
   refine yv y_mv <| yv y_mv <| yv y_mv <| yv (y_idxR Tryz.underlying44 sz3 rfl rfl (by omega) (by exact RdS.own pkk)) ?_; refine Hd.storeO1 sz3 rfl rfl rfl pkk (by rw [hvl]; omega) ?_
   try simp only [hyS]
   refine fk [(0,_),(1,_),(5,_),(6,_)] K12 ?_; refine Hd.region <| yv y_mv <| yv (y_addn rfl rfl (by simp only [InK]; omega)) ?_; refine yv y_as <| Hd.nil <| slots [(0,_),(1,_),(5,_),(6,_)] sbq ?_; refine Hd.inB <| Hd.toK K9 ?_; refine Hd.region <| yv y_mv <| yv (y_addn rfl rfl (by simp only [InK]; omega)) ?_; refine yv y_as <| Hd.nil <| slots [(0,_),(1,_),(5,_),(6,_)] sbq ?_; refine thenN ?_
   have hqj : qE f w xs[j] = true := by
    show (findE f w xs[j]).isSome = true
    simpa using hc2
   have hk := hp0.keep hj hqj
   refine Hd.again (i + 1, j + 1, cs.set i xs[j]) (by show xs.length - (j + 1) < xs.length - j; omega) sbq (fun q t => ?_); exact Ent.sep (.pure hk (.eq pkk (own_eq3 rfl rfl (by simp [vi, List.map_set])) enn)) q t
  refine Hd.skip <| Hd.inB <| Hd.toK K9 ?_; refine Hd.region <| yv y_mv <| yv (y_addn rfl rfl (by simp only [InK]; omega)) ?_; refine yv y_as <| Hd.nil <| slots [(0,_),(1,_),(5,_),(6,_)] sbq ?_; refine thenN ?_
  have hqj : qE f w xs[j] = false := by
   show (findE f w xs[j]).isSome = false
   simpa using hc2
  have hk := hp0.drop hj hqj
  refine Hd.again (i, j + 1, cs) (by show xs.length - (j + 1) < xs.length - j; omega) sbq (fun q t => ?_); exact Ent.sep (.pure hk enn) q t
 have hjl : j = xs.length := by have := hp0.le; omega
 have hd := hp0.done hjl
 have hil : i < j := hp0.lt
 have hvl : (vi cs).length = xs.length := by rw [List.length_map]; exact hp0.len
 have hcl : cs.length = xs.length := hp0.len
 have hfl : (xs.filter (qE f w)).length = i := by rw [← hd, List.length_take]; omega
 refine Hd.exit <| Hd.thenExit <| Hd.thenExit <| Hd.inBexit <| Hd.toK K5 ?_; refine sr fun _ K13 => ?_
 refine yv y_mv <| yv y_mv <| yv (y_slo_oxxN Tryz.underlying44 sz3 rfl rfl (by omega)) ?_; refine Hd.clearTail (sz := 1) Tryz.underlying44 zr3 rfl rfl rfl pkk (by omega) ?_; refine fk [(0,_),(5,_)] K13 ?_; refine sr fun _ K14 => ?_
 refine yv y_mv <| yv y_mv <| yv (y_slo_xoxN Tryz.underlying44 sz3 rfl rfl (by omega)) ?_; refine yv y_as <| fk [(4,_)] K14 ?_; refine Hd.ret ?_; rw [hfl]; exact Hd.ret1 rfl () rfl (Ent.sep (.eq pkk (own_eq3 rfl rfl (by rw [← hd, Nat.mul_one]; exact (List.map_take ..).symm)) enn))
theorem dela_ct (L : List SP) (px pb wb mb : Nat) (limit : Int) (f : Int → Option IxA) (m : Nat) (w : WA) (ad : Option Addr) (cap : Nat) (xs : List Int) (hb : xs.length ≤ 1000000) :
  Ct Tryz.prog 145 #[.slice ad xs.length cap, allK px] (own 3 1 ad xs.length cap (vi xs) :: EpM px pb wb mb limit f m w L) (fun _ : Unit => .slice ad (xs.filter (qE f w)).length cap) (fun _ => own 3 1 ad (xs.filter (qE f w)).length cap (vi (xs.filter (qE f w))) :: EpM px pb wb mb limit f m w L) := by
 by_cases h : ∀ y ∈ xs, qE f w y = true
 ·rw [List.filter_eq_self.2 h]
  exact deln_ct L px pb wb mb limit f m w ad cap xs hb h
 ·have he : ∃ y ∈ xs, (!qE f w y) = true := by
   refine Decidable.byContradiction fun hn => h fun y hy => ?_
   cases hq : qE f w y with
   | true => rfl
   | false => exact absurd ⟨y, hy, by rw [hq]; rfl⟩ hn
  have hlt := List.findIdx_lt_length_of_exists he
  refine delf_ct L px pb wb mb limit f m w ad cap xs hb (xs.findIdx fun y => !qE f w y) hlt (fun j hj hjn => ?_) ?_
  ·have := List.not_of_lt_findIdx hjn
   simpa using this
  ·have := List.findIdx_getElem (w := hlt)
   simpa using this
structure AllE (f : Int → Option IxA) (m : Nat) (w : WA) (ks : List Int) : Prop where
 srt : ks.Pairwise (· < ·)
 mem : ∀ a, a ∈ ks ↔ (findE f w a).isSome = true
 len : ks.length ≤ m
theorem all_of {f : Int → Option IxA} {m : Nat} {w : WA} {ks : List Int} (h : KeysOf (fmap f) ks) (hl : ks.length ≤ m) (hs : ks.Pairwise (· ≤ ·)) : AllE f m w (ks.filter (qE f w)) where
 srt := by
  have h1 : ks.Pairwise (· < ·) := (hs.and h.nd).imp fun ⟨a, b⟩ => by omega
  exact h1.sublist List.filter_sublist
 mem a := by
  rw [List.mem_filter, h.mem, fmap_some]; refine ⟨fun q => q.2, fun q => ⟨?_, q⟩⟩; unfold findE at q
  cases hf : f a with
  | none => rw [hf] at q; simp at q
  | some x => rfl
 len := Nat.le_trans (List.length_filter_le _ _) hl
theorem all_ct (L : List SP) (pb wb mb : Nat) (limit : Int) (f : Int → Option IxA) (m : Nat) (hm : m ≤ 1000000) (w : WA) : Ct Tryz.prog 73 #[.pointer (some ⟨pb, 0, none⟩)] (EpH pb wb mb limit :: mp mb .i64 (fmap f) m :: WorldP wb w :: L) (fun q_ : Option Addr × Nat × List Int => .slice q_.1 q_.2.2.length q_.2.1) (fun q_ : Option Addr × Nat × List Int => pu (AllE f m w q_.2.2) :: own 3 1 q_.1 q_.2.2.length q_.2.1 (vi q_.2.2) :: EpH pb wb mb limit :: mp mb .i64 (fmap f) m :: WorldP wb w :: L) := by
 refine Ct.o1 Tryz.func73 ?_; intro E
 show Hd E 11 _ _ _ _
 refine sr fun _ K1 => ?_
 refine Hd.box rfl rfl (fun b1 => ?_); refine yv y_as <| fk [(1,_)] K1 ?_; refine sr fun _ K2 => ?_
 refine yv (y_l1 ag34 rfl) <| yv y_np <| yv (y_f 2 143 Tryz.underlying145 sz143) <| yv (y_l1 ag143 rfl) <| callE rfl fk147 (keys_ct _ mb) sq ?_; intro kb; refine callE rfl fk146 (sortedk_ct _ kb mb (fmap f) m hm) sq ?_; rintro ⟨ad, c, ks⟩; dsimp only; refine Hd.pure (fun hks => ?_); refine yv (y_mkf (fv := []) (cv := [_]) rfl rfl) ?_; refine callE rfl fk145 (dela_ct _ b1 pb wb mb limit f m w ad c ks (by omega)) sq ?_; intro _; refine yv y_as <| fk [(2,_)] K2 ?_; refine Hd.ret ?_; exact Hd.ret1 rfl (ad, c, ks.filter (qE f w)) rfl (Ent.sep (.pure (all_of hks.1 hks.2.1 hks.2.2) enn))
theorem enone_ct (L : List SP) (pb wb mb : Nat) (limit : Int) : Ct Tryz.prog 70 #[.pointer (some ⟨pb, 0, none⟩)] (EpH pb wb mb limit :: L) (fun _ : Unit => .bool false) (fun _ : Unit => EpH pb wb mb limit :: L) := by
 refine Ct.o1 Tryz.func70 ?_; intro E
 show Hd E 12 _ _ _ _
 refine sr fun _ K1 => ?_
 refine yv y_as <| fk [(0,_)] K1 ?_; refine sr fun _ K2 => ?_
 refine yv y_mv <| yv (y_eql_pointer Tryz.underlying34 rfl rfl) ?_; refine yv y_mv <| y2 y_mv <| y2 y_np <| y2 (y_f 0 38 Tryz.underlying145 sz38) <| y2 (y_l1 ag38 rfl) <| y2 (y_eql_pointer Tryz.underlying38 rfl rfl) ?_; refine yv (y_pickF rfl rfl) ?_; refine yv y_as <| fk [(2,_)] K2 ?_; refine Hd.ret ?_; exact Hd.ret1 rfl () (by rfl) sq
abbrev f0 : Int → Option IxA := fun _ => none
theorem enew_ct (L : List SP) (wb : Nat) (limit : Int) (hl : 0 ≤ limit) : Ct Tryz.prog 18 #[.pointer (some ⟨wb, 0, none⟩), .int .i64 limit] (L) (fun q_ : Nat × Nat => .tuple #[.pointer (some ⟨q_.1, 0, none⟩), .int .i64 0]) (fun q_ : Nat × Nat => EpH q_.1 wb q_.2 limit :: mp q_.2 .i64 (fmap f0) 0 :: L) := by
 refine Ct.o2 Tryz.func18 ?_; intro E
 show Hd E 17 _ _ _ _
 refine sr fun _ K1 => ?_
 refine yv y_as <| yv y_as <| fk [(0,_),(1,_)] K1 ?_; refine Hd.seq fun _ K2 => ?_
 refine Hd.block <| sr fun _ K3 => ?_
 refine yv y_mv <| yv (y_eql_pointer Tryz.underlying38 rfl rfl) ?_; refine yv y_as <| fk [(0,_),(1,_),(6,_)] K3 ?_; refine Hd.condF rfl ?_; refine sr fun _ K4 => ?_
 refine yv y_mv <| yv (y_lss rfl rfl) ?_; refine yv y_as <| fk [(0,_),(1,_),(9,_)] K4 ?_; refine qz ?_ ?_ <;> intro hc1 <;> try simp only [hyZ] at hc1
 ·omega
 refine Hd.skip <| Hd.inB <| Hd.toK K2 ?_; refine sr fun _ K5 => ?_
 refine yv y_mv <| yv y_mv <| Hd.makeMap .i64 (fun b14 => ?_); refine yv (y_build (vs := [(0,_),(1,_),(2,_)]) rfl (by exact bd18_15 ..)) ?_; refine Hd.box rfl rfl (fun b16 => ?_); refine yv y_as <| yv y_as <| fk [(4,_),(5,_)] K5 ?_; refine Hd.ret ?_; exact Hd.ret2 rfl (b16, b14) rfl rfl rfl (Ent.sep (.eq pkk (pt_eq (by rfl)) enn))
abbrev encPo (p : Int × Int) : List Value := [.int .i64 p.1, .int .i64 p.2]
def evE (f : Int → Option IxA) (fd : Int) : Int := ((f fd).getD zIx).events
def intE (f : Int → Option IxA) (ks : List Int) : List (Int × Int) := ks.map fun fd => (fd, evE f fd)
theorem intE_len (f : Int → Option IxA) (ks : List Int) : (intE f ks).length = ks.length := List.length_map _
theorem intE_succ (f : Int → Option IxA) {ks : List Int} {i : Nat} (h : i < ks.length) : intE f (ks.take (i + 1)) = intE f (ks.take i) ++ [(ks[i], evE f ks[i])] := by
 unfold intE; rw [List.take_add_one, List.getElem?_eq_getElem h, List.map_append]; rfl
theorem inter_ct (L : List SP) (pb wb mb : Nat) (limit : Int) (f : Int → Option IxA) (m : Nat) (hm : m ≤ 1000000) (w : WA) : Ct Tryz.prog 22 #[.pointer (some ⟨pb, 0, none⟩)] (EpH pb wb mb limit :: mp mb .i64 (fmap f) m :: WorldP wb w :: L) (fun q_ : Option Addr × Nat × List Int => .slice q_.1 q_.2.2.length q_.2.1) (fun q_ : Option Addr × Nat × List Int => pu (AllE f m w q_.2.2) :: own 51 2 q_.1 q_.2.2.length q_.2.1 ((intE f q_.2.2).flatMap encPo) :: EpH pb wb mb limit :: mp mb .i64 (fmap f) m :: WorldP wb w :: L) := by
 refine Ct.o1 Tryz.func22 ?_; intro E
 show Hd E 29 _ _ _ _
 refine sr fun _ K1 => ?_
 refine yv y_as <| fk [(0,_)] K1 ?_; refine Hd.seq fun _ K2 => ?_
 refine sr fun _ K3 => ?_
 refine yv y_mv <| callE rfl fk70 (enone_ct _ pb wb mb limit) sq ?_; intro _; refine fk [(0,_),(7,_)] K3 ?_; refine Hd.condF rfl ?_; refine qv K2 <| sr fun _ K4 => ?_
 refine yv y_as <| fk [(0,_),(3,_)] K4 ?_; refine Hd.seq fun _ K5 => ?_
 refine sr fun _ K6 => ?_
 refine yv y_mv <| callE rfl fk73 (all_ct _ pb wb mb limit f m hm w) sq ?_; rintro ⟨ka, kc, ks⟩; dsimp only; refine Hd.pure (fun hA => ?_); refine yv (y_len Tryz.underlying44 rfl) ?_; refine yv y_mv <| fk [(0,_),(3,_),(9,_),(10,_),(11,_)] K6 ?_; refine Hd.block <| Hd.loopK (ι := Nat × Option Addr × Nat) [(0,_),(9,_),(10,_)] (fun q_ => [(3, .slice q_.2.1 q_.1 q_.2.2), (11, .int .i64 (q_.1 : Int))]) (fun q_ => pu (q_.1 ≤ ks.length) :: own 51 2 q_.2.1 q_.1 q_.2.2 ((intE f (ks.take q_.1)).flatMap encPo) :: own 3 1 ka ks.length kc (vi ks) :: EpH pb wb mb limit :: mp mb .i64 (fmap f) m :: WorldP wb w :: L) (fun q_ => ks.length - q_.1) (0, none, 0) sbq sbq (fun q t => Ent.sep (.pure (Nat.zero_le _) (.ownNil .same)) q t) ?_; rintro ⟨i, ad, c⟩
 try dsimp only
 refine Hd.pure (fun hp0 => ?_)
 try dsimp only at hp0
 refine sr fun _ K7 => ?_
 refine yv (y_lss rfl rfl) ?_; refine fk [(0,_),(3,_),(9,_),(10,_),(11,_),(12,_)] K7 ?_; refine Hd.seq fun _ K8 => ?_
 refine qz ?_ ?_ <;> intro hc1 <;> try simp only [hyZ] at hc1
 ·have hi : i < ks.length := by omega
  have hgi := vi_at hi
  have hkl := hA.len
  have hsc := intE_succ f hi
  refine qv K8 <| Hd.seq fun _ K9 => ?_
  refine Hd.block <| sr fun _ K10 => ?_
  refine yv (y_idxR Tryz.underlying44 sz3 rfl rfl (by omega) (by exact RdS.own pkk)) ?_; refine yv (y_loadR1 ag3 rfl (RdS.own (ad := ka) (us := vi ks) pkk) hgi) ?_; refine yv y_as <| fk [(0,_),(3,_),(5,_),(9,_),(10,_),(11,_)] K10 ?_; refine Hd.region <| yv y_mv <| yv y_mv <| yv y_mv <| yv y_np <| yv (y_f 2 143 Tryz.underlying145 sz143) <| yv (y_l1 ag143 rfl) <| yv y_mv <| yv (y_to (v' := .agg (encIx ((f ks[i]).getD zIx)).toArray) (y_lookup mapt143 rfl rfl pkk) (by exact fmap_get f ks[i])) ?_; refine yv (y_fieldv1 (q := 1) (ft := 3) (cs := encIx ((f ks[i]).getD zIx)) (v := .int .i64 (evE f ks[i])) Tryz.underlying148 rfl ag3 rfl rfl) ?_; refine yv (y_build (vs := [(0,_),(1,_)]) rfl (by exact bd22_24 ..)) ?_; refine Hd.bslice (vs := [(0,_)]) rfl (by exact bs22_25 ..) (fun b25 => ?_); refine Hd.append Tryz.underlying47 ty51 rfl rfl rfl pkk (by exact RdS.rd (Rd.pt pkk (fun j v e => by simpa using e)) rfl) (by simp [Value.oneCell']; done) (by simp only [maxLen]; omega) (by omega) (fun ad26 cap26 => ?_)
  refine yv y_as <| Hd.nil <| slots [(0,_),(3,_),(9,_),(10,_),(11,_)] sbq ?_; refine Hd.inB <| Hd.toK K9 ?_; refine Hd.region <| yv (y_addn rfl rfl (by simp only [InK]; omega)) ?_; refine yv y_mv <| Hd.nil <| slots [(0,_),(3,_),(9,_),(10,_),(11,_)] sbq ?_; refine thenN <| Hd.again (i + 1, ad26, cap26) (by show ks.length - (i + 1) < ks.length - i; omega) sbq (fun q t => ?_); exact Ent.sep (.pure (show i + 1 ≤ ks.length by omega) (.eq pkk (own_eq3 rfl rfl (by simp only [hsc, List.flatMap_append]; rfl)) enn)) q t
 obtain rfl : i = ks.length := by omega
 rw [List.take_length]; refine Hd.exit <| Hd.thenExit <| Hd.thenExit <| Hd.inBexit <| Hd.toK K5 ?_; refine sr fun _ K11 => ?_
 refine yv y_mv <| yv y_as <| fk [(2,_)] K11 ?_; refine Hd.ret ?_; exact Hd.ret1 rfl (ad, c, ks) rfl (Ent.sep (.pure hA enn))
def rs1 (x : IxA) (r : RdyA) : Int := if r.r > x.reads then bits .or .i64 x.armed 1 else x.armed
def rsE (x : IxA) (r : RdyA) : Int := if r.w > x.writes then bits .or .i64 (rs1 x r) 4 else rs1 x r
theorem risen_ct (L : List SP) (x : IxA) (r : RdyA) : Ct Tryz.prog 74 #[.agg (encIx x).toArray, .agg (encR r).toArray] (L) (fun _ : Unit => .int .i64 (rsE x r)) (fun _ : Unit => L) := by
 refine Ct.o2 Tryz.func74 ?_; intro E
 show Hd E 23 _ _ _ _
 refine sr fun _ K1 => ?_
 refine Hd.box rfl rfl (fun b2 => ?_); refine Hd.box rfl rfl (fun b3 => ?_); refine yv y_as <| fk [(2,_),(3,_)] K1 ?_; refine sr fun _ K2 => ?_
 refine yv (y_f 2 3 Tryz.underlying148 sz3) <| yv (y_l1 ag3 rfl) <| yv y_as <| fk [(2,_),(3,_),(5,_)] K2 ?_; refine Hd.seq fun _ K3 => ?_
 refine sr fun _ K4 => ?_
 refine yv (y_f 5 30 Tryz.underlying105 sz30) <| yv (y_l1 ag30 rfl) <| yv (y_f 3 30 Tryz.underlying148 sz30) <| yv (y_l1 ag30 rfl) <| yv (y_gtr rfl rfl) ?_; refine fk [(2,_),(3,_),(5,_),(12,_)] K4 ?_; refine qz ?_ ?_ <;> intro hc0 <;> try simp only [hyZ] at hc0
 ·refine Hd.region ?_
  refine yv y_mv <| yv (y_or rfl rfl) ?_; refine yv y_as <| fk [(2,_),(3,_),(5,_)] K3 ?_; refine Hd.seq fun _ K5 => ?_
  refine sr fun _ K6 => ?_
  refine yv (y_f 6 30 Tryz.underlying105 sz30) <| yv (y_l1 ag30 rfl) <| yv (y_f 4 30 Tryz.underlying148 sz30) <| yv (y_l1 ag30 rfl) <| yv (y_gtr rfl rfl) ?_; refine fk [(5,_),(19,_)] K6 ?_; refine qz ?_ ?_ <;> intro hc1 <;> try simp only [hyZ] at hc1
  ·refine Hd.region ?_
   refine yv y_mv <| yv (y_or rfl rfl) ?_; refine yv y_as <| fk [(5,_)] K5 ?_; refine sr fun _ K7 => ?_
   refine yv y_mv <| yv y_as <| fk [(4,_)] K7 ?_; refine Hd.ret ?_
   rw [show rsE x r = bits .or .i64 (bits .or .i64 x.armed 1) 4 by
    have e1 : rs1 x r = bits .or .i64 x.armed 1 := if_pos (by omega)
    unfold rsE; rw [if_pos (by omega), e1]]
   exact Hd.ret1 rfl () rfl sq
  refine qv K5 <| sr fun _ K8 => ?_
  refine yv y_mv <| yv y_as <| fk [(4,_)] K8 ?_; refine Hd.ret ?_
  rw [show rsE x r = bits .or .i64 x.armed 1 by
   have e1 : rs1 x r = bits .or .i64 x.armed 1 := if_pos (by omega)
   unfold rsE; rw [if_neg (by omega), e1]]
  exact Hd.ret1 rfl () rfl sq
 refine qv K3 <| Hd.seq fun _ K9 => ?_
 refine sr fun _ K10 => ?_
 refine yv (y_f 6 30 Tryz.underlying105 sz30) <| yv (y_l1 ag30 rfl) <| yv (y_f 4 30 Tryz.underlying148 sz30) <| yv (y_l1 ag30 rfl) <| yv (y_gtr rfl rfl) ?_; refine fk [(5,_),(19,_)] K10 ?_; refine qz ?_ ?_ <;> intro hc1 <;> try simp only [hyZ] at hc1
 ·refine Hd.region ?_
  refine yv y_mv <| yv (y_or rfl rfl) ?_; refine yv y_as <| fk [(5,_)] K9 ?_; refine sr fun _ K11 => ?_
  refine yv y_mv <| yv y_as <| fk [(4,_)] K11 ?_; refine Hd.ret ?_
  rw [show rsE x r = bits .or .i64 (x.armed) 4 by
   have e1 : rs1 x r = x.armed := if_neg (by omega)
   unfold rsE; rw [if_pos (by omega), e1]]
  exact Hd.ret1 rfl () rfl sq
 refine qv K9 <| sr fun _ K12 => ?_
 refine yv y_mv <| yv y_as <| fk [(4,_)] K12 ?_; refine Hd.ret ?_
 rw [show rsE x r = x.armed by
  have e1 : rs1 x r = x.armed := if_neg (by omega)
  unfold rsE; rw [if_neg (by omega), e1]]
 exact Hd.ret1 rfl () rfl sq
end Ep
end Go.Proofs.YtbfddabjbkohdaaGreat
namespace Go.Proofs.YtbfddabjbkohdaaGreat
open Go.RX Fx
namespace Wo
theorem Hd.wok {E : World} {n : Nat} {ds : List Deferred} {st : List (Nat × Value)} {L L' : List SP} {K : Act → World → Prop} {wb : Nat} {w : WA} (p : Pick L (WorldP wb w) L') (h : WOk w → Hd E n ds st L K) : Hd E n ds st L K := fun a v f s => by
 refine h ?_ a v f s
 obtain ⟨h1, s1, i, x⟩ := sep.one p s.2.2.2
 obtain ⟨_, _, _, _, _, hq, _⟩ := x
 exact hq.1
end Wo
namespace Ep
open Wo
theorem sorted_ext : ∀ {a b : List Int}, a.Pairwise (· < ·) → b.Pairwise (· < ·) → (∀ x, x ∈ a ↔ x ∈ b) → a = b
 | [], [], _, _, _ => rfl
 | [], y :: b, _, _, h => absurd ((h y).2 List.mem_cons_self) (by simp)
 | x :: a, [], _, _, h => absurd ((h x).1 List.mem_cons_self) (by simp)
 | x :: a, y :: b, ha, hb, h => by
  rw [List.pairwise_cons] at ha hb
  have hxy : x = y := by
   rcases List.mem_cons.1 ((h x).1 List.mem_cons_self) with e | e
   ·exact e
   ·rcases List.mem_cons.1 ((h y).2 List.mem_cons_self) with e2 | e2
    ·exact e2.symm
    ·have h1 := hb.1 x e
     have h2 := ha.1 y e2
     omega
  subst hxy
  congr 1
  refine sorted_ext ha.2 hb.2 fun z => ?_
  have := h z
  simp only [List.mem_cons] at this
  constructor
  ·intro hz
   rcases this.1 (.inr hz) with rfl | e
   ·have := ha.1 z hz; omega
   ·exact e
  ·intro hz
   rcases this.2 (.inr hz) with rfl | e
   ·have := hb.1 z hz; omega
   ·exact e
def allL (f : Int → Option IxA) (w : WA) : List Int := ((List.range 96).filter fun n : Nat => qE f w (n : Int)).map fun n : Nat => (n : Int)
theorem findE_at {f : Int → Option IxA} {w : WA} {a : Int} (h : qE f w a = true) : ∃ x n k, f a = some x ∧ w.at a = some (n, k) ∧ x.wire = (n : Int) ∧ findE f w a = some x := by
 unfold qE at h
 have h1 := h
 unfold findE at h1
 cases hf : f a with
 | none => rw [hf] at h1; simp at h1
 | some x =>
  rw [hf] at h1; dsimp only at h1
  split at h1
  ·rename_i hc
   cases ha : w.at a with
   | none => rw [ha] at hc; simp at hc
   | some p =>
    obtain ⟨n, k⟩ := p
    rw [ha] at hc; refine ⟨x, n, k, rfl, rfl, hc.2.symm, ?_⟩; unfold findE; rw [hf]; exact if_pos (by rw [ha]; exact hc)
  ·simp at h1
theorem mem_allL {f : Int → Option IxA} {w : WA} (hw : WOk w) {a : Int} : a ∈ allL f w ↔ qE f w a = true := by
 unfold allL; rw [List.mem_map]
 constructor
 ·rintro ⟨n, hn, rfl⟩
  exact (List.mem_filter.1 hn).2
 ·intro h
  obtain ⟨x, n, k, _, ha, _, _⟩ := findE_at h
  have := hw.at_lt ha
  have e : ((a.toNat : Nat) : Int) = a := by omega
  exact ⟨a.toNat, List.mem_filter.2 ⟨List.mem_range.2 (by omega), by rw [e]; exact h⟩, e⟩
theorem allL_srt (f : Int → Option IxA) (w : WA) : (allL f w).Pairwise (· < ·) := by
 unfold allL; rw [List.pairwise_map]; exact (List.pairwise_lt_range.filter _).imp fun {a b} h => by omega
theorem AllE.eq {f : Int → Option IxA} {m : Nat} {w : WA} {ks : List Int} (hw : WOk w) (h : AllE f m w ks) : ks = allL f w :=
 sorted_ext h.srt (allL_srt f w) fun a => by rw [h.mem, mem_allL hw]
theorem allL_len (f : Int → Option IxA) (w : WA) : (allL f w).length ≤ 96 := by
 unfold allL; rw [List.length_map]
 have := List.length_filter_le (fun n : Nat => qE f w (n : Int)) (List.range 96)
 rwa [List.length_range] at this
abbrev EpB (pb wb mb : Nat) (limit : Int) (f : Int → Option IxA) (m : Nat) (w : WA) (L : List SP) : List SP := EpH pb wb mb limit :: mp mb .i64 (fmap f) m :: WorldP wb w :: L
end Ep
end Go.Proofs.YtbfddabjbkohdaaGreat
namespace Go.Proofs.YtbfddabjbkohdaaGreat
open Go.RX Fx
namespace Ep
open Wo
def updF (f : Int → Option IxA) (fd : Int) (o : Option IxA) : Int → Option IxA := fun a => if a = fd then o else f a
theorem fmap_upd (f : Int → Option IxA) (fd : Int) (x : IxA) : fmap (updF f fd (some x)) = fun c => if c = fd then some (.agg (encIx x).toArray) else fmap f c := by
 funext c
 unfold fmap updF
 by_cases h : c = fd
 ·rw [if_pos h, if_pos h]; rfl
 ·rw [if_neg h, if_neg h]
theorem fmap_del (f : Int → Option IxA) (fd : Int) : fmap (updF f fd none) = fun c => if c = fd then none else fmap f c := by
 funext c
 unfold fmap updF
 by_cases h : c = fd
 ·rw [if_pos h, if_pos h]; rfl
 ·rw [if_neg h, if_neg h]
theorem mp_eq {b : Nat} {f f' : Int → Option Value} {m m' : Nat} (h : f = f') (hm : m = m') : mp b .i64 f m = mp b .i64 f' m' := by rw [h, hm]
def addX (w : WA) (fd ev : Int) : IxA := ⟨wireN (w.at fd), ev, bits .and .i64 ev 5, (readyR w fd).r, (readyR w fd).w⟩
def armE (x : IxA) (r : RdyA) (ev : Int) : Int := if bits .and .i64 x.events 32 = 0 then 5 else bits .or .i64 (rsE x r) (bits .andNot .i64 (bits .and .i64 ev 5) x.events)
def modX (x : IxA) (w : WA) (fd ev : Int) : IxA := ⟨wireN (w.at fd), ev, bits .and .i64 (armE x (readyR w fd) ev) ev, (readyR w fd).r, (readyR w fd).w⟩
def ctlR (limit : Int) (f : Int → Option IxA) (w : WA) (op fd ev : Int) : Int × (Int → Option IxA) :=
 if (op < 1 ∨ 3 < op) ∨ (op ≠ 3 ∧ bits .andNot .i64 ev 37 ≠ 0) then (2, f)
 else if w.at fd = none then (110, f)
 else if op = 1 ∧ qE f w fd = true then (150, f)
 else if op = 1 ∧ limit ≤ ((allL f w).length : Int) then (152, f)
 else if op = 1 then (0, updF f fd (some (addX w fd ev)))
 else if qE f w fd = false then (151, f)
 else if op = 3 then (0, updF f fd none)
 else (0, updF f fd (some (modX ((findE f w fd).getD zIx) w fd ev)))
theorem fdErr_no {o : Option (Nat × Nat)} : fdErr o ≠ 0 ↔ o = none := by cases o <;> simp [fdErr]
theorem ctl_ct (L : List SP) (pb wb mb : Nat) (limit : Int) (f : Int → Option IxA) (m : Nat) (hm : m ≤ 1000000) (w : WA) (op fd ev : Int) : Ct Tryz.prog 19 #[.pointer (some ⟨pb, 0, none⟩), .int .i64 op, .int .i64 fd, .int .i64 ev] (EpB pb wb mb limit f m w L) (fun m' : Nat => .int .i64 (ctlR limit f w op fd ev).1) (fun m' : Nat => pu (m' ≤ m + 1) :: EpB pb wb mb limit (ctlR limit f w op fd ev).2 m' w L) := by
 refine Ct.o4 Tryz.func19 ?_; intro E
 show Hd E 132 _ _ _ _
 refine Hd.wok pkk (fun hw => ?_); refine sr fun _ K1 => ?_
 refine yv y_as <| fk [(0,_),(1,_),(2,_),(3,_)] K1 ?_; refine Hd.seq fun _ K2 => ?_
 refine Hd.block <| sr fun _ K3 => ?_
 refine yv y_mv <| callE rfl fk70 (enone_ct _ pb wb mb limit) sq ?_; intro _; refine yv y_as <| fk [(0,_),(1,_),(2,_),(3,_),(15,_)] K3 ?_; refine Hd.condF rfl ?_; refine sr fun _ K4 => ?_
 refine yv y_mv <| yv (y_lss rfl rfl) ?_; refine yv y_mv ?_; apply Hd.org 3 21 24 [(0,_),(1,_),(2,_),(3,_)] rfl sbq
 ·intro hg3_21
  try simp only [hyZ] at hg3_21
  simp only [List.take]; refine n1 <| n1 <| yv (y_pickT rfl rfl) ?_; exact Hd.mn
 ·intro hg3_21
  try simp only [hyZ] at hg3_21
  simp only [List.take]; refine y2 y_mv <| y2 (y_gtr rfl rfl) ?_; refine yv (y_pickF rfl rfl) ?_; exact Hd.mn
 simp only [List.drop]; refine yv y_mv ?_; apply Hd.org (q := (decide (op ≠ 3) && decide (bits .andNot .i64 ev 37 ≠ 0))) 8 25 33 [(0,_),(1,_),(2,_),(3,_)] rfl sbq
 ·intro hg3_25
  try simp only [hyZ] at hg3_25
  simp only [List.take]; refine n1 <| n1 <| n1 <| n1 <| n1 <| n1 <| n1 <| yv (y_pickT rfl rfl) ?_; exact Hd.mn
 ·intro hg3_25
  try simp only [hyZ] at hg3_25
  simp only [List.take]; refine y2 y_mv <| y2 (y_neq rfl rfl) ?_; refine y2 y_mv ?_; apply Hd.andg 4 28 32 [(0,_),(1,_),(2,_),(3,_),(25,_)] rfl sbq
  ·intro hg3_28
   try simp only [hyZ] at hg3_28
   simp only [List.take]; refine y2 y_mv <| y2 (y_andNot rfl rfl) ?_; refine y2 (y_neq rfl rfl) ?_; refine y2 (y_pickT rfl rfl) ?_; exact Hd.mn
  ·intro hg3_28
   try simp only [hyZ] at hg3_28
   simp only [List.take]; refine n1 <| n1 <| n1 <| y2 (y_pickF rfl rfl) ?_; exact Hd.mn
  simp only [List.drop]; refine yv (y_pickF rfl rfl) ?_; exact Hd.mn
 simp only [List.drop]; refine yv y_as <| fk [(0,_),(1,_),(2,_),(3,_),(18,_)] K4 ?_; refine qz ?_ ?_ <;> intro hc1 <;> try simp only [hyZ] at hc1
 ·have h1 : (op < 1 ∨ 3 < op) ∨ (op ≠ 3 ∧ bits .andNot .i64 ev 37 ≠ 0) := by simpa using hc1
  refine sr fun _ K5 => ?_
  refine yv y_as <| fk [(8,_)] K5 ?_; refine Hd.ret <| Hd.inBret <| Hd.thenRet ?_; rw [show ctlR limit f w op fd ev = (2, f) from if_pos h1]; exact Hd.ret1 rfl m rfl (Ent.sep (.pure (by omega) enn))
 have h1 : ¬ ((op < 1 ∨ 3 < op) ∨ (op ≠ 3 ∧ bits .andNot .i64 ev 37 ≠ 0)) := by
  rintro (h | h)
  ·omega
  ·rcases hc1.2 with h2 | h2
   ·exact h.1 h2
   ·exact h.2 h2
 refine Hd.skip <| Hd.inB <| Hd.toK K2 ?_; refine sr fun _ K6 => ?_
 refine yv y_mv <| yv y_np <| yv (y_f 0 38 Tryz.underlying145 sz38) <| yv (y_l1 ag38 rfl) <| yv y_mv <| callE rfl fk71 (wwire_ct _ wb w fd) sq ?_; intro _; refine yv y_mv <| yv y_ex <| yv y_ex <| yv (y_to (v' := .int .i64 (wireN (w.at fd))) y_as (by rfl)) ?_; refine yv (y_to (v' := .int .i64 (fdErr (w.at fd))) y_as (by rfl)) ?_; refine fk [(0,_),(1,_),(2,_),(3,_),(9,_),(10,_)] K6 ?_; refine Hd.seq fun _ K7 => ?_
 refine sr fun _ K8 => ?_
 refine yv y_mv <| yv (y_neq rfl rfl) ?_; refine fk [(0,_),(1,_),(2,_),(3,_),(9,_),(44,_)] K8 ?_; refine qz ?_ ?_ <;> intro hc2 <;> try simp only [hyZ] at hc2
 ·have h2 : w.at fd = none := fdErr_no.1 hc2
  refine sr fun _ K9 => ?_
  refine yv y_as <| fk [(8,_)] K9 ?_; refine Hd.ret <| Hd.thenRet ?_; rw [show ctlR limit f w op fd ev = (110, f) by unfold ctlR; rw [if_neg h1, if_pos h2]]; exact Hd.ret1 rfl m rfl (Ent.sep (.pure (by omega) enn))
 have h2 : ¬ (w.at fd = none) := fun h => absurd hc2 (fdErr_no.2 h)
 refine qv K7 <| sr fun _ K10 => ?_
 refine yv y_mv <| yv y_mv <| callE rfl fk72 (efind_ct _ pb wb mb limit f m w fd) sq ?_; intro _; refine yv y_mv <| yv y_ex <| yv y_ex <| Hd.alloc zr148 (fun b11 => ?_); refine Hd.storeA (us := encIx ((findE f w fd).getD zIx)) sz148 rfl rfl rfl (by simp [Value.oneCell']) pkk (by exact rfl) ?_; refine yv (y_to (v' := .bool (qE f w fd)) y_as (by rfl)) ?_; refine fk [(0,_),(1,_),(2,_),(3,_),(9,_),(11,_),(12,_)] K10 ?_; refine sr fun _ K11 => ?_
 refine yv y_mv <| yv y_np <| yv (y_f 0 38 Tryz.underlying145 sz38) <| yv (y_l1 ag38 rfl) <| yv y_mv <| callE rfl fk43 (wready_ct _ wb w fd) sq ?_; intro _; refine Hd.alloc zr105 (fun b13 => ?_); refine Hd.storeA (us := encR (readyR w fd)) sz105 rfl rfl rfl (by simp [Value.oneCell']) pkk (by exact rfl) ?_; refine fk [(0,_),(1,_),(2,_),(3,_),(9,_),(11,_),(12,_),(13,_)] K11 ?_; refine Hd.seq fun _ K12 => ?_
 refine Hd.block <| sr fun _ K13 => ?_
 refine yv y_mv <| yv (y_eql rfl rfl) ?_; refine yv y_mv ?_; apply Hd.andg 2 60 62 [(0,_),(1,_),(2,_),(3,_),(9,_),(11,_),(12,_),(13,_)] rfl sbq
 ·intro hg10_60
  try simp only [hyZ] at hg10_60
  simp only [List.take]; refine y2 y_mv <| yv (y_pickT rfl rfl) ?_; exact Hd.mn
 ·intro hg10_60
  try simp only [hyZ] at hg10_60
  simp only [List.take]; refine n1 <| yv (y_pickF rfl rfl) ?_; exact Hd.mn
 simp only [List.drop]; refine yv (y_to (v' := .bool (decide (op = 1) && qE f w fd)) y_as (by rfl)) ?_; refine fk [(0,_),(1,_),(2,_),(3,_),(9,_),(11,_),(12,_),(13,_),(57,_)] K13 ?_; refine qz ?_ ?_ <;> intro hc3 <;> try simp only [hyZ] at hc3
 ·refine sr fun _ K14 => ?_
  refine yv y_as <| fk [(8,_)] K14 ?_; refine Hd.ret <| Hd.inBret <| Hd.thenRet ?_; rw [show ctlR limit f w op fd ev = (150, f) by unfold ctlR; rw [if_neg h1, if_neg h2, if_pos hc3]]; exact Hd.ret1 rfl m rfl (Ent.sep (.pure (by omega) enn))
 have h3 : ¬ (op = 1 ∧ qE f w fd = true) := fun h => by
  rcases hc3 with h4 | h4
  ·exact h4 h.1
  ·rw [h.2] at h4; cases h4
 refine Hd.seq fun _ K15 => ?_
 refine Hd.drawsH ([EpH pb wb mb limit]) (fun _ => true) mixed ?_; simp only [List.length, Nat.zero_add, Nat.reduceAdd]; refine tH 0 rfl y_mv <| tH 1 rfl (y_eql rfl rfl) ?_; refine tH 2 rfl y_mv <| Hd.part (gd := 66) rfl (fun hg12_66 => ?_) (fun hg12_66 => ?_)
 ·try simp only [hyZ] at hg12_66
  have ho : op = 1 := hg12_66
  refine Hd.takegH 3 rfl kq kq kq kq rfl rfl y_mv fq sq ?_; refine Hd.takegH 6 rfl kq kq kq kq rfl rfl y_mv fq sq ?_; refine Hd.takegH 7 rfl kq kq kq kq rfl rfl y_np fq sq ?_; refine Hd.takegH 8 rfl kq kq kq kq rfl rfl (y_f 1 3 Tryz.underlying145 sz3) fq sq ?_; refine Hd.takegH 9 rfl kq kq kq kq rfl rfl (y_l1 ag3 rfl) fq sq ?_; refine qo 4 ?_; refine Hd.unguard rfl rfl ?_; refine callE rfl fk73 (all_ct _ pb wb mb limit f m hm w) sq ?_; rintro ⟨ka, kc, ks⟩; dsimp only; refine Hd.pure (fun hA => ?_)
  obtain rfl := hA.eq hw
  clear hA; refine qk <| Hd.takegH 5 rfl kq kq kq kq rfl rfl (y_len Tryz.underlying44 rfl) fq sq ?_; refine Hd.takegH 10 rfl kq kq kq kq rfl rfl (y_geq rfl rfl) fq sq ?_; refine tH 11 rfl (y_pickT rfl rfl) ?_; refine tH 12 rfl y_as <| endH kq ?_; refine sk [(0,_),(1,_),(2,_),(3,_),(9,_),(11,_),(12,_),(13,_),(63,_)] K15 ?_; refine qz ?_ ?_ <;> intro hc4 <;> try simp only [hyZ] at hc4
  ·refine sr fun _ K16 => ?_
   refine yv y_as <| fk [(8,_)] K16 ?_; refine Hd.ret <| Hd.inBret <| Hd.thenRet ?_; rw [show ctlR limit f w op fd ev = (152, f) by unfold ctlR; rw [if_neg h1, if_neg h2, if_neg h3, if_pos ⟨ho, hc4⟩]]; exact Hd.ret1 rfl m rfl (Ent.sep (.pure (by omega) enn))
  have h4 : ¬ (op = 1 ∧ limit ≤ ((allL f w).length : Int)) := fun h => by omega
  refine sr fun _ K17 => ?_
  refine yv y_mv <| yv (y_eql rfl rfl) ?_; refine yv y_as <| fk [(0,_),(1,_),(2,_),(3,_),(9,_),(11,_),(12,_),(13,_),(76,_)] K17 ?_; refine qz ?_ ?_ <;> intro hc5 <;> try simp only [hyZ] at hc5
  ·refine Hd.seq fun _ K18 => ?_
   refine Hd.tail 14 mixed kq ?_; simp only [List.take, List.drop]; refine Ht.yv y_mv ?_; refine Ht.yv y_np ?_; refine Ht.yv (y_f 2 143 Tryz.underlying145 sz143) ?_; refine Ht.yv (y_l1 ag143 rfl) ?_; refine Ht.yv y_mv ?_; refine Ht.yv y_mv ?_; refine Ht.yv y_mv ?_; refine Ht.yv y_mv ?_; refine Ht.yv (y_and rfl rfl) ?_; refine Ht.yv (y_f 5 30 Tryz.underlying105 sz30) ?_; refine Ht.yv (y_l1 ag30 rfl) ?_; refine Ht.yv (y_f 6 30 Tryz.underlying105 sz30) ?_; refine Ht.yv (y_l1 ag30 rfl) ?_; refine Ht.yv (y_build (vs := [(0,_),(1,_),(2,_),(3,_),(4,_)]) rfl (by exact bd19_92 ..)) ?_; refine Ht.nil ?_; refine Hd.mapUpdate mapt143 rfl rfl rfl pkk ?_; refine Hd.nil ?_; rw [show (Value.agg #[.int .i64 (wireN (w.at fd)), .int .i64 ev, .int .i64 (bits .and .i64 ev 5), .int .u64 (readyR w fd).r, .int .u64 (readyR w fd).w]) = .agg (encIx (addX w fd ev)).toArray from rfl, ← fmap_upd]; refine sk [] K18 ?_; refine sr fun _ K19 => ?_
   refine yv y_as <| fk [(8,_)] K19 ?_; refine Hd.ret <| Hd.inBret <| Hd.thenRet ?_; rw [show ctlR limit f w op fd ev = (0, updF f fd (some (addX w fd ev))) by unfold ctlR; rw [if_neg h1, if_neg h2, if_neg h3, if_neg h4, if_pos ho]]; exact Hd.ret1 rfl (if (fmap f fd).isSome then m else m + 1) rfl (Ent.sep (.pure (by split <;> omega) enn))
  exact absurd ho hc5
 try simp only [hyZ] at hg12_66
 have ho : op ≠ 1 := hg12_66
 refine qt 3 ?_; refine qt 6 ?_; refine qt 7 ?_; refine qt 8 ?_; refine qt 9 ?_; refine qo 4 ?_; refine n1 <| qk <| qt 5 ?_; refine qt 10 ?_; refine tH 11 rfl (y_pickF rfl rfl) ?_; refine tH 12 rfl y_as <| endH kq ?_; refine sk [(0,_),(1,_),(2,_),(3,_),(9,_),(11,_),(12,_),(13,_),(63,_)] K15 ?_; refine qz ?_ ?_ <;> intro hc4 <;> try simp only [hyZ] at hc4
 ·exact absurd hc4 (by simp)
 have h4 : ¬ (op = 1 ∧ limit ≤ ((allL f w).length : Int)) := fun h => ho h.1
 refine sr fun _ K20 => ?_
 refine yv y_mv <| yv (y_eql rfl rfl) ?_; refine yv y_as <| fk [(0,_),(1,_),(2,_),(3,_),(9,_),(11,_),(12,_),(13,_),(76,_)] K20 ?_; refine qz ?_ ?_ <;> intro hc5 <;> try simp only [hyZ] at hc5
 ·exact absurd hc5 ho
 refine sr fun _ K21 => ?_
 refine yv y_mv <| yv (y_not rfl) <| yv y_as <| fk [(0,_),(1,_),(2,_),(3,_),(9,_),(11,_),(13,_),(93,_)] K21 ?_; refine qz ?_ ?_ <;> intro hc6 <;> try simp only [hyZ] at hc6
 ·refine sr fun _ K22 => ?_
  refine yv y_as <| fk [(8,_)] K22 ?_; refine Hd.ret <| Hd.inBret <| Hd.thenRet ?_; rw [show ctlR limit f w op fd ev = (151, f) by unfold ctlR; rw [if_neg h1, if_neg h2, if_neg h3, if_neg h4, if_neg ho, if_pos hc6]]; exact Hd.ret1 rfl m rfl (Ent.sep (.pure (by omega) enn))
 have h6 : ¬ (qE f w fd = false) := fun h => by rw [h] at hc6; cases hc6
 refine sr fun _ K23 => ?_
 refine yv y_mv <| yv (y_eql rfl rfl) ?_; refine yv y_as <| fk [(0,_),(2,_),(3,_),(9,_),(11,_),(13,_),(96,_)] K23 ?_; refine qz ?_ ?_ <;> intro hc7 <;> try simp only [hyZ] at hc7
 ·refine sr fun _ K24 => ?_
  refine yv y_mv <| yv y_np <| yv (y_f 2 143 Tryz.underlying145 sz143) <| yv (y_l1 ag143 rfl) <| yv y_mv <| Hd.mapDelete0 mapt143 rfl rfl pkk ?_; refine Hd.nil ?_; rw [← fmap_del]; refine sk [] K24 ?_; refine sr fun _ K25 => ?_
  refine yv y_as <| fk [(8,_)] K25 ?_; refine Hd.ret <| Hd.inBret <| Hd.thenRet ?_; rw [show ctlR limit f w op fd ev = (0, updF f fd none) by unfold ctlR; rw [if_neg h1, if_neg h2, if_neg h3, if_neg h4, if_neg ho, if_neg h6, if_pos hc7]]; exact Hd.ret1 rfl (if (fmap f fd).isSome then m - 1 else m) rfl (Ent.sep (.pure (by split <;> omega) enn))
 refine Hd.skip <| Hd.inB <| Hd.toK K12 ?_; refine Hd.seq fun _ K26 => ?_
 refine Hd.quiet mixed kq ?_; refine Hq.yv (y_loadn (us := [_, _, _, _, _]) ag148 rfl (Rd.pt pkk (by (first | (intro j v e; rcases j with _|_|_|_|_|_|_|_|_|_|_|_|j <;> first | exact e | exact absurd e (by simp))))) (by exact sz148)) ?_; refine Hq.yv (y_loadn (us := [_, _, _, _, _, _, _]) ag105 rfl (Rd.pt pkk (by (first | (intro j v e; rcases j with _|_|_|_|_|_|_|_|_|_|_|_|j <;> first | exact e | exact absurd e (by simp))))) (by exact sz105)) ?_; refine Hq.call rfl fk74 (risen_ct _ ((findE f w fd).getD zIx) (readyR w fd)) ?_; refine Hq.yv y_mv ?_; refine Hq.yv (y_and rfl rfl) ?_; refine Hq.yv (y_f 1 3 Tryz.underlying148 sz3) ?_; refine Hq.yv (y_l1 ag3 rfl) ?_; refine Hq.yv (y_andNot rfl rfl) ?_; refine Hq.yv (y_or rfl rfl) ?_; refine Hq.yv y_as ?_; refine Hq.nil ?_; refine sk [(0,_),(2,_),(3,_),(9,_),(11,_),(13,_),(14,_)] K26 ?_; refine Hd.seq fun _ K27 => ?_
 refine sr fun _ K28 => ?_
 refine yv (y_f 1 3 Tryz.underlying148 sz3) <| yv (y_l1 ag3 rfl) <| yv (y_and rfl rfl) ?_; refine yv (y_eql rfl rfl) ?_; refine fk [(0,_),(2,_),(3,_),(9,_),(13,_),(14,_),(116,_)] K28 ?_; refine qz ?_ ?_ <;> intro hc8 <;> try simp only [hyZ] at hc8
 ·refine Hd.region ?_
  refine yv y_as <| fk [(0,_),(2,_),(3,_),(9,_),(13,_),(14,_)] K27 ?_; refine Hd.seq fun _ K29 => ?_
  refine Hd.tail 15 mixed kq ?_; simp only [List.take, List.drop]; refine Ht.yv y_mv ?_; refine Ht.yv y_np ?_; refine Ht.yv (y_f 2 143 Tryz.underlying145 sz143) ?_; refine Ht.yv (y_l1 ag143 rfl) ?_; refine Ht.yv y_mv ?_; refine Ht.yv y_mv ?_; refine Ht.yv y_mv ?_; refine Ht.yv y_mv ?_; refine Ht.yv y_mv ?_; refine Ht.yv (y_and rfl rfl) ?_; refine Ht.yv (y_f 5 30 Tryz.underlying105 sz30) ?_; refine Ht.yv (y_l1 ag30 rfl) ?_; refine Ht.yv (y_f 6 30 Tryz.underlying105 sz30) ?_; refine Ht.yv (y_l1 ag30 rfl) ?_; refine Ht.yv (y_build (vs := [(0,_),(1,_),(2,_),(3,_),(4,_)]) rfl (by exact bd19_131 ..)) ?_; refine Ht.nil ?_; refine Hd.mapUpdate mapt143 rfl rfl rfl pkk ?_; refine fk [] K29 ?_; refine sr fun _ K30 => ?_
  refine yv y_as <| fk [(8,_)] K30 ?_; refine Hd.ret ?_; rw [show ctlR limit f w op fd ev = (0, updF f fd (some (modX ((findE f w fd).getD zIx) w fd ev))) by unfold ctlR; rw [if_neg h1, if_neg h2, if_neg h3, if_neg h4, if_neg ho, if_neg h6, if_neg hc7]]; exact Hd.ret1 rfl (if (fmap f fd).isSome then m else m + 1) rfl (Ent.sep (.pure (by split <;> omega) (.pick pkk (.eq pkk (mp_eq (by rw [fmap_upd]; unfold modX armE; rw [if_pos hc8]) rfl) enn))))
 refine qv K27 <| Hd.seq fun _ K31 => ?_
 refine Hd.tail 15 mixed kq ?_; simp only [List.take, List.drop]; refine Ht.yv y_mv ?_; refine Ht.yv y_np ?_; refine Ht.yv (y_f 2 143 Tryz.underlying145 sz143) ?_; refine Ht.yv (y_l1 ag143 rfl) ?_; refine Ht.yv y_mv ?_; refine Ht.yv y_mv ?_; refine Ht.yv y_mv ?_; refine Ht.yv y_mv ?_; refine Ht.yv y_mv ?_; refine Ht.yv (y_and rfl rfl) ?_; refine Ht.yv (y_f 5 30 Tryz.underlying105 sz30) ?_; refine Ht.yv (y_l1 ag30 rfl) ?_; refine Ht.yv (y_f 6 30 Tryz.underlying105 sz30) ?_; refine Ht.yv (y_l1 ag30 rfl) ?_; refine Ht.yv (y_build (vs := [(0,_),(1,_),(2,_),(3,_),(4,_)]) rfl (by exact bd19_131 ..)) ?_; refine Ht.nil ?_; refine Hd.mapUpdate mapt143 rfl rfl rfl pkk ?_; refine fk [] K31 ?_; refine sr fun _ K32 => ?_
 refine yv y_as <| fk [(8,_)] K32 ?_; refine Hd.ret ?_; rw [show ctlR limit f w op fd ev = (0, updF f fd (some (modX ((findE f w fd).getD zIx) w fd ev))) by unfold ctlR; rw [if_neg h1, if_neg h2, if_neg h3, if_neg h4, if_neg ho, if_neg h6, if_neg hc7]]; exact Hd.ret1 rfl (if (fmap f fd).isSome then m else m + 1) rfl (Ent.sep (.pure (by split <;> omega) (.pick pkk (.eq pkk (mp_eq (by rw [fmap_upd]; unfold modX armE; rw [if_neg hc8]) rfl) enn))))
end Ep
end Go.Proofs.YtbfddabjbkohdaaGreat
namespace Go.Proofs.YtbfddabjbkohdaaGreat
open Go.RX Fx
namespace Kq
open Wo
theorem updK_eq (f : Ky → Option KnA) (a : Ky) (o : Option KnA) : updK f a o a = o := if_pos rfl
theorem updK_ne {f : Ky → Option KnA} {a b : Ky} {o : Option KnA} (h : b ≠ a) : updK f a o b = f b := if_neg h
end Kq
end Go.Proofs.YtbfddabjbkohdaaGreat
