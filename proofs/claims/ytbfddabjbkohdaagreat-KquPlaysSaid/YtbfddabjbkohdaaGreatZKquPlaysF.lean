/-
  Kqueue: one change.
-/
import Derived.Shelf.SlSortCmp.NoneTotal
import Derived.Shelf.SlGeneric
import Derived.Ground.SlsfProg
import Derived.Test.YtbfddabjbkohdaaGreatProg
import Derived.Test.YtbfddabjbkohdaaGreatZKquPlaysE
set_option linter.unusedSimpArgs false
set_option linter.unusedVariables false
set_option linter.unnecessarySimpa false
set_option maxRecDepth 8000
set_option maxHeartbeats 2000000
open Go.RX.Hd (yv y2 n1 fk sk sr tH callE heldK qo qk qn qt qz qv endH thenN slots)
namespace Go.Proofs.YtbfddabjbkohdaaGreat
open Go.RX Fx
namespace Kq
open Wo
def updK (f : Int × Int → Option KnA) (k : Int × Int) (o : Option KnA) : Int × Int → Option KnA := fun a => if a = k then o else f a
theorem kmap_upd (f : Int × Int → Option KnA) (k : Int × Int) (x : KnA) : kmap (updK f k (some x)) = fun c => if c = k then some (.agg (encKn x).toArray) else kmap f c := by
 funext c
 unfold kmap updK
 by_cases h : c = k
 ·rw [if_pos h, if_pos h]; rfl
 ·rw [if_neg h, if_neg h]
theorem kmap_del (f : Int × Int → Option KnA) (k : Int × Int) : kmap (updK f k none) = fun c => if c = k then none else kmap f c := by
 funext c
 unfold kmap updK
 by_cases h : c = k
 ·rw [if_pos h, if_pos h]; rfl
 ·rw [if_neg h, if_neg h]
theorem mpP_eq {b : Nat} {f f' : Int × Int → Option Value} {m m' : Nat} (h : f = f') (hm : m = m') : mpP b .i64 f m = mpP b .i64 f' m' := by rw [h, hm]
def wireK (w : WA) (p : NoA) : Int := if p.2.1 = 3 then 0 else wireN (w.at p.1)
def newK (w : WA) (p : NoA) : KnA := ⟨wireK w p, bits .and .i64 p.2.2.1 56, true, riseK p.2.1 (readyR w p.1)⟩
abbrev oldK (f : Int × Int → Option KnA) (p : NoA) : KnA := (f (p.1, p.2.1)).getD zKn
def keepK (f : Int × Int → Option KnA) (w : WA) (p : NoA) : Prop := isK f w (p.1, p.2.1) = true ∧ (bits .and .i64 (oldK f p).flags 16 ≠ 0 ∨ bits .and .i64 (newK w p).flags 16 = 0)
instance (f : Int × Int → Option KnA) (w : WA) (p : NoA) : Decidable (keepK f w p) := by unfold keepK; infer_instance
def addK (f : Int × Int → Option KnA) (w : WA) (p : NoA) : KnA := if keepK f w p then { newK w p with armed := (oldK f p).armed, seen := (oldK f p).seen } else newK w p
def modK (f : Int × Int → Option KnA) (p : NoA) : KnA := { oldK f p with flags := bits .or .i64 (bits .andNot .i64 (oldK f p).flags 8) (bits .and .i64 p.2.2.1 8) }
def chgK (f : Int × Int → Option KnA) (w : WA) (p : NoA) : Int × (Int × Int → Option KnA) :=
 if mayK p = false then (2, f)
 else if p.2.1 = 3 ∧ (p.1 < 1 ∨ 31 < p.1) then (100, f)
 else if p.2.1 ≠ 3 ∧ w.at p.1 = none then (110, f)
 else if hasF p 1 then (0, updK f (p.1, p.2.1) (some (addK f w p)))
 else if isK f w (p.1, p.2.1) = false then (151, f)
 else if hasF p 2 then (0, updK f (p.1, p.2.1) none)
 else (0, updK f (p.1, p.2.1) (some (modK f p)))
theorem fdErr_no {o : Option (Nat × Nat)} : fdErr o ≠ 0 ↔ o = none := by cases o <;> simp [fdErr]
theorem kchange_ct (L : List SP) (qb wb mb : Nat) (f : Int × Int → Option KnA) (m : Nat) (w : WA) (p : NoA) : Ct Tryz.prog 92 #[.pointer (some ⟨qb, 0, none⟩), .agg (encNo p).toArray] (KqB qb wb mb f m w L) (fun m' : Nat => .int .i64 (chgK f w p).1) (fun m' : Nat => pu (m' ≤ m + 1) :: KqB qb wb mb (chgK f w p).2 m' w L) := by
 refine Ct.o2 Tryz.func92 ?_; intro E
 show Hd E 122 _ _ _ _
 refine sr fun _ K1 => ?_
 refine Hd.box rfl rfl (fun b3 => ?_); refine yv y_as <| fk [(0,_),(3,_)] K1 ?_; refine sr fun _ K2 => ?_
 refine yv (y_f 0 3 Tryz.underlying82 sz3) <| yv (y_l1 ag3 rfl) <| yv (y_f 1 3 Tryz.underlying82 sz3) <| yv (y_l1 ag3 rfl) <| yv (y_build (vs := [(0,_),(1,_)]) rfl (by exact bd92_16 ..)) ?_; refine Hd.alloc zr170 (fun b5 => ?_); refine Hd.store (us := [_, _]) sz170 rfl rfl rfl (by simp [Value.oneCell']) pkk (by simp) ?_
 try simp only [hyS]
 refine fk [(0,_),(3,_),(5,_)] K2 ?_; refine Hd.seq fun _ K3 => ?_
 refine sr fun _ K4 => ?_
 refine yv (y_loadn (us := [_, _, _, _]) ag82 rfl (Rd.pt pkk (by (first | (intro j v e; rcases j with _|_|_|_|_|_|_|_|_|_|_|_|j <;> first | exact e | exact absurd e (by simp))))) (by exact sz82)) ?_; refine callE rfl fk157 (kmay_ct _ p) sq ?_; intro _; refine yv (y_not rfl) <| fk [(0,_),(3,_),(5,_),(19,_)] K4 ?_; refine qz ?_ ?_ <;> intro hc0 <;> try simp only [hyZ] at hc0
 ·have h0 : mayK p = false := by simpa using hc0
  refine sr fun _ K5 => ?_
  refine yv y_as <| fk [(4,_)] K5 ?_; refine Hd.ret <| Hd.thenRet ?_; rw [show chgK f w p = (2, f) from if_pos h0]; exact Hd.ret1 rfl m rfl (Ent.sep (.pure (by omega) enn))
 have h0 : ¬ (mayK p = false) := by simpa using hc0
 refine qv K3 <| sr fun _ K6 => ?_
 refine yv y_as <| fk [(0,_),(3,_),(5,_),(6,_)] K6 ?_; refine Hd.cutK (ι := PLift (¬ (p.2.1 = 3 ∧ (p.1 < 1 ∨ 31 < p.1)) ∧ ¬ (p.2.1 ≠ 3 ∧ w.at p.1 = none))) [(0,_),(3,_),(5,_)] (fun _ => [(6, .int .i64 (wireK w p))]) (fun _ => pt b3 (encNo p) 82 :: pt b5 [.int .i64 p.1, .int .i64 p.2.1] 170 :: KqB qb wb mb f m w L) ?_ ?_ ⟨rfl, rfl, rfl, trivial⟩
 ·refine sr fun _ K7 => ?_
  refine yv (y_f 1 3 Tryz.underlying82 sz3) <| yv (y_l1 ag3 rfl) <| yv (y_eql rfl rfl) ?_; refine fk [(0,_),(3,_),(5,_),(6,_),(22,_)] K7 ?_; refine qz ?_ ?_ <;> intro hc1 <;> try simp only [hyZ] at hc1
  ·refine sr fun _ K8 => ?_
   refine yv (y_f 0 3 Tryz.underlying82 sz3) <| yv (y_l1 ag3 rfl) <| yv (y_lss rfl rfl) ?_; refine yv y_mv ?_; apply Hd.org 4 26 30 [(0,_),(3,_),(5,_),(6,_)] rfl sbq
   ·intro hg6_26
    try simp only [hyZ] at hg6_26
    simp only [List.take]; refine n1 <| n1 <| n1 <| yv (y_pickT rfl rfl) ?_; exact Hd.mn
   ·intro hg6_26
    try simp only [hyZ] at hg6_26
    simp only [List.take]; refine y2 (y_f 0 3 Tryz.underlying82 sz3) <| y2 (y_l1 ag3 rfl) <| y2 (y_gtr rfl rfl) ?_; refine yv (y_pickF rfl rfl) ?_; exact Hd.mn
   simp only [List.drop]; refine fk [(0,_),(3,_),(5,_),(6,_),(30,_)] K8 ?_; refine qz ?_ ?_ <;> intro hc2 <;> try simp only [hyZ] at hc2
   ·refine sr fun _ K9 => ?_
    refine yv y_as <| fk [(4,_)] K9 ?_; refine Hd.ret <| Hd.thenRet ?_; rw [show chgK f w p = (100, f) by unfold chgK; rw [if_neg h0, if_pos ⟨hc1, hc2⟩]]; exact Hd.ret1 rfl m rfl (Ent.sep (.pure (by omega) enn))
   refine Hd.skip <| thenN ?_; exact Hd.meet ⟨fun h => by omega, fun h => h.1 hc1⟩ ⟨congrArg (fun z => some (Value.int .i64 z)) (show (0 : Int) = wireK w p by unfold wireK; rw [if_pos hc1]), by repeat (first | exact trivial | refine ⟨rfl, ?_⟩)⟩ sq
  refine Hd.seq fun _ K10 => ?_
  refine Hd.quiet mixed kq ?_; refine Hq.yv y_mv ?_; refine Hq.yv y_np ?_; refine Hq.yv (y_f 0 38 Tryz.underlying175 sz38) ?_; refine Hq.yv (y_l1 ag38 rfl) ?_; refine Hq.yv (y_f 0 3 Tryz.underlying82 sz3) ?_; refine Hq.yv (y_l1 ag3 rfl) ?_; refine Hq.call rfl fk71 ((wwire_ct _ wb w p.1).swap sq sq) ?_; refine Hq.yv y_mv ?_; refine Hq.yv y_ex ?_; refine Hq.yv y_ex ?_; refine Hq.yv y_as ?_; refine Hq.yv y_as ?_; refine Hq.nil ?_; refine sk [(0,_),(3,_),(5,_),(7,_),(8,_)] K10 ?_; refine Hd.seq fun _ K11 => ?_
  refine sr fun _ K12 => ?_
  refine yv y_mv <| yv (y_neq rfl rfl) ?_; refine fk [(0,_),(3,_),(5,_),(7,_),(42,_)] K12 ?_; refine qz ?_ ?_ <;> intro hc3 <;> try simp only [hyZ] at hc3
  ·refine sr fun _ K13 => ?_
   refine yv y_as <| fk [(4,_)] K13 ?_; refine Hd.ret <| Hd.thenRet <| Hd.thenRet ?_; rw [show chgK f w p = (110, f) by unfold chgK; rw [if_neg h0, if_neg (fun h => hc1 h.1), if_pos ⟨hc1, fdErr_no.1 hc3⟩]]; exact Hd.ret1 rfl m rfl (Ent.sep (.pure (by omega) enn))
  refine qv K11 <| Hd.region <| yv y_mv <| yv y_as <| Hd.nil <| slots [(0,_),(3,_),(5,_),(6,_)] sbq ?_; refine thenN ?_; exact Hd.meet ⟨fun h => hc1 h.1, fun h => absurd hc3 (fdErr_no.2 h.2)⟩ ⟨congrArg (fun z => some (Value.int .i64 z)) (show wireN (w.at p.1) = wireK w p by unfold wireK; rw [if_neg hc1]), by repeat (first | exact trivial | refine ⟨rfl, ?_⟩)⟩ sq
 rintro ⟨h1, h2⟩; refine sr fun _ K14 => ?_
 refine yv y_mv <| yv (y_loadn (us := [_, _]) ag170 rfl (Rd.pt pkk (by (first | (intro j v e; rcases j with _|_|_|_|_|_|_|_|_|_|_|_|j <;> first | exact e | exact absurd e (by simp))))) (by exact sz170)) ?_; refine callE rfl fk158 (kfind_ct _ qb wb mb f m w p.1 p.2.1) sq ?_; intro _; refine yv y_mv <| yv y_ex <| yv (y_to (v' := .bool (isK f w (p.1, p.2.1))) y_ex (by rfl)) ?_; refine Hd.alloc zr172 (fun b9 => ?_); refine Hd.storeA (us := encKn (oldK f p)) sz172 rfl rfl rfl (by simp [Value.oneCell']) pkk (by exact rfl) ?_; refine yv y_as <| fk [(0,_),(3,_),(5,_),(6,_),(9,_),(10,_)] K14 ?_; refine Hd.seq fun _ K15 => ?_
 refine Hd.block <| sr fun _ K16 => ?_
 refine yv (y_f 2 3 Tryz.underlying82 sz3) <| yv (y_l1 ag3 rfl) <| yv (y_and rfl rfl) ?_; refine yv (y_neq rfl rfl) ?_; refine yv y_as <| fk [(0,_),(3,_),(5,_),(6,_),(9,_),(10,_),(64,_)] K16 ?_; refine qz ?_ ?_ <;> intro hc4 <;> try simp only [hyZ] at hc4
 ·have h4 : hasF p 1 := hc4
  refine Hd.cutK (ι := Nat) [(0,_),(5,_),(9,_),(10,_)] (fun b11 => [(11, .pointer (some ⟨b11, 0, none⟩))]) (fun b11 => pt b11 (encKn (newK w p)) 172 :: pt b9 (encKn (oldK f p)) 172 :: pt b5 [.int .i64 p.1, .int .i64 p.2.1] 170 :: KqB qb wb mb f m w L) ?_ ?_ ⟨rfl, rfl, rfl, rfl, trivial⟩
  ·refine Hd.drawsH ([KqH qb wb mb, pt b3 (encNo p) 82]) (fun j => !([16].contains j)) mixed ?_
   simp only [List.length, Nat.zero_add, Nat.reduceAdd]; refine tH 0 rfl y_mv <| tH 1 rfl (y_f 2 3 Tryz.underlying82 sz3) <| tH 2 rfl (y_l1 ag3 rfl) <| tH 3 rfl (y_and rfl rfl) ?_; refine tH 4 rfl (y_f 1 3 Tryz.underlying82 sz3) <| tH 5 rfl (y_l1 ag3 rfl) <| tH 6 rfl y_mv <| tH 7 rfl y_np <| tH 8 rfl (y_f 0 38 Tryz.underlying175 sz38) <| tH 9 rfl (y_l1 ag38 rfl) <| tH 10 rfl (y_f 0 3 Tryz.underlying82 sz3) <| tH 11 rfl (y_l1 ag3 rfl) <| Hd.eitherH 12 15 rfl rfl kq ?_ ?_
   ·refine callE rfl fk43 (wready_ct _ wb w p.1) sq ?_
    intro _; refine qk <| Hd.eitherH 13 15 rfl rfl kq ?_ ?_
    ·refine callE rfl fk91 (krises_ct _ p.2.1 (readyR w p.1)) sq ?_
     intro _; refine qk <| tH 14 rfl (y_build (vs := [(0,_),(1,_),(2,_),(3,_)]) rfl (by exact bd92_83 ..)) ?_; refine qo 15 ?_; refine Hd.alloc zr172 (fun b11 => ?_); refine qk <| qo 16 ?_; refine Hd.storeA (us := encKn (newK w p)) sz172 rfl rfl rfl (by simp [Value.oneCell']) pkk (by exact rfl) ?_; refine qn <| endH kq ?_; refine slots [(0,_),(5,_),(9,_),(10,_),(11,_)] sbq ?_; refine thenN ?_; exact Hd.meet b11 sbq sq
    refine Hd.alloc zr172 (fun b11 => ?_); refine qk <| qo 13 ?_; refine callE rfl fk91 (krises_ct _ p.2.1 (readyR w p.1)) sq ?_; intro _; refine qk <| tH 14 rfl (y_build (vs := [(0,_),(1,_),(2,_),(3,_)]) rfl (by exact bd92_83 ..)) ?_; refine qo 16 ?_; refine Hd.storeA (us := encKn (newK w p)) sz172 rfl rfl rfl (by simp [Value.oneCell']) pkk (by exact rfl) ?_; refine qn <| endH kq ?_; refine slots [(0,_),(5,_),(9,_),(10,_),(11,_)] sbq ?_; refine thenN ?_; exact Hd.meet b11 sbq sq
   refine Hd.alloc zr172 (fun b11 => ?_); refine qk <| qo 12 ?_; refine callE rfl fk43 (wready_ct _ wb w p.1) sq ?_; intro _; refine qk <| qo 13 ?_; refine callE rfl fk91 (krises_ct _ p.2.1 (readyR w p.1)) sq ?_; intro _; refine qk <| tH 14 rfl (y_build (vs := [(0,_),(1,_),(2,_),(3,_)]) rfl (by exact bd92_83 ..)) ?_; refine qo 16 ?_; refine Hd.storeA (us := encKn (newK w p)) sz172 rfl rfl rfl (by simp [Value.oneCell']) pkk (by exact rfl) ?_; refine qn <| endH kq ?_; refine slots [(0,_),(5,_),(9,_),(10,_),(11,_)] sbq ?_; refine thenN ?_; exact Hd.meet b11 sbq sq
  intro b11; refine Hd.cutK (ι := Unit) [(0,_),(5,_),(11,_)] (fun _ => []) (fun _ => pt b11 (encKn (addK f w p)) 172 :: pt b5 [.int .i64 p.1, .int .i64 p.2.1] 170 :: KqB qb wb mb f m w L) ?_ ?_ ⟨rfl, rfl, rfl, trivial⟩
  ·refine sr fun _ K17 => ?_
   refine yv y_mv <| yv y_mv ?_; apply Hd.andg 11 85 96 [(0,_),(5,_),(9,_),(11,_)] rfl sbq
   ·intro hg17_85
    try simp only [hyZ] at hg17_85
    simp only [List.take]; refine y2 (y_f 1 3 Tryz.underlying172 sz3) <| y2 (y_l1 ag3 rfl) <| y2 (y_and rfl rfl) ?_; refine y2 (y_neq rfl rfl) ?_; refine y2 y_mv ?_; apply Hd.org 5 90 95 [(0,_),(5,_),(9,_),(11,_),(85,_)] rfl sbq
    ·intro hg17_90
     try simp only [hyZ] at hg17_90
     simp only [List.take]; refine n1 <| n1 <| n1 <| n1 <| y2 (y_pickT rfl rfl) ?_; exact Hd.mn
    ·intro hg17_90
     try simp only [hyZ] at hg17_90
     simp only [List.take]; refine y2 (y_f 1 3 Tryz.underlying172 sz3) <| y2 (y_l1 ag3 rfl) <| y2 (y_and rfl rfl) ?_; refine y2 (y_eql rfl rfl) ?_; refine y2 (y_pickF rfl rfl) ?_; exact Hd.mn
    simp only [List.drop]; refine yv (y_pickT rfl rfl) ?_; exact Hd.mn
   ·intro hg17_85
    try simp only [hyZ] at hg17_85
    simp only [List.take]; refine n1 <| n1 <| n1 <| n1 <| n1 <| n1 <| n1 <| n1 <| n1 <| n1 <| yv (y_pickF rfl rfl) ?_; exact Hd.mn
   simp only [List.drop]; refine fk [(0,_),(5,_),(9,_),(11,_),(96,_)] K17 ?_; refine qz ?_ ?_ <;> intro hc5 <;> try simp only [hyZ] at hc5
   ·have h5 : keepK f w p := by unfold keepK; simpa using hc5
    refine Hd.drawsH ([pt b9 (encKn (oldK f p)) 172]) (fun j => !(([1000] : List Nat).contains j)) mixed ?_; simp only [List.length, Nat.zero_add, Nat.reduceAdd]; refine tH 0 rfl (y_f 2 4 Tryz.underlying172 sz4) <| tH 1 rfl (y_l1 ag4 rfl) <| tH 2 rfl (y_f 3 30 Tryz.underlying172 sz30) <| tH 3 rfl (y_l1 ag30 rfl) <| tH 4 rfl (y_f 2 4 Tryz.underlying172 sz4) <| qo 5 ?_; refine Hd.store1 sz4 rfl rfl rfl pkk (by simp; done) ?_
    try simp only [hyS]
    refine qk <| tH 6 rfl (y_f 3 30 Tryz.underlying172 sz30) <| qo 7 ?_; refine Hd.store1 sz30 rfl rfl rfl pkk (by simp; done) ?_
    try simp only [hyS]
    refine qk <| endH kq ?_; refine slots [(0,_),(5,_),(11,_)] sbq ?_; refine thenN ?_; exact Hd.meet () sbq (Ent.sep (.eq pkk (pt_eq (by unfold addK; rw [if_pos h5])) enn))
   have h5 : ¬ keepK f w p := by
    unfold keepK; rintro ⟨a1, a2⟩; simp [a1] at hc5
    rcases a2 with a2 | a2
    ·exact a2 hc5.1
    ·exact hc5.2 a2
   refine Hd.skip <| thenN ?_; exact Hd.meet () sbq (Ent.sep (.eq pkk (pt_eq (by unfold addK; rw [if_neg h5])) enn))
  intro _; refine Hd.tail 6 mixed kq ?_; simp only [List.take, List.drop]; refine Ht.yv y_mv ?_; refine Ht.yv y_np ?_; refine Ht.yv (y_f 1 173 Tryz.underlying175 sz173) ?_; refine Ht.yv (y_l1 ag173 rfl) ?_; refine Ht.yv (y_loadn (us := [_, _]) ag170 rfl (Rd.pt pkk (by (first | (intro j v e; rcases j with _|_|_|_|_|_|_|_|_|_|_|_|j <;> first | exact e | exact absurd e (by simp))))) (by exact sz170)) ?_; refine Ht.yv (y_loadn (us := [_, _, _, _]) ag172 rfl (Rd.pt pkk (by (first | (intro j v e; rcases j with _|_|_|_|_|_|_|_|_|_|_|_|j <;> first | exact e | exact absurd e (by simp))))) (by exact sz172)) ?_; refine Ht.nil ?_; refine Hd.mapUpdateK mapt173 rfl rfl rfl pkk ?_; refine Hd.nil <| slots [] sbq ?_; refine Hd.inB <| Hd.toK K15 ?_; refine sr fun _ K18 => ?_
  refine yv y_as <| fk [(4,_)] K18 ?_; refine Hd.ret ?_; rw [show chgK f w p = (0, updK f (p.1, p.2.1) (some (addK f w p))) by unfold chgK; rw [if_neg h0, if_neg h1, if_neg h2, if_pos h4]]; exact Hd.ret1 rfl (if (kmap f (p.1, p.2.1)).isSome then m else m + 1) rfl (Ent.sep (.pure (by split <;> omega) (.pick pkk (.eq pkk (mpP_eq (by rw [kmap_upd]) rfl) enn))))
 have h4 : ¬ hasF p 1 := fun h => h hc4
 refine sr fun _ K19 => ?_
 refine yv y_mv <| yv (y_not rfl) <| yv y_as <| fk [(0,_),(3,_),(5,_),(9,_),(109,_)] K19 ?_; refine qz ?_ ?_ <;> intro hc6 <;> try simp only [hyZ] at hc6
 ·have h6 : isK f w (p.1, p.2.1) = false := by simpa using hc6
  refine sr fun _ K20 => ?_
  refine yv y_as <| fk [(4,_)] K20 ?_; refine Hd.ret <| Hd.inBret <| Hd.thenRet ?_; rw [show chgK f w p = (151, f) by unfold chgK; rw [if_neg h0, if_neg h1, if_neg h2, if_neg h4, if_pos h6]]; exact Hd.ret1 rfl m rfl (Ent.sep (.pure (by omega) enn))
 have h6 : ¬ (isK f w (p.1, p.2.1) = false) := by simpa using hc6
 refine sr fun _ K21 => ?_
 refine yv (y_f 2 3 Tryz.underlying82 sz3) <| yv (y_l1 ag3 rfl) <| yv (y_and rfl rfl) ?_; refine yv (y_neq rfl rfl) ?_; refine yv y_as <| fk [(0,_),(3,_),(5,_),(9,_),(112,_)] K21 ?_; refine qz ?_ ?_ <;> intro hc7 <;> try simp only [hyZ] at hc7
 ·have h7 : hasF p 2 := hc7
  refine Hd.tail 5 mixed kq ?_; simp only [List.take, List.drop]; refine Ht.yv y_mv ?_; refine Ht.yv y_np ?_; refine Ht.yv (y_f 1 173 Tryz.underlying175 sz173) ?_; refine Ht.yv (y_l1 ag173 rfl) ?_; refine Ht.yv (y_loadn (us := [_, _]) ag170 rfl (Rd.pt pkk (by (first | (intro j v e; rcases j with _|_|_|_|_|_|_|_|_|_|_|_|j <;> first | exact e | exact absurd e (by simp))))) (by exact sz170)) ?_; refine Ht.nil ?_; refine Hd.mapDelete0K mapt173 rfl rfl pkk ?_; refine Hd.nil <| slots [] sbq ?_; refine Hd.inB <| Hd.toK K15 ?_; refine sr fun _ K22 => ?_
  refine yv y_as <| fk [(4,_)] K22 ?_; refine Hd.ret ?_; rw [show chgK f w p = (0, updK f (p.1, p.2.1) none) by unfold chgK; rw [if_neg h0, if_neg h1, if_neg h2, if_neg h4, if_neg h6, if_pos h7]]; exact Hd.ret1 rfl (if (kmap f (p.1, p.2.1)).isSome then m - 1 else m) rfl (Ent.sep (.pure (by split <;> omega) (.pick pkk (.eq pkk (mpP_eq (by rw [kmap_del]) rfl) enn))))
 have h7 : ¬ hasF p 2 := fun h => h hc7
 refine sr fun _ K23 => ?_
 refine yv (y_f 1 3 Tryz.underlying172 sz3) <| yv (y_l1 ag3 rfl) <| yv (y_andNot rfl rfl) ?_; refine yv (y_f 2 3 Tryz.underlying82 sz3) <| yv (y_l1 ag3 rfl) <| yv (y_and rfl rfl) ?_; refine yv (y_or rfl rfl) ?_; refine yv (y_f 1 3 Tryz.underlying172 sz3) <| Hd.store1 sz3 rfl rfl rfl pkk (by simp; done) ?_
 try simp only [hyS]
 refine fk [(0,_),(5,_),(9,_)] K23 ?_; refine Hd.tail 6 mixed kq ?_; simp only [List.take, List.drop]; refine Ht.yv y_mv ?_; refine Ht.yv y_np ?_; refine Ht.yv (y_f 1 173 Tryz.underlying175 sz173) ?_; refine Ht.yv (y_l1 ag173 rfl) ?_; refine Ht.yv (y_loadn (us := [_, _]) ag170 rfl (Rd.pt pkk (by (first | (intro j v e; rcases j with _|_|_|_|_|_|_|_|_|_|_|_|j <;> first | exact e | exact absurd e (by simp))))) (by exact sz170)) ?_; refine Ht.yv (y_loadn (us := [_, _, _, _]) ag172 rfl (Rd.pt pkk (by (first | (intro j v e; rcases j with _|_|_|_|_|_|_|_|_|_|_|_|j <;> first | exact e | exact absurd e (by simp))))) (by exact sz172)) ?_; refine Ht.nil ?_; refine Hd.mapUpdateK mapt173 rfl rfl rfl pkk ?_; refine Hd.nil <| slots [] sbq ?_; refine Hd.inB <| Hd.toK K15 ?_; refine sr fun _ K24 => ?_
 refine yv y_as <| fk [(4,_)] K24 ?_; refine Hd.ret ?_; rw [show chgK f w p = (0, updK f (p.1, p.2.1) (some (modK f p))) by unfold chgK; rw [if_neg h0, if_neg h1, if_neg h2, if_neg h4, if_neg h6, if_neg h7]]; exact Hd.ret1 rfl (if (kmap f (p.1, p.2.1)).isSome then m else m + 1) rfl (Ent.sep (.pure (by split <;> omega) (.pick pkk (.eq pkk (mpP_eq (by rw [kmap_upd]; rfl) rfl) enn))))
def oneK (e : Int) (p : NoA) : List NoA := if e = 0 ∧ bits .and .i64 p.2.2.1 64 = 0 then [] else [(p.1, p.2.1, 256, e)]
def chsK (f : Int × Int → Option KnA) (w : WA) : List NoA → List NoA × (Int × Int → Option KnA)
 | [] => ([], f)
 | p :: l => (oneK (chgK f w p).1 p ++ (chsK (chgK f w p).2 w l).1, (chsK (chgK f w p).2 w l).2)
theorem chsK_app (w : WA) : ∀ (a b : List NoA) (f : Int × Int → Option KnA), chsK f w (a ++ b) = ((chsK f w a).1 ++ (chsK (chsK f w a).2 w b).1, (chsK (chsK f w a).2 w b).2)
 | [], _, _ => rfl
 | p :: a, b, f => by
  rw [List.cons_append]
  show (oneK (chgK f w p).1 p ++ (chsK (chgK f w p).2 w (a ++ b)).1, (chsK (chgK f w p).2 w (a ++ b)).2) = (oneK (chgK f w p).1 p ++ (chsK (chgK f w p).2 w a).1 ++ (chsK (chsK (chgK f w p).2 w a).2 w b).1, (chsK (chsK (chgK f w p).2 w a).2 w b).2)
  rw [chsK_app w a b]; simp only [List.append_assoc]
theorem chsK_succ (f : Int × Int → Option KnA) (w : WA) {xs : List NoA} {i : Nat} (h : i < xs.length) : chsK f w (xs.take (i + 1)) = ((chsK f w (xs.take i)).1 ++ oneK (chgK (chsK f w (xs.take i)).2 w xs[i]).1 xs[i], (chgK (chsK f w (xs.take i)).2 w xs[i]).2) := by
 rw [List.take_add_one, List.getElem?_eq_getElem h, Option.toList_some, chsK_app]; simp [chsK]
theorem chsK_len (w : WA) : ∀ (a : List NoA) (f : Int × Int → Option KnA), (chsK f w a).1.length ≤ a.length
 | [], _ => Nat.le_refl _
 | p :: a, f => by
  unfold chsK
  have := chsK_len w a (chgK f w p).2
  have h1 : (oneK (chgK f w p).1 p).length ≤ 1 := by unfold oneK; split <;> simp
  simp only [List.length_append, List.length_cons]; omega
theorem encNo_one (p : NoA) : ∀ u ∈ encNo p, u.oneCell' = true := by simp [Value.oneCell']
theorem kchs_ct (L : List SP) (qb wb mb : Nat) (f : Int × Int → Option KnA) (m : Nat) (w : WA) (al : Option Addr) (cl : Nat) (xs : List NoA) (h : RdS L 4 al xs.length (xs.flatMap encNo)) (hb : xs.length ≤ 1000000) : Ct Tryz.prog 33 #[.pointer (some ⟨qb, 0, none⟩), .slice al xs.length cl] (KqB qb wb mb f m w L) (fun q_ : Option Addr × Nat × Nat => .tuple #[.slice q_.1 (chsK f w xs).1.length q_.2.1, .int .i64 0]) (fun q_ : Option Addr × Nat × Nat => pu (q_.2.2 ≤ m + xs.length) :: own 82 4 q_.1 (chsK f w xs).1.length q_.2.1 ((chsK f w xs).1.flatMap encNo) :: KqB qb wb mb (chsK f w xs).2 q_.2.2 w L) := by
 refine Ct.o2 Tryz.func33 ?_; intro E
 show Hd E 40 _ _ _ _
 refine sr fun _ K1 => ?_
 refine yv y_as <| yv y_as <| fk [(0,_),(1,_)] K1 ?_; refine Hd.scope ?_; refine Hd.seq fun _ K2 => ?_
 refine sr fun _ K3 => ?_
 refine yv y_mv <| callE rfl fk87 (knone_ct _ qb wb mb) sq ?_; intro _; refine fk [(0,_),(1,_),(11,_)] K3 ?_; refine Hd.condF rfl ?_; refine qv K2 <| sr fun _ K4 => ?_
 refine yv y_as <| fk [(0,_),(1,_),(6,_)] K4 ?_; refine Hd.seq fun _ K5 => ?_
 refine Hd.label ?_; refine Hd.toK K5 ?_; refine Hd.seq fun _ K6 => ?_
 refine sr fun _ K7 => ?_
 refine yv y_mv <| yv (y_len Tryz.underlying67 rfl) ?_; refine yv y_mv <| fk [(0,_),(6,_),(12,_),(13,_),(14,_)] K7 ?_; refine Hd.block <| Hd.loopK (ι := Nat × Option Addr × Nat × Nat) [(0,_),(12,_),(13,_)] (fun q_ => [(6, .slice q_.2.1 (chsK f w (xs.take q_.1)).1.length q_.2.2.1), (14, .int .i64 (q_.1 : Int))]) (fun q_ => pu (q_.1 ≤ xs.length ∧ q_.2.2.2 ≤ m + q_.1) :: own 82 4 q_.2.1 (chsK f w (xs.take q_.1)).1.length q_.2.2.1 ((chsK f w (xs.take q_.1)).1.flatMap encNo) :: KqB qb wb mb (chsK f w (xs.take q_.1)).2 q_.2.2.2 w L) (fun q_ => xs.length - q_.1) (0, none, 0, m) sbq sbq (fun q t => Ent.sep (.pure ⟨Nat.zero_le _, Nat.le_refl _⟩ (.ownNil .same)) q t) ?_; rintro ⟨i, ad, c, m'⟩
 try dsimp only
 refine Hd.pure (fun hp0 => ?_)
 try dsimp only at hp0
 refine sr fun _ K8 => ?_
 refine yv (y_lss rfl rfl) ?_; refine fk [(0,_),(6,_),(12,_),(13,_),(14,_),(15,_)] K8 ?_; refine Hd.seq fun _ K9 => ?_
 refine qz ?_ ?_ <;> intro hc1 <;> try simp only [hyZ] at hc1
 ·have hi : i < xs.length := by omega
  have hgi : xs[i]? = some xs[i] := List.getElem?_eq_getElem hi
  have hsc := chsK_succ f w hi
  obtain ⟨g, hg⟩ : ∃ g, g = (chsK f w (xs.take i)).2 := ⟨_, rfl⟩
  obtain ⟨o, ho⟩ : ∃ o, o = (chsK f w (xs.take i)).1 := ⟨_, rfl⟩
  have hol : o.length ≤ i := by
   have := chsK_len w (xs.take i) f
   rw [← ho, List.length_take] at this; omega
  rw [← hg, ← ho] at hsc; rw [← hg, ← ho]; refine qv K9 <| Hd.seq fun _ K10 => ?_
  refine Hd.block <| sr fun _ K11 => ?_
  refine yv (y_idxR Tryz.underlying67 sz82 rfl rfl (by omega) (by exact RdS.mono h sq)) ?_; refine yv (y_loadRn (vs := encNo xs[i]) ag82 rfl (RdS.mono h sq) (flat_cells encNo 4 (fun _ => rfl) hgi) (by exact sz82) (by simp)) ?_; refine Hd.alloc zr82 (fun b8 => ?_); refine Hd.storeA (us := encNo xs[i]) sz82 rfl rfl rfl (encNo_one _) pkk (by exact rfl) ?_; refine fk [(0,_),(6,_),(8,_),(12,_),(13,_),(14,_)] K11 ?_; refine sr fun _ K12 => ?_
  refine yv y_mv <| yv (y_loadn (us := [_, _, _, _]) ag82 rfl (Rd.pt pkk (by (first | (intro j v e; rcases j with _|_|_|_|_|_|_|_|_|_|_|_|j <;> first | exact e | exact absurd e (by simp))))) (by exact sz82)) ?_; refine callE rfl fk92 (kchange_ct _ qb wb mb g m' w xs[i]) sq ?_; intro m2; refine Hd.pure (fun hm2 => ?_); refine yv y_as <| fk [(0,_),(6,_),(8,_),(9,_),(12,_),(13,_),(14,_)] K12 ?_; refine Hd.seq fun _ K13 => ?_
  refine sr fun _ K14 => ?_
  refine yv y_mv <| yv (y_eql rfl rfl) ?_; refine yv y_mv ?_; apply Hd.andg 5 23 28 [(0,_),(6,_),(8,_),(9,_),(12,_),(13,_),(14,_)] rfl sbq
  ·intro hg8_23
   try simp only [hyZ] at hg8_23
   simp only [List.take]; refine y2 (y_f 2 3 Tryz.underlying82 sz3) <| y2 (y_l1 ag3 rfl) <| y2 (y_and rfl rfl) ?_; refine y2 (y_eql rfl rfl) ?_; refine yv (y_pickT rfl rfl) ?_; exact Hd.mn
  ·intro hg8_23
   try simp only [hyZ] at hg8_23
   simp only [List.take]; refine n1 <| n1 <| n1 <| n1 <| yv (y_pickF rfl rfl) ?_; exact Hd.mn
  simp only [List.drop]; refine fk [(0,_),(6,_),(8,_),(9,_),(12,_),(13,_),(14,_),(28,_)] K14 ?_; refine qz ?_ ?_ <;> intro hc2 <;> try simp only [hyZ] at hc2
  ·refine Hd.exit ?_
   refine Hd.thenExit <| Hd.inBexit <| Hd.toK K10 ?_; refine Hd.region <| yv (y_addn rfl rfl (by simp only [InK]; omega)) ?_; refine yv y_mv <| Hd.nil <| slots [(0,_),(6,_),(12,_),(13,_),(14,_)] sbq ?_; refine thenN ?_
   have hon : oneK (chgK g w xs[i]).1 xs[i] = [] := if_pos hc2
   refine Hd.again (i + 1, ad, c, m2) (by show xs.length - (i + 1) < xs.length - i; omega) (by rw [hsc, hon, List.append_nil]; repeat (first | exact trivial | refine ⟨rfl, ?_⟩)) (fun q t => ?_); rw [hsc, hon, List.append_nil]; exact Ent.sep (.pure (show i + 1 ≤ xs.length ∧ m2 ≤ m + (i + 1) from ⟨hi, by omega⟩) enn) q t
  refine qv K13 <| Hd.region <| yv y_mv <| yv (y_f 0 3 Tryz.underlying82 sz3) <| yv (y_l1 ag3 rfl) <| yv (y_f 1 3 Tryz.underlying82 sz3) <| yv (y_l1 ag3 rfl) <| yv y_mv <| yv (y_build (vs := [(0,_),(1,_),(2,_),(3,_)]) rfl (by exact bd33_35 ..)) ?_; refine Hd.bslice (vs := [(0,_)]) rfl (by exact bs33_36 ..) (fun b36 => ?_); refine Hd.append Tryz.underlying67 ty82 rfl rfl rfl pkk (by exact RdS.rd (Rd.pt pkk (fun j v e => by simpa using e)) rfl) (by simp [Value.oneCell']; done) (by simp only [maxLen]; omega) (by omega) (fun ad37 cap37 => ?_); refine yv y_as <| Hd.nil <| slots [(0,_),(6,_),(12,_),(13,_),(14,_)] sbq ?_; refine Hd.inB <| Hd.toK K10 ?_; refine Hd.region <| yv (y_addn rfl rfl (by simp only [InK]; omega)) ?_; refine yv y_mv <| Hd.nil <| slots [(0,_),(6,_),(12,_),(13,_),(14,_)] sbq ?_
  refine thenN ?_
  have hon : oneK (chgK g w xs[i]).1 xs[i] = [(xs[i].1, xs[i].2.1, 256, (chgK g w xs[i]).1)] := if_neg (fun hh => by simp [hh.1, hh.2] at hc2)
  refine Hd.again (i + 1, ad37, cap37, m2) (by show xs.length - (i + 1) < xs.length - i; omega) (by rw [hsc, hon]; simp only [List.length_append, List.length_singleton]; repeat (first | exact trivial | refine ⟨rfl, ?_⟩)) (fun q t => ?_); rw [hsc, hon]; exact Ent.sep (.pure (show i + 1 ≤ xs.length ∧ m2 ≤ m + (i + 1) from ⟨hi, by omega⟩) (.eq pkk (own_eq3 (by simp) rfl (by simp only [List.flatMap_append]; rfl)) enn)) q t
 obtain rfl : i = xs.length := by omega
 rw [List.take_length]; refine Hd.exit <| Hd.thenExit <| Hd.thenExit <| Hd.inBexit <| Hd.toK K6 ?_; refine sr fun _ K15 => ?_
 refine yv y_mv <| yv y_as <| yv y_as <| fk [(4,_),(5,_)] K15 ?_; refine Hd.ret <| Hd.scRet ?_; exact Hd.ret2 rfl (ad, c, m') rfl rfl rfl (Ent.sep (.pure hp0.2 enn))
end Kq
end Go.Proofs.YtbfddabjbkohdaaGreat
namespace Go.Proofs
open Go.Shelf
def Tryz.sortI_ren : Go.Shelf.Ren := ⟨fun | 6 => 159 | 15 => 192 | 14 => 191 | 28 => 212 | 29 => 213 | 20 => 204 | 21 => 205 | 22 => 206 | 23 => 207 | 24 => 208 | 25 => 209 | 26 => 210 | 27 => 211 | 46 => 226 | 47 => 227 | 48 => 228 | 49 => 229 | 50 => 230 | 57 => 234 | n => n, fun | 22 => 178 | 24 => 170 | 25 => 256 | 3 => 3 | 39 => 280 | 0 => 0 | 53 => 299 | 55 => 30 | 4 => 4 | 46 => 292 | 45 => 291 | 50 => 296 | 5 => 5 | 9 => 9 | 66 => 308 | 70 => 312 | 76 => 316 | 77 => 114 | n => n, fun | n => n⟩
theorem Tryz.sortI : Go.Proofs.SlLaysF0.n6 Tryz.prog Tryz.sortI_ren := {
  mixed := by kernel_rfl
  f6 := ⟨Tryz.f159.name, by decide, Tryz.func159.trans (congrArg some (by kernel_rfl))⟩
  f14 := ⟨Tryz.f191.name, by decide, Tryz.func191.trans (congrArg some (by kernel_rfl))⟩
  f15 := Tryz.func192.trans (congrArg some (by kernel_rfl))
  f20 := ⟨Tryz.f204.name, by decide, Tryz.func204.trans (congrArg some (by kernel_rfl))⟩
  f21 := ⟨Tryz.f205.name, by decide, Tryz.func205.trans (congrArg some (by kernel_rfl))⟩
  f22 := ⟨Tryz.f206.name, by decide, Tryz.func206.trans (congrArg some (by kernel_rfl))⟩
  f23 := ⟨Tryz.f207.name, by decide, Tryz.func207.trans (congrArg some (by kernel_rfl))⟩
  f24 := ⟨Tryz.f208.name, by decide, Tryz.func208.trans (congrArg some (by kernel_rfl))⟩
  f25 := ⟨Tryz.f209.name, by decide, Tryz.func209.trans (congrArg some (by kernel_rfl))⟩
  f26 := ⟨Tryz.f210.name, by decide, Tryz.func210.trans (congrArg some (by kernel_rfl))⟩
  f27 := ⟨Tryz.f211.name, by decide, Tryz.func211.trans (congrArg some (by kernel_rfl))⟩
  f28 := Tryz.func212.trans (congrArg some (by kernel_rfl))
  f29 := Tryz.func213.trans (congrArg some (by kernel_rfl))
  f46 := ⟨Tryz.f226.name, by decide, Tryz.func226.trans (congrArg some (by kernel_rfl))⟩
  f47 := Tryz.func227.trans (congrArg some (by kernel_rfl))
  f48 := Tryz.func228.trans (congrArg some (by kernel_rfl))
  f49 := ⟨Tryz.f229.name, by decide, Tryz.func229.trans (congrArg some (by kernel_rfl))⟩
  f50 := ⟨Tryz.f230.name, by decide, Tryz.func230.trans (congrArg some (by kernel_rfl))⟩
  f57 := ⟨Tryz.f234.name, by decide, Tryz.func234.trans (congrArg some (by kernel_rfl))⟩
  t0 := Tryz.underlying0
  a0 := Tryz.isAgg0
  z0 := Tryz.sizeOf0
  v0 := Tryz.zeroValue0
  t3 := Tryz.underlying3
  a3 := Tryz.isAgg3
  z3 := Tryz.sizeOf3
  v3 := Tryz.zeroValue3
  t4 := Tryz.underlying4
  a4 := Tryz.isAgg4
  z4 := Tryz.sizeOf4
  v4 := Tryz.zeroValue4
  t5 := Tryz.underlying5
  a5 := Tryz.isAgg5
  z5 := Tryz.sizeOf5
  v5 := Tryz.zeroValue5
  t9 := Tryz.underlying9
  a9 := Tryz.isAgg9
  z9 := Tryz.sizeOf9
  v9 := Tryz.zeroValue9
  t22 := Tryz.underlying178
  a22 := Tryz.isAgg178
  z22 := Tryz.sizeOf178
  v22 := Tryz.zeroValue178
  t25 := Tryz.underlying256
  a25 := Tryz.isAgg256
  z25 := Tryz.sizeOf256
  v25 := Tryz.zeroValue256
  t39 := Tryz.underlying280
  a39 := Tryz.isAgg280
  z39 := Tryz.sizeOf280
  v39 := Tryz.zeroValue280
  t45 := Tryz.underlying291
  a45 := Tryz.isAgg291
  z45 := Tryz.sizeOf291
  v45 := Tryz.zeroValue291
  t46 := Tryz.underlying292
  a46 := Tryz.isAgg292
  z46 := Tryz.sizeOf292
  v46 := Tryz.zeroValue292
  t50 := Tryz.underlying296
  a50 := Tryz.isAgg296
  z50 := Tryz.sizeOf296
  v50 := Tryz.zeroValue296
  t53 := Tryz.underlying299
  a53 := Tryz.isAgg299
  z53 := Tryz.sizeOf299
  v53 := Tryz.zeroValue299
  t55 := Tryz.underlying30
  a55 := Tryz.isAgg30
  z55 := Tryz.sizeOf30
  v55 := Tryz.zeroValue30
  t66 := Tryz.underlying308
  a66 := Tryz.isAgg308
  z66 := Tryz.sizeOf308
  v66 := Tryz.zeroValue308
  t70 := Tryz.underlying312
  a70 := Tryz.isAgg312
  z70 := Tryz.sizeOf312
  v70 := Tryz.zeroValue312
  t76 := Tryz.underlying316
  a76 := Tryz.isAgg316
  z76 := Tryz.sizeOf316
  v76 := Tryz.zeroValue316
  t77 := Tryz.underlying114
  a77 := Tryz.isAgg114
  z77 := Tryz.sizeOf114
  v77 := Tryz.zeroValue114 }
end Go.Proofs
namespace Go.Proofs.YtbfddabjbkohdaaGreat
open Go.RX Fx
namespace Kq
open Wo
def cmpZ (x y : Int) : Int := if x < y then -1 else if y < x then 1 else 0
theorem nan_ct (L : List SP) (x : Int) : Ct Tryz.prog 193 #[.int .i64 x] (L) (fun _ : Unit => .bool false) (fun _ : Unit => L) := by
 refine Ct.o1 Tryz.func193 ?_; intro E
 show Hd E 6 _ _ _ _
 refine sr fun _ K1 => ?_
 refine yv y_as <| fk [(0,_)] K1 ?_; refine sr fun _ K2 => ?_
 refine yv y_mv <| yv y_mv <| yv (y_to (y_neq rfl rfl) (congrArg Value.bool (decide_eq_false ((fun h => h rfl))))) ?_; refine yv y_as <| fk [(2,_)] K2 ?_; refine Hd.ret ?_; exact Hd.ret1 rfl () (by rfl) sq
theorem cmp_ct (L : List SP) (x y : Int) : Ct Tryz.prog 162 #[.int .i64 x, .int .i64 y] (L) (fun _ : Unit => .int .i64 (cmpZ x y)) (fun _ : Unit => L) := by
 refine Ct.o2 Tryz.func162 ?_; intro E
 show Hd E 20 _ _ _ _
 refine sr fun _ K1 => ?_
 refine yv y_as <| fk [(0,_),(1,_)] K1 ?_; refine sr fun _ K2 => ?_
 refine yv y_mv <| callE rfl fk193 (nan_ct _ _) sq ?_; intro _; refine yv y_as <| fk [(0,_),(1,_),(5,_)] K2 ?_; refine sr fun _ K3 => ?_
 refine yv y_mv <| callE rfl fk193 (nan_ct _ _) sq ?_; intro _; refine yv y_as <| fk [(0,_),(1,_),(5,_),(6,_)] K3 ?_; refine Hd.seq fun _ K4 => ?_
 refine sr fun _ K5 => ?_
 refine yv y_mv <| fk [(0,_),(1,_),(6,_),(11,_)] K5 ?_; refine Hd.condF rfl ?_; refine qv K4 <| Hd.seq fun _ K6 => ?_
 refine sr fun _ K7 => ?_
 refine yv y_mv <| fk [(0,_),(1,_),(13,_)] K7 ?_; refine Hd.condF rfl ?_; refine qv K6 <| Hd.seq fun _ K8 => ?_
 refine sr fun _ K9 => ?_
 refine yv y_mv <| yv y_mv <| yv (y_lss rfl rfl) ?_; refine fk [(0,_),(1,_),(16,_)] K9 ?_; refine qz ?_ ?_ <;> intro hc3 <;> try simp only [hyZ] at hc3
 ·refine sr fun _ K10 => ?_
  refine yv y_as <| fk [(4,_)] K10 ?_; refine Hd.ret <| Hd.thenRet ?_; exact Hd.ret1 rfl () (by unfold cmpZ; rw [if_pos hc3]; rfl) sq
 refine qv K8 <| Hd.seq fun _ K11 => ?_
 refine sr fun _ K12 => ?_
 refine yv y_mv <| yv y_mv <| yv (y_gtr rfl rfl) ?_; refine fk [(19,_)] K12 ?_; refine qz ?_ ?_ <;> intro hc4 <;> try simp only [hyZ] at hc4
 ·refine sr fun _ K13 => ?_
  refine yv y_as <| fk [(4,_)] K13 ?_; refine Hd.ret <| Hd.thenRet ?_; exact Hd.ret1 rfl () (by unfold cmpZ; rw [if_neg (by omega), if_pos (by omega)]; rfl) sq
 refine qv K11 <| sr fun _ K14 => ?_
 refine yv y_as <| fk [(4,_)] K14 ?_; refine Hd.ret ?_; exact Hd.ret1 rfl () (by unfold cmpZ; rw [if_neg (by omega), if_neg (by omega)]; rfl) sq
theorem or2_ct (L : List SP) (b : Nat) (x y : Int) : Ct Tryz.prog 161 #[.slice (some ⟨b, 0, none⟩) 2 2] (pt b [.int .i64 x, .int .i64 y] 3 :: L) (fun _ : Unit => .int .i64 (if x ≠ 0 then x else y)) (fun _ : Unit => pt b [.int .i64 x, .int .i64 y] 3 :: L) := by
 refine Ct.o1 Tryz.func161 ?_; intro E
 show Hd E 18 _ _ _ _
 refine sr fun _ K1 => ?_
 refine yv y_as <| fk [(0,_)] K1 ?_; refine sr fun _ K2 => ?_
 refine yv y_as <| fk [(0,_),(3,_)] K2 ?_; refine Hd.seq fun _ K3 => ?_
 refine sr fun _ K4 => ?_
 refine yv y_mv <| yv (y_len Tryz.underlying44 rfl) ?_; refine yv y_mv <| fk [(3,_),(6,_),(7,_),(8,_)] K4 ?_; refine Hd.block <| Hd.rounds 3 ?_; refine Hd.roundS ?_; refine sr fun _ K5 => ?_
 refine yv (y_lss rfl rfl) ?_; refine fk [(3,_),(6,_),(7,_),(8,_),(9,_)] K5 ?_; refine Hd.seq fun _ K6 => ?_
 refine Hd.condT rfl ?_; refine qv K6 <| Hd.seq fun _ K7 => ?_
 refine Hd.block <| sr fun _ K8 => ?_
 refine yv (y_idxS Tryz.underlying44 sz3 rfl rfl (by decide)) ?_; refine yv (y_l1 ag3 rfl) <| yv y_as <| fk [(3,_),(5,_),(6,_),(7,_),(8,_)] K8 ?_; refine sr fun _ K9 => ?_
 refine yv y_mv <| yv y_mv <| yv (y_neq rfl rfl) ?_; refine fk [(3,_),(5,_),(6,_),(7,_),(8,_),(14,_)] K9 ?_; refine qz ?_ ?_ <;> intro hc1 <;> try simp only [hyZ] at hc1
 ·refine sr fun _ K10 => ?_
  refine yv y_mv <| yv y_as <| fk [(2,_)] K10 ?_; refine Hd.ret <| Hd.inBret <| Hd.thenRet <| Hd.thenRet <| Hd.inBret <| Hd.thenRet ?_; exact Hd.ret1 rfl () (show some (Value.int .i64 x) = some (Value.int .i64 (if x ≠ 0 then x else y)) from by simp_all) sq
 refine Hd.skip <| Hd.inB <| Hd.toK K7 ?_; refine Hd.region <| yv (y_addn rfl rfl (by simp only [InK]; omega)) ?_; refine yv y_mv <| Hd.nil <| slots [(3,_),(6,_),(7,_),(8,_)] sbq ?_; refine Hd.roundN ?_; refine sr fun _ K11 => ?_
 refine yv (y_lss rfl rfl) ?_; refine fk [(3,_),(6,_),(7,_),(8,_),(9,_)] K11 ?_; refine Hd.seq fun _ K12 => ?_
 refine Hd.condT rfl ?_; refine qv K12 <| Hd.seq fun _ K13 => ?_
 refine Hd.block <| sr fun _ K14 => ?_
 refine yv (y_idxS Tryz.underlying44 sz3 rfl rfl (by decide)) ?_; refine yv (y_l1 ag3 rfl) <| yv y_as <| fk [(3,_),(5,_),(6,_),(7,_),(8,_)] K14 ?_; refine sr fun _ K15 => ?_
 refine yv y_mv <| yv y_mv <| yv (y_neq rfl rfl) ?_; refine fk [(3,_),(5,_),(6,_),(7,_),(8,_),(14,_)] K15 ?_; refine qz ?_ ?_ <;> intro hc1 <;> try simp only [hyZ] at hc1
 ·refine sr fun _ K16 => ?_
  refine yv y_mv <| yv y_as <| fk [(2,_)] K16 ?_; refine Hd.ret <| Hd.inBret <| Hd.thenRet <| Hd.thenRet <| Hd.inBret <| Hd.thenRet ?_; exact Hd.ret1 rfl () (show some (Value.int .i64 y) = some (Value.int .i64 (if x ≠ 0 then x else y)) from by simp_all) sq
 refine Hd.skip <| Hd.inB <| Hd.toK K13 ?_; refine Hd.region <| yv (y_addn rfl rfl (by simp only [InK]; omega)) ?_; refine yv y_mv <| Hd.nil <| slots [(3,_),(6,_),(7,_),(8,_)] sbq ?_; refine Hd.roundN ?_; refine sr fun _ K17 => ?_
 refine yv (y_lss rfl rfl) ?_; refine fk [(3,_),(6,_),(7,_),(8,_),(9,_)] K17 ?_; refine Hd.seq fun _ K18 => ?_
 refine Hd.condF rfl ?_; refine Hd.exit <| Hd.thenExit <| Hd.thenExit <| Hd.inBexit <| Hd.toK K3 ?_; refine sr fun _ K19 => ?_
 refine yv y_mv <| yv y_as <| fk [(2,_)] K19 ?_; refine Hd.ret ?_; exact Hd.ret1 rfl () (show some (Value.int .i64 0) = some (Value.int .i64 (if x ≠ 0 then x else y)) from by simp_all) sq
abbrev Ky := Int × Int
abbrev encKy (a : Ky) : List Value := [.int .i64 a.1, .int .i64 a.2]
theorem encKy_one (a : Ky) : ∀ u ∈ encKy a, u.oneCell' = true := by simp [Value.oneCell']
def cmpK (a b : Ky) : Int := if cmpZ a.1 b.1 ≠ 0 then cmpZ a.1 b.1 else cmpZ a.2 b.2
def ltK (a b : Ky) : Prop := a.1 < b.1 ∨ (a.1 = b.1 ∧ a.2 < b.2)
instance (a b : Ky) : Decidable (ltK a b) := by unfold ltK; exact inferInstance
theorem cmpK_neg (a b : Ky) : cmpK a b < 0 ↔ ltK a b := by
 unfold cmpK cmpZ ltK; repeat' split
 all_goals omega
theorem compK_ct (L : List SP) (a b : Ky) : Ct Tryz.prog 160 #[.agg (encKy a).toArray, .agg (encKy b).toArray] (L) (fun _ : Unit => .int .i64 (cmpK a b)) (fun _ : Unit => L) := by
 refine Ct.o2 Tryz.func160 ?_; intro E
 show Hd E 17 _ _ _ _
 refine sr fun _ K1 => ?_
 refine Hd.box rfl rfl (fun b2 => ?_); refine Hd.box rfl rfl (fun b3 => ?_); refine yv y_as <| fk [(2,_),(3,_)] K1 ?_; refine Hd.seq fun _ K2 => ?_
 refine Hd.drawsH ([pt b2 (encKy a) 170, pt b3 (encKy b) 170]) (fun _ => true) mixed ?_; simp only [List.length, Nat.zero_add, Nat.reduceAdd]; refine tH 0 rfl (y_f 0 3 Tryz.underlying170 sz3) <| tH 1 rfl (y_l1 ag3 rfl) <| tH 2 rfl (y_f 0 3 Tryz.underlying170 sz3) <| tH 3 rfl (y_l1 ag3 rfl) <| tH 5 rfl (y_f 1 3 Tryz.underlying170 sz3) <| tH 6 rfl (y_l1 ag3 rfl) <| tH 7 rfl (y_f 1 3 Tryz.underlying170 sz3) <| tH 8 rfl (y_l1 ag3 rfl) <| qo 4 ?_; refine callE rfl fk162 (cmp_ct _ a.1 b.1) sq ?_; intro _; refine qk <| qo 9 ?_; refine callE rfl fk162 (cmp_ct _ a.2 b.2) sq ?_; intro _; refine qk <| qo 10 ?_; refine Hd.bslice (vs := [(0,_),(1,_)]) rfl (by exact bs160_15 ..) (fun b15 => ?_); refine qk <| qo 11 ?_; refine callE rfl fk161 (or2_ct _ b15 (cmpZ a.1 b.1) (cmpZ a.2 b.2)) sq ?_; intro _; refine qk <| tH 12 rfl y_as ?_
 refine endH kq ?_; refine sk [(4,_)] K2 ?_; refine Hd.ret ?_; exact Hd.ret1 rfl () (by rfl) sq
theorem ltOf_K (x y : Ky) : ltOf cmpK x y = decide (ltK x y) := by
 unfold ltOf
 by_cases h : ltK x y
 ·simp [h, (cmpK_neg x y).2 h]
 ·have hn : ¬ cmpK x y < 0 := fun q => h ((cmpK_neg x y).1 q)
  rw [decide_eq_false hn, decide_eq_false h]
theorem swo_K : Go.Sort.SWO (ltOf cmpK) where
 irrefl x := by rw [ltOf_K]; simp [ltK]
 trans x y z h1 h2 := by rw [ltOf_K] at *; simp only [decide_eq_true_eq] at *; unfold ltK at *; omega
 ntrans x y z h1 h2 := by rw [ltOf_K] at *; simp only [decide_eq_false_iff_not] at *; unfold ltK at *; omega
def srtK (xs : List Ky) : List Ky := xs.mergeSort fun x y => !(ltOf cmpK) y x
theorem srtK_nil : srtK [] = [] := by simp [srtK]
theorem srtK_perm (xs : List Ky) : (srtK xs).Perm xs := List.mergeSort_perm _ _
theorem srtK_lt {xs : List Ky} (hn : xs.Nodup) : (srtK xs).Pairwise ltK := by
 have hle : ∀ x y : Ky, (!(ltOf cmpK) y x) = true ↔ ¬ ltK y x := fun x y => by rw [ltOf_K]; simp
 have h1 := List.pairwise_mergeSort (le := fun x y => !(ltOf cmpK) y x) (fun a b c h1 h2 => (hle _ _).2 (by have a1 := (hle _ _).1 h1; have a2 := (hle _ _).1 h2; unfold ltK at *; omega)) (fun a b => by
  rw [Bool.or_eq_true, hle, hle]
  unfold ltK; omega) xs
 have h2 : (srtK xs).Pairwise fun a b => ¬ ltK b a := h1.imp fun h => (hle _ _).1 h
 have h3 : (srtK xs).Nodup := (srtK_perm xs).nodup_iff.2 hn
 refine (h2.and h3).imp fun {a b} h => ?_
 obtain ⟨h4, h5⟩ := h
 have h6 : ¬ (a.1 = b.1 ∧ a.2 = b.2) := fun h => h5 (Prod.ext h.1 h.2)
 unfold ltK at *; omega
abbrev OwK (ad : Option Addr) (n cap : Nat) (xs : List Ky) : SP := own 170 2 ad n cap (xs.flatMap encKy)
theorem fkK : fnk Tryz.prog 160 = true := by kernel_rfl
theorem sortK_ct (L : List SP) (ad : Option Addr) (n cap : Nat) (xs : List Ky) (hn : xs.length = n) (hlen : n ≤ 1000000) :
  Ct Tryz.prog 159 #[.slice ad n cap, .func (.func 160) #[] #[]] (OwK ad n cap xs :: L) (fun _ : Unit => .tuple #[]) (fun _ => OwK ad n cap (srtK xs) :: L) := by
 intro E w hsat
 have hls : (srtK xs).length = n := by rw [(srtK_perm xs).length_eq, hn]
 obtain ⟨hos, htp, hou, h1, h2, dd, s1, s2, ⟨hul, hv⟩, hL⟩ := hsat
 rcases hv with ⟨h0, hc0⟩ | ⟨b, o, sp, rfl, hmc, hcm, hsp, hpt⟩
 ·subst h0
  obtain rfl := List.eq_nil_of_length_eq_zero hn
  refine (AnyF.slices_SortFunc_none Tryz.sortI ad cap _ w).mono ?_; rintro e w' ⟨rfl, rfl⟩; rw [srtK_nil]; exact ⟨(), rfl, hos, htp, hou, h1, h2, dd, s1, s2, ⟨hul, .inl ⟨rfl, hc0⟩⟩, hL⟩
 ·by_cases hn0 : n = 0
  ·subst hn0
   obtain rfl := List.eq_nil_of_length_eq_zero hn
   refine (AnyF.slices_SortFunc_none Tryz.sortI (some ⟨b, o, none⟩) cap _ w).mono ?_; rintro e w' ⟨rfl, rfl⟩; rw [srtK_nil]; exact ⟨(), rfl, hos, htp, hou, h1, h2, dd, s1, s2, ⟨hul, .inr ⟨b, o, sp, rfl, hmc, hcm, hsp, hpt⟩⟩, hL⟩
  have s0 : Sat E (seg b o (xs.flatMap encKy ++ sp) :: L) w := ⟨hos, htp, hou, h1, h2, dd, s1, s2, hpt, hL⟩
  have s3 : Sat E (seg b o (xs.flatMap encKy) :: seg b (o + (xs.flatMap encKy).length) sp :: L) w := s0.mp fun k h => seg_split h
  have h0x : 0 < xs.length := by omega
  have hH := Sat.holdsK (enc := encKy) (k := 2) (fun _ => rfl) (by omega) h0x s3
  have eg : ∀ args w, (callFunc 160 args).run Tryz.prog w = .ok (.enter 160 args) w := fun args w => run_call fkK args w
  have hc := AnyQ.slices_SortFunc_total Tryz.sortI 2 Tryz.isAgg170 Tryz.sizeOf170 encKy (fun _ => rfl) encKy_one cmpK swo_K 160 #[] b o cap xs.toArray w eg
   (cmpLays_of fun L x y => compK_ct L x y) hH.1 hH.2 (by simp; omega) (fun x y h1 h2 => by
    rw [ltOf_K] at h1 h2; simp only [decide_eq_false_iff_not] at h1 h2; unfold ltK at h1 h2
    exact Prod.ext (by omega) (by omega))
  have hsz : xs.toArray.size = n := by simpa using hn
  rw [hsz] at hc; refine Calls.mono (show Calls Tryz.prog 159 _ _ _ from hc) ?_; rintro e w' ⟨rfl, m, os, rfl⟩; refine ⟨(), rfl, ?_⟩
  have s4 := s3.sortW (ys := srtK xs) (enc := encKy) (k := 2) (fun _ => rfl) (by omega) (by omega) h0x m os
  have hfl : (xs.flatMap encKy).length = ((srtK xs).flatMap encKy).length := by rw [rows_len (k := 2) (fun _ => rfl), rows_len (k := 2) (fun _ => rfl)]; omega
  rw [hfl] at s4
  have s5 := s4.mp fun k h => seg_join h
  exact s5.mp fun k h => sep_head h fun k2 x => ⟨by rw [rows_len (k := 2) (fun _ => rfl), hls], .inr ⟨b, o, sp, rfl, hmc, hcm, hsp, x⟩⟩
theorem nodup_le : ∀ {a b : List Nat}, a.Nodup → (∀ x ∈ a, x ∈ b) → a.length ≤ b.length
 | [], _, _, _ => Nat.zero_le _
 | x :: a, b, hn, hs => by
  rw [List.nodup_cons] at hn
  have hx := hs x List.mem_cons_self
  have h1 := nodup_le (b := b.erase x) hn.2 (fun y hy => (List.mem_erase_of_ne (fun e => hn.1 (by rw [← e]; exact hy))).2 (hs y (List.mem_cons_of_mem _ hy)))
  rw [List.length_erase_of_mem hx] at h1
  have := List.length_pos_of_mem hx
  simp only [List.length_cons]; omega
theorem es_len {f : Ky → Option Value} {m c : Nat} {l es : List KVP} (h : MpIP f m l c) (hE : EsIP l es) : es.length ≤ m := by
 have h1 := nodup_le (a := es.map (·.2.2)) (b := l.map (·.2.2)) (List.pairwise_map.2 (hE.nd.imp_of_mem fun {a b} ha hb hab e => hab (inj_of_map (fun e : KVP => e.2.2) h.nd a (hE.mem a ha) b (hE.mem b hb) e))) (fun x hx => by
  obtain ⟨e, he, rfl⟩ := List.mem_map.1 hx
  exact List.mem_map.2 ⟨e, hE.mem e he, rfl⟩)
 rw [List.length_map, List.length_map, h.len] at h1; exact h1
structure AllK (f : Ky → Option KnA) (m : Nat) (w : WA) (ks : List Ky) : Prop where
 srt : ks.Pairwise ltK
 mem : ∀ a, a ∈ ks ↔ isK f w a = true
 len : ks.length ≤ m
theorem isK_some {f : Ky → Option KnA} {w : WA} {a : Ky} (h : isK f w a = true) : (f a).isSome = true := by
 unfold isK at h
 cases hf : f a with
 | none => rw [hf] at h; cases h
 | some x => rfl
theorem allK_of {f : Ky → Option KnA} {m c : Nat} {w : WA} {l es : List KVP} (h : MpIP (kmap f) m l c) (hE : EsIP l es) (hall : ∀ e ∈ l, e.2.2 ∈ es.map (·.2.2)) : AllK f m w (srtK ((es.map (·.1)).filter (isK f w))) where
 srt := srtK_lt ((es_keysP h hE hall).nd.sublist List.filter_sublist)
 mem a := by
  rw [(srtK_perm _).mem_iff, List.mem_filter]; refine ⟨fun h => h.2, fun hk => ⟨?_, hk⟩⟩; rw [(es_keysP h hE hall).mem a, kmap_some]; exact isK_some hk
 len := by
  rw [(srtK_perm _).length_eq]
  have := List.length_filter_le (isK f w) (es.map (·.1))
  rw [List.length_map] at this
  have := es_len h hE
  omega
theorem flt_app (f : Ky → Option KnA) (w : WA) (es : List KVP) (e : KVP) : ((es ++ [e]).map (·.1)).filter (isK f w) = (es.map (·.1)).filter (isK f w) ++ (if isK f w e.1 = true then [e.1] else []) := by
 rw [List.map_append, List.filter_append]
 congr 1
 simp only [List.map_cons, List.map_nil, List.filter_cons, List.filter_nil]
theorem kkeys_ct (L : List SP) (qb wb mb : Nat) (f : Int × Int → Option KnA) (m : Nat) (hm : m ≤ 1000000) (w : WA) : Ct Tryz.prog 93 #[.pointer (some ⟨qb, 0, none⟩)] (KqB qb wb mb f m w L) (fun q_ : Option Addr × Nat × List Ky => .slice q_.1 q_.2.2.length q_.2.1) (fun q_ : Option Addr × Nat × List Ky => pu (AllK f m w q_.2.2) :: OwK q_.1 q_.2.2.length q_.2.1 q_.2.2 :: KqB qb wb mb f m w L) := by
 refine Ct.o1 Tryz.func93 ?_; intro E
 show Hd E 30 _ _ _ _
 refine Hd.mpOutP (.there .here) (fun ml mc hM => ?_); refine sr fun _ K1 => ?_
 refine yv y_as <| fk [(0,_)] K1 ?_; refine sr fun _ K2 => ?_
 refine yv y_as <| fk [(0,_),(3,_)] K2 ?_; refine Hd.seq fun _ K3 => ?_
 refine sr fun _ K4 => ?_
 refine yv y_mv <| yv y_np <| yv (y_f 1 173 Tryz.underlying175 sz173) <| yv (y_l1 ag173 rfl) <| Hd.rangeMapP Tryz.underlying173 rfl pkk (fun rb => ?_); refine fk [(0,_),(3,_),(11,_)] K4 ?_; refine Hd.block <| Hd.loopK (ι := List KVP × Option Addr × Nat) [(0,_)] (fun q_ => [(3, .slice q_.2.1 ((q_.1.map (·.1)).filter (isK f w)).length q_.2.2), (11, .pointer (some ⟨rb, 0, none⟩))]) (fun q_ => pu (EsIP ml q_.1) :: OwK q_.2.1 ((q_.1.map (·.1)).filter (isK f w)).length q_.2.2 ((q_.1.map (·.1)).filter (isK f w)) :: io rb mb mc (q_.1.map (·.2.2)) :: moP mb .i64 ml mc :: KqH qb wb mb :: WorldP wb w :: L) (fun q_ => ml.length + 1 - q_.1.length) ([], none, 0) sbq sbq (fun q t => Ent.sep (.pure (EsIP.nil ml) (.ownNil .same)) q t) ?_; rintro ⟨es, ad, c⟩
 try dsimp only
 refine Hd.pure (fun hp0 => ?_)
 try dsimp only at hp0
 refine sr fun _ K5 => ?_
 refine Hd.nextMapP (seen := es.map (·.2.2)) rfl pkk pkk hM.lt (fun o ho => ?_); refine yv (y_extOP (k := .i64) o rfl) ?_; refine fk [(0,_),(3,_),(11,_),(13,_)] K5 ?_; refine Hd.seq fun _ K6 => ?_
 refine qz ?_ ?_ <;> intro hc0 <;> try simp only [hyZ] at hc0
 ·obtain ⟨e, rfl⟩ : ∃ e, o = some e := Option.isSome_iff_exists.1 hc0
  have hE2 := hp0.step ho.1 ho.2
  have hlen := es_len hM hE2
  rw [List.length_append, List.length_singleton, ← hM.len] at hlen
  have hml := hM.len
  have hfa := flt_app f w es e
  have hfl : ((es.map (·.1)).filter (isK f w)).length ≤ es.length := by
   have := List.length_filter_le (isK f w) (es.map (·.1))
   rwa [List.length_map] at this
  obtain ⟨g, hg⟩ : ∃ g, g = (es.map (·.1)).filter (isK f w) := ⟨_, rfl⟩
  rw [← hg] at hfa hfl ⊢; simp only [seenOP]; refine qv K6 <| Hd.block <| sr fun _ K7 => ?_
  refine yv (y_entryP (k := .i64) (e := e) (seen := es.map (·.2.2)) rfl pkk pkk ho.1 hM.nd) ?_; refine yv y_ex <| Hd.alloc zr170 (fun b4 => ?_); refine Hd.storeA (us := encKy e.1) sz170 rfl rfl rfl (encKy_one _) pkk (by exact rfl) ?_; refine fk [(0,_),(3,_),(4,_),(11,_)] K7 ?_; refine sr fun _ K8 => ?_
  refine yv y_mv <| yv (y_loadn (us := [_, _]) ag170 rfl (Rd.pt pkk (by (first | (intro j v e; rcases j with _|_|_|_|_|_|_|_|_|_|_|_|j <;> first | exact e | exact absurd e (by simp))))) (by exact sz170)) ?_; refine callE rfl fk158 (kfindG_ct _ qb wb mb f m w e.1.1 e.1.2 (moP mb .i64 ml mc) (fun L0 q s => mp_inP hM q s)) sq ?_; intro _; refine yv y_mv <| yv y_ex <| yv y_ex <| Hd.alloc zr172 (fun b5 => ?_); refine Hd.storeA (us := encKn ((f (e.1.1, e.1.2)).getD zKn)) sz172 rfl rfl rfl (by simp [Value.oneCell']) pkk (by exact rfl) ?_; refine yv y_as <| fk [(0,_),(3,_),(4,_),(6,_),(11,_)] K8 ?_; refine sr fun _ K9 => ?_
  refine yv y_mv <| fk [(0,_),(3,_),(4,_),(11,_),(22,_)] K9 ?_; refine qz ?_ ?_ <;> intro hc1 <;> try simp only [hyZ] at hc1
  ·refine Hd.region ?_
   refine yv y_mv <| yv (y_loadn (us := [_, _]) ag170 rfl (Rd.pt pkk (by (first | (intro j v e; rcases j with _|_|_|_|_|_|_|_|_|_|_|_|j <;> first | exact e | exact absurd e (by simp))))) (by exact sz170)) ?_; refine Hd.bslice (vs := [(0,_)]) rfl (by exact bs93_25 ..) (fun b25 => ?_); refine Hd.append Tryz.underlying178 ty170 rfl rfl rfl pkk (by exact RdS.rd (Rd.pt pkk (fun j v e => by simpa using e)) rfl) (by simp [Value.oneCell']; done) (by simp only [maxLen]; omega) (by omega) (fun ad26 cap26 => ?_); refine yv y_as <| Hd.nil <| slots [(0,_),(3,_),(11,_)] sbq ?_; refine Hd.inB <| thenN ?_; rw [if_pos hc1] at hfa; refine Hd.again (es ++ [e], ad26, cap26) (by show ml.length + 1 - (es ++ [e]).length < ml.length + 1 - es.length; simp only [List.length_append, List.length_singleton]; omega) (by rw [hfa]; simp only [List.length_append, List.length_singleton]; repeat (first | exact trivial | refine ⟨rfl, ?_⟩)) (fun q t => ?_)
   rw [hfa]; simp only [List.map_append, List.map_singleton]; exact Ent.sep (.pure hE2 (.eq pkk (own_eq3 (by simp) rfl (by simp only [List.flatMap_append]; rfl)) enn)) q t
  refine Hd.skip <| Hd.inB <| thenN ?_; rw [if_neg (show ¬ (isK f w e.1 = true) from fun hh => by rw [show isK f w (e.1.1, e.1.2) = true from hh] at hc1; cases hc1), List.append_nil] at hfa; refine Hd.again (es ++ [e], ad, c) (by show ml.length + 1 - (es ++ [e]).length < ml.length + 1 - es.length; simp only [List.length_append, List.length_singleton]; omega) (by rw [hfa]; repeat (first | exact trivial | refine ⟨rfl, ?_⟩)) (fun q t => ?_); rw [hfa]; simp only [List.map_append, List.map_singleton]; exact Ent.sep (.pure hE2 enn) q t
 obtain rfl : o = none := by cases o with | none => rfl | some e => simp at hc0
 simp only [seenOP]
 have hK := allK_of (w := w) hM hp0 ho
 have hlen := es_len hM hp0
 have hfl : ((es.map (·.1)).filter (isK f w)).length ≤ es.length := by
  have := List.length_filter_le (isK f w) (es.map (·.1))
  rwa [List.length_map] at this
 refine Hd.exit <| Hd.thenExit <| Hd.thenExit <| Hd.inBexit <| Hd.toK K3 ?_; refine sr fun _ K10 => ?_
 refine yv y_mv <| callE rfl fk159 (sortK_ct _ ad _ c ((es.map (·.1)).filter (isK f w)) rfl (by omega)) sq ?_; intro _; refine fk [(3,_)] K10 ?_; refine sr fun _ K11 => ?_
 refine yv y_mv <| yv y_as <| fk [(2,_)] K11 ?_; refine Hd.ret <| Hd.ret1 rfl (ad, c, srtK ((es.map (·.1)).filter (isK f w))) (by dsimp only; rw [(srtK_perm _).length_eq]; rfl) (fun q s => ?_)
 have s2 : sep (moP mb .i64 ml mc :: OwK ad ((es.map (·.1)).filter (isK f w)).length c (srtK ((es.map (·.1)).filter (isK f w))) :: KqH qb wb mb :: WorldP wb w :: L) q := Ent.sep enn q s
 exact Ent.sep (.pure hK (.eq pkk (own_eq (by dsimp only; rw [(srtK_perm _).length_eq]) rfl) enn)) q (mp_inP hM q s2)
end Kq
end Go.Proofs.YtbfddabjbkohdaaGreat
namespace Go.Proofs.YtbfddabjbkohdaaGreat
open Go.RX Fx
namespace Wo
structure SbW (x x' : WireA) : Prop where
 e : ∀ k, k < 2 → ((x'.e k).what = 1 → (x.e k).what = 1) ∧ (x'.e k).fd = (x.e k).fd ∧ (x'.e k).rd = (x.e k).rd ∧ (x'.e k).wr = (x.e k).wr
 wh : ∀ k, k < 2 → 0 ≤ (x'.e k).what ∧ (x'.e k).what ≤ 3
 w0 : (x.e 0).what ≠ 0 → (x'.e 0).what ≠ 0
 ou : (x'.e 1).what = 2 → (x.e 1).what = 2
 wt : x'.wt.Sublist x.wt
 bl : x'.bl = x.bl
 cap : x'.cap = x.cap
 le : ∀ k, k < 2 → (x'.e k).b.length ≤ x.cap
 nb : ∀ k, k < 2 → (x.e k).rd = false → (x'.e k).b = []
theorem SmW.sb {x x' : WireA} (h : WfW x) (hs : SmW x x') : SbW x x' where
 e k hk := ⟨fun e => by rw [← (hs.e k hk).1]; exact e, (hs.e k hk).2⟩
 wh k hk := by rw [(hs.e k hk).1]; exact h.what k hk
 w0 e := by rw [(hs.e 0 (by omega)).1]; exact e
 ou e := by rw [← (hs.e 1 (by omega)).1]; exact e
 wt := by rw [hs.wt]; exact List.Sublist.refl _
 bl := hs.bl
 cap := hs.cap
 le := hs.le
 nb := hs.nb
theorem SbW.wf {x x' : WireA} (hs : SbW x x') (h : WfW x) : WfW x' where
 wr k hk := by rw [(hs.e k hk).2.2.2, (hs.e (1 - k) (by omega)).2.2.1]; exact h.wr k hk
 le k hk := by rw [hs.cap]; exact hs.le k hk
 nb k hk hr := hs.nb k hk (by rw [← (hs.e k hk).2.2.1]; exact hr)
 cap := by rw [hs.cap]; exact h.cap
 what := hs.wh
 bl := by
  rw [hs.bl]
  have := hs.wt.length_le
  have := h.bl
  omega
 ou e := by
  rw [(hs.e 0 (by omega)).2.2.1, (hs.e 1 (by omega)).2.2.1]; exact h.ou (hs.ou e)
theorem flatMap_set_sub {α β : Type} {f : α → List β} : ∀ {l : List α} {n : Nat} {x x' : α}, l[n]? = some x → (f x').Sublist (f x) → ((l.set n x').flatMap f).Sublist (l.flatMap f)
 | [], _, _, _, h, _ => by simp at h
 | a :: l, 0, x, x', h, e => by
  obtain rfl : a = x := by simpa using h
  show (f x' ++ _).Sublist (f a ++ _)
  exact e.append (List.Sublist.refl _)
 | a :: l, n + 1, x, x', h, e => by
  show (f a ++ (l.set n x').flatMap f).Sublist (f a ++ l.flatMap f)
  exact (List.Sublist.refl _).append (flatMap_set_sub (by simpa using h) e)
theorem setW_get {w : WA} {n m : Nat} {x' y : WireA} (h : (w.setW n x').ws[m]? = some y) : (m = n ∧ y = x') ∨ (m ≠ n ∧ w.ws[m]? = some y) := set_at h
theorem setW_self {w : WA} {n : Nat} {x x' : WireA} (h : w.ws[n]? = some x) : (w.setW n x').ws[n]? = some x' := by
 show (w.ws.set n x')[n]? = _
 rw [List.getElem?_set_self (List.getElem?_eq_some_iff.1 h).1]
theorem setW_ne {w : WA} {n m : Nat} {x' : WireA} (h : m ≠ n) : (w.setW n x').ws[m]? = w.ws[m]? := by
 show (w.ws.set n x')[m]? = _
 rw [List.getElem?_set_ne (Ne.symm h)]
theorem setW_len {w : WA} {n : Nat} {x' : WireA} : (w.setW n x').ws.length = w.ws.length := by
 show (w.ws.set n x').length = _
 rw [List.length_set]
theorem WOk.setS {w : WA} (h : WOk w) {n : Nat} {x x' : WireA} (hx : w.ws[n]? = some x) (hs : SbW x x') (h0 : n ∈ (w.setW n x').ws.flatMap WireA.wt → (x'.e 0).what = 0) : WOk (w.setW n x') := by
 have hxm := List.mem_of_getElem? hx
 have hwf := h.wf x hxm
 have hfm : ((w.setW n x').ws.flatMap WireA.wt).Sublist (w.ws.flatMap WireA.wt) := flatMap_set_sub hx hs.wt
 have hat : ∀ {m : Nat} {y : WireA}, (w.setW n x').ws[m]? = some y → ∃ z, w.ws[m]? = some z ∧ ∀ k, k < 2 → ((y.e k).what = 1 → (z.e k).what = 1) ∧ (y.e k).fd = (z.e k).fd ∧ (y.e k).rd = (z.e k).rd := fun hm => by
  rcases setW_get hm with ⟨rfl, rfl⟩ | ⟨_, hm⟩
  ·exact ⟨x, hx, fun k hk => ⟨(hs.e k hk).1, (hs.e k hk).2.1, (hs.e k hk).2.2.1⟩⟩
  ·exact ⟨_, hm, fun _ _ => ⟨id, rfl, rfl⟩⟩
 refine ⟨?_, ?_, by rw [setW_len]; exact h.len, h.hdl, h.ctl, ?_, hfm.nodup h.wn, ?_, ?_, fun m y hm => by
  rcases setW_get hm with ⟨rfl, rfl⟩ | ⟨_, hm⟩
  ·exact fun e => h.ns _ _ hx (hs.wt.subset e)
  ·exact h.ns _ _ hm⟩
 ·intro a b y z k j ha hb hk hj h1 h2 h3
  obtain ⟨y', ha', hy⟩ := hat ha
  obtain ⟨z', hb', hz⟩ := hat hb
  exact h.uq a b y' z' k j ha' hb' hk hj ((hy k hk).1 h1) ((hz j hj).1 h2) (by rw [← (hy k hk).2.1, ← (hz j hj).2.1]; exact h3)
 ·intro y hy k hk h1
  obtain ⟨m, hm, e⟩ := List.getElem_of_mem hy
  obtain ⟨z, hz, he⟩ := hat (m := m) (y := y) (by rw [List.getElem?_eq_getElem hm, e])
  have := h.fd z (List.mem_of_getElem? hz) k hk ((he k hk).1 h1)
  rw [(he k hk).2.1]; exact this
 ·intro y hy
  rcases List.mem_or_eq_of_mem_set hy with hy | rfl
  ·exact h.wf y hy
  ·exact hs.wf hwf
 ·intro m hm
  by_cases e : m = n
  ·subst e
   exact ⟨x', setW_self hx, h0 hm⟩
  ·obtain ⟨z, hz, hz0⟩ := h.wm m (hfm.subset hm)
   exact ⟨z, by rw [setW_ne e]; exact hz, hz0⟩
 ·intro m k hm
  obtain ⟨hk, z, hz, z0, z1⟩ := h.nt m k hm
  by_cases e : m = n
  ·subst e
   rw [hx] at hz; obtain rfl := Option.some.inj hz; exact ⟨hk, x', setW_self hx, by rw [(hs.e 0 (by omega)).2.2.1]; exact z0, by rw [(hs.e 1 (by omega)).2.2.1]; exact z1⟩
  ·exact ⟨hk, z, by rw [setW_ne e]; exact hz, z0, z1⟩
theorem WOk.setS_at {w : WA} (h : WOk w) {n : Nat} {x x' : WireA} (hx : w.ws[n]? = some x) (hs : SbW x x') (h0 : n ∈ (w.setW n x').ws.flatMap WireA.wt → (x'.e 0).what = 0) (hk : ∀ k, k < 2 → (x.e k).what = 1 → (x'.e k).what = 1) : (w.setW n x').at = w.at := by
 funext fd
 refine atW_ext (h.setS hx hs h0).uq h.uq fun m k hk2 => ?_
 by_cases e : m = n
 ·subst e
  rw [setW_self hx, hx]
  have := hs.e k hk2
  constructor
  ·rintro ⟨y, hy, h1, h2⟩; obtain rfl := Option.some.inj hy; exact ⟨x, rfl, this.1 h1, this.2.1 ▸ h2⟩
  ·rintro ⟨y, hy, h1, h2⟩; obtain rfl := Option.some.inj hy; exact ⟨x', rfl, hk k hk2 h1, by rw [this.2.1]; exact h2⟩
 ·rw [setW_ne e]
def giveW (y : WireA) (f : Nat) : WireA := y.up 0 fun e => { e with what := 1, fd := (f : Int) }
theorem give0 (y : WireA) (f : Nat) : (giveW y f).e 0 = { y.e 0 with what := 1, fd := (f : Int) } := up_at _ _ _
theorem give1 (y : WireA) (f : Nat) : (giveW y f).e 1 = y.e 1 := up_ne _ _ (by omega)
theorem WOk.give {w : WA} (h : WOk w) {n f : Nat} {y : WireA} (hy : w.ws[n]? = some y) (hn : (y.e 0).what ≠ 1) (hw : n ∉ w.ws.flatMap WireA.wt) (hf : f < 96) (hfr : w.at (f : Int) = none) :
  WOk (w.setW n (giveW y f)) ∧ (w.setW n (giveW y f)).at = setT w.at (f : Int) (some (n, 0)) := by
 have hym := List.mem_of_getElem? hy
 have hwf := h.wf y hym
 have hold := atW_no.1 hfr
 have hfm : (w.setW n (giveW y f)).ws.flatMap WireA.wt = w.ws.flatMap WireA.wt := flatMap_set hy rfl
 have hat : ∀ {m : Nat} {x : WireA}, (w.setW n (giveW y f)).ws[m]? = some x → ∃ z, w.ws[m]? = some z ∧ ∀ k, k < 2 → ((m = n ∧ k = 0 ∧ (x.e k).what = 1 ∧ (x.e k).fd = (f : Int)) ∨ (¬ (m = n ∧ k = 0) ∧ (x.e k).what = (z.e k).what ∧ (x.e k).fd = (z.e k).fd)) ∧ (x.e k).rd = (z.e k).rd := fun {m} {x} hm => by
  rcases setW_get hm with ⟨rfl, rfl⟩ | ⟨hne, hm⟩
  ·refine ⟨y, hy, fun k hk => ?_⟩
   rcases (show k = 0 ∨ k = 1 by omega) with rfl | rfl
   ·rw [give0]; exact ⟨.inl ⟨rfl, rfl, rfl, rfl⟩, rfl⟩
   ·rw [give1]; exact ⟨.inr ⟨by omega, rfl, rfl⟩, rfl⟩
  ·exact ⟨_, hm, fun k _ => ⟨.inr ⟨fun e => hne e.1, rfl, rfl⟩, rfl⟩⟩
 have hok : WOk (w.setW n (giveW y f)) := by
  refine ⟨?_, ?_, by rw [setW_len]; exact h.len, h.hdl, h.ctl, ?_, by rw [hfm]; exact h.wn, ?_, ?_, fun m z hm => by
   rcases setW_get hm with ⟨rfl, rfl⟩ | ⟨_, hm⟩
   ·exact fun e => h.ns _ y hy e
   ·exact h.ns _ _ hm⟩
  ·intro a b x z k j ha hb hk hj h1 h2 h3
   obtain ⟨x', ha', hx⟩ := hat ha
   obtain ⟨z', hb', hz⟩ := hat hb
   rcases (hx k hk).1 with ⟨rfl, rfl, _, e1⟩ | ⟨a1, a2, a3⟩ <;> rcases (hz j hj).1 with ⟨rfl, rfl, _, e2⟩ | ⟨b1, b2, b3⟩
   ·exact ⟨rfl, rfl⟩
   ·exact absurd ⟨by rw [← b2]; exact h2, by rw [← b3, ← h3]; exact e1⟩ (hold z' (List.mem_of_getElem? hb') j hj)
   ·exact absurd ⟨by rw [← a2]; exact h1, by rw [← a3, h3]; exact e2⟩ (hold x' (List.mem_of_getElem? ha') k hk)
   ·exact h.uq a b x' z' k j ha' hb' hk hj (by rw [← a2]; exact h1) (by rw [← b2]; exact h2) (by rw [← a3, ← b3]; exact h3)
  ·intro x hx k hk h1
   obtain ⟨m, hm, e⟩ := List.getElem_of_mem hx
   obtain ⟨z, hz, he⟩ := hat (m := m) (x := x) (by rw [List.getElem?_eq_getElem hm, e])
   rcases (he k hk).1 with ⟨_, _, _, e1⟩ | ⟨_, a2, a3⟩
   ·rw [e1]; omega
   ·rw [a3]; exact h.fd z (List.mem_of_getElem? hz) k hk (by rw [← a2]; exact h1)
  ·intro x hx
   rcases List.mem_or_eq_of_mem_set hx with hx | rfl
   ·exact h.wf x hx
   ·refine ⟨fun k hk => ?_, fun k hk => ?_, fun k hk hr => ?_, hwf.cap, fun k hk => ?_, hwf.bl, fun e => ?_⟩
    ·have h1 : ∀ j, j < 2 → ((giveW y f).e j).wr = (y.e j).wr ∧ ((giveW y f).e j).rd = (y.e j).rd := fun j hj => by
      rcases (show j = 0 ∨ j = 1 by omega) with rfl | rfl
      ·rw [give0]; exact ⟨rfl, rfl⟩
      ·rw [give1]; exact ⟨rfl, rfl⟩
     rw [(h1 k hk).1, (h1 (1 - k) (by omega)).2]; exact hwf.wr k hk
    ·rcases (show k = 0 ∨ k = 1 by omega) with rfl | rfl
     ·rw [give0]; exact hwf.le 0 hk
     ·rw [give1]; exact hwf.le 1 hk
    ·rcases (show k = 0 ∨ k = 1 by omega) with rfl | rfl
     ·rw [give0] at hr ⊢; exact hwf.nb 0 hk hr
     ·rw [give1] at hr ⊢; exact hwf.nb 1 hk hr
    ·rcases (show k = 0 ∨ k = 1 by omega) with rfl | rfl
     ·rw [give0]; show (0 : Int) ≤ 1 ∧ (1 : Int) ≤ 3; omega
     ·rw [give1]; exact hwf.what 1 hk
    ·rw [give1] at e ⊢; rw [give0]; exact hwf.ou e
  ·intro m hm
   rw [hfm] at hm
   have e : m ≠ n := fun e => hw (e ▸ hm)
   obtain ⟨z, hz, hz0⟩ := h.wm m hm
   exact ⟨z, by rw [setW_ne e]; exact hz, hz0⟩
  ·intro m k hm
   obtain ⟨hk, z, hz, z0, z1⟩ := h.nt m k hm
   by_cases e : m = n
   ·subst e
    rw [hy] at hz; obtain rfl := Option.some.inj hz; exact ⟨hk, _, setW_self hy, by rw [give0]; exact z0, by rw [give1]; exact z1⟩
   ·exact ⟨hk, z, by rw [setW_ne e]; exact hz, z0, z1⟩
 refine ⟨hok, ?_⟩
 funext a
 apply Option.ext; rintro ⟨m, k⟩; rw [show (w.setW n (giveW y f)).at a = some (m, k) ↔ _ from atW_iff hok.uq]
 show _ ↔ (if a = (f : Int) then some (n, 0) else w.at a) = some (m, k)
 constructor
 ·rintro ⟨hk, x, hx, h1, h2⟩
  obtain ⟨z, hz, he⟩ := hat hx
  rcases (he k hk).1 with ⟨rfl, rfl, _, e1⟩ | ⟨a1, a2, a3⟩
  ·rw [if_pos (by rw [← h2]; exact e1)]
  ·have hne : a ≠ (f : Int) := fun e => hold z (List.mem_of_getElem? hz) k hk ⟨by rw [← a2]; exact h1, by rw [← a3, h2]; exact e⟩
   rw [if_neg hne]; exact (atW_iff h.uq).2 ⟨hk, z, hz, by rw [← a2]; exact h1, by rw [← a3]; exact h2⟩
 ·intro e
  by_cases ha : a = (f : Int)
  ·rw [if_pos ha] at e
   obtain ⟨rfl, rfl⟩ := Prod.mk.inj (Option.some.inj e)
   exact ⟨by omega, _, setW_self hy, by rw [give0], by rw [give0]; exact ha.symm⟩
  ·rw [if_neg ha] at e
   obtain ⟨hk, z, hz, h1, h2⟩ := (atW_iff h.uq).1 e
   by_cases em : m = n
   ·subst em
    rw [hy] at hz; obtain rfl := Option.some.inj hz
    rcases (show k = 0 ∨ k = 1 by omega) with rfl | rfl
    ·exact absurd h1 hn
    ·exact ⟨hk, _, setW_self hy, by rw [give1]; exact h1, by rw [give1]; exact h2⟩
   ·exact ⟨hk, z, by rw [setW_ne em]; exact hz, h1, h2⟩
def waitW (x : WireA) (m : Nat) : WireA := { x.up 0 (fun e => { e with inn := IntKind.u64.wrap (e.inn + 1) }) with wt := x.wt ++ [m] }
theorem wait_e (x : WireA) (m k : Nat) : ((waitW x m).e k).what = (x.e k).what ∧ ((waitW x m).e k).fd = (x.e k).fd ∧ ((waitW x m).e k).rd = (x.e k).rd ∧ ((waitW x m).e k).wr = (x.e k).wr ∧ ((waitW x m).e k).b = (x.e k).b := by
 show ((if k = 0 then _ else _ : EndA)).what = _ ∧ ((if k = 0 then _ else _ : EndA)).fd = _ ∧ ((if k = 0 then _ else _ : EndA)).rd = _ ∧ ((if k = 0 then _ else _ : EndA)).wr = _ ∧ ((if k = 0 then _ else _ : EndA)).b = _
 by_cases h : k = 0
 ·subst h; exact ⟨rfl, rfl, rfl, rfl, rfl⟩
 ·rw [if_neg h]; exact ⟨rfl, rfl, rfl, rfl, rfl⟩
theorem flatMap_set_app {α β : Type} {f : α → List β} {bs : List β} : ∀ {l : List α} {n : Nat} {x x' : α}, l[n]? = some x → f x' = f x ++ bs → ((l.set n x').flatMap f).Perm (bs ++ l.flatMap f)
 | [], _, _, _, h, _ => by simp at h
 | a :: l, 0, x, x', h, e => by
  obtain rfl : a = x := by simpa using h
  show (f x' ++ l.flatMap f).Perm (bs ++ (f a ++ l.flatMap f))
  rw [e, ← List.append_assoc]; exact List.Perm.append_right _ List.perm_append_comm
 | a :: l, n + 1, x, x', h, e => by
  show (f a ++ (l.set n x').flatMap f).Perm (bs ++ (f a ++ l.flatMap f))
  have := flatMap_set_app (f := f) (l := l) (n := n) (by simpa using h) e
  refine (List.Perm.append_left (f a) this).trans ?_; rw [← List.append_assoc, ← List.append_assoc]; exact List.Perm.append_right _ List.perm_append_comm
theorem WOk.wait {w : WA} (h : WOk w) {n m : Nat} {x y : WireA} (hx : w.ws[n]? = some x) (hm : w.ws[m]? = some y) (h0 : (y.e 0).what = 0) (hnm : n ≠ m) (hw : m ∉ w.ws.flatMap WireA.wt) (hl : (x.wt.length : Int) + 1 ≤ x.bl) :
  WOk (w.setW n (waitW x m)) ∧ (w.setW n (waitW x m)).at = w.at := by
 have hwf := h.wf x (List.mem_of_getElem? hx)
 have hpm : ((w.setW n (waitW x m)).ws.flatMap WireA.wt).Perm ([m] ++ w.ws.flatMap WireA.wt) := flatMap_set_app hx rfl
 have hat : ∀ {a : Nat} {z : WireA}, (w.setW n (waitW x m)).ws[a]? = some z → ∃ z', w.ws[a]? = some z' ∧ ∀ k, (z.e k).what = (z'.e k).what ∧ (z.e k).fd = (z'.e k).fd ∧ (z.e k).rd = (z'.e k).rd := fun ha => by
  rcases setW_get ha with ⟨rfl, rfl⟩ | ⟨_, ha⟩
  ·exact ⟨x, hx, fun k => ⟨(wait_e x m k).1, (wait_e x m k).2.1, (wait_e x m k).2.2.1⟩⟩
  ·exact ⟨_, ha, fun _ => ⟨rfl, rfl, rfl⟩⟩
 have hta : ∀ {a : Nat} {z : WireA}, w.ws[a]? = some z → ∃ z', (w.setW n (waitW x m)).ws[a]? = some z' ∧ ∀ k, (z'.e k).what = (z.e k).what ∧ (z'.e k).fd = (z.e k).fd ∧ (z'.e k).rd = (z.e k).rd := fun {a} {z} ha => by
  by_cases e : a = n
  ·subst e
   rw [hx] at ha; obtain rfl := Option.some.inj ha; exact ⟨_, setW_self hx, fun k => ⟨(wait_e x m k).1, (wait_e x m k).2.1, (wait_e x m k).2.2.1⟩⟩
  ·exact ⟨z, by rw [setW_ne e]; exact ha, fun _ => ⟨rfl, rfl, rfl⟩⟩
 have hok : WOk (w.setW n (waitW x m)) := by
  refine ⟨?_, ?_, by rw [setW_len]; exact h.len, h.hdl, h.ctl, ?_, ?_, ?_, ?_, fun a z ha => by
   rcases setW_get ha with ⟨rfl, rfl⟩ | ⟨_, ha⟩
   ·intro e
    rcases List.mem_append.1 (show a ∈ x.wt ++ [m] from e) with e | e
    ·exact h.ns _ _ hx e
    ·exact hnm (by simpa using e)
   ·exact h.ns _ _ ha⟩
  ·intro a b p q k j ha hb hk hj h1 h2 h3
   obtain ⟨p', ha', hp⟩ := hat ha
   obtain ⟨q', hb', hq⟩ := hat hb
   exact h.uq a b p' q' k j ha' hb' hk hj (by rw [← (hp k).1]; exact h1) (by rw [← (hq j).1]; exact h2) (by rw [← (hp k).2.1, ← (hq j).2.1]; exact h3)
  ·intro p hp k hk h1
   obtain ⟨a, ha, e⟩ := List.getElem_of_mem hp
   obtain ⟨p', hp', he⟩ := hat (a := a) (z := p) (by rw [List.getElem?_eq_getElem ha, e])
   have := h.fd p' (List.mem_of_getElem? hp') k hk (by rw [← (he k).1]; exact h1)
   rw [(he k).2.1]; exact this
  ·intro p hp
   rcases List.mem_or_eq_of_mem_set hp with hp | rfl
   ·exact h.wf p hp
   ·have e := wait_e x m
    refine ⟨fun k hk => by rw [(e k).2.2.2.1, (e (1 - k)).2.2.1]; exact hwf.wr k hk, fun k hk => by rw [(e k).2.2.2.2]; exact hwf.le k hk, fun k hk hr => by rw [(e k).2.2.2.2]; exact hwf.nb k hk (by rw [← (e k).2.2.1]; exact hr), hwf.cap, fun k hk => by rw [(e k).1]; exact hwf.what k hk, ?_, fun h1 => ?_⟩
    ·have h1 := hwf.bl
     refine ⟨h1.1, h1.2.1, ?_⟩
     show ((x.wt ++ [m]).length : Int) ≤ x.bl
     rw [List.length_append]
     show ((x.wt.length + 1 : Nat) : Int) ≤ _
     omega
    ·rw [(e 1).1] at h1
     rw [(e 0).2.2.1, (e 1).2.2.1]; exact hwf.ou h1
  ·rw [hpm.nodup_iff]
   exact List.nodup_cons.2 ⟨hw, h.wn⟩
  ·intro a ha
   have ha2 : a ∈ [m] ++ w.ws.flatMap WireA.wt := hpm.mem_iff.1 ha
   rcases List.mem_append.1 ha2 with h1 | h1
   ·obtain rfl : a = m := by simpa using h1
    exact ⟨y, by rw [setW_ne (Ne.symm hnm)]; exact hm, h0⟩
   ·obtain ⟨z, hz, hz0⟩ := h.wm a h1
    obtain ⟨z', hz', he⟩ := hta hz
    exact ⟨z', hz', by rw [(he 0).1]; exact hz0⟩
  ·intro a k ha
   obtain ⟨hk, z, hz, z0, z1⟩ := h.nt a k ha
   obtain ⟨z', hz', he⟩ := hta hz
   exact ⟨hk, z', hz', by rw [(he 0).2.2]; exact z0, by rw [(he 1).2.2]; exact z1⟩
 refine ⟨hok, ?_⟩
 funext fd
 refine atW_ext hok.uq h.uq fun a k _ => ?_
 constructor
 ·rintro ⟨z, hz, h1, h2⟩
  obtain ⟨z', hz', he⟩ := hat hz
  exact ⟨z', hz', by rw [← (he k).1]; exact h1, by rw [← (he k).2.1]; exact h2⟩
 ·rintro ⟨z, hz, h1, h2⟩
  obtain ⟨z', hz', he⟩ := hta hz
  exact ⟨z', hz', by rw [(he k).1]; exact h1, by rw [(he k).2.1]; exact h2⟩
structure Gr (w w' : WA) : Prop where
 all : ∀ (n : Nat) (x : WireA), w.ws[n]? = some x → ∃ x', w'.ws[n]? = some x' ∧ ((x.e 0).what ≠ 0 → (x'.e 0).what ≠ 0) ∧ ∀ k, k < 2 → (x.e k).inn ≤ (x'.e k).inn ∧ (x.e k).out ≤ (x'.e k).out ∧ ((x.e 0).what ≠ 0 → (x'.e k).what = 1 → (x.e k).what = 1 ∧ (x'.e k).fd = (x.e k).fd)
theorem Gr.refl (w : WA) : Gr w w := ⟨fun n x h => ⟨x, h, id, fun k _ => ⟨Int.le_refl _, Int.le_refl _, fun _ e => ⟨e, rfl⟩⟩⟩⟩
theorem Gr.trans {a b c : WA} (h : Gr a b) (g : Gr b c) : Gr a c := ⟨fun n x hx => by
 obtain ⟨y, hy, y0, ye⟩ := h.all n x hx
 obtain ⟨z, hz, z0, ze⟩ := g.all n y hy
 refine ⟨z, hz, fun e => z0 (y0 e), fun k hk => ?_⟩
 obtain ⟨a1, a2, a3⟩ := ye k hk
 obtain ⟨b1, b2, b3⟩ := ze k hk
 refine ⟨by omega, by omega, fun e e1 => ?_⟩
 obtain ⟨c1, c2⟩ := b3 (y0 e) e1
 obtain ⟨d1, d2⟩ := a3 e c1
 exact ⟨d1, by rw [c2, d2]⟩⟩
structure Lo (K : Nat) (w : WA) : Prop where
 ct : ∀ c ∈ w.ct, 0 ≤ c ∧ c ≤ (K : Int)
 rs : ∀ x ∈ w.ws, ∀ k, k < 2 → 0 ≤ (x.e k).inn ∧ (x.e k).inn ≤ (K : Int) ∧ 0 ≤ (x.e k).out ∧ (x.e k).out ≤ (K : Int)
 now : 0 ≤ w.now ∧ w.now ≤ 18446744073709551615
 g1 : ∀ x ∈ w.ws, (x.e 1).what = 1 → (x.e 0).what ≠ 0
theorem Lo.mono {K K' : Nat} {w : WA} (h : Lo K w) (hk : K ≤ K') : Lo K' w := ⟨fun c hc => by have := h.ct c hc; omega, fun x hx k hk => by have := h.rs x hx k hk; omega, h.now, h.g1⟩
def Stp (j : Nat) (w w' : WA) : Prop := ∀ K, K + j ≤ 1000000000 → Lo K w → Lo (K + j) w' ∧ Gr w w'
theorem Stp.refl (w : WA) : Stp 0 w w := fun _ _ h => ⟨h, Gr.refl w⟩
theorem Stp.mono {i j : Nat} {w w' : WA} (h : Stp i w w') (hij : i ≤ j) : Stp j w w' := fun K hK hl => by
 obtain ⟨h1, h2⟩ := h K (by omega) hl
 exact ⟨h1.mono (by omega), h2⟩
theorem Stp.same {j : Nat} (w : WA) : Stp j w w := (Stp.refl w).mono (Nat.zero_le _)
theorem Stp.trans {i j : Nat} {a b c : WA} (h : Stp i a b) (g : Stp j b c) : Stp (i + j) a c := fun K hK hl => by
 obtain ⟨h1, h2⟩ := h K (by omega) hl
 obtain ⟨g1, g2⟩ := g (K + i) (by omega) h1
 exact ⟨by rw [← Nat.add_assoc]; exact g1, h2.trans g2⟩
def RsE (e e' : EndA) : Prop := (e'.inn = e.inn ∨ e'.inn = IntKind.u64.wrap (e.inn + 1)) ∧ (e'.out = e.out ∨ e'.out = IntKind.u64.wrap (e.out + 1))
theorem RsE.refl (e : EndA) : RsE e e := ⟨.inl rfl, .inl rfl⟩
theorem rsE_rise (i o : Bool) (e : EndA) : RsE e (riseE i o e) := by
 unfold riseE RsE; dsimp only
 constructor
 ·by_cases h : (i && e.rd) = true
  ·rw [if_pos h]; exact .inr rfl
  ·rw [if_neg h]; exact .inl rfl
 ·by_cases h : (o && e.wr) = true
  ·rw [if_pos h]; exact .inr rfl
  ·rw [if_neg h]; exact .inl rfl
theorem wrap_add {x : Int} {K : Nat} (h0 : 0 ≤ x) (h1 : x ≤ (K : Int)) (hK : K + 1 ≤ 1000000000) : IntKind.u64.wrap (x + 1) = x + 1 := by
 have : IntKind.u64.wrap (x + 1) = (x + 1) % 18446744073709551616 := rfl
 rw [this]; omega
theorem RsE.le {e e' : EndA} (h : RsE e e') {K : Nat} (hK : K + 1 ≤ 1000000000) (hl : 0 ≤ e.inn ∧ e.inn ≤ (K : Int) ∧ 0 ≤ e.out ∧ e.out ≤ (K : Int)) : e.inn ≤ e'.inn ∧ e.out ≤ e'.out ∧ 0 ≤ e'.inn ∧ e'.inn ≤ ((K + 1 : Nat) : Int) ∧ 0 ≤ e'.out ∧ e'.out ≤ ((K + 1 : Nat) : Int) := by
 obtain ⟨h1, h2⟩ := h
 rw [wrap_add hl.1 hl.2.1 hK] at h1; rw [wrap_add hl.2.2.1 hl.2.2.2 hK] at h2; omega
theorem stp_set {w : WA} {n : Nat} {x x' : WireA} (hx : w.ws[n]? = some x) (hr : ∀ k, k < 2 → RsE (x.e k) (x'.e k)) (h0 : (x.e 0).what ≠ 0 → (x'.e 0).what ≠ 0) (hn : (x.e 0).what ≠ 0 → ∀ k, k < 2 → (x'.e k).what = 1 → (x.e k).what = 1 ∧ (x'.e k).fd = (x.e k).fd) (h1 : (x'.e 1).what = 1 → (x.e 1).what = 1) : Stp 1 w (w.setW n x') := fun K hK hl => by
 have hlx := hl.rs x (List.mem_of_getElem? hx)
 refine ⟨⟨(hl.mono (Nat.le_succ K)).ct, fun y hy k hk => ?_, hl.now, fun y hy e1 => (List.mem_or_eq_of_mem_set hy).elim (fun hy => hl.g1 y hy e1) (fun e => by subst e; exact h0 (hl.g1 x (List.mem_of_getElem? hx) (h1 e1)))⟩, ⟨fun m y hy => ?_⟩⟩
 ·rcases List.mem_or_eq_of_mem_set hy with hy | rfl
  ·exact (hl.mono (Nat.le_succ K)).rs y hy k hk
  ·have := (hr k hk).le hK (hlx k hk)
   omega
 ·by_cases e : m = n
  ·subst e
   rw [hx] at hy; obtain rfl := Option.some.inj hy; refine ⟨x', setW_self hx, h0, fun k hk => ?_⟩
   have := (hr k hk).le hK (hlx k hk)
   exact ⟨this.1, this.2.1, fun e0 e1 => hn e0 k hk e1⟩
  ·exact ⟨y, by rw [setW_ne e]; exact hy, id, fun k _ => ⟨Int.le_refl _, Int.le_refl _, fun _ e => ⟨e, rfl⟩⟩⟩
theorem SbW.stp {w : WA} {n : Nat} {x x' : WireA} (hx : w.ws[n]? = some x) (hs : SbW x x') (hr : ∀ k, k < 2 → RsE (x.e k) (x'.e k)) : Stp 1 w (w.setW n x') :=
 stp_set hx hr hs.w0 (fun _ k hk e => ⟨(hs.e k hk).1 e, (hs.e k hk).2.1⟩) (fun e => (hs.e 1 (by omega)).1 e)
theorem stp_add (w : WA) {x : WireA} (h : ∀ k, k < 2 → (x.e k).inn = 0 ∧ (x.e k).out = 0) (h1 : (x.e 1).what = 1 → (x.e 0).what ≠ 0) : Stp 0 w (w.addW x) := fun K _ hl => by
 refine ⟨⟨hl.ct, fun y hy k hk => ?_, hl.now, fun y hy e1 => (List.mem_append.1 hy).elim (fun hy => hl.g1 y hy e1) (fun hy => by obtain rfl : y = x := (by simpa using hy); exact h1 e1)⟩, ⟨fun m y hy => ⟨y, by show (w.ws ++ [x])[m]? = _; rw [List.getElem?_append_left (List.getElem?_eq_some_iff.1 hy).1]; exact hy, id, fun k _ => ⟨Int.le_refl _, Int.le_refl _, fun _ e => ⟨e, rfl⟩⟩⟩⟩⟩
 rcases List.mem_append.1 hy with hy | hy
 ·exact hl.rs y hy k hk
 ·obtain rfl : y = x := by simpa using hy
  have := h k hk
  omega
theorem gr_ws {w w' : WA} (h : w'.ws = w.ws) : Gr w w' := ⟨fun n x hx => ⟨x, by rw [h]; exact hx, id, fun k _ => ⟨Int.le_refl _, Int.le_refl _, fun _ e => ⟨e, rfl⟩⟩⟩⟩
theorem rs_up (x : WireA) (k : Nat) {f : EndA → EndA} (h : ∀ e, RsE e (f e)) : ∀ j, RsE (x.e j) ((x.up k f).e j) := fun j => by
 by_cases e : j = k
 ·subst e; rw [up_at]; exact h _
 ·rw [up_ne _ _ e]; exact RsE.refl _
theorem rs_same {x y : WireA} (h : ∀ j, (y.e j).inn = (x.e j).inn ∧ (y.e j).out = (x.e j).out) {z : WireA} (hz : ∀ j, RsE (y.e j) (z.e j)) : ∀ j, RsE (x.e j) (z.e j) := fun j => by
 have := hz j
 unfold RsE at this ⊢; rw [(h j).1, (h j).2] at this; exact this
theorem up_cnt (x : WireA) (k : Nat) {f : EndA → EndA} (h : ∀ e, (f e).inn = e.inn ∧ (f e).out = e.out) : ∀ j, ((x.up k f).e j).inn = (x.e j).inn ∧ ((x.up k f).e j).out = (x.e j).out := fun j => by
 by_cases e : j = k
 ·subst e; rw [up_at]; exact h _
 ·rw [up_ne _ _ e]; exact ⟨rfl, rfl⟩
theorem rs_take (x : WireA) (k n : Nat) : ∀ j, RsE (x.e j) ((takeW x k n).e j) := rs_same (up_cnt x k (f := fun e => { e with b := e.b.drop n }) fun _ => ⟨rfl, rfl⟩) (rs_up _ _ (rsE_rise _ _))
theorem rs_put (x : WireA) (k : Nat) (bs : List UInt8) : ∀ j, RsE (x.e j) ((putW x k bs).e j) := rs_same (up_cnt x (1 - k) (f := fun e => { e with b := e.b ++ bs.take (putN x k bs) }) fun _ => ⟨rfl, rfl⟩) (rs_up _ _ (rsE_rise _ _))
theorem rs_shut (x : WireA) (k : Nat) : ∀ j, RsE (x.e j) ((shutW x k).e j) := by
 unfold shutW
 by_cases h : (x.e k).shut = true
 ·rw [if_pos h]; exact fun j => RsE.refl _
 ·rw [if_neg h]; exact rs_same (up_cnt x k (f := fun e => { e with shut := true }) fun _ => ⟨rfl, rfl⟩) (rs_up _ _ (rsE_rise _ _))
theorem rs_close (x : WireA) (k : Nat) : ∀ j, RsE (x.e j) ((closeW x k).e j) := fun j => by
 unfold closeW
 have h1 := rs_up x (1 - k) (rsE_rise (!(x.e k).shut) true) j
 have h2 := up_cnt (x.up (1 - k) (riseE (!(x.e k).shut) true)) k (f := fun e => { e with what := 3 }) (fun _ => ⟨rfl, rfl⟩) j
 unfold RsE at h1 ⊢; rw [h2.1, h2.2]; exact h1
theorem smW_shut {x : WireA} (h : WfW x) {k : Nat} : SmW x (shutW x k) := by
 unfold shutW
 by_cases hs : (x.e k).shut = true
 ·rw [if_pos hs]; exact smW_same h
 ·rw [if_neg hs]
  have h1 : SmW x (x.up k fun e => { e with shut := true }) := by
   have e : ∀ j, ((x.up k fun e => { e with shut := true }).e j).what = (x.e j).what ∧ ((x.up k fun e => { e with shut := true }).e j).fd = (x.e j).fd ∧ ((x.up k fun e => { e with shut := true }).e j).rd = (x.e j).rd ∧ ((x.up k fun e => { e with shut := true }).e j).wr = (x.e j).wr ∧ ((x.up k fun e => { e with shut := true }).e j).b = (x.e j).b := fun j => by
    by_cases e : j = k
    ·subst e; rw [up_at]; exact ⟨rfl, rfl, rfl, rfl, rfl⟩
    ·rw [up_ne _ _ e]; exact ⟨rfl, rfl, rfl, rfl, rfl⟩
   exact ⟨fun j _ => ⟨(e j).1, (e j).2.1, (e j).2.2.1, (e j).2.2.2.1⟩, rfl, rfl, rfl, fun j hj => by rw [(e j).2.2.2.2]; exact h.le j hj, fun j hj hr => by rw [(e j).2.2.2.2]; exact h.nb j hj hr⟩
  exact h1.trans (smW_rise (h1.wf h) _ _ _)
theorem sbW_close {x : WireA} (h : WfW x) {k : Nat} (hk : k < 2) : SbW x (closeW x k) where
 e j hj := by
  obtain ⟨a, b, c, d, _⟩ := close_e x hk hj
  refine ⟨fun e => ?_, b, c, d⟩; rw [a] at e
  split at e
  ·cases e
  ·exact e
 wh := (close_wf h hk).what
 w0 e := by
  rw [(close_e x hk (by omega)).1]
  split
  ·decide
  ·exact e
 ou e := by
  rw [(close_e x hk (by omega)).1] at e
  split at e
  ·cases e
  ·exact e
 wt := List.Sublist.refl _
 bl := rfl
 cap := rfl
 le j hj := by rw [(close_e x hk hj).2.2.2.2]; exact h.le j hj
 nb j hj hr := by rw [(close_e x hk hj).2.2.2.2]; exact h.nb j hj hr
def WireA.wts (x : WireA) (l : List Nat) : WireA := { x with wt := l }
theorem sbW_wts {x : WireA} (h : WfW x) {l : List Nat} (hl : l.Sublist x.wt) : SbW x (x.wts l) where
 e _ _ := ⟨id, rfl, rfl, rfl⟩
 wh := h.what
 w0 := id
 ou := id
 wt := hl
 bl := rfl
 cap := rfl
 le := h.le
 nb := h.nb
theorem SbW.trans {x y z : WireA} (h1 : SbW x y) (h2 : SbW y z) : SbW x z where
 e k hk := by
  obtain ⟨a1, a2, a3, a4⟩ := h1.e k hk
  obtain ⟨b1, b2, b3, b4⟩ := h2.e k hk
  exact ⟨fun e => a1 (b1 e), by rw [b2, a2], by rw [b3, a3], by rw [b4, a4]⟩
 wh := h2.wh
 w0 e := h2.w0 (h1.w0 e)
 ou e := h1.ou (h2.ou e)
 wt := h2.wt.trans h1.wt
 bl := by rw [h2.bl, h1.bl]
 cap := by rw [h2.cap, h1.cap]
 le k hk := by rw [← h1.cap]; exact h2.le k hk
 nb k hk hr := h2.nb k hk (by rw [(h1.e k hk).2.2.1]; exact hr)
def resetW (x : WireA) : WireA := { x with rs := true, e := fun k => if k < 2 then riseE true true { x.e k with b := [] } else x.e k }
theorem reset_e (x : WireA) {k : Nat} (hk : k < 2) : (resetW x).e k = riseE true true { x.e k with b := [] } := if_pos hk
theorem smW_reset (x : WireA) : SmW x (resetW x) := ⟨fun k hk => by rw [reset_e x hk]; exact ⟨rfl, rfl, rfl, rfl⟩, rfl, rfl, rfl, fun k hk => by rw [reset_e x hk]; exact Nat.zero_le _, fun k hk _ => by rw [reset_e x hk]; rfl⟩
theorem rs_reset (x : WireA) : ∀ j, RsE (x.e j) ((resetW x).e j) := fun j => by
 by_cases h : j < 2
 ·rw [reset_e x h]; exact rsE_rise true true { x.e j with b := [] }
 ·rw [show (resetW x).e j = x.e j from if_neg h]; exact RsE.refl _
def outW (w : WA) (n : Int) : Option WireA := if n < 0 then none else match w.ws[n.toNat]? with
 | none => none
 | some x => if (x.e 1).what = 2 then some x else none
theorem outW_some {w : WA} {n : Int} {x : WireA} (h : outW w n = some x) : 0 ≤ n ∧ w.ws[n.toNat]? = some x ∧ (x.e 1).what = 2 := by
 unfold outW at h
 split at h
 ·cases h
 ·split at h
  ·cases h
  ·rename_i y hy
   split at h
   ·rename_i h2; obtain rfl := Option.some.inj h; exact ⟨by omega, hy, h2⟩
   ·cases h
def putR (w : WA) (n : Int) (bs : List UInt8) : (Int × Int) × WA := match outW w n with
 | none => ((0, 116), w)
 | some x => if x.rs = true then ((0, 115), w) else if (x.e 1).shut = true ∨ (x.e 0).what = 3 then ((0, 114), w) else (((putN x 1 bs : Nat), 0), w.setW n.toNat (putW x 1 bs))
def takR (w : WA) (n m : Int) : (List UInt8 × Int) × WA := match outW w n with
 | none => (([], 116), w)
 | some x => if m < 0 then (([], 2), w) else if x.rs = true then (([], 115), w) else (((x.e 1).b.take m.toNat, 0), w.setW n.toNat (takeW x 1 m.toNat))
def pshutR (w : WA) (n : Int) : Int × WA := match outW w n with
 | none => (116, w)
 | some x => (0, w.setW n.toNat (shutW x 1))
def pcloseR (w : WA) (n : Int) : Int × WA := match outW w n with
 | none => (116, w)
 | some x => (0, w.setW n.toNat (closeW x 1))
def resetR (w : WA) (n : Int) : Int × WA := match outW w n with
 | none => (116, w)
 | some x => (0, if x.rs = true then w else w.setW n.toNat (resetW x))
def shutR (w : WA) (fd : Int) : Int × WA := match w.at fd with
 | none => (110, w)
 | some (m, k) => match w.ws[m]? with
  | none => (110, w)
  | some x => if (x.e k).rd = false ∨ (x.e k).wr = false then (111, w) else (0, w.setW m (shutW x k))
def closeAll : List WireA → List Nat → List WireA
 | ws, [] => ws
 | ws, n :: t => closeAll (match ws[n]? with | some y => ws.set n (closeW y 0) | none => ws) t
def closeF (w : WA) (fd : Int) : Int × WA := match w.at fd with
 | none => (110, w)
 | some (m, k) => match w.ws[m]? with
  | none => (110, w)
  | some x => (0, { w with ws := closeAll (w.ws.set m ((closeW x k).wts [])) x.wt })
def connW (n : Nat) : WireA := (halfW n 2).up 1 fun e => { e with what := 2 }
def connR (w : WA) (n m : Int) : (Int × Int) × WA := match (if n < 0 then none else w.ws[n.toNat]?) with
 | none => ((0, 116), w)
 | some x => if x.bl = 0 ∨ (x.e 0).what ≠ 1 then ((0, 116), w) else if m < 1 ∨ 65536 < m then ((0, 2), w) else if x.bl ≤ (x.wt.length : Int) then ((0, 113), w)
  else if 1000 ≤ w.ws.length then ((0, 112), w) else (((w.ws.length : Nat), 0), (w.addW (connW m.toNat)).setW n.toNat (waitW x w.ws.length))
def accR (w : WA) (fd : Int) : (Int × Int × Int) × WA := match w.at fd with
 | none => ((0, 0, 110), w)
 | some (m, _) => match w.ws[m]? with
  | none => ((0, 0, 110), w)
  | some x => if x.bl = 0 then ((0, 0, 111), w) else match x.wt with
   | [] => ((0, 0, 113), w)
   | a :: t => match frees w.at with
    | [] => ((0, 0, 112), w)
    | f :: _ => match (w.setW m (x.wts t)).ws[a]? with
     | none => ((0, 0, 112), w)
     | some y => (((f : Nat), (a : Nat), 0), (w.setW m (x.wts t)).setW a (giveW y f))
def passR (w : WA) (n : Int) : WA := { w with now := w.now + min n (18446744073709551615 - w.now) }
def pendN (w : WA) : Int := (w.ct.drop 1).sum
def ntcR (w : WA) : WA := match w.nt with
 | none => w
 | some (n, k) => match w.ws[n]? with
  | none => w
  | some x => if pendN w = 0 then w.setW n (takeW x k (x.e k).b.length) else if (x.e k).b = [] then w.setW n (putW x (1 - k) [1]) else w
def hanR (w : WA) (s : Int) (on : Bool) : Int × WA := if s < 1 ∨ 31 < s then (100, ntcR w) else (0, ntcR { w with hd := w.hd.set s.toNat on, ct := if on = true then w.ct else w.ct.set s.toNat 0 })
def raiR (w : WA) (s : Int) : Int × WA := if s < 1 ∨ 31 < s then (100, ntcR w) else (0, ntcR { w with ct := if w.hd.getD s.toNat false = true then w.ct.set s.toNat (w.ct.getD s.toNat 0 + 1) else w.ct })
def cntF : Nat → List Int → List (Int × Int)
 | _, [] => []
 | i, c :: t => if i = 0 ∨ c = 0 then cntF (i + 1) t else ((i : Int), c) :: cntF (i + 1) t
def sigR (w : WA) : List (Int × Int) × WA := (cntF 0 w.ct, ntcR { w with ct := match w.ct with | [] => [] | c :: t => c :: t.map fun _ => 0 })
def notR (w : WA) (a b : Int) : Int × WA := match w.at a, w.at b with
 | some (n, k), some (m, i) => match w.ws[n]? with
  | none => (110, w)
  | some x => if n ≠ m ∨ k = i ∨ (x.e 0).rd = false ∨ (x.e 1).rd = false then (111, w) else (0, ntcR { w with nt := some (n, k) })
 | _, _ => (110, w)
theorem read_stp {w : WA} (h : WOk w) (fd n : Int) : Stp 1 w (readR w fd n).2 := by
 unfold readR
 split
 ·exact Stp.same w
 ·split
  ·exact Stp.same w
  ·rename_i m k hk _ x hx
   split
   ·exact Stp.same w
   ·split
    ·exact Stp.same w
    ·split
     ·exact Stp.same w
     ·split
      ·rename_i hr _ _ _
       have hwf := h.wf x (List.mem_of_getElem? hx)
       exact ((smW_take hwf (h.at_lt hk).2.2.1 (by simpa using hr)).sb hwf).stp hx fun j _ => rs_take x k n.toNat j
      ·split
       ·exact Stp.same w
       ·exact Stp.same w
theorem write_stp {w : WA} (h : WOk w) (fd : Int) (bs : List UInt8) : Stp 1 w (writeR w fd bs).2 := by
 unfold writeR
 split
 ·exact Stp.same w
 ·split
  ·exact Stp.same w
  ·rename_i m k hk _ x hx
   split
   ·exact Stp.same w
   ·split
    ·exact Stp.same w
    ·split
     ·exact Stp.same w
     ·split
      ·exact Stp.same w
      ·split
       ·exact Stp.same w
       ·rename_i hr _ _ _ _
        have hwf := h.wf x (List.mem_of_getElem? hx)
        have hk2 := (h.at_lt hk).2.2.1
        exact ((smW_put hwf hk2 bs (by rw [← hwf.wr k hk2]; simpa using hr)).sb hwf).stp hx fun j _ => rs_put x k bs j
theorem put_stp {w : WA} (h : WOk w) (n : Int) (bs : List UInt8) : Stp 1 w (putR w n bs).2 := by
 unfold putR
 split
 ·exact Stp.same w
 ·rename_i x hx
  obtain ⟨_, hx, ho⟩ := outW_some hx
  have hwf := h.wf x (List.mem_of_getElem? hx)
  split
  ·exact Stp.same w
  ·split
   ·exact Stp.same w
   ·exact ((smW_put hwf (k := 1) (by omega) bs (hwf.ou ho).1).sb hwf).stp hx fun j _ => rs_put x 1 bs j
theorem tak_stp {w : WA} (h : WOk w) (n m : Int) : Stp 1 w (takR w n m).2 := by
 unfold takR
 split
 ·exact Stp.same w
 ·rename_i x hx
  obtain ⟨_, hx, ho⟩ := outW_some hx
  have hwf := h.wf x (List.mem_of_getElem? hx)
  split
  ·exact Stp.same w
  ·split
   ·exact Stp.same w
   ·exact ((smW_take hwf (k := 1) (by omega) (hwf.ou ho).2).sb hwf).stp hx fun j _ => rs_take x 1 m.toNat j
theorem pshut_stp {w : WA} (h : WOk w) (n : Int) : Stp 1 w (pshutR w n).2 := by
 unfold pshutR
 split
 ·exact Stp.same w
 ·rename_i x hx
  obtain ⟨_, hx, ho⟩ := outW_some hx
  have hwf := h.wf x (List.mem_of_getElem? hx)
  exact ((smW_shut hwf).sb hwf).stp hx fun j _ => rs_shut x 1 j
theorem pclose_stp {w : WA} (h : WOk w) (n : Int) : Stp 1 w (pcloseR w n).2 := by
 unfold pcloseR
 split
 ·exact Stp.same w
 ·rename_i x hx
  obtain ⟨_, hx, ho⟩ := outW_some hx
  have hwf := h.wf x (List.mem_of_getElem? hx)
  exact (sbW_close hwf (by omega)).stp hx fun j _ => rs_close x 1 j
theorem reset_stp {w : WA} (h : WOk w) (n : Int) : Stp 1 w (resetR w n).2 := by
 unfold resetR
 split
 ·exact Stp.same w
 ·rename_i x hx
  obtain ⟨_, hx, ho⟩ := outW_some hx
  have hwf := h.wf x (List.mem_of_getElem? hx)
  dsimp only
  split
  ·exact Stp.same w
  ·exact ((smW_reset x).sb hwf).stp hx fun j _ => rs_reset x j
theorem shut_stp {w : WA} (h : WOk w) (fd : Int) : Stp 1 w (shutR w fd).2 := by
 unfold shutR
 split
 ·exact Stp.same w
 ·split
  ·exact Stp.same w
  ·rename_i m k hk _ x hx
   have hwf := h.wf x (List.mem_of_getElem? hx)
   split
   ·exact Stp.same w
   ·exact ((smW_shut hwf).sb hwf).stp hx fun j _ => rs_shut x k j
theorem sbW_closeP {w : WA} (h : WOk w) {m k : Nat} {x : WireA} {fd : Int} (hn : w.at fd = some (m, k)) (hx : w.ws[m]? = some x) : SbW x ((closeW x k).wts []) := by
 have hwf := h.wf x (List.mem_of_getElem? hx)
 have hk := (h.at_lt hn).2.2.1
 exact (sbW_close hwf hk).trans (sbW_wts (close_wf hwf hk) (List.nil_sublist _))
theorem closeAll_ok : ∀ (l : List Nat) (w : WA), WOk w → l.Nodup → (∀ n ∈ l, ∃ y, w.ws[n]? = some y ∧ (y.e 0).what = 0) → (∀ n ∈ l, n ∉ w.ws.flatMap WireA.wt) →
  WOk { w with ws := closeAll w.ws l } ∧ WA.at { w with ws := closeAll w.ws l } = w.at ∧ Stp l.length w { w with ws := closeAll w.ws l }
 | [], w, h, _, _, _ => ⟨h, rfl, Stp.refl w⟩
 | n :: t, w, h, hd, h0, hw => by
  obtain ⟨y, hy, hy0⟩ := h0 n List.mem_cons_self
  have hwf := h.wf y (List.mem_of_getElem? hy)
  have hs := sbW_close hwf (k := 0) (by omega)
  have hfm : (w.setW n (closeW y 0)).ws.flatMap WireA.wt = w.ws.flatMap WireA.wt := flatMap_set hy rfl
  have hni : n ∉ (w.setW n (closeW y 0)).ws.flatMap WireA.wt := by rw [hfm]; exact hw n List.mem_cons_self
  have hok := h.setS hy hs (fun e => absurd e hni)
  have hat := h.setS_at hy hs (fun e => absurd e hni) (fun k hk e => by
   rw [(close_e y (by omega) hk).1]
   split
   ·rename_i e0; subst e0; rw [hy0] at e; cases e
   ·exact e)
  have ih := closeAll_ok t (w.setW n (closeW y 0)) hok (List.nodup_cons.1 hd).2 (fun a ha => by
   obtain ⟨z, hz, hz0⟩ := h0 a (List.mem_cons_of_mem _ ha)
   have : a ≠ n := fun e => (List.nodup_cons.1 hd).1 (e ▸ ha)
   exact ⟨z, by rw [setW_ne this]; exact hz, hz0⟩) (fun a ha => by rw [hfm]; exact hw a (List.mem_cons_of_mem _ ha))
  have e : closeAll w.ws (n :: t) = closeAll (w.setW n (closeW y 0)).ws t := by
   show closeAll (match w.ws[n]? with | some y => w.ws.set n (closeW y 0) | none => w.ws) t = _
   rw [hy]; rfl
  have e2 : ({ w with ws := closeAll w.ws (n :: t) } : WA) = { w.setW n (closeW y 0) with ws := closeAll (w.setW n (closeW y 0)).ws t } := by rw [e]; rfl
  rw [e2]; refine ⟨ih.1, ih.2.1.trans hat, ?_⟩; rw [List.length_cons, Nat.add_comm]; exact (hs.stp hy fun j _ => rs_close y 0 j).trans ih.2.2
theorem wt_le {w : WA} (h : WOk w) {m : Nat} {x : WireA} (hx : w.ws[m]? = some x) : x.wt.length ≤ 64 := by
 have := (h.wf x (List.mem_of_getElem? hx)).bl
 omega
theorem wt_gone {w : WA} (h : WOk w) {m : Nat} {x x' : WireA} (hx : w.ws[m]? = some x) (hx' : x'.wt = []) : ∀ n ∈ x.wt, n ∉ (w.setW m x').ws.flatMap WireA.wt := by
 have hp := flatMap_set_app (f := WireA.wt) (bs := x.wt) (l := (w.setW m x').ws) (n := m) (x := x') (x' := x) (setW_self hx) (by rw [hx']; rfl)
 have e : (w.setW m x').ws.set m x = w.ws := by
  show (w.ws.set m x').set m x = w.ws
  rw [List.set_set]
  obtain ⟨hl, e⟩ := List.getElem?_eq_some_iff.1 hx
  rw [← e, List.set_getElem_self]
 rw [e] at hp
 have hn := hp.nodup_iff.1 h.wn
 intro n h1 h2; exact (List.nodup_append.1 hn).2.2 n h1 n h2 rfl
theorem sub_flatMap {α β : Type} {f : α → List β} : ∀ {l : List α} {n : Nat} {x : α}, l[n]? = some x → (f x).Sublist (l.flatMap f)
 | [], _, _, h => by simp at h
 | a :: l, 0, x, h => by
  obtain rfl : a = x := by simpa using h
  exact List.sublist_append_left _ _
 | a :: l, n + 1, x, h => (sub_flatMap (f := f) (l := l) (n := n) (by simpa using h)).trans (List.sublist_append_right _ _)
theorem closeF_ok {w : WA} (h : WOk w) (fd : Int) : WOk (closeF w fd).2 ∧ (closeF w fd).2.at = setT w.at fd none ∧ Stp 65 w (closeF w fd).2 := by
 unfold closeF
 split
 ·rename_i hn
  refine ⟨h, ?_, Stp.same w⟩
  funext a
  show w.at a = if a = fd then none else w.at a
  split
  ·rename_i e; rw [e]; exact hn
  ·rfl
 ·rename_i m k hn
  obtain ⟨_, _, hk, _, x0, hx0, hxw, _⟩ := h.at_lt hn
  split
  ·rename_i hx; rw [hx] at hx0; cases hx0
  ·rename_i x hx
   rw [hx] at hx0; obtain rfl := Option.some.inj hx0
   have hwf := h.wf x (List.mem_of_getElem? hx)
   have hc := h.closeW hn hx
   have hs := sbW_closeP h hn hx
   have hgo := wt_gone h hx (x' := (closeW x k).wts []) rfl
   have hsub : ∀ n ∈ x.wt, n ∈ w.ws.flatMap WireA.wt := fun n hn => List.mem_flatMap.2 ⟨x, List.mem_of_getElem? hx, hn⟩
   have h00 : ∀ n ∈ x.wt, ∃ y, (w.setW m ((closeW x k).wts [])).ws[n]? = some y ∧ (y.e 0).what = 0 := fun n hn => by
    obtain ⟨y, hy, hy0⟩ := h.wm n (hsub n hn)
    by_cases e : n = m
    ·subst e
     rw [hx] at hy; obtain rfl := Option.some.inj hy; refine ⟨_, setW_self hx, ?_⟩
     show ((closeW x k).e 0).what = 0
     rw [(close_e x hk (by omega)).1, if_neg]
     ·exact hy0
     ·intro e; subst e; rw [hy0] at hxw; cases hxw
    ·exact ⟨y, by rw [setW_ne e]; exact hy, hy0⟩
   have hm0 : m ∈ (w.setW m ((closeW x k).wts [])).ws.flatMap WireA.wt → (((closeW x k).wts []).e 0).what = 0 := fun e => by
    have := (flatMap_set_sub (f := WireA.wt) (x' := (closeW x k).wts []) hx (List.nil_sublist _)).subset e
    obtain ⟨y, hy, hy0⟩ := h.wm m this
    rw [hx] at hy; obtain rfl := Option.some.inj hy
    show ((closeW x k).e 0).what = 0
    rw [(close_e x hk (by omega)).1, if_neg]
    ·exact hy0
    ·intro e; subst e; rw [hy0] at hxw; cases hxw
   have hok := h.setS hx hs hm0
   have hat : (w.setW m ((closeW x k).wts [])).at = setT w.at fd none := by
    rw [← hc.2]
    have h2 : (w.setW m (closeW x k)).ws[m]? = some (closeW x k) := setW_self hx
    have e : w.setW m ((closeW x k).wts []) = (w.setW m (closeW x k)).setW m ((closeW x k).wts []) := by
     show ({ w with ws := _ } : WA) = { w with ws := _ }
     congr 1
     show _ = (w.ws.set m _).set m _
     rw [List.set_set]
    rw [e]; refine hc.1.setS_at h2 (sbW_wts (close_wf hwf hk) (List.nil_sublist _)) (by rw [← e]; exact hm0) fun _ _ e => e
   have hx1 := (wt_le h hx)
   obtain ⟨a, b, c⟩ := closeAll_ok x.wt (w.setW m ((closeW x k).wts [])) hok ((sub_flatMap (f := WireA.wt) hx).nodup h.wn) h00 hgo
   refine ⟨a, b.trans hat, ?_⟩; exact ((hs.stp hx fun j _ => rs_close x k j).trans c).mono (by omega)
theorem conn_e (n k : Nat) (hk : k < 2) : ((connW n).e k).what = (if k = 1 then 2 else 0) ∧ ((connW n).e k).rd = true ∧ ((connW n).e k).wr = true ∧ ((connW n).e k).b = [] ∧ ((connW n).e k).inn = 0 ∧ ((connW n).e k).out = 0 := by
 rcases (show k = 0 ∨ k = 1 by omega) with rfl | rfl
 ·exact ⟨rfl, rfl, rfl, rfl, rfl, rfl⟩
 ·exact ⟨rfl, rfl, rfl, rfl, rfl, rfl⟩
theorem conn_new {n l : Nat} (h : n ≤ 65536) : NewW (connW n) l := by
 have e := conn_e n
 refine ⟨⟨fun k hk => by rw [(e k hk).2.2.1, (e (1 - k) (by omega)).2.1], fun k hk => by rw [(e k hk).2.2.2.1]; exact Nat.zero_le _, fun k hk _ => (e k hk).2.2.2.1, h, fun k hk => ?_, ⟨Int.le_refl _, by show (0 : Int) ≤ 64; decide, by show ((0 : Nat) : Int) ≤ 0; decide⟩, fun _ => ⟨rfl, rfl⟩⟩, fun k hk => ?_, rfl⟩
 ·rw [(e k hk).1]; split <;> decide
 ·rw [(e k hk).1]; split <;> decide
theorem opF_nil (w : WA) : OpF w [] := ⟨.nil, fun _ h => (by cases h), Nat.zero_le _⟩
theorem open_nil (x : WireA) : openW x [] 0 = x := by
 obtain ⟨e, c, r, bl, wt⟩ := x
 rfl
theorem WOk.addN {w : WA} (h : WOk w) {x : WireA} (hx : NewW x w.ws.length) (hl : w.ws.length < 1000) : WOk (w.addW x) ∧ (w.addW x).at = w.at := by
 have h1 := h.addW hx (opF_nil w) hl
 have h2 := addW_at hx (opF_nil w)
 rw [show ([] : List Nat).length = 0 from rfl, open_nil] at h1 h2; exact ⟨h1, h2⟩
theorem rs_wait (x : WireA) (m : Nat) : ∀ j, RsE (x.e j) ((waitW x m).e j) := fun j => by
 show RsE (x.e j) ((x.up 0 fun e => { e with inn := IntKind.u64.wrap (e.inn + 1) }).e j)
 exact rs_up x 0 (f := fun e => { e with inn := IntKind.u64.wrap (e.inn + 1) }) (fun e => ⟨.inr rfl, .inl rfl⟩) j
theorem conn_ok {w : WA} (h : WOk w) (n m : Int) : WOk (connR w n m).2 ∧ (connR w n m).2.at = w.at ∧ Stp 1 w (connR w n m).2 := by
 unfold connR
 split
 ·exact ⟨h, rfl, Stp.same w⟩
 ·rename_i x hx
  have hx : 0 ≤ n ∧ w.ws[n.toNat]? = some x := by
   split at hx
   ·cases hx
   ·exact ⟨by omega, hx⟩
  split
  ·exact ⟨h, rfl, Stp.same w⟩
  ·split
   ·exact ⟨h, rfl, Stp.same w⟩
   ·split
    ·exact ⟨h, rfl, Stp.same w⟩
    ·split
     ·exact ⟨h, rfl, Stp.same w⟩
     ·rename_i h1 h2 h3 h4
      have hlt := (List.getElem?_eq_some_iff.1 hx.2).1
      have ha := h.addN (conn_new (n := m.toNat) (l := w.ws.length) (by omega)) (by omega)
      have hx2 : (w.addW (connW m.toNat)).ws[n.toNat]? = some x := by show (w.ws ++ [_])[n.toNat]? = _; rw [List.getElem?_append_left hlt]; exact hx.2
      have hy : (w.addW (connW m.toNat)).ws[w.ws.length]? = some (connW m.toNat) := by show (w.ws ++ [_])[w.ws.length]? = _; simp
      have hnw : w.ws.length ∉ (w.addW (connW m.toNat)).ws.flatMap WireA.wt := fun e => by
       have e2 : (w.addW (connW m.toNat)).ws.flatMap WireA.wt = w.ws.flatMap WireA.wt := by
        show (w.ws ++ [_]).flatMap WireA.wt = _
        rw [List.flatMap_append, List.flatMap_cons, List.flatMap_nil, show (connW m.toNat).wt = [] from rfl, List.append_nil, List.append_nil]
       rw [e2] at e
       obtain ⟨z, hz, _⟩ := h.wm _ e
       have := (List.getElem?_eq_some_iff.1 hz).1
       omega
      have hw := ha.1.wait hx2 hy rfl (by omega) hnw (by omega)
      refine ⟨hw.1, hw.2.trans ha.2, ?_⟩
      have s1 := stp_add w (x := connW m.toNat) (fun k hk => ⟨(conn_e m.toNat k hk).2.2.2.2.1, (conn_e m.toNat k hk).2.2.2.2.2⟩) (fun e => by rw [(conn_e m.toNat 1 (by omega)).1] at e; exact absurd e (by decide))
      have s2 := stp_set (w := w.addW (connW m.toNat)) (x' := waitW x w.ws.length) hx2 (fun k _ => rs_wait x _ k) (fun e => by rw [(wait_e x _ 0).1]; exact e) (fun _ k hk e => ⟨by rw [← (wait_e x w.ws.length k).1]; exact e, (wait_e x _ k).2.1⟩) (fun e => by rw [(wait_e x w.ws.length 1).1] at e; exact e)
      exact (s1.trans s2).mono (by omega)
theorem acc_ok {w : WA} (h : WOk w) (fd : Int) : WOk (accR w fd).2 ∧ Stp 2 w (accR w fd).2 := by
 unfold accR
 split
 ·exact ⟨h, Stp.same w⟩
 ·rename_i m k hm
  split
  ·exact ⟨h, Stp.same w⟩
  ·rename_i x hx
   split
   ·exact ⟨h, Stp.same w⟩
   ·split
    ·exact ⟨h, Stp.same w⟩
    ·rename_i a t hwt
     split
     ·exact ⟨h, Stp.same w⟩
     ·rename_i f fs hfs
      split
      ·exact ⟨h, Stp.same w⟩
      ·rename_i y hy
       have hwf := h.wf x (List.mem_of_getElem? hx)
       have hs : SbW x (x.wts t) := sbW_wts hwf (by rw [hwt]; exact List.sublist_cons_self _ _)
       have hsub := flatMap_set_sub (f := WireA.wt) (x' := x.wts t) hx hs.wt
       have hm0 : m ∈ (w.setW m (x.wts t)).ws.flatMap WireA.wt → ((x.wts t).e 0).what = 0 := fun e => by
        obtain ⟨z, hz, hz0⟩ := h.wm m (hsub.subset e)
        rw [hx] at hz; obtain rfl := Option.some.inj hz; exact hz0
       have hok := h.setS hx hs hm0
       have hat := h.setS_at hx hs hm0 (fun _ _ e => e)
       have ham : a ∈ w.ws.flatMap WireA.wt := List.mem_flatMap.2 ⟨x, List.mem_of_getElem? hx, by rw [hwt]; exact List.mem_cons_self⟩
       have hy0 : (y.e 0).what = 0 := by
        obtain ⟨z, hz, hz0⟩ := h.wm a ham
        rcases setW_get hy with ⟨rfl, rfl⟩ | ⟨_, hy⟩
        ·rw [hx] at hz; obtain rfl := Option.some.inj hz
         exact hz0
        ·rw [hy] at hz; obtain rfl := Option.some.inj hz
         exact hz0
       have hamw : a ∉ (w.setW m (x.wts t)).ws.flatMap WireA.wt := by
        have hp2 := flatMap_set_app (f := WireA.wt) (bs := [a] ++ t) (l := (w.setW m (x.wts [])).ws) (n := m) (x := x.wts []) (x' := x) (setW_self hx) (by rw [hwt]; rfl)
        have hp3 := flatMap_set_app (f := WireA.wt) (bs := t) (l := (w.setW m (x.wts [])).ws) (n := m) (x := x.wts []) (x' := x.wts t) (setW_self hx) rfl
        have e1 : (w.setW m (x.wts [])).ws.set m x = w.ws := by
         show (w.ws.set m _).set m x = w.ws
         rw [List.set_set]
         obtain ⟨hl, e⟩ := List.getElem?_eq_some_iff.1 hx
         rw [← e, List.set_getElem_self]
        have e2 : (w.setW m (x.wts [])).ws.set m (x.wts t) = (w.setW m (x.wts t)).ws := by
         show (w.ws.set m _).set m _ = w.ws.set m _
         rw [List.set_set]
        rw [e1] at hp2; rw [e2] at hp3
        have hn := hp2.nodup_iff.1 h.wn
        intro hm
        have := hp3.mem_iff.1 hm
        rw [List.append_assoc] at hn; exact (List.nodup_cons.1 hn).1 this
       have hff := frees_mem.1 (show f ∈ frees w.at by rw [hfs]; exact List.mem_cons_self)
       have hg := hok.give (f := f) hy (by rw [hy0]; decide) hamw hff.1 (by rw [hat]; exact hff.2)
       refine ⟨hg.1, ?_⟩
       have s1 := hs.stp hx fun j _ => RsE.refl _
       have s2 := stp_set (w := w.setW m (x.wts t)) (x' := giveW y f) hy (fun k _ => rs_up y 0 (f := fun e => { e with what := 1, fd := (f : Int) }) (fun e => RsE.refl _) k) (fun e => absurd hy0 e) (fun e => absurd hy0 e) (fun e => by rw [give1] at e; exact e)
       exact s1.trans s2
theorem pass_ok {w : WA} (h : WOk w) (n : Int) (h0 : 0 ≤ n) : WOk (passR w n) ∧ Stp 0 w (passR w n) := by
 refine ⟨⟨h.uq, h.fd, h.len, h.hdl, h.ctl, h.wf, h.wn, h.wm, h.nt, h.ns⟩, fun K _ hl => ⟨⟨hl.ct, hl.rs, ?_, hl.g1⟩, gr_ws rfl⟩⟩
 have := hl.now
 show 0 ≤ w.now + min n (18446744073709551615 - w.now) ∧ w.now + min n (18446744073709551615 - w.now) ≤ 18446744073709551615
 omega
theorem ntc_ok {w : WA} (h : WOk w) : WOk (ntcR w) ∧ (ntcR w).at = w.at ∧ Stp 1 w (ntcR w) := by
 unfold ntcR
 split
 ·exact ⟨h, rfl, Stp.same w⟩
 ·rename_i n k hn
  obtain ⟨hk, x0, hx0, z0, z1⟩ := h.nt n k hn
  split
  ·exact ⟨h, rfl, Stp.same w⟩
  ·rename_i x hx
   rw [hx] at hx0; obtain rfl := Option.some.inj hx0
   have hwf := h.wf x (List.mem_of_getElem? hx)
   have hrd : ∀ j, j < 2 → (x.e j).rd = true := fun j hj => by
    rcases (show j = 0 ∨ j = 1 by omega) with rfl | rfl
    ·exact z0
    ·exact z1
   split
   ·have hs := smW_take hwf (n := (x.e k).b.length) hk (hrd k hk)
    exact ⟨h.setW hx hs, h.setW_at hx hs, (hs.sb hwf).stp hx fun j _ => rs_take x k _ j⟩
   ·split
    ·have hs := smW_put hwf (k := 1 - k) (by omega) [1] (hrd (1 - (1 - k)) (by omega))
     exact ⟨h.setW hx hs, h.setW_at hx hs, (hs.sb hwf).stp hx fun j _ => rs_put x (1 - k) [1] j⟩
    ·exact ⟨h, rfl, Stp.same w⟩
theorem ct_ok {w : WA} (h : WOk w) {hd : List Bool} {ct : List Int} (h1 : hd.length = 32) (h2 : ct.length = 32) : WOk { w with hd := hd, ct := ct } := ⟨h.uq, h.fd, h.len, h1, h2, h.wf, h.wn, h.wm, h.nt, h.ns⟩
theorem ct_stp (w : WA) {hd : List Bool} {ct : List Int} (h : ∀ K : Nat, (∀ c ∈ w.ct, 0 ≤ c ∧ c ≤ (K : Int)) → ∀ c ∈ ct, 0 ≤ c ∧ c ≤ ((K + 1 : Nat) : Int)) : Stp 1 w { w with hd := hd, ct := ct } := fun K _ hl => ⟨⟨h K hl.ct, (hl.mono (Nat.le_succ K)).rs, hl.now, hl.g1⟩, gr_ws rfl⟩
theorem han_ok {w : WA} (h : WOk w) (s : Int) (on : Bool) : WOk (hanR w s on).2 ∧ Stp 2 w (hanR w s on).2 := by
 unfold hanR
 split
 ·have := ntc_ok h
  exact ⟨this.1, this.2.2.mono (by omega)⟩
 ·have h1 : WOk { w with hd := w.hd.set s.toNat on, ct := if on = true then w.ct else w.ct.set s.toNat 0 } := ct_ok h (by rw [List.length_set]; exact h.hdl) (by split; exact h.ctl; rw [List.length_set]; exact h.ctl)
  have := ntc_ok h1
  refine ⟨this.1, (ct_stp w fun K hc c hm => ?_).trans this.2.2⟩
  split at hm
  ·have := hc c hm; omega
  ·rcases List.mem_or_eq_of_mem_set hm with hm | rfl
   ·have := hc c hm; omega
   ·omega
theorem rai_ok {w : WA} (h : WOk w) (s : Int) : WOk (raiR w s).2 ∧ Stp 2 w (raiR w s).2 := by
 unfold raiR
 split
 ·have := ntc_ok h
  exact ⟨this.1, this.2.2.mono (by omega)⟩
 ·rename_i hs
  have h1 : WOk { w with ct := if w.hd.getD s.toNat false = true then w.ct.set s.toNat (w.ct.getD s.toNat 0 + 1) else w.ct } := ct_ok h h.hdl (by split; rw [List.length_set]; exact h.ctl; exact h.ctl)
  have := ntc_ok h1
  refine ⟨this.1, (ct_stp w fun K hc c hm => ?_).trans this.2.2⟩
  split at hm
  ·rcases List.mem_or_eq_of_mem_set hm with hm | rfl
   ·have := hc c hm; omega
   ·have hl : s.toNat < w.ct.length := by rw [h.ctl]; omega
    rw [List.getD_eq_getElem?_getD, List.getElem?_eq_getElem hl]
    have := hc _ (List.getElem_mem hl)
    show 0 ≤ w.ct[s.toNat] + 1 ∧ w.ct[s.toNat] + 1 ≤ _
    omega
  ·have := hc c hm; omega
theorem sig_ok {w : WA} (h : WOk w) : WOk (sigR w).2 ∧ Stp 2 w (sigR w).2 := by
 unfold sigR; dsimp only
 have h1 : WOk { w with ct := match w.ct with | [] => [] | c :: t => c :: t.map fun _ => 0 } := ct_ok h h.hdl (by
  have := h.ctl
  cases hc : w.ct with
  | nil => rw [hc] at this; exact this
  | cons c t => rw [hc] at this; simpa using this)
 have := ntc_ok h1
 refine ⟨this.1, (ct_stp w fun K hc c hm => ?_).trans this.2.2⟩
 cases he : w.ct with
 | nil => rw [he] at hm; cases hm
 | cons a t =>
  rw [he] at hm
  rcases List.mem_cons.1 hm with rfl | hm
  ·have := hc c (by rw [he]; exact List.mem_cons_self); omega
  ·obtain ⟨_, _, rfl⟩ := List.mem_map.1 hm; omega
theorem not_ok {w : WA} (h : WOk w) (a b : Int) : WOk (notR w a b).2 ∧ Stp 1 w (notR w a b).2 := by
 unfold notR
 split
 ·rename_i n k m i ha hb
  split
  ·exact ⟨h, Stp.same w⟩
  ·rename_i x hx
   split
   ·exact ⟨h, Stp.same w⟩
   ·rename_i hc
    have hk := (h.at_lt ha).2.2.1
    have h1 : WOk { w with nt := some (n, k) } := ⟨h.uq, h.fd, h.len, h.hdl, h.ctl, h.wf, h.wn, h.wm, fun a b e => by
     obtain ⟨rfl, rfl⟩ := Prod.mk.inj (Option.some.inj e)
     exact ⟨hk, x, hx, by cases hz : (x.e 0).rd with | true => rfl | false => exact absurd (.inr (.inr (.inl hz))) hc, by cases hz : (x.e 1).rd with | true => rfl | false => exact absurd (.inr (.inr (.inr hz))) hc⟩, h.ns⟩
    have := ntc_ok h1
    refine ⟨this.1, ?_⟩
    have s0 : Stp 0 w { w with nt := some (n, k) } := fun K _ hl => ⟨⟨hl.ct, hl.rs, hl.now, hl.g1⟩, gr_ws rfl⟩
    exact (s0.trans this.2.2).mono (by omega)
 ·exact ⟨h, Stp.same w⟩
theorem wol_back {wb n b : Nat} {w : WA} {i : WoI} {x : WireA} {L : List SP} (hb : i.rs[n]? = some (b, x)) : ∀ h, sep (WireP b x :: WoR wb n w i L) h → sep (WoL wb w i L) h := by
 intro h s
 obtain ⟨hn, e⟩ := List.getElem?_eq_some_iff.1 hb
 have h1 : sep (WireP b x :: Wires (i.rs.take n) :: Wires (i.rs.drop (n + 1)) :: WoH wb w.at w i.rs.length i :: own 191 1 i.wa i.rs.length i.wc (pws i.rs) :: SigP i.sb w.hd w.ct :: L) h := Ent.sep enn h s
 have h2 := ws_in hn h1
 rw [← e, List.set_getElem_self] at h2; exact Ent.sep enn h h2
def outB (i : WoI) (w : WA) (n : Int) : Option Nat := if (outW w n).isSome then (i.rs[n.toNat]?).map Prod.fst else none
def outE (w : WA) (n : Int) : Int := if (outW w n).isSome then 0 else 116
theorem outW_nat {w : WA} {n : Nat} {x : WireA} (hx : w.ws[n]? = some x) : outW w (n : Int) = if (x.e 1).what = 2 then some x else none := by
 unfold outW; rw [if_neg (by omega), Int.toNat_natCast, hx]
theorem outW_off {w : WA} {n : Int} (h : n < 0 ∨ (w.ws.length : Int) ≤ n) : outW w n = none := by
 unfold outW
 split
 ·rfl
 ·rw [List.getElem?_eq_none (by omega)]
theorem outer1_ct (L : List SP) (wb : Nat) (w : WA) (i : WoI) (hw : WOk w) (hrs : i.rs.map Prod.snd = w.ws) (n b : Nat) (x : WireA) (hb : i.rs[n]? = some (b, x)) : Ct Tryz.prog 111 #[.pointer (some ⟨wb, 0, none⟩), .int .i64 (n : Int)] (WoL wb w i L) (fun _ : Unit => .tuple #[ptr (if (x.e 1).what = 2 then some b else none), .int .i64 (if (x.e 1).what = 2 then 0 else 116)]) (fun _ : Unit => WoL wb w i L) := by
 refine Ct.o2 Tryz.func111 ?_; intro E
 show Hd E 43 _ _ _ _
 have hn := (List.getElem?_eq_some_iff.1 hb).1
 refine sr fun _ K1 => ?_
 refine yv y_as <| yv y_as <| fk [(0,_),(1,_)] K1 ?_; refine Hd.seq fun _ K2 => ?_
 refine Hd.block <| sr fun _ K3 => ?_
 refine yv y_mv <| callE rfl fk113 (wnone_ct _ wb w.at w i.rs.length i) sq ?_; intro _; refine yv y_as <| fk [(0,_),(1,_),(6,_)] K3 ?_; refine Hd.condF rfl ?_; refine Hd.seq fun _ K4 => ?_
 refine Hd.wOut pkk hb ?_; refine Hd.wire .here 1 (by omega) (fun i2 hi => ?_); refine Hd.region <| yv y_mv <| yv (y_lss rfl rfl) ?_; refine yv y_mv ?_; apply Hd.org 8 12 20 [(0,_),(1,_)] rfl sbq
 ·intro hg3_12
  try simp only [hyZ] at hg3_12
  simp only [List.take]; refine n1 <| n1 <| n1 <| n1 <| n1 <| n1 <| n1 <| yv (y_pickT rfl rfl) ?_; exact Hd.mn
 ·intro hg3_12
  try simp only [hyZ] at hg3_12
  simp only [List.take]; refine y2 y_mv <| y2 y_mv <| y2 y_np <| y2 (y_f 288 208 Tryz.underlying210 sz208) <| y2 (y_load1 ag208 rfl (Rd.pt1 pkk (by exact woT_at (j := 0) (by omega) rfl))) ?_; refine y2 (y_len Tryz.underlying208 rfl) ?_; refine y2 (y_geq rfl rfl) ?_; refine yv (y_pickF rfl rfl) ?_; exact Hd.mn
 simp only [List.drop]; refine yv y_mv ?_; apply Hd.org (q := decide ((x.e 1).what ≠ 2)) 14 21 35 [(0,_),(1,_)] rfl sbq
 ·intro hg3_21
  try simp only [hyZ] at hg3_21
  simp only [List.take]; refine n1 <| n1 <| n1 <| n1 <| n1 <| n1 <| n1 <| n1 <| n1 <| n1 <| n1 <| n1 <| n1 <| yv (y_pickT rfl rfl) ?_; exact Hd.mn
 ·intro hg3_21
  try simp only [hyZ] at hg3_21
  simp only [List.take]; refine y2 y_mv <| y2 y_np <| y2 (y_f 288 208 Tryz.underlying210 sz208) <| y2 (y_load1 ag208 rfl (Rd.pt1 pkk (by exact woT_at (j := 0) (by omega) rfl))) ?_; refine y2 y_mv <| y2 (y_idxR Tryz.underlying208 sz191 rfl rfl (by omega) (by exact RdS.own pkk)) ?_; refine y2 (y_loadR1 ag191 rfl (by exact RdS.own pkk) (by exact pws_at hb)) ?_; refine y2 y_np <| y2 (y_f 0 197 Tryz.underlying199 sz197) <| y2 (y_idxA Tryz.underlying197 sz196 rfl rfl (by decide)) ?_; refine y2 (y_f 0 3 Tryz.underlying196 sz3) <| y2 (y_l1 ag3 rfl) <| y2 (y_neq rfl rfl) ?_; refine yv (y_pickF rfl rfl) ?_; exact Hd.mn
 simp only [List.drop]; refine yv y_as <| fk [(0,_),(1,_),(9,_)] K4 ?_; refine qz ?_ ?_ <;> intro hc1 <;> try simp only [hyZ] at hc1
 ·refine sr fun _ K5 => ?_
  refine yv y_as <| yv y_as <| fk [(4,_),(5,_)] K5 ?_; refine Hd.ret <| Hd.inBret <| Hd.thenRet ?_
  have h2 : ¬ ((x.e 1).what = 2) := by
   rcases hc1 with h | h
   ·omega
   ·exact h
  rw [if_neg h2, if_neg h2]; exact Hd.ret2 rfl () rfl rfl rfl (fun q s => wol_back hb q (wire_fold (k := 1) hi (by omega) q (Ent.sep enn q s)))
 refine Hd.skip <| Hd.inB <| Hd.toK K2 ?_; refine sr fun _ K6 => ?_
 refine yv y_mv <| yv y_np <| yv (y_f 288 208 Tryz.underlying210 sz208) <| yv (y_load1 ag208 rfl (Rd.pt1 pkk (by exact woT_at (j := 0) (by omega) rfl))) ?_; refine yv y_mv <| yv (y_idxR Tryz.underlying208 sz191 rfl rfl (by omega) (by exact RdS.own pkk)) ?_; refine yv (y_loadR1 ag191 rfl (by exact RdS.own pkk) (by exact pws_at hb)) ?_; refine yv y_as <| yv y_as <| fk [(4,_),(5,_)] K6 ?_; refine Hd.ret ?_; rw [if_pos hc1.2, if_pos hc1.2]; exact Hd.ret2 rfl () rfl rfl rfl (fun q s => wol_back hb q (wire_fold (k := 1) hi (by omega) q (Ent.sep enn q s)))
theorem outer0_ct (L : List SP) (wb : Nat) (w : WA) (i : WoI) (n : Int) (hn : n < 0 ∨ (i.rs.length : Int) ≤ n) : Ct Tryz.prog 111 #[.pointer (some ⟨wb, 0, none⟩), .int .i64 n] (WoL wb w i L) (fun _ : Unit => .tuple #[ptr none, .int .i64 116]) (fun _ : Unit => WoL wb w i L) := by
 refine Ct.o2 Tryz.func111 ?_; intro E
 show Hd E 43 _ _ _ _
 refine sr fun _ K1 => ?_
 refine yv y_as <| yv y_as <| fk [(0,_),(1,_)] K1 ?_; refine Hd.seq fun _ K2 => ?_
 refine Hd.block <| sr fun _ K3 => ?_
 refine yv y_mv <| callE rfl fk113 (wnone_ct _ wb w.at w i.rs.length i) sq ?_; intro _; refine yv y_as <| fk [(0,_),(1,_),(6,_)] K3 ?_; refine Hd.condF rfl ?_; refine sr fun _ K4 => ?_
 refine yv y_mv <| yv (y_lss rfl rfl) ?_; refine yv y_mv <| Hd.part (gd := 12) rfl (fun hg3_12 => ?_) (fun hg3_12 => ?_)
 ·try simp only [hyZ] at hg3_12
  refine n1 <| n1 <| n1 <| n1 <| n1 <| n1 <| n1 <| yv (y_pickT rfl rfl) ?_; refine yv y_mv <| Hd.part (gd := 21) rfl (fun hg3_21 => ?_) (fun hg3_21 => ?_)
  ·try simp only [hyZ] at hg3_21
   refine n1 <| n1 <| n1 <| n1 <| n1 <| n1 <| n1 <| n1 <| n1 <| n1 <| n1 <| n1 <| n1 <| yv (y_pickT rfl rfl) ?_; refine yv y_as <| fk [(0,_),(1,_),(9,_)] K4 ?_; refine qz ?_ ?_ <;> intro hc1 <;> try simp only [hyZ] at hc1
   ·refine sr fun _ K5 => ?_
    refine yv y_as <| yv y_as <| fk [(4,_),(5,_)] K5 ?_; refine Hd.ret <| Hd.inBret <| Hd.thenRet ?_; exact Hd.ret2 rfl () rfl rfl (by rfl) sq
   exfalso; simp at hc1
  try simp only [hyZ] at hg3_21
  exfalso; simp at hg3_21; done
 try simp only [hyZ] at hg3_12
 refine y2 y_mv <| y2 y_mv <| y2 y_np <| y2 (y_f 288 208 Tryz.underlying210 sz208) <| y2 (y_load1 ag208 rfl (Rd.pt1 pkk (by exact woT_at (j := 0) (by omega) rfl))) ?_; refine y2 (y_len Tryz.underlying208 rfl) ?_; refine y2 (y_geq rfl rfl) ?_; refine yv (y_pickF rfl rfl) ?_; refine yv y_mv <| Hd.part (gd := 21) rfl (fun hg3_21 => ?_) (fun hg3_21 => ?_)
 ·try simp only [hyZ] at hg3_21
  refine n1 <| n1 <| n1 <| n1 <| n1 <| n1 <| n1 <| n1 <| n1 <| n1 <| n1 <| n1 <| n1 <| yv (y_pickT rfl rfl) ?_; refine yv y_as <| fk [(0,_),(1,_),(9,_)] K4 ?_; refine qz ?_ ?_ <;> intro hc1 <;> try simp only [hyZ] at hc1
  ·refine sr fun _ K6 => ?_
   refine yv y_as <| yv y_as <| fk [(4,_),(5,_)] K6 ?_; refine Hd.ret <| Hd.inBret <| Hd.thenRet ?_; exact Hd.ret2 rfl () rfl rfl (by rfl) sq
  exfalso; simp at hc1
 try simp only [hyZ] at hg3_21
 exfalso; omega
theorem outer_ct (L : List SP) (wb : Nat) (w : WA) (i : WoI) (hw : WOk w) (hrs : i.rs.map Prod.snd = w.ws) (n : Int) :
  Ct Tryz.prog 111 #[.pointer (some ⟨wb, 0, none⟩), .int .i64 n] (WoL wb w i L) (fun _ : Unit => .tuple #[ptr (outB i w n), .int .i64 (outE w n)]) (fun _ => WoL wb w i L) := by
 have hrl : i.rs.length = w.ws.length := by rw [← hrs, List.length_map]
 by_cases h : n < 0 ∨ (i.rs.length : Int) ≤ n
 ·have e := outW_off (w := w) (n := n) (by rw [← hrl]; exact h)
  rw [show outB i w n = none by unfold outB; rw [e]; rfl, show outE w n = 116 by unfold outE; rw [e]; rfl]; exact outer0_ct L wb w i n h
 ·obtain ⟨k, rfl⟩ : ∃ k : Nat, n = (k : Int) := ⟨n.toNat, by omega⟩
  have hk : k < w.ws.length := by omega
  obtain ⟨b, hb⟩ := rs_at hrs (List.getElem?_eq_getElem hk)
  have e := outW_nat (w := w) (n := k) (List.getElem?_eq_getElem hk)
  have := outer1_ct L wb w i hw hrs k b _ hb
  have e1 : outB i w (k : Int) = if (w.ws[k].e 1).what = 2 then some b else none := by
   unfold outB; rw [e, Int.toNat_natCast, hb]
   by_cases h2 : (w.ws[k].e 1).what = 2
   ·rw [if_pos h2, if_pos h2]; rfl
   ·rw [if_neg h2, if_neg h2]; rfl
  have e2 : outE w (k : Int) = if (w.ws[k].e 1).what = 2 then 0 else 116 := by
   unfold outE; rw [e]
   by_cases h2 : (w.ws[k].e 1).what = 2
   ·rw [if_pos h2, if_pos h2]; rfl
   ·rw [if_neg h2, if_neg h2]; rfl
  rw [e1, e2]; exact this
theorem outE_no {w : WA} {n : Int} (h : outE w n ≠ 0) : outW w n = none := by
 unfold outE at h
 cases e : outW w n with
 | none => rfl
 | some x => rw [e] at h; exact absurd rfl h
theorem outE_yes {w : WA} {i : WoI} (hrs : i.rs.map Prod.snd = w.ws) {n : Int} (h : outE w n = 0) : ∃ (m b : Nat) (x : WireA), n = (m : Int) ∧ outW w n = some x ∧ w.ws[m]? = some x ∧ i.rs[m]? = some (b, x) ∧ (x.e 1).what = 2 ∧ outB i w n = some b := by
 unfold outE at h
 cases e : outW w n with
 | none => rw [e] at h; exact absurd h (by decide)
 | some x =>
  obtain ⟨h0, hx, h2⟩ := outW_some e
  obtain ⟨b, hb⟩ := rs_at hrs hx
  refine ⟨n.toNat, b, x, by omega, rfl, hx, hb, h2, ?_⟩; unfold outB; rw [e, hb]; rfl
theorem wput_ct (L : List SP) (wb : Nat) (w : WA) (n : Int) (ad : Option Addr) (m c : Nat) (bs : List UInt8) (hm : bs.length = m) (hR : RdS L 1 ad m (bsl bs)) (hml : m ≤ 70368744177664) (hmc : m ≤ c) : Ct Tryz.prog 52 #[.pointer (some ⟨wb, 0, none⟩), .int .i64 n, .slice ad m c] (WorldP wb w :: L) (fun _ : Unit => .tuple #[.int .i64 (putR w n bs).1.1, .int .i64 (putR w n bs).1.2]) (fun _ : Unit => WorldP wb (putR w n bs).2 :: L) := by
 refine Ct.o3 Tryz.func52 ?_; intro E
 show Hd E 44 _ _ _ _
 refine Hd.world .here (fun i hw hrs => ?_); refine sr fun _ K1 => ?_
 refine yv y_as <| yv y_as <| fk [(0,_),(1,_),(2,_)] K1 ?_; refine sr fun _ K2 => ?_
 refine yv y_mv <| yv y_mv <| callE rfl fk111 (outer_ct _ wb w i hw hrs n) sq ?_; intro _; refine yv y_mv <| yv (y_to (v' := ptr (outB i w n)) y_ex (by rfl)) ?_; refine yv (y_to (v' := .int .i64 (outE w n)) y_ex (by rfl)) ?_; refine yv y_as <| yv y_as <| fk [(2,_),(8,_),(9,_)] K2 ?_; refine Hd.seq fun _ K3 => ?_
 refine Hd.block <| sr fun _ K4 => ?_
 refine yv y_mv <| yv (y_neq rfl rfl) ?_; refine yv y_as <| fk [(2,_),(8,_),(9,_),(16,_)] K4 ?_; refine qz ?_ ?_ <;> intro hc0 <;> try simp only [hyZ] at hc0
 ·refine sr fun _ K5 => ?_
  refine yv y_mv <| yv y_as <| yv y_as <| fk [(6,_),(7,_)] K5 ?_; refine Hd.ret <| Hd.inBret <| Hd.thenRet ?_
  have e := outE_no hc0
  rw [show putR w n bs = ((0, 116), w) by unfold putR; rw [e]]; exact Hd.ret2 rfl () rfl rfl (by unfold outE; rw [e]; rfl) (Ent.sep (.ex i (.pure ⟨hw, hrs⟩ enn)))
 obtain ⟨k, b, x, rfl, hox, hx, hb, h2, hob⟩ := outE_yes hrs hc0
 have hwf := hw.wf x (List.mem_of_getElem? hx)
 have hrd : putR w k bs = if x.rs = true then ((0, 115), w) else if (x.e 1).shut = true ∨ (x.e 0).what = 3 then ((0, 114), w) else ((((putN x 1 bs : Nat) : Int), (0 : Int)), w.setW k (putW x 1 bs)) := by
  unfold putR; rw [hox]; rfl
 rw [hob]; refine Hd.wOut pkk hb ?_; refine Hd.wire .here 1 (by omega) (fun i2 hi => ?_); refine sr fun _ K6 => ?_
 refine yv y_mv <| yv y_np <| yv (y_f 14 4 Tryz.underlying199 sz4) <| yv (y_l1 ag4 rfl) <| yv y_as <| fk [(2,_),(8,_),(20,_)] K6 ?_; refine qz ?_ ?_ <;> intro hc1 <;> try simp only [hyZ] at hc1
 ·refine sr fun _ K7 => ?_
  refine yv y_as <| yv y_as <| fk [(6,_),(7,_)] K7 ?_; refine Hd.ret <| Hd.inBret <| Hd.thenRet ?_; rw [hrd, if_pos hc1]; exact Hd.ret2 rfl () rfl rfl rfl (fun q s => world_back (k := 1) hw hrs hb hi (by omega) q (Ent.sep enn q s))
 rw [if_neg (by rw [hc1]; simp)] at hrd; refine sr fun _ K8 => ?_
 refine yv y_mv <| yv y_np <| yv (y_f 0 197 Tryz.underlying199 sz197) <| yv (y_idxA Tryz.underlying197 sz196 rfl rfl (by decide)) ?_; refine yv (y_f 4 4 Tryz.underlying196 sz4) <| yv (y_l1 ag4 rfl) <| yv y_mv ?_; apply Hd.org 8 32 40 [(2,_),(8,_)] rfl sbq
 ·intro hg6_32
  try simp only [hyZ] at hg6_32
  simp only [List.take]; refine n1 <| n1 <| n1 <| n1 <| n1 <| n1 <| n1 <| yv (y_pickT rfl rfl) ?_; exact Hd.mn
 ·intro hg6_32
  try simp only [hyZ] at hg6_32
  simp only [List.take]; refine y2 y_mv <| y2 y_np <| y2 (y_f 0 197 Tryz.underlying199 sz197) <| y2 (y_idxA Tryz.underlying197 sz196 rfl rfl (by decide)) ?_; refine y2 (y_f 0 3 Tryz.underlying196 sz3) <| y2 (y_l1 ag3 rfl) <| y2 (y_eql rfl rfl) ?_; refine yv (y_pickF rfl rfl) ?_; exact Hd.mn
 simp only [List.drop]; refine yv y_as <| fk [(2,_),(8,_),(25,_)] K8 ?_; refine qz ?_ ?_ <;> intro hc2 <;> try simp only [hyZ] at hc2
 ·refine sr fun _ K9 => ?_
  refine yv y_as <| yv y_as <| fk [(6,_),(7,_)] K9 ?_; refine Hd.ret <| Hd.inBret <| Hd.thenRet ?_; rw [hrd, if_pos hc2]; exact Hd.ret2 rfl () rfl rfl rfl (fun q s => world_back (k := 1) hw hrs hb hi (by omega) q (Ent.sep enn q s))
 rw [if_neg (by rw [hc2.1]; simpa using hc2.2)] at hrd; refine Hd.skip <| Hd.inB <| Hd.toK K3 ?_; refine Hd.seq fun _ K10 => ?_
 refine Hd.heap (WireP b x :: WoR wb k w i L) (fun q s => wire_fold (k := 1) hi (by omega) q (Ent.sep enn q s)) ?_; refine Hd.region <| yv y_mv <| yv y_mv <| callE rfl fk112 (put_ct _ b x 1 (by omega) (hwf.ou h2).1 ad m c bs hm ?hD hml hmc) sq ?_
 case hD => exact RdS.mono hR sq
 intro _; refine yv y_as <| yv y_as <| fk [(6,_),(7,_)] K10 ?_; refine Hd.ret ?_; rw [hrd]; exact Hd.ret2 rfl () rfl rfl rfl (fun q s => world_fold' hw hrs hb (smW_put hwf (by omega) bs (hwf.ou h2).1) q (Ent.sep enn q s))
theorem wtake_ct (L : List SP) (wb : Nat) (w : WA) (n m : Int) : Ct Tryz.prog 125 #[.pointer (some ⟨wb, 0, none⟩), .int .i64 n, .int .i64 m] (WorldP wb w :: L) (fun q_ : Option Addr × Nat => .tuple #[.slice q_.1 (takR w n m).1.1.length q_.2, .int .i64 (takR w n m).1.2]) (fun q_ : Option Addr × Nat => own 5 1 q_.1 (takR w n m).1.1.length q_.2 (bsl (takR w n m).1.1) :: WorldP wb (takR w n m).2 :: L) := by
 refine Ct.o3 Tryz.func125 ?_; intro E
 show Hd E 31 _ _ _ _
 refine Hd.world .here (fun i hw hrs => ?_); refine sr fun _ K1 => ?_
 refine yv y_as <| yv y_as <| fk [(0,_),(1,_),(2,_)] K1 ?_; refine sr fun _ K2 => ?_
 refine yv y_mv <| yv y_mv <| callE rfl fk111 (outer_ct _ wb w i hw hrs n) sq ?_; intro _; refine yv y_mv <| yv (y_to (v' := ptr (outB i w n)) y_ex (by rfl)) ?_; refine yv (y_to (v' := .int .i64 (outE w n)) y_ex (by rfl)) ?_; refine yv y_as <| yv y_as <| fk [(2,_),(8,_),(9,_)] K2 ?_; refine Hd.seq fun _ K3 => ?_
 refine Hd.block <| sr fun _ K4 => ?_
 refine yv y_mv <| yv (y_neq rfl rfl) ?_; refine yv y_as <| fk [(2,_),(8,_),(9,_),(16,_)] K4 ?_; refine qz ?_ ?_ <;> intro hc0 <;> try simp only [hyZ] at hc0
 ·refine sr fun _ K5 => ?_
  refine yv y_mv <| yv y_as <| yv y_as <| fk [(6,_),(7,_)] K5 ?_; refine Hd.ret <| Hd.inBret <| Hd.thenRet ?_
  have e := outE_no hc0
  rw [show takR w n m = (([], 116), w) by unfold takR; rw [e]]; exact Hd.ret2 rfl (none, 0) rfl rfl (by unfold outE; rw [e]; rfl) (Ent.sep (.ownNil (.ex i (.pure ⟨hw, hrs⟩ enn))))
 obtain ⟨k, b, x, rfl, hox, hx, hb, h2, hob⟩ := outE_yes hrs hc0
 have hwf := hw.wf x (List.mem_of_getElem? hx)
 have hrd : takR w k m = if m < 0 then (([], 2), w) else if x.rs = true then (([], 115), w) else (((x.e 1).b.take m.toNat, 0), w.setW k (takeW x 1 m.toNat)) := by
  unfold takR; rw [hox]; rfl
 rw [hob]; refine Hd.wOut pkk hb ?_; refine Hd.wire .here 1 (by omega) (fun i2 hi => ?_); refine sr fun _ K6 => ?_
 refine yv y_mv <| yv (y_lss rfl rfl) ?_; refine yv y_as <| fk [(2,_),(8,_),(20,_)] K6 ?_; refine qz ?_ ?_ <;> intro hc1 <;> try simp only [hyZ] at hc1
 ·refine sr fun _ K7 => ?_
  refine yv y_as <| yv y_as <| fk [(6,_),(7,_)] K7 ?_; refine Hd.ret <| Hd.inBret <| Hd.thenRet ?_; rw [hrd, if_pos hc1]; exact Hd.ret2 rfl (none, 0) rfl rfl rfl (Ent.sep (.ownNil .same) |> fun h q s => h q (world_back (k := 1) hw hrs hb hi (by omega) q (Ent.sep enn q s)))
 rw [if_neg (by omega)] at hrd; refine sr fun _ K8 => ?_
 refine yv y_mv <| yv y_np <| yv (y_f 14 4 Tryz.underlying199 sz4) <| yv (y_l1 ag4 rfl) <| yv y_as <| fk [(2,_),(8,_),(23,_)] K8 ?_; refine qz ?_ ?_ <;> intro hc2 <;> try simp only [hyZ] at hc2
 ·refine sr fun _ K9 => ?_
  refine yv y_as <| yv y_as <| fk [(6,_),(7,_)] K9 ?_; refine Hd.ret <| Hd.inBret <| Hd.thenRet ?_; rw [hrd, if_pos hc2]; exact Hd.ret2 rfl (none, 0) rfl rfl rfl (Ent.sep (.ownNil .same) |> fun h q s => h q (world_back (k := 1) hw hrs hb hi (by omega) q (Ent.sep enn q s)))
 rw [if_neg (by rw [hc2]; simp)] at hrd; refine Hd.skip <| Hd.inB <| Hd.toK K3 ?_; refine Hd.seq fun _ K10 => ?_
 refine Hd.heap (WireP b x :: WoR wb k w i L) (fun q s => wire_fold (k := 1) hi (by omega) q (Ent.sep enn q s)) ?_; refine Hd.region <| yv y_mv <| yv y_mv <| callE rfl fk117 (take_ct _ b x 1 (by omega) (hwf.ou h2).2 m) sq ?_; rintro ⟨ad, c⟩; dsimp only; refine yv y_as <| yv y_as <| fk [(6,_),(7,_)] K10 ?_; refine Hd.ret ?_; rw [hrd]; exact Hd.ret2 rfl (ad, c) rfl rfl rfl (fun q s => Ent.sep (show Ent (WorldP wb (w.setW k (takeW x 1 m.toNat)) :: own 5 1 ad ((x.e 1).b.take m.toNat).length c (bsl ((x.e 1).b.take m.toNat)) :: L) (own 5 1 ad ((x.e 1).b.take m.toNat).length c (bsl ((x.e 1).b.take m.toNat)) :: WorldP wb (w.setW k (takeW x 1 m.toNat)) :: L) from enn) q (world_fold' hw hrs hb (smW_take hwf (by omega) (hwf.ou h2).2) q (Ent.sep enn q s)))
theorem pshut_ct (L : List SP) (wb : Nat) (w : WA) (n : Int) : Ct Tryz.prog 127 #[.pointer (some ⟨wb, 0, none⟩), .int .i64 n] (WorldP wb w :: L) (fun _ : Unit => .int .i64 (pshutR w n).1) (fun _ : Unit => WorldP wb (pshutR w n).2 :: L) := by
 refine Ct.o2 Tryz.func127 ?_; intro E
 show Hd E 18 _ _ _ _
 refine Hd.world .here (fun i hw hrs => ?_); refine sr fun _ K1 => ?_
 refine yv y_as <| fk [(0,_),(1,_)] K1 ?_; refine sr fun _ K2 => ?_
 refine yv y_mv <| yv y_mv <| callE rfl fk111 (outer_ct _ wb w i hw hrs n) sq ?_; intro _; refine yv y_mv <| yv (y_to (v' := ptr (outB i w n)) y_ex (by rfl)) ?_; refine yv (y_to (v' := .int .i64 (outE w n)) y_ex (by rfl)) ?_; refine yv y_as <| yv y_as <| fk [(5,_),(6,_)] K2 ?_; refine Hd.seq fun _ K3 => ?_
 refine sr fun _ K4 => ?_
 refine yv y_mv <| yv (y_eql rfl rfl) ?_; refine fk [(5,_),(6,_),(14,_)] K4 ?_; refine qz ?_ ?_ <;> intro hc0 <;> try simp only [hyZ] at hc0
 ·obtain ⟨k, b, x, rfl, hox, hx, hb, h2, hob⟩ := outE_yes hrs hc0
  have hwf := hw.wf x (List.mem_of_getElem? hx)
  have hrd : pshutR w k = (0, w.setW k (shutW x 1)) := by unfold pshutR; rw [hox]; rfl
  rw [hob]; refine Hd.wOut pkk hb ?_; refine Hd.region <| yv y_mv <| callE rfl fk120 (shut_ct _ b x 1 (by omega)) sq ?_; intro _; refine fk [(6,_)] K3 ?_; refine sr fun _ K5 => ?_
  refine yv y_mv <| yv y_as <| fk [(4,_)] K5 ?_; refine Hd.ret ?_; rw [hrd]; exact Hd.ret1 rfl () (by rw [hc0]; rfl) (fun q s => world_fold' hw hrs hb (smW_shut hwf) q (Ent.sep enn q s))
 refine qv K3 <| sr fun _ K6 => ?_
 refine yv y_mv <| yv y_as <| fk [(4,_)] K6 ?_; refine Hd.ret ?_
 have e := outE_no hc0
 rw [show pshutR w n = (116, w) by unfold pshutR; rw [e]]; exact Hd.ret1 rfl () (by unfold outE; rw [e]; rfl) (Ent.sep (.ex i (.pure ⟨hw, hrs⟩ enn)))
theorem out_free {w : WA} (h : WOk w) {n : Nat} {x : WireA} (hx : w.ws[n]? = some x) (h2 : (x.e 1).what = 2) : ∀ k, k < 2 → (x.e k).what = 1 → ((closeW x 1).e k).what = 1 := fun k hk e => by
 rw [(close_e x (by omega) hk).1]
 split
 ·rename_i e1; subst e1; rw [h2] at e; cases e
 ·exact e
theorem pclose_ok {w : WA} (h : WOk w) {n : Nat} {x : WireA} (hx : w.ws[n]? = some x) (h2 : (x.e 1).what = 2) : WOk (w.setW n (closeW x 1)) ∧ (w.setW n (closeW x 1)).at = w.at := by
 have hs := sbW_close (h.wf x (List.mem_of_getElem? hx)) (k := 1) (by omega)
 have h0 : n ∈ (w.setW n (closeW x 1)).ws.flatMap WireA.wt → ((closeW x 1).e 0).what = 0 := fun e => by
  have := (flatMap_set_sub (f := WireA.wt) (x' := closeW x 1) hx hs.wt).subset e
  obtain ⟨z, hz, hz0⟩ := h.wm n this
  rw [hx] at hz; obtain rfl := Option.some.inj hz; rw [(close_e x (by omega) (by omega)).1, if_neg (by omega)]; exact hz0
 exact ⟨h.setS hx hs h0, h.setS_at hx hs h0 (out_free h hx h2)⟩
theorem pclose_ct (L : List SP) (wb : Nat) (w : WA) (n : Int) : Ct Tryz.prog 129 #[.pointer (some ⟨wb, 0, none⟩), .int .i64 n] (WorldP wb w :: L) (fun _ : Unit => .int .i64 (pcloseR w n).1) (fun _ : Unit => WorldP wb (pcloseR w n).2 :: L) := by
 refine Ct.o2 Tryz.func129 ?_; intro E
 show Hd E 18 _ _ _ _
 refine Hd.world .here (fun i hw hrs => ?_); refine sr fun _ K1 => ?_
 refine yv y_as <| fk [(0,_),(1,_)] K1 ?_; refine sr fun _ K2 => ?_
 refine yv y_mv <| yv y_mv <| callE rfl fk111 (outer_ct _ wb w i hw hrs n) sq ?_; intro _; refine yv y_mv <| yv (y_to (v' := ptr (outB i w n)) y_ex (by rfl)) ?_; refine yv (y_to (v' := .int .i64 (outE w n)) y_ex (by rfl)) ?_; refine yv y_as <| yv y_as <| fk [(5,_),(6,_)] K2 ?_; refine Hd.seq fun _ K3 => ?_
 refine sr fun _ K4 => ?_
 refine yv y_mv <| yv (y_eql rfl rfl) ?_; refine fk [(5,_),(6,_),(14,_)] K4 ?_; refine qz ?_ ?_ <;> intro hc0 <;> try simp only [hyZ] at hc0
 ·obtain ⟨k, b, x, rfl, hox, hx, hb, h2, hob⟩ := outE_yes hrs hc0
  have hpk := pclose_ok hw hx h2
  have hrd : pcloseR w k = (0, w.setW k (closeW x 1)) := by unfold pcloseR; rw [hox]; rfl
  rw [hob]; refine Hd.wOut pkk hb ?_; refine Hd.region <| yv y_mv <| callE rfl fk122 (close_ct _ b x 1 (by omega)) sq ?_; intro _; refine fk [(6,_)] K3 ?_; refine sr fun _ K5 => ?_
  refine yv y_mv <| yv y_as <| fk [(4,_)] K5 ?_; refine Hd.ret ?_; rw [hrd]; exact Hd.ret1 rfl () (by rw [hc0]; rfl) (fun q s => world_put hrs hb hpk.1 hpk.2 q (Ent.sep enn q s))
 refine qv K3 <| sr fun _ K6 => ?_
 refine yv y_mv <| yv y_as <| fk [(4,_)] K6 ?_; refine Hd.ret ?_
 have e := outE_no hc0
 rw [show pcloseR w n = (116, w) by unfold pcloseR; rw [e]]; exact Hd.ret1 rfl () (by unfold outE; rw [e]; rfl) (Ent.sep (.ex i (.pure ⟨hw, hrs⟩ enn)))
theorem wshut_ct (L : List SP) (wb : Nat) (w : WA) (fd : Int) : Ct Tryz.prog 65 #[.pointer (some ⟨wb, 0, none⟩), .int .i64 fd] (WorldP wb w :: L) (fun _ : Unit => .int .i64 (shutR w fd).1) (fun _ : Unit => WorldP wb (shutR w fd).2 :: L) := by
 refine Ct.o2 Tryz.func65 ?_; intro E
 show Hd E 44 _ _ _ _
 refine Hd.world .here (fun i hw hrs => ?_); refine sr fun _ K1 => ?_
 refine yv y_as <| fk [(0,_),(1,_)] K1 ?_; refine sr fun _ K2 => ?_
 refine yv y_mv <| yv y_mv <| callE rfl fk101 (find_ct _ wb w i hw hrs fd) sq ?_; intro _; refine yv y_mv <| yv y_ex <| yv y_ex <| yv y_ex <| Hd.alloc zr190 (fun b5 => ?_); refine Hd.storeA (us := plc (w.at fd)) (by rw [plc_len]; exact sz190) rfl rfl rfl (plc_one _) pkk (by rw [plc_len]; rfl) ?_; refine yv (y_to (v' := ptr (wfb i (w.at fd))) y_as (by rfl)) ?_; refine yv (y_to (v' := .int .i64 (fdErr (w.at fd))) y_as (by rfl)) ?_; refine fk [(5,_),(6,_),(7,_)] K2 ?_; refine Hd.seq fun _ K3 => ?_
 refine Hd.block <| sr fun _ K4 => ?_
 refine yv y_mv <| yv (y_neq rfl rfl) ?_; refine yv y_as <| fk [(5,_),(6,_),(7,_),(15,_)] K4 ?_; refine qz ?_ ?_ <;> intro hc0 <;> try simp only [hyZ] at hc0
 ·refine sr fun _ K5 => ?_
  refine yv y_mv <| yv y_as <| fk [(4,_)] K5 ?_; refine Hd.ret <| Hd.inBret <| Hd.thenRet ?_
  have hno : w.at fd = none := by
   cases h : w.at fd with
   | none => rfl
   | some p => rw [h] at hc0; exact absurd rfl hc0
  rw [show shutR w fd = (110, w) by unfold shutR; rw [hno]]; exact Hd.ret1 rfl () (by rw [hno]; rfl) (Ent.sep (.ex i (.pure ⟨hw, hrs⟩ enn)))
 obtain ⟨m0, k, hnk⟩ : ∃ m k, w.at fd = some (m, k) := by
  cases h : w.at fd with
  | none => rw [h] at hc0; exact absurd hc0 (by decide)
  | some p => exact ⟨p.1, p.2, rfl⟩
 obtain ⟨hf0, hf1, hk, hn, x, hx, _, _⟩ := hw.at_lt hnk
 obtain ⟨b, hb⟩ := rs_at hrs hx
 have hwf := hw.wf x (List.mem_of_getElem? hx)
 have hrd : shutR w fd = if (x.e k).rd = false ∨ (x.e k).wr = false then (111, w) else (0, w.setW m0 (shutW x k)) := by unfold shutR; rw [hnk]; dsimp only; rw [hx]
 rw [hnk, wfb_eq hb]; refine Hd.wOut pkk hb ?_; refine Hd.wire .here k hk (fun i2 hi => ?_); refine Hd.seq fun _ K6 => ?_
 refine Hd.quiet mixed kq ?_; refine Hq.yv y_mv ?_; refine Hq.yv (y_f 2 3 Tryz.underlying190 sz3) ?_; refine Hq.yv (y_l1 ag3 rfl) ?_; refine Hq.yv y_np ?_; refine Hq.yv (y_f 0 197 Tryz.underlying199 sz197) ?_; refine Hq.yv (y_idxA Tryz.underlying197 sz196 rfl rfl (by omega)) ?_; refine Hq.yv (y_f 2 194 Tryz.underlying196 sz194) ?_; refine Hq.yv (y_load1 ag194 rfl (Rd.pt1 pkk (by exact enc_at 2 hk (by omega) (by omega) rfl))) ?_; refine Hq.yv (y_to (v' := .bool (!(x.e k).rd)) (y_eql_pointer Tryz.underlying194 rfl rfl) (by (show Value.bool (Option.isNone _) = _; rw [ptr_no, hi.rd k hk]))) ?_; refine Hq.yv y_mv ?_; apply Hq.org 10 29 39 [(5,_),(6,_)] rfl ⟨rfl, rfl, trivial⟩
 ·intro hg4_29
  try simp only [hyZ] at hg4_29
  simp only [List.take]; refine Hq.ng rfl rfl rfl ?_; refine Hq.ng rfl rfl rfl ?_; refine Hq.ng rfl rfl rfl ?_; refine Hq.ng rfl rfl rfl ?_; refine Hq.ng rfl rfl rfl ?_; refine Hq.ng rfl rfl rfl ?_; refine Hq.ng rfl rfl rfl ?_; refine Hq.ng rfl rfl rfl ?_; refine Hq.ng rfl rfl rfl ?_; refine Hq.yv (y_pickT rfl rfl) ?_; exact Hq.mend sbq
 ·intro hg4_29
  try simp only [hyZ] at hg4_29
  simp only [List.take]; refine Hq.yg rfl rfl y_mv ?_; refine Hq.yg rfl rfl (y_f 2 3 Tryz.underlying190 sz3) ?_; refine Hq.yg rfl rfl (y_l1 ag3 rfl) ?_; refine Hq.yg rfl rfl y_np ?_; refine Hq.yg rfl rfl (y_f 0 197 Tryz.underlying199 sz197) ?_; refine Hq.yg rfl rfl (y_idxA Tryz.underlying197 sz196 rfl rfl (by omega)) ?_; refine Hq.yg rfl rfl (y_f 3 4 Tryz.underlying196 sz4) ?_; refine Hq.yg rfl rfl (y_load1 ag4 rfl (Rd.pt1 pkk (by exact enc_at 3 hk (by omega) (by omega) rfl))) ?_; refine Hq.yg rfl rfl (y_not rfl) ?_; refine Hq.yv (y_pickF rfl rfl) ?_; exact Hq.mend sbq
 simp only [List.drop]; refine Hq.yv y_as ?_; refine Hq.nil ?_; refine sk [(5,_),(6,_),(19,_)] K6 ?_; refine qz ?_ ?_ <;> intro hc1 <;> try simp only [hyZ] at hc1
 ·refine sr fun _ K7 => ?_
  refine yv y_as <| fk [(4,_)] K7 ?_; refine Hd.ret <| Hd.inBret <| Hd.thenRet ?_; rw [hrd, if_pos hc1]; exact Hd.ret1 rfl () rfl (fun q s => world_back hw hrs hb hi hk q (Ent.sep enn q s))
 rw [if_neg (by rw [hc1.1, hc1.2]; simp)] at hrd; refine Hd.skip <| Hd.inB <| Hd.toK K3 ?_; refine Hd.seq fun _ K8 => ?_
 refine Hd.heap (WireP b x :: pt b5 (plc (some (m0, k))) 190 :: WoR wb m0 w i L) (fun q s => wire_fold hi hk q (Ent.sep enn q s)) ?_; refine Hd.region <| yv y_mv <| yv (y_f 2 3 Tryz.underlying190 sz3) <| yv (y_l1 ag3 rfl) <| callE rfl fk120 (shut_ct _ b x k hk) sq ?_; intro _; refine fk [] K8 ?_; refine sr fun _ K9 => ?_
 refine yv y_as <| fk [(4,_)] K9 ?_; refine Hd.ret ?_; rw [hrd]; exact Hd.ret1 rfl () rfl (fun q s => world_fold' hw hrs hb (smW_shut hwf) q (Ent.sep enn q s))
def mayE (s : Int) : Int := if 1 ≤ s ∧ s ≤ 31 then 0 else 100
theorem mayE_0 {s : Int} : mayE s = 0 ↔ 1 ≤ s ∧ s ≤ 31 := by unfold mayE; split <;> simp_all
theorem is_ct (L : List SP) (s : Int) : Ct Tryz.prog 215 #[.int .i64 s] (L) (fun _ : Unit => .bool (decide (s ≥ 1) && decide (s ≤ 31))) (fun _ : Unit => L) := by
 refine Ct.o1 Tryz.func215 ?_; intro E
 show Hd E 9 _ _ _ _
 refine sr fun _ K1 => ?_
 refine yv y_as <| fk [(0,_)] K1 ?_; refine sr fun _ K2 => ?_
 refine yv y_mv <| yv (y_geq rfl rfl) ?_; refine yv y_mv ?_; apply Hd.andg 3 5 8 [] rfl sbq
 ·intro hg1_5
  try simp only [hyZ] at hg1_5
  simp only [List.take]; refine y2 y_mv <| y2 (y_leq rfl rfl) ?_; refine yv (y_pickT rfl rfl) ?_; exact Hd.mn
 ·intro hg1_5
  try simp only [hyZ] at hg1_5
  simp only [List.take]; refine n1 <| n1 <| yv (y_pickF rfl rfl) ?_; exact Hd.mn
 simp only [List.drop]; refine yv y_as <| fk [(2,_)] K2 ?_; refine Hd.ret ?_; exact Hd.ret1 rfl () (by rfl) sq
theorem may_ct (L : List SP) (sb : Nat) (s : Int) : Ct Tryz.prog 197 #[.pointer (some ⟨sb, 0, none⟩), .int .i64 s] (L) (fun _ : Unit => .int .i64 (mayE s)) (fun _ : Unit => L) := by
 refine Ct.o2 Tryz.func197 ?_; intro E
 show Hd E 12 _ _ _ _
 refine sr fun _ K1 => ?_
 refine yv y_as <| fk [(0,_),(1,_)] K1 ?_; refine Hd.seq fun _ K2 => ?_
 refine Hd.block <| sr fun _ K3 => ?_
 refine yv y_mv <| yv (y_eql_pointer Tryz.underlying205 rfl rfl) ?_; refine yv y_as <| fk [(1,_),(5,_)] K3 ?_; refine Hd.condF rfl ?_; refine sr fun _ K4 => ?_
 refine yv y_mv <| callE rfl fk215 (is_ct _ s) sq ?_; intro _; refine yv (y_not rfl) <| yv y_as <| fk [(8,_)] K4 ?_; refine qz ?_ ?_ <;> intro hc1 <;> try simp only [hyZ] at hc1
 ·refine sr fun _ K5 => ?_
  refine yv y_as <| fk [(4,_)] K5 ?_; refine Hd.ret <| Hd.inBret <| Hd.thenRet ?_; rw [show mayE s = 100 from if_neg (by omega)]; exact Hd.ret1 rfl () rfl sq
 refine Hd.skip <| Hd.inB <| Hd.toK K2 ?_; refine sr fun _ K6 => ?_
 refine yv y_as <| fk [(4,_)] K6 ?_; refine Hd.ret ?_; rw [show mayE s = 0 from if_pos (by omega)]; exact Hd.ret1 rfl () rfl sq
abbrev SgV (hd : List Bool) (ct : List Int) : List Value := hd.map .bool ++ ct.map (Value.int .i64)
theorem sg_hd {hd : List Bool} {ct : List Int} {s o : Nat} (hl : hd.length = 32) (hs : s < 32) (ho : o = s) : (SgV hd ct)[o]? = some (.bool (hd.getD s false)) := by
 subst ho; rw [List.getElem?_append_left (by rw [List.length_map]; omega), List.getElem?_map, List.getD_eq_getElem?_getD, List.getElem?_eq_getElem (by omega)]; rfl
theorem sg_ct {hd : List Bool} {ct : List Int} {s o : Nat} (hl : hd.length = 32) (hc : ct.length = 32) (hs : s < 32) (ho : o = 32 + s) : (SgV hd ct)[o]? = some (.int .i64 (ct.getD s 0)) := by
 subst ho; rw [List.getElem?_append_right (by rw [List.length_map]; omega), List.length_map, hl, Nat.add_sub_cancel_left, List.getElem?_map, List.getD_eq_getElem?_getD, List.getElem?_eq_getElem (by omega)]; rfl
theorem sg_set_hd {hd : List Bool} {ct : List Int} {s o : Nat} {v : Bool} (hl : hd.length = 32) (hs : s < 32) (ho : o = s) : (SgV hd ct).set o (.bool v) = SgV (hd.set s v) ct := by
 subst ho; rw [List.set_append_left _ _ (by rw [List.length_map]; omega)]
 show _ = (hd.set o v).map Value.bool ++ _
 rw [List.map_set]
theorem sg_set_ct {hd : List Bool} {ct : List Int} {s o : Nat} {v : Int} (hl : hd.length = 32) (hs : s < 32) (ho : o = 32 + s) : (SgV hd ct).set o (.int .i64 v) = SgV hd (ct.set s v) := by
 subst ho; rw [List.set_append_right _ _ (by rw [List.length_map]; omega), List.length_map, hl, Nat.add_sub_cancel_left]
 show _ = _ ++ (ct.set s v).map (Value.int .i64)
 rw [List.map_set]
theorem sg_len {hd : List Bool} {ct : List Int} (hl : hd.length = 32) (hc : ct.length = 32) : (SgV hd ct).length = 64 := by
 rw [List.length_append, List.length_map, List.length_map, hl, hc]
def cntS (ct : List Int) (s : Int) : Int := if 1 ≤ s ∧ s ≤ 31 then ct.getD s.toNat 0 else 0
theorem count_ct (L : List SP) (sb : Nat) (hd : List Bool) (ct : List Int) (hl : hd.length = 32) (hcl : ct.length = 32) (s : Int) : Ct Tryz.prog 203 #[.pointer (some ⟨sb, 0, none⟩), .int .i64 s] (SigP sb hd ct :: L) (fun _ : Unit => .int .i64 (cntS ct s)) (fun _ : Unit => SigP sb hd ct :: L) := by
 refine Ct.o2 Tryz.func203 ?_; intro E
 show Hd E 15 _ _ _ _
 refine sr fun _ K1 => ?_
 refine yv y_as <| fk [(0,_),(1,_)] K1 ?_; refine Hd.seq fun _ K2 => ?_
 refine sr fun _ K3 => ?_
 refine yv y_mv <| yv y_mv <| callE rfl fk197 (may_ct _ sb s) sq ?_; intro _; refine yv (y_neq rfl rfl) ?_; refine fk [(0,_),(1,_),(8,_)] K3 ?_; refine qz ?_ ?_ <;> intro hc0 <;> try simp only [hyZ] at hc0
 ·refine sr fun _ K4 => ?_
  refine yv y_as <| fk [(4,_)] K4 ?_; refine Hd.ret <| Hd.thenRet ?_; rw [show cntS ct s = 0 from if_neg (fun h => hc0 (mayE_0.2 h))]; exact Hd.ret1 rfl () rfl sq
 have hs := mayE_0.1 hc0
 obtain ⟨k, rfl⟩ : ∃ k : Nat, s = (k : Int) := ⟨s.toNat, by omega⟩
 have hk : k < 32 := by omega
 refine qv K2 <| sr fun _ K5 => ?_
 refine yv y_mv <| yv y_mv <| yv y_np <| yv (y_f 32 131 Tryz.underlying265 sz131) <| yv (y_idxA Tryz.underlying131 sz3 rfl rfl (by omega)) ?_; refine yv (y_load1 ag3 rfl (Rd.pt1 pkk (by exact sg_ct hl hcl hk (by omega)))) ?_; refine yv y_as <| fk [(4,_)] K5 ?_; refine Hd.ret ?_; rw [show cntS ct (k : Int) = ct.getD k 0 from if_pos hs]; exact Hd.ret1 rfl () rfl sq
theorem cntF_app : ∀ (a b : List Int) (i : Nat), cntF i (a ++ b) = cntF i a ++ cntF (i + a.length) b
 | [], b, i => rfl
 | c :: t, b, i => by
  show (if i = 0 ∨ c = 0 then cntF (i + 1) (t ++ b) else ((i : Int), c) :: cntF (i + 1) (t ++ b)) = (if i = 0 ∨ c = 0 then cntF (i + 1) t else ((i : Int), c) :: cntF (i + 1) t) ++ cntF (i + (t.length + 1)) b
  rw [cntF_app t b (i + 1), show i + 1 + t.length = i + (t.length + 1) by omega]
  split <;> rfl
theorem cntF_succ {ct : List Int} {i : Nat} (h : i < ct.length) : cntF 0 (ct.take (i + 1)) = cntF 0 (ct.take i) ++ (if i = 0 ∨ ct.getD i 0 = 0 then [] else [((i : Int), ct.getD i 0)]) := by
 rw [List.take_add_one, List.getElem?_eq_getElem h, Option.toList_some, cntF_app, List.length_take, Nat.min_eq_left (by omega), Nat.zero_add, List.getD_eq_getElem?_getD, List.getElem?_eq_getElem h]
 show _ ++ (if i = 0 ∨ ct[i] = 0 then cntF (i + 1) [] else ((i : Int), ct[i]) :: cntF (i + 1) []) = _
 rfl
theorem cntF_pre (ct : List Int) (i : Nat) : cntF 0 (ct.take i) <+: cntF 0 ct := by
 conv => rhs; rw [← List.take_append_drop i ct]
 rw [cntF_app]; exact List.prefix_append _ _
theorem cntF_le : ∀ (l : List Int) (i : Nat), (cntF i l).length ≤ l.length
 | [], _ => Nat.le_refl _
 | c :: t, i => by
  have := cntF_le t (i + 1)
  show (if i = 0 ∨ c = 0 then cntF (i + 1) t else ((i : Int), c) :: cntF (i + 1) t).length ≤ _
  split <;> simp only [List.length_cons] <;> omega
abbrev encCn (p : Int × Int) : List Value := [.int .i64 p.1, .int .i64 p.2]
abbrev encCA (p : Int × Int) : List Value := [.agg (encCn p).toArray]
abbrev SgX (bx sb : Nat) (hd : List Bool) (ct : List Int) (L : List SP) : List SP := pt bx [.pointer (some ⟨sb, 0, none⟩)] 205 :: SigP sb hd ct :: L
theorem counts_ct (L : List SP) (sb : Nat) : Ct Tryz.prog 200 #[.pointer (some ⟨sb, 0, none⟩)] (L) (fun bx : Nat => .func (.func 216) #[] #[.pointer (some ⟨bx, 0, none⟩)]) (fun bx : Nat => pt bx [.pointer (some ⟨sb, 0, none⟩)] 205 :: L) := by
 refine Ct.o1 Tryz.func200 ?_; intro E
 show Hd E 4 _ _ _ _
 refine sr fun _ K1 => ?_
 refine Hd.box rfl rfl (fun b1 => ?_); refine yv y_as <| fk [(1,_)] K1 ?_; refine sr fun _ K2 => ?_
 refine yv (y_mkf (fv := []) (cv := [_]) rfl rfl) ?_; refine yv y_as <| fk [(2,_)] K2 ?_; refine Hd.ret ?_; exact Hd.ret1 rfl b1 rfl sq
theorem counts_it (bx sb : Nat) (hd : List Bool) (ct : List Int) (hl : hd.length = 32) (hcl : ct.length = 32) : RX.It Tryz.prog 216 [.pointer (some ⟨bx, 0, none⟩)] encCA (fun ys => ys = cntF 0 ct) (fun ys => ys <+: cntF 0 ct)
  (SgX bx sb hd ct []) (SgX bx sb hd ct []) := by
 intro l J X hy; refine Ct.of (vs := [.func (.yield l) #[] #[], .pointer (some ⟨bx, 0, none⟩)]) Tryz.func216 rfl rfl [(0, .func (.yield l) #[] #[]), (1, .pointer (some ⟨bx, 0, none⟩))] ⟨rfl, rfl, trivial⟩ ?_; intro E
 show Hd E 20 _ _ _ _
 refine Hd.heap (SgX bx sb hd ct (J [])) (fun k h => by have := sep_app h; exact this) ?_; refine Hd.scope ?_; refine Hd.seq fun _ K1 => ?_
 refine Hd.label ?_; refine Hd.toK K1 ?_; refine sr fun _ K2 => ?_
 refine yv y_mv <| fk [(0,_),(1,_),(5,_)] K2 ?_; refine Hd.block <| Hd.loopK (ι := Nat) [(0,_),(1,_)] (fun i => [(5, .int .i64 (i : Int))]) (fun i => pu (i ≤ 32) :: SgX bx sb hd ct (J (cntF 0 (ct.take i)))) (fun i => 32 - i) 0 sbq sbq (Ent.sep (.pure (by omega) enn)) ?_; intro i
 try dsimp only
 refine Hd.pure (fun hp0 => ?_)
 try dsimp only at hp0
 refine sr fun _ K3 => ?_
 refine yv (y_lss rfl rfl) ?_; refine fk [(0,_),(1,_),(5,_),(6,_)] K3 ?_; refine Hd.seq fun _ K4 => ?_
 refine qz ?_ ?_ <;> intro hc0 <;> try simp only [hyZ] at hc0
 ·have hi : i < 32 := by omega
  have hsc := cntF_succ (ct := ct) (i := i) (by omega)
  have hpr := cntF_pre ct (i + 1)
  refine qv K4 <| Hd.seq fun _ K5 => ?_
  refine Hd.block <| sr fun _ K6 => ?_
  refine yv y_mv <| yv y_as <| fk [(0,_),(1,_),(3,_),(5,_)] K6 ?_; refine sr fun _ K7 => ?_
  refine yv (y_l1 ag205 rfl) <| yv y_mv <| callE rfl fk203 (count_ct _ sb hd ct hl hcl (i : Int)) sq ?_; intro _; refine yv y_as <| fk [(0,_),(1,_),(3,_),(4,_),(5,_)] K7 ?_; refine Hd.seq fun _ K8 => ?_
  refine sr fun _ K9 => ?_
  refine yv y_mv <| yv (y_eql rfl rfl) ?_; refine fk [(0,_),(1,_),(3,_),(4,_),(5,_),(12,_)] K9 ?_; refine qz ?_ ?_ <;> intro hc1 <;> try simp only [hyZ] at hc1
  ·refine Hd.exit ?_
   refine Hd.thenExit <| Hd.inBexit <| Hd.toK K5 ?_; refine Hd.region <| yv (y_addn rfl rfl (by simp only [InK]; omega)) ?_; refine yv y_mv <| Hd.nil <| slots [(0,_),(1,_),(5,_)] sbq ?_; refine thenN ?_
   rw [if_pos (by
    unfold cntS at hc1
    by_cases h0 : i = 0
    ·exact .inl h0
    ·rw [if_pos (by omega), Int.toNat_natCast] at hc1; exact .inr hc1), List.append_nil] at hsc
   rw [← hsc]; exact Hd.again (i + 1) (by omega) sbq (Ent.sep (.pure (by omega) enn))
  have hi0 : i ≠ 0 := fun h => by subst h; exact hc1 rfl
  have hcv : cntS ct (i : Int) = ct.getD i 0 := by unfold cntS; rw [if_pos (by omega), Int.toNat_natCast]
  rw [hcv] at hc1; rw [if_neg (by rintro (h | h); exact hi0 h; exact hc1 h)] at hsc; rw [hsc] at hpr; rw [hcv]; refine qv K8 <| sr fun _ K10 => ?_
  refine yv y_mv <| yv y_mv <| yv y_mv <| yv (y_build (vs := [(0,_),(1,_)]) rfl (by exact bd216_16 ..)) ?_; refine Hd.yield (pre := cntF 0 (ct.take i)) (c := ((i : Int), ct.getD i 0)) (M := SgX bx sb hd ct []) hy rfl rfl hpr (fun k' h => sep_app (show sep ((SgX bx sb hd ct []) ++ J (cntF 0 (ct.take i))) k' from Ent.sep enn k' h)) ?_; intro yb; refine yv (y_not rfl) <| fk [(0,_),(1,_),(5,_),(18,_)] K10 ?_; refine qz ?_ ?_ <;> intro hc2 <;> try simp only [hyZ] at hc2
  ·subst hc2
   simp only [cond_false]; refine Hd.ret <| Hd.inBret <| Hd.thenRet <| Hd.thenRet <| Hd.inBret <| Hd.scRet ?_; exact Hd.ret0 rfl (cntF 0 (ct.take i) ++ [((i : Int), ct.getD i 0)], false) rfl (fun k' h => Ent.sep (.pure hpr .same) k' h)
  subst hc2; simp only [cond_true]; refine Hd.heap (SgX bx sb hd ct (J (cntF 0 (ct.take i) ++ [((i : Int), ct.getD i 0)]))) (fun k' h => sep_app h) ?_; rw [← hsc]; refine Hd.skip <| Hd.inB <| Hd.toK K5 ?_; refine Hd.region <| yv (y_addn rfl rfl (by simp only [InK]; omega)) ?_; refine yv y_mv <| Hd.nil <| slots [(0,_),(1,_),(5,_)] sbq ?_; refine thenN ?_; exact Hd.again (i + 1) (by omega) sbq (Ent.sep (.pure (by omega) enn))
 refine Hd.exit <| Hd.thenExit <| Hd.thenExit <| Hd.inBexit <| Hd.scNorm ?_
 obtain rfl : i = 32 := by omega
 rw [show ct.take 32 = ct from List.take_of_length_le (by omega)]; exact Hd.end0 rfl (cntF 0 ct, true) rfl (fun k' h => Ent.sep (.pure rfl .same) k' (sep_app (M := SgX bx sb hd ct []) (N := J (cntF 0 ct)) (Ent.sep enn k' h)))
theorem cntF_mem : ∀ (l : List Int) (i : Nat) (p : Int × Int), p ∈ cntF i l → ∃ j : Nat, l[j]? = some p.2 ∧ p.1 = ((i + j : Nat) : Int) ∧ 0 < i + j
 | [], _, _, h => by cases h
 | c :: t, i, p, h => by
  have h' : p ∈ (if i = 0 ∨ c = 0 then cntF (i + 1) t else ((i : Int), c) :: cntF (i + 1) t) := h
  have rec_ : p ∈ cntF (i + 1) t → ∃ j : Nat, (c :: t)[j]? = some p.2 ∧ p.1 = ((i + j : Nat) : Int) ∧ 0 < i + j := fun h => by
   obtain ⟨j, h1, h2, h3⟩ := cntF_mem t (i + 1) p h
   exact ⟨j + 1, by simpa using h1, by rw [h2]; congr 1; omega, by omega⟩
  split at h'
  ·exact rec_ h'
  ·rename_i hn
   rcases List.mem_cons.1 h' with rfl | h'
   ·exact ⟨0, rfl, rfl, by omega⟩
   ·exact rec_ h'
theorem cntF_sum : ∀ (l : List Int) (i : Nat), 0 < i → ((cntF i l).map Prod.snd).sum = l.sum
 | [], _, _ => rfl
 | c :: t, i, h => by
  show ((if i = 0 ∨ c = 0 then cntF (i + 1) t else ((i : Int), c) :: cntF (i + 1) t).map Prod.snd).sum = c + t.sum
  have ih := cntF_sum t (i + 1) (by omega)
  split
  ·rename_i h1
   rw [ih]; omega
  ·show c + ((cntF (i + 1) t).map Prod.snd).sum = _
   rw [ih]
theorem cntF_sum0 (ct : List Int) : ((cntF 0 ct).map Prod.snd).sum = (ct.drop 1).sum := by
 cases ct with
 | nil => rfl
 | cons c t =>
  show ((if 0 = 0 ∨ c = 0 then cntF 1 t else (((0 : Nat) : Int), c) :: cntF 1 t).map Prod.snd).sum = t.sum
  rw [if_pos (.inl rfl)]; exact cntF_sum t 1 (by omega)
theorem sum_bd {l : List (Int × Int)} {K : Int} (h : ∀ p ∈ l, 0 ≤ p.2 ∧ p.2 ≤ K) : 0 ≤ (l.map Prod.snd).sum ∧ (l.map Prod.snd).sum ≤ l.length * K := by
 induction l with
 | nil => simp
 | cons p t ih =>
  have h1 := h p List.mem_cons_self
  have h2 := ih fun q hq => h q (List.mem_cons_of_mem _ hq)
  simp only [List.map_cons, List.sum_cons, List.length_cons]
  have : ((t.length + 1 : Nat) : Int) * K = (t.length : Int) * K + K := by
   rw [Int.natCast_add, Int.add_mul]; simp
  omega
theorem pending_ct (L : List SP) (sb : Nat) (hd : List Bool) (ct : List Int) (hl : hd.length = 32) (hcl : ct.length = 32) (hb : ∀ c ∈ ct, 0 ≤ c ∧ c ≤ 2000000000) : Ct Tryz.prog 198 #[.pointer (some ⟨sb, 0, none⟩)] (SigP sb hd ct :: L) (fun _ : Unit => .int .i64 (ct.drop 1).sum) (fun _ : Unit => SigP sb hd ct :: L) := by
 refine Ct.o1M Tryz.func198 ?_; intro E
 show Hd E 13 _ _ _ _
 have hmb : ∀ p ∈ cntF 0 ct, 0 ≤ p.2 ∧ p.2 ≤ 2000000000 := fun p hp => by
  obtain ⟨j, hj, _, _⟩ := cntF_mem ct 0 p hp
  exact hb _ (List.mem_of_getElem? hj)
 have hcle := cntF_le ct 0
 refine sr fun _ K1 => ?_
 refine yv y_as <| fk [(0,_)] K1 ?_; refine sr fun _ K2 => ?_
 refine Hd.alloc zr3 (fun b3 => ?_); refine Hd.store1 sz3 rfl rfl rfl pkk (by decide) ?_
 try simp only [hyS]
 refine fk [(0,_),(3,_)] K2 ?_; refine Hd.seq fun _ K3 => ?_
 refine sr fun _ K4 => ?_
 refine yv y_mv <| callE rfl fk200 (counts_ct _ sb) sq ?_; intro bx; refine fk [(3,_),(6,_)] K4 ?_; refine Hd.block <| Hd.rangeF (enc := encCA) (S := fun ys => ys = cntF 0 ct) (Sp := fun ys => ys <+: cntF 0 ct)
  (fun pre => pt b3 [.int .i64 (pre.map Prod.snd).sum] 3 :: L) (fun _ _ => [pu False])
  rfl kq (fun _ => rfl) rfl (counts_it bx sb hd ct hl hcl) (by refine Ent.sep ?_; refine Ent.eq pkk (pt_eq (by rfl)) ?_; exact Ent.swap (L := [_, _])) ?_ ?_ ?_
 ·intro E l' R pre c N hR hG
  have hpl := hG.length_le
  have hs1 := sum_bd (l := pre) (K := 2000000000) fun p hp => hmb p (hG.subset (List.mem_append_left _ hp))
  have hc1 := hmb c (hG.subset (by simp))
  rw [List.length_append] at hpl
  have hpl2 : pre.length ≤ 32 := by simp at hpl; omega
  unfold Rnd; simp only [List.cons_append, List.nil_append, pz, encCA]; refine Hd.region <| Hd.alloc zr241 (fun b4 => ?_); refine Hd.storeA (us := encCn c) sz241 rfl rfl rfl (by simp [Value.oneCell']) pkk (by exact rfl) ?_; refine Hd.nil <| slots [(3,_),(4,_)] sbq ?_; refine thenN <| Hd.begin hR pkk ?_; refine Hd.block <| Hd.region <| yv (y_l1 ag3 rfl) <| yv (y_f 1 3 Tryz.underlying241 sz3) <| yv (y_l1 ag3 rfl) <| yv (y_addn rfl rfl (by simp only [InK]; omega)) ?_; refine Hd.store1 sz3 rfl rfl rfl pkk (by simp; done) ?_
  try simp only [hyS]
  refine Hd.nil <| slots [(3,_)] sbq ?_; refine Hd.inB <| Hd.reN ?_; simp only [List.cons_append, List.nil_append]; exact Ent.sep (.pick pkk (.eq pkk (pt_eq (by simp)) enn))
 ·intro r0 ys hys
  obtain rfl : ys = cntF 0 ct := hys
  try simp only [List.cons_append, List.nil_append]
  refine Hd.inB <| Hd.toK K3 ?_; refine sr fun _ K5 => ?_
  refine yv (y_l1 ag3 rfl) <| yv y_as <| fk [(2,_)] K5 ?_; refine Hd.ret ?_; rw [← cntF_sum0]; exact Hd.retM (fun a fr => Lv.mark pkk (Lv.end1 fr rfl () rfl sq))
 rintro r0_0 (_ | id0) pre0 hG0
 ·exact Hd.absurd (by exact id)
 exact Hd.absurd (by exact id)
end Wo
end Go.Proofs.YtbfddabjbkohdaaGreat
