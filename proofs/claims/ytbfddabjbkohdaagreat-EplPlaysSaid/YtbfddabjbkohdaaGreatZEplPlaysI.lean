/-
  The document's world: New, Make. The document's world: Accept. Worlds: Connect. The document's world: Connect. Arguments that are bytes. No program is named here. The world and the document's, side by side: what comes in; Fresh; more.
-/
import Derived.Test.YtbfddabjbkohdaaGreatZEplPlaysH
set_option linter.unusedSimpArgs false
set_option linter.unusedVariables false
set_option linter.unnecessarySimpa false
namespace Go.Proofs.YtbfddabjbkohdaaGreat
set_option maxHeartbeats 2000000
open Go.RX.Hd (yv y2 n1 fk sk sr tH callE heldK onlyH endH thenN slots)
open Go.RX Fx
namespace Rf
open Wo
set_option maxRecDepth 8000
theorem bd_rw : Tryz.prog.built 133 [(4, .int .i64 (-1))] = some (RwC newA 0 none 0).toArray := by kernel_rfl
theorem rNew_ct (L : List SP) : Ct Tryz.prog 53 #[] (L) (fun b : Nat => .pointer (some ⟨b, 0, none⟩)) (fun b : Nat => RwP b newA :: L) := by
 refine Ct.o0 Tryz.func53 ?_; intro E
 show Hd E 3 _ _ _ _
 refine sr fun _ hK1 => ?_
 refine yv y_as <| fk [] hK1 ?_; refine sr fun _ hK2 => ?_
 refine yv (y_build (vs := [(4, _)]) rfl bd_rw) ?_; refine Hd.box (us := RwC newA 0 none 0) rfl rfl (fun b2 => ?_); refine yv y_as <| fk [(0, _)] hK2 ?_; refine Hd.ret <| Hd.heap (RwP b2 newA :: L) (fun k s => rw_fold (i := ([], none, 0)) rfl k (show sep (pt b2 (RwC newA 0 none 0) 133 :: own 221 20 none 0 0 [] :: Bag Sd [] :: L) k from Ent.sep (.pick pkk (.ownNil enn)) k (bag_nil (f := Sd) s))) ?_; exact Hd.ret1 rfl b2 rfl sq
def rdK (k : Int) (i : Nat) : Bool := decide (k < 3) && (decide (0 < k) || decide ((i : Int) = 0))
def wrK (k : Int) (i : Nat) : Bool := decide (k < 3) && (decide (0 < k) || decide ((i : Int) = 1))
def mkX (k : Int) (n a b : Nat) : WireA := ⟨fun i => ⟨0, 0, if i < a then rdK k i else false, if i < b then wrK k i else false, [], false, 0, 0⟩, n, false, 0, []⟩
abbrev jz : RwI := ⟨fun _ => none, fun _ => 0, none, 0⟩
theorem bd_rx (n : Nat) : Tryz.prog.built 221 [(1, .int .i64 (n : Int))] = some (encRW (mkX 0 n 0 0, jz)).toArray := by kernel_rfl
theorem mkX_r (k : Int) (n j : Nat) (hj : j < 2) : (encRW (mkX k n j j, jz)).set (0 + 0 + j * 8 + 2) (.bool (decide (k < 3) && (decide (0 < k) || decide ((j : Int) = 0)))) = encRW (mkX k n (j + 1) j, jz) := by
 rcases (show j = 0 ∨ j = 1 by omega) with rfl | rfl <;> rfl
theorem mkX_w (k : Int) (n j : Nat) (hj : j < 2) : (encRW (mkX k n (j + 1) j, jz)).set (0 + 0 + j * 8 + 3) (.bool (decide (k < 3) && (decide (0 < k) || decide ((j : Int) = 1)))) = encRW (mkX k n (j + 1) (j + 1), jz) := by
 rcases (show j = 0 ∨ j = 1 by omega) with rfl | rfl <;> rfl
theorem mkX_k (k : Int) (hk : 0 ≤ k ∧ k ≤ 3) (n : Nat) (h2 : k ≠ 2) (h3 : k ≠ 3) : encRW (mkX k n 2 2, jz) = encRW (mkKW k n, jz) := by
 rcases (show k = 0 ∨ k = 1 by omega) with rfl | rfl <;> rfl
def mk4 (k : Int) (n : Nat) : WireA := if k = 2 then connW n else mkX k n 2 2
theorem mk4_k (k : Int) (hk : 0 ≤ k ∧ k ≤ 3) (n : Nat) (h3 : k ≠ 3) : encRW (mk4 k n, jz) = encRW (mkKW k n, jz) := by
 unfold mk4
 by_cases h : k = 2
 ·subst h; rfl
 ·rw [if_neg h]; exact mkX_k k hk n h h3
theorem rw_open (x : WireA) (fs : List Nat) {j : Nat} (hj : j < 2) : ((encRW (openW x fs j, jz)).set (0 + 0 + j * 8 + 0) (.int .i64 1)).set (0 + 0 + j * 8 + 1) (.int .i64 ((fs.getD j 0 : Nat) : Int)) = encRW (openW x fs (j + 1), jz) := by
 rcases (show j = 0 ∨ j = 1 by omega) with rfl | rfl <;> rfl
def badK (k n : Int) : Prop := n < 1 ∨ 65536 < n ∨ (k = 3 ∧ 64 < n)
instance (k n : Int) : Decidable (badK k n) := by unfold badK; exact inferInstance
def mkErr (w : WA) (k n : Int) : Int := if badK k n then 2 else mkE w (mkKE k)
def mkLst (w : WA) (k n : Int) : List Nat := if badK k n then [] else mkF w (mkKE k)
theorem mk_bad {w : WA} {k n : Int} (h : badK k n) : mkErr w k n = 2 ∧ mkLst w k n = [] ∧ makeR w k n = w := ⟨if_pos h, if_pos h, if_pos h⟩
theorem mk_no {w : WA} {k n : Int} (h : ¬ badK k n) (ho : mkOk w (mkKE k) = false) : mkErr w k n = 112 ∧ mkLst w k n = [] ∧ makeR w k n = w := by
 refine ⟨(if_neg h).trans ?_, (if_neg h).trans ?_, (if_neg h).trans ?_⟩
 ·unfold mkE; rw [ho]; rfl
 ·unfold mkF; rw [ho]; rfl
 ·unfold mkW; rw [ho]; rfl
theorem mk_yes {w : WA} {k n : Int} (h : ¬ badK k n) (ho : mkOk w (mkKE k) = true) : mkErr w k n = 0 ∧ mkLst w k n = (frees w.at).take (mkKE k) ∧ makeR w k n = w.addW (openW (mkKW k n) ((frees w.at).take (mkKE k)) (mkKE k)) := by
 refine ⟨(if_neg h).trans ?_, (if_neg h).trans ?_, (if_neg h).trans ?_⟩
 ·unfold mkE; rw [ho]; rfl
 ·unfold mkF; rw [ho]; rfl
 ·unfold mkW; rw [ho]; rfl
theorem rw_add {b : Nat} {w : WA} {i : Rows_} (hi : i.1.map Prod.fst = w.ws) {Y : WireA} {ad : Option Addr} {c : Nat} {L : List SP} (hb : (Y.e 0).b = [] ∧ (Y.e 1).b = [] ∧ Y.wt = []) : ∀ h, sep (pt b ((RwC w i.1.length i.2.1 i.2.2).set (0 + 0) (.slice ad (i.1.length + 1) c)) 133 :: own 221 20 ad (i.1.length + 1) c (i.1.flatMap encRW ++ encRW (Y, jz)) :: Bag Sd i.1 :: L) h → sep (RwP b (w.addW Y) :: L) h := fun h s => by
 have e : SdL (Y, jz) 0 (Bag Sd i.1 :: pt b ((RwC w i.1.length i.2.1 i.2.2).set (0 + 0) (.slice ad (i.1.length + 1) c)) 133 :: own 221 20 ad (i.1.length + 1) c (i.1.flatMap encRW ++ encRW (Y, jz)) :: L) = own 5 1 none 0 0 [] :: own 5 1 none 0 0 [] :: own 3 1 none 0 0 [] :: Bag Sd i.1 :: pt b ((RwC w i.1.length i.2.1 i.2.2).set (0 + 0) (.slice ad (i.1.length + 1) c)) 133 :: own 221 20 ad (i.1.length + 1) c (i.1.flatMap encRW ++ encRW (Y, jz)) :: L := by
  unfold SdL SdB SdW; rw [show 1 - 0 = 1 from rfl, hb.1, hb.2.1, hb.2.2]; rfl
 have s1 : sep (SdL (Y, jz) 0 (Bag Sd i.1 :: pt b ((RwC w i.1.length i.2.1 i.2.2).set (0 + 0) (.slice ad (i.1.length + 1) c)) 133 :: own 221 20 ad (i.1.length + 1) c (i.1.flatMap encRW ++ encRW (Y, jz)) :: L)) h := by
  rw [e]; exact Ent.sep (.ownNil (.ownNil (.ownNil enn))) h s
 have s2 := bag_add (f := Sd) (sd_fold (by decide) h s1)
 refine rw_fold (i := (i.1 ++ [(Y, jz)], ad, c)) (by rw [List.map_append, hi]; rfl) h ?_
 show sep (pt b (RwC (w.addW Y) (i.1 ++ [(Y, jz)]).length ad c) 133 :: own 221 20 ad (i.1 ++ [(Y, jz)]).length c ((i.1 ++ [(Y, jz)]).flatMap encRW) :: Bag Sd (i.1 ++ [(Y, jz)]) :: L) h
 rw [show (i.1 ++ [(Y, jz)]).length = i.1.length + 1 by rw [List.length_append]; rfl, List.flatMap_append, show [(Y, jz)].flatMap encRW = encRW (Y, jz) from by rw [List.flatMap_cons, List.flatMap_nil, List.append_nil]]; exact Ent.sep (.eq pkk (pt_eq (by rfl)) enn) h s2
theorem mkKW_b (k n : Int) : ((mkKW k n).e 0).b = [] ∧ ((mkKW k n).e 1).b = [] ∧ (mkKW k n).wt = [] := by
 unfold mkKW
 split
 ·exact ⟨rfl, rfl, rfl⟩
 ·split
  ·exact ⟨rfl, rfl, rfl⟩
  ·split <;> exact ⟨rfl, rfl, rfl⟩
theorem rMake_ct (L : List SP) (b : Nat) (w : WA) (hw : WOk w) (k n : Int) (hk : 0 ≤ k ∧ k ≤ 3) : Ct Tryz.prog 57 #[.pointer (some ⟨b, 0, none⟩), .int .i64 k, .int .i64 n] (RwP b w :: L) (fun q_ : Option Addr × Nat => .tuple #[.slice q_.1 (mkLst w k n).length q_.2, .int .i64 (mkErr w k n)]) (fun q_ : Option Addr × Nat => own 3 1 q_.1 (mkLst w k n).length q_.2 (nats (mkLst w k n)) :: RwP b (makeR w k n) :: L) := by
 refine Ct.o3 Tryz.func57 ?_; intro E
 show Hd E 116 _ _ _ _
 refine sr fun _ hK1 => ?_
 refine yv y_as <| yv y_as <| fk [(0, _), (1, _), (2, _)] hK1 ?_; refine Hd.seq fun _ hK2 => ?_
 refine sr fun _ hK3 => ?_
 refine yv y_mv <| yv (y_lss rfl rfl) ?_; refine yv y_mv ?_; apply Hd.org 3 15 18 [(0, _), (1, _), (2, _)] rfl sbq
 ·intro _
  simp only [List.take]; refine n1 <| n1 <| yv (y_pickT rfl rfl) ?_; refine Hd.nil ?_; exact Hd.mq
 ·intro _
  simp only [List.take]; refine y2 y_mv <| y2 (y_gtr rfl rfl) ?_; refine yv (y_pickF rfl rfl) ?_; refine Hd.nil ?_; exact Hd.mq
 simp only [List.drop]; refine yv y_mv ?_; apply Hd.org 7 19 26 [(0, _), (1, _), (2, _)] rfl sbq
 ·intro _
  simp only [List.take]; refine n1 <| n1 <| n1 <| n1 <| n1 <| n1 <| yv (y_pickT rfl rfl) ?_; refine Hd.nil ?_; exact Hd.mq
 ·intro hg1_19
  try simp only [hyZ] at hg1_19
  simp only [List.take]; refine y2 y_mv <| y2 (y_eql rfl rfl) ?_; refine y2 y_mv ?_; apply Hd.andg 3 22 25 [(0, _), (1, _), (2, _), (19, _)] rfl sbq
  ·intro _
   simp only [List.take]; refine y2 y_mv <| y2 (y_gtr rfl rfl) ?_; refine y2 (y_pickT rfl rfl) ?_; refine Hd.nil ?_; exact Hd.mq
  ·intro _
   simp only [List.take]; refine n1 <| n1 <| y2 (y_pickF rfl rfl) ?_; refine Hd.nil ?_; exact Hd.mq
  simp only [List.drop]; refine yv (y_pickF rfl rfl) ?_; refine Hd.nil ?_; exact Hd.mq
 simp only [List.drop]; refine fk [(0, _), (1, _), (2, _), (26, _)] hK3 ?_; refine Hd.cond rfl (fun hc0 => ?_) (fun hc0 => ?_)
 ·try simp only [hyZ] at hc0
  refine sr fun _ hK4 => ?_
  refine yv y_as <| yv y_as <| fk [(6, _), (7, _)] hK4 ?_; refine Hd.ret <| Hd.thenRet ?_
  obtain ⟨e1, e2, e3⟩ := mk_bad (w := w) (k := k) (n := n) (by unfold badK; omega)
  rw [e1, e2, e3]; exact Hd.ret2 rfl (none, 0) rfl rfl rfl (Ent.sep (.ownNil enn))
 ·try simp only [hyZ] at hc0
  have hb : ¬ badK k n := by unfold badK; omega
  obtain ⟨m, rfl⟩ : ∃ m : Nat, n = (m : Int) := ⟨n.toNat, by unfold badK at hb; omega⟩
  refine Hd.skip <| Hd.toK hK2 ?_; refine sr fun _ hK5 => ?_
  refine yv y_as <| fk [(0, _), (1, _), (2, _), (8, _)] hK5 ?_; refine Hd.cutK (ι := Unit) [(0, _), (1, _), (2, _)] (fun _ => [(8, .int .i64 (mkKE k : Nat))]) (fun _ => RwP b w :: L) ?_ ?_ ⟨rfl, rfl, rfl, trivial⟩
  ·refine sr fun _ hK6 => ?_
   refine yv y_mv <| yv (y_gtr rfl rfl) ?_; refine fk [(0, _), (1, _), (2, _), (8, _), (28, _)] hK6 ?_; refine Hd.cond rfl (fun hc1 => ?_) (fun hc1 => ?_)
   ·try simp only [hyZ] at hc1
    refine Hd.region <| yv y_as <| Hd.nil <| slots [(0, _), (1, _), (2, _), (8, _)] sbq ?_; refine thenN ?_; exact Hd.meet () ⟨congrArg some (congrArg (Value.int .i64) (by unfold mkKE; split <;> omega)), by repeat (first | exact trivial | refine ⟨rfl, ?_⟩)⟩ sq
   ·try simp only [hyZ] at hc1
    refine Hd.skip <| thenN ?_; exact Hd.meet () ⟨congrArg some (congrArg (Value.int .i64) (by unfold mkKE; split <;> omega)), by repeat (first | exact trivial | refine ⟨rfl, ?_⟩)⟩ sq
  ·intro _
   refine sr fun _ hK7 => ?_
   refine yv y_mv <| callE rfl fk114 (rfree_ct _ b w hw) sq ?_; rintro ⟨ad, c⟩; dsimp only
   have hlen := hw.len
   refine Hd.rw (.there .here) (fun i hi => ?_)
   have hrl := rows_n hi
   refine yv y_as <| fk [(0, _), (1, _), (2, _), (8, _), (9, _)] hK7 ?_; refine Hd.seq fun _ hK8 => ?_
   refine sr fun _ hK9 => ?_
   refine yv y_mv <| yv (y_len Tryz.underlying44 rfl) ?_; refine yv y_mv <| yv (y_lss rfl rfl) ?_; refine yv y_mv ?_; apply Hd.org 7 35 42 [(0, _), (1, _), (2, _), (8, _), (9, _)] rfl sbq
   ·intro _
    simp only [List.take]; refine n1 <| n1 <| n1 <| n1 <| n1 <| n1 <| yv (y_pickT rfl rfl) ?_; refine Hd.nil ?_; exact Hd.mq
   ·intro _
    simp only [List.take]; refine y2 y_mv <| y2 y_np <| y2 (y_f 0 129 Tryz.underlying133 sz129) ?_; refine y2 (y_l1 ag129 rfl) ?_; refine y2 (y_len Tryz.underlying129 rfl) ?_; refine y2 (y_geq rfl rfl) ?_; refine yv (y_pickF rfl rfl) ?_; refine Hd.nil ?_; exact Hd.mq
   simp only [List.drop]; refine fk [(0, _), (1, _), (2, _), (8, _), (9, _), (42, _)] hK9 ?_; refine Hd.cond rfl (fun hc2 => ?_) (fun hc2 => ?_)
   ·try simp only [hyZ] at hc2
    refine sr fun _ hK10 => ?_
    refine yv y_as <| yv y_as <| fk [(6, _), (7, _)] hK10 ?_; refine Hd.ret <| Hd.thenRet ?_
    have ho : mkOk w (mkKE k) = false := by
     unfold mkOk; rw [List.length_take, Bool.and_eq_false_iff, decide_eq_false_iff_not, decide_eq_false_iff_not]; omega
    obtain ⟨e1, e2, e3⟩ := mk_no hb ho
    rw [e1, e2, e3]; exact Hd.ret2 rfl (none, 0) rfl rfl rfl (Ent.sep (.ownNil (.ex i (.pure hi enn))))
   ·try simp only [hyZ] at hc2
    have ho : mkOk w (mkKE k) = true := by
     unfold mkOk; rw [List.length_take, Bool.and_eq_true, decide_eq_true_eq, decide_eq_true_eq]; omega
    obtain ⟨e1, e2, e3⟩ := mk_yes hb ho
    have hE := mkKE_le k
    have hfl : ((frees w.at).take (mkKE k)).length = mkKE k := by unfold mkOk at ho; simp at ho; rw [List.length_take]; omega
    refine Hd.skip <| Hd.toK hK8 ?_; refine sr fun _ hK11 => ?_
    refine yv y_mv <| yv (y_build (vs := [(1, _)]) rfl (bd_rx m)) ?_; refine Hd.alloc zr221 (fun b10 => ?_); refine Hd.storeA (us := encRW (mkX 0 m 0 0, jz)) sz221 rfl rfl rfl (encRW_one _) pkk (by exact rfl) ?_; refine fk [(0, _), (1, _), (2, _), (8, _), (9, _), (10, _)] hK11 ?_; refine Hd.seq fun _ hK12 => ?_
    refine sr fun _ hK13 => ?_
    refine Hd.heap (pt b10 (encRW (mkX k m 0 0, jz)) 221 :: own 3 1 ad (frees w.at).length c (nats (frees w.at)) :: RwL b w i L) (Ent.sep (.eq pkk (pt_eq (by rfl)) enn)) ?_; refine yv y_as <| fk [(0, _), (1, _), (2, _), (8, _), (9, _), (10, _), (11, _)] hK13 ?_; refine Hd.block <| Hd.loopK (ι := Nat) [(0, _), (1, _), (2, _), (8, _), (9, _), (10, _)] (fun j => [(11, .int .i64 (j : Int))]) (fun j => pu (j ≤ 2) :: pt b10 (encRW (mkX k m j j, jz)) 221 :: own 3 1 ad (frees w.at).length c (nats (frees w.at)) :: RwL b w i L) (fun j => 2 - j) 0 sbq sbq (Ent.sep (.pure (by omega) enn)) ?_; intro j
    try dsimp only
    refine Hd.pure (fun hp0 => ?_)
    try dsimp only at hp0
    refine Hd.seq fun _ hK14 => ?_
    refine sr fun _ hK15 => ?_
    refine yv y_mv <| yv (y_lss rfl rfl) ?_; refine fk [(0, _), (1, _), (2, _), (8, _), (9, _), (10, _), (11, _), (46, _)] hK15 ?_; refine Hd.cond rfl (fun hc3 => ?_) (fun hc3 => ?_)
    ·try simp only [hyZ] at hc3
     have hj : j < 2 := by omega
     refine Hd.skip <| Hd.toK hK14 ?_; refine Hd.seq fun _ hK16 => ?_
     refine Hd.block <| sr fun _ hK17 => ?_
     refine yv y_mv <| yv y_mv <| yv (y_lss rfl rfl) ?_; refine yv y_mv ?_; apply Hd.andg 7 52 59 [(0, _), (1, _), (2, _), (8, _), (9, _), (10, _), (11, _), (49, _)] rfl sbq
     ·intro hg13_52
      try simp only [hyZ] at hg13_52
      simp only [List.take]; refine y2 y_mv <| y2 (y_gtr rfl rfl) ?_; refine y2 y_mv ?_; apply Hd.org 3 55 58 [(0, _), (1, _), (2, _), (8, _), (9, _), (10, _), (11, _), (49, _), (52, _)] rfl sbq
      ·intro _
       simp only [List.take]; refine n1 <| n1 <| y2 (y_pickT rfl rfl) ?_; refine Hd.nil ?_; exact Hd.mq
      ·intro _
       simp only [List.take]; refine y2 y_mv <| y2 (y_eql rfl rfl) ?_; refine y2 (y_pickF rfl rfl) ?_; refine Hd.nil ?_; exact Hd.mq
      simp only [List.drop]; refine yv (y_pickT rfl rfl) ?_; refine Hd.nil ?_; exact Hd.mq
     ·intro _
      simp only [List.take]; refine n1 <| n1 <| n1 <| n1 <| n1 <| n1 <| yv (y_pickF rfl rfl) ?_; refine Hd.nil ?_; exact Hd.mq
     simp only [List.drop]; refine yv (y_f 0 219 Tryz.underlying221 sz219) ?_; refine yv (y_idxA Tryz.underlying219 sz218 rfl rfl (by omega)) ?_; refine yv (y_f 2 4 Tryz.underlying218 sz4) ?_; refine Hd.store1 sz4 rfl rfl rfl pkk (by simp; omega) ?_
     try simp only [hyS]
     refine Hd.nil ?_; rw [mkX_r k m j hj]; refine sk [(0, _), (1, _), (2, _), (8, _), (9, _), (10, _), (11, _)] hK17 ?_; refine Hd.region <| yv y_mv <| yv y_mv <| yv (y_lss rfl rfl) ?_; refine yv y_mv ?_; apply Hd.andg 7 66 73 [(0, _), (1, _), (2, _), (8, _), (9, _), (10, _), (11, _), (63, _)] rfl sbq
     ·intro hg14_66
      try simp only [hyZ] at hg14_66
      simp only [List.take]; refine y2 y_mv <| y2 (y_gtr rfl rfl) ?_; refine y2 y_mv ?_; apply Hd.org 3 69 72 [(0, _), (1, _), (2, _), (8, _), (9, _), (10, _), (11, _), (63, _), (66, _)] rfl sbq
      ·intro _
       simp only [List.take]; refine n1 <| n1 <| y2 (y_pickT rfl rfl) ?_; refine Hd.nil ?_; exact Hd.mq
      ·intro _
       simp only [List.take]; refine y2 y_mv <| y2 (y_eql rfl rfl) ?_; refine y2 (y_pickF rfl rfl) ?_; refine Hd.nil ?_; exact Hd.mq
      simp only [List.drop]; refine yv (y_pickT rfl rfl) ?_; refine Hd.nil ?_; exact Hd.mq
     ·intro _
      simp only [List.take]; refine n1 <| n1 <| n1 <| n1 <| n1 <| n1 <| yv (y_pickF rfl rfl) ?_; refine Hd.nil ?_; exact Hd.mq
     simp only [List.drop]; refine yv (y_f 0 219 Tryz.underlying221 sz219) ?_; refine yv (y_idxA Tryz.underlying219 sz218 rfl rfl (by omega)) ?_; refine yv (y_f 3 4 Tryz.underlying218 sz4) ?_; refine Hd.store1 sz4 rfl rfl rfl pkk (by simp; omega) ?_
     try simp only [hyS]
     refine Hd.nil ?_; rw [mkX_w k m j hj]; refine slots [(0, _), (1, _), (2, _), (8, _), (9, _), (10, _), (11, _)] sbq ?_; refine Hd.inB <| Hd.toK hK16 ?_; refine Hd.region <| yv y_mv <| yv (y_addn rfl rfl (by simp only [InK]; omega)) ?_; refine yv y_as <| Hd.nil <| slots [(0, _), (1, _), (2, _), (8, _), (9, _), (10, _), (11, _)] sbq ?_; refine thenN ?_; exact Hd.again (j + 1) (by omega) sbq (Ent.sep (.pure (by omega) enn))
    ·try simp only [hyZ] at hc3
     obtain rfl : j = 2 := by omega
     refine Hd.exit <| Hd.thenExit <| Hd.thenExit <| Hd.inBexit <| Hd.toK hK12 ?_; refine Hd.cutK (ι := Unit) [(0, _), (1, _), (2, _), (8, _), (9, _), (10, _)] (fun _ => []) (fun _ => pt b10 (encRW (mk4 k m, jz)) 221 :: own 3 1 ad (frees w.at).length c (nats (frees w.at)) :: RwL b w i L) ?_ ?_ ⟨rfl, rfl, rfl, rfl, rfl, rfl, trivial⟩
     ·refine sr fun _ hK18 => ?_
      refine yv y_mv <| yv (y_eql rfl rfl) ?_; refine fk [(0, _), (1, _), (2, _), (8, _), (9, _), (10, _), (78, _)] hK18 ?_; refine Hd.cond rfl (fun hc4 => ?_) (fun hc4 => ?_)
      ·try simp only [hyZ] at hc4
       refine Hd.region <| yv (y_f 0 219 Tryz.underlying221 sz219) ?_; refine yv (y_idxA Tryz.underlying219 sz218 rfl rfl (by decide)) ?_; refine yv (y_f 0 3 Tryz.underlying218 sz3) ?_; refine Hd.store1 sz3 rfl rfl rfl pkk (by simp; done) ?_
       try simp only [hyS]
       refine Hd.nil <| slots [(0, _), (1, _), (2, _), (8, _), (9, _), (10, _)] sbq ?_; refine thenN ?_; exact Hd.meet () sbq (Ent.sep (.eq pkk (pt_eq (by obtain rfl : k = 2 := hc4; rfl)) enn))
      ·try simp only [hyZ] at hc4
       refine Hd.skip <| thenN ?_; exact Hd.meet () sbq (Ent.sep (.eq pkk (pt_eq (by unfold mk4; rw [if_neg hc4])) enn))
     ·intro _
      refine Hd.cutK (ι := Unit) [(0, _), (8, _), (9, _), (10, _)] (fun _ => []) (fun _ => pt b10 (encRW (openW (mkKW k m) ((frees w.at).take (mkKE k)) 0, jz)) 221 :: own 3 1 ad (frees w.at).length c (nats (frees w.at)) :: RwL b w i L) ?_ ?_ ⟨rfl, rfl, rfl, rfl, trivial⟩
      ·refine sr fun _ hK19 => ?_
       refine yv y_mv <| yv (y_eql rfl rfl) ?_; refine fk [(0, _), (2, _), (8, _), (9, _), (10, _), (83, _)] hK19 ?_; refine Hd.cond rfl (fun hc5 => ?_) (fun hc5 => ?_)
       ·try simp only [hyZ] at hc5
        refine Hd.region <| yv y_mv <| yv (y_f 18 3 Tryz.underlying221 sz3) ?_; refine Hd.store1 sz3 rfl rfl rfl pkk (by simp; done) ?_
        try simp only [hyS]
        refine Hd.nil <| slots [(0, _), (8, _), (9, _), (10, _)] sbq ?_; refine thenN ?_; exact Hd.meet () sbq (Ent.sep (.eq pkk (pt_eq (by obtain rfl : k = 3 := hc5; rfl)) enn))
       ·try simp only [hyZ] at hc5
        refine Hd.skip <| thenN ?_; exact Hd.meet () sbq (Ent.sep (.eq pkk (pt_eq (by rw [mk4_k k hk m hc5]; rfl)) enn))
      ·intro _
       obtain ⟨X, hX⟩ : ∃ X, mkKW k m = X := ⟨_, rfl⟩
       obtain ⟨N, hN⟩ : ∃ N, mkKE k = N := ⟨_, rfl⟩
       rw [hX, hN]; rw [hX, hN] at e3; rw [hN] at e2 hE hfl
       obtain ⟨fs, hfs⟩ : ∃ fs, (frees w.at).take N = fs := ⟨_, rfl⟩
       rw [hfs] at e2 e3 hfl ⊢
       have hfrl : N ≤ (frees w.at).length := by rw [← hfs, List.length_take] at hfl; omega
       have hg : ∀ {j : Nat}, j < N → (nats (frees w.at))[j * 1]? = some (.int .i64 ((fs.getD j 0 : Nat) : Int)) := fun {j} hj => by
        rw [nats_at (by omega), ← hfs, List.getD_eq_getElem?_getD, List.getD_eq_getElem?_getD, List.getElem?_take_of_lt hj]
       refine Hd.seq fun _ hK20 => ?_
       refine sr fun _ hK21 => ?_
       refine yv y_as <| fk [(0, _), (8, _), (9, _), (10, _), (12, _)] hK21 ?_; refine Hd.block <| Hd.loopK (ι := Nat) [(0, _), (8, _), (9, _), (10, _)] (fun j => [(12, .int .i64 (j : Int))]) (fun j => pu (j ≤ N) :: pt b10 (encRW (openW X fs j, jz)) 221 :: own 3 1 ad (frees w.at).length c (nats (frees w.at)) :: RwL b w i L) (fun j => N - j) 0 sbq sbq (Ent.sep (.pure (by omega) enn)) ?_; intro j
       try dsimp only
       refine Hd.pure (fun hp1 => ?_)
       try dsimp only at hp1
       refine Hd.seq fun _ hK22 => ?_
       refine sr fun _ hK23 => ?_
       refine yv y_mv <| yv y_mv <| yv (y_lss rfl rfl) ?_; refine fk [(0, _), (8, _), (9, _), (10, _), (12, _), (88, _)] hK23 ?_; refine Hd.cond rfl (fun hc6 => ?_) (fun hc6 => ?_)
       ·try simp only [hyZ] at hc6
        have hj : j < N := by omega
        have hj2 : j < 2 := by omega
        refine Hd.skip <| Hd.toK hK22 ?_; refine Hd.seq fun _ hK24 => ?_
        refine Hd.block <| sr fun _ hK25 => ?_
        refine yv y_mv <| yv (y_f 0 219 Tryz.underlying221 sz219) ?_; refine yv (y_idxA Tryz.underlying219 sz218 rfl rfl (by omega)) ?_; refine yv (y_f 0 3 Tryz.underlying218 sz3) ?_; refine Hd.store1 sz3 rfl rfl rfl pkk (by simp; omega) ?_
        try simp only [hyS]
        refine fk [(0, _), (8, _), (9, _), (10, _), (12, _)] hK25 ?_; refine Hd.region <| yv y_mv <| yv y_mv <| yv y_mv <| yv (y_idxR Tryz.underlying44 sz3 rfl rfl (by omega) (by exact RdS.own pkk)) ?_; refine yv (y_loadR1 ag3 rfl (by exact RdS.own pkk) (by exact hg hj)) ?_; refine yv (y_f 0 219 Tryz.underlying221 sz219) ?_; refine yv (y_idxA Tryz.underlying219 sz218 rfl rfl (by omega)) ?_; refine yv (y_f 1 3 Tryz.underlying218 sz3) ?_; refine Hd.store1 sz3 rfl rfl rfl pkk (by simp; omega) ?_
        try simp only [hyS]
        refine Hd.nil ?_; rw [rw_open X fs hj2]; refine slots [(0, _), (8, _), (9, _), (10, _), (12, _)] sbq ?_; refine Hd.inB <| Hd.toK hK24 ?_; refine Hd.region <| yv y_mv <| yv (y_addn rfl rfl (by simp only [InK]; omega)) ?_; refine yv y_as <| Hd.nil <| slots [(0, _), (8, _), (9, _), (10, _), (12, _)] sbq ?_; refine thenN ?_; exact Hd.again (j + 1) (by omega) sbq (Ent.sep (.pure (by omega) enn))
       ·try simp only [hyZ] at hc6
        obtain rfl : N = j := by omega
        refine Hd.exit <| Hd.thenExit <| Hd.thenExit <| Hd.inBexit <| Hd.toK hK20 ?_; refine Hd.seq fun _ hK26 => ?_
        refine Hd.drawsH ([RwH b w i.1.length i.2.1 i.2.2, pt b10 (encRW (openW X fs N, jz)) 221]) (fun j => !([10].contains j)) mixed ?_; simp only [List.length, Nat.zero_add, Nat.reduceAdd]; refine tH 0 rfl y_mv ?_; refine tH 1 rfl y_mv ?_; refine tH 2 rfl y_np ?_; refine tH 3 rfl (y_f 0 129 Tryz.underlying133 sz129) ?_; refine tH 4 rfl (y_l1 ag129 rfl) ?_; refine tH 5 rfl (y_loadn ag221 rfl (Rd.pt pkk (by exact fun j v e => by rw [Nat.zero_add]; exact e)) (by exact sz221)) ?_; refine onlyH 6 rfl kq ?_; refine Hd.bslice (vs := [(0, _)]) rfl (by exact bs57_109 ..) (fun b109 => ?_); refine Hd.nil <| thenN <| heldK (J := (fun j => !([10].contains j))) (i := 6) sq ?_; refine onlyH 7 rfl kq ?_; refine Hd.append Tryz.underlying129 ty221 rfl rfl rfl pkk (by exact RdS.rd (Rd.pt pkk (fun j v e => by simpa using e)) rfl) (by simp [Value.oneCell']; done) (by simp only [maxLen]; omega) (by omega) (fun ad110 cap110 => ?_)
        refine Hd.nil <| thenN <| heldK (J := (fun j => !([10].contains j))) (i := 7) sq ?_; refine onlyH 8 rfl kq ?_; refine yv y_np <| Hd.nil <| thenN <| heldK (J := (fun j => !([10].contains j))) (i := 8) sq ?_; refine tH 9 rfl (y_f 0 129 Tryz.underlying133 sz129) ?_; refine onlyH 10 rfl kq ?_; refine Hd.store1 sz129 rfl rfl rfl pkk (by simp; done) ?_
        try simp only [hyS]
        refine Hd.nil <| thenN <| Hd.heldN (J := (fun j => !([10].contains j))) (i := 10) rfl ?_; refine endH kq ?_; refine sk [(8, _), (9, _)] hK26 ?_; refine Hd.seq fun _ hK27 => ?_
        refine Hd.ownCap (ad := ad) (us := nats (frees w.at)) pkk (fun hcap => ?_); refine Hd.region <| yv y_mv <| yv y_mv <| yv (y_slo_xoxN Tryz.underlying44 sz3 rfl rfl (by omega)) ?_; refine yv y_as <| yv y_as <| fk [(6, _), (7, _)] hK27 ?_; refine Hd.ret ?_; rw [e1, e2, e3]; refine Hd.ownTake (ad := ad) (us := nats (frees w.at)) pkk N (nats fs) (nats ((frees w.at).drop N)) hfrl (by rw [← hfs, ← List.map_append, List.take_append_drop]) (by rw [List.length_map, hfl, Nat.mul_one]) ?_
        have hbb : ((openW X fs N).e 0).b = [] ∧ ((openW X fs N).e 1).b = [] ∧ (openW X fs N).wt = [] := by
         have h := mkKW_b k m
         rw [hX] at h; exact ⟨by rw [(open_same X fs N 0).2]; exact h.1, by rw [(open_same X fs N 1).2]; exact h.2.1, h.2.2⟩
        refine Hd.heap (RwP b (w.addW (openW X fs N)) :: own 3 1 ad N c (nats fs) :: L) (fun q s => rw_add (i := i) hi hbb q (by exact Ent.sep (.pick pkk (.eq pkk (own_eq3 rfl rfl (by rfl)) enn)) q s)) ?_; rw [← hfl]; exact Hd.ret2 rfl (ad, c) rfl rfl rfl sq
def RwI.upW (j : RwI) (a : Option Addr) (c : Nat) : RwI := { j with wa := a, wc := c }
theorem rset_wts {rs : List Row} {n o m c : Nat} {x : WireA} {j : RwI} {l : List Nat} {a : Option Addr} (h : rs[n]? = some (x, j)) (ho : o = n * 20 + 19) (hl : l.length = m) : (rs.flatMap encRW).set o (.slice a m c) = (rs.set n (x.wts l, j.upW a c)).flatMap encRW := by
 subst ho hl; refine rows_set (j := 19) encRW_len (by omega) ?_ h (by omega)
 rfl
theorem sd_wts {c : Nat} {X : WireA} {j : RwI} {l : List Nat} {a : Option Addr} {L : List SP} : ∀ h, sep (own 3 1 a l.length c (nats l) :: SdB (X, j) 0 :: SdB (X, j) (1 - 0) :: L) h → sep (Sd (X.wts l, j.upW a c) :: L) h := fun h s =>
 sd_fold (p := (X.wts l, j.upW a c)) (k := 0) (by decide) h (show sep (SdB (X, j) 0 :: SdB (X, j) (1 - 0) :: own 3 1 a l.length c (nats l) :: L) h from Ent.sep enn h s)
theorem rAccept_ct (L : List SP) (b : Nat) (w : WA) (hw : WOk w) (fd : Int) : Ct Tryz.prog 60 #[.pointer (some ⟨b, 0, none⟩), .int .i64 fd] (RwP b w :: L) (fun _ : Unit => .tuple #[.int .i64 (accR w fd).1.1, .int .i64 (accR w fd).1.2.1, .int .i64 (accR w fd).1.2.2]) (fun _ : Unit => RwP b (accR w fd).2 :: L) := by
 refine Ct.o2 Tryz.func60 ?_; intro E
 show Hd E 94 _ _ _ _
 refine sr fun _ hK1 => ?_
 refine yv y_as <| yv y_as <| yv y_as <| fk [(0, _), (1, _)] hK1 ?_; refine sr fun _ hK2 => ?_
 refine yv y_mv <| yv y_mv <| callE rfl fk116 (rat_ct _ b w hw fd) sq ?_; intro _; refine yv y_mv <| yv y_ex <| yv y_ex <| yv y_as <| yv y_as <| fk [(0, _), (7, _)] hK2 ?_; refine Hd.seq fun _ hK3 => ?_
 refine sr fun _ hK4 => ?_
 refine yv y_mv <| yv (y_lss rfl rfl) ?_; refine fk [(0, _), (7, _), (18, _)] hK4 ?_; refine Hd.cond rfl (fun hc0 => ?_) (fun hc0 => ?_)
 ·try simp only [hyZ] at hc0
  refine sr fun _ hK5 => ?_
  refine yv y_as <| yv y_as <| yv y_as <| fk [(4, _), (5, _), (6, _)] hK5 ?_; refine Hd.ret <| Hd.thenRet ?_
  have hno := atN_no hc0
  rw [show accR w fd = ((0, 0, 110), w) by unfold accR; rw [hno]]; exact Hd.ret3 rfl () rfl rfl rfl rfl sq
 ·try simp only [hyZ] at hc0
  obtain ⟨n, k, hnk⟩ := atN_yes (by omega)
  obtain ⟨_, _, hk, hnl, x, hx, _, _⟩ := hw.at_lt hnk
  rw [show atN (w.at fd) = (n : Int) by rw [hnk]; rfl]; refine Hd.rw .here (fun i hi => ?_)
  have hrl := rows_n hi
  obtain ⟨j, hrow⟩ := row_at hi hx
  have hn : n < i.1.length := (List.getElem?_eq_some_iff.1 hrow).1
  have hlen := hw.len
  have hwt := wt_le hw hx
  have hR : accR w fd = (if x.bl = 0 then ((0, 0, 111), w) else match x.wt with | [] => ((0, 0, 113), w) | a :: t => match frees w.at with | [] => ((0, 0, 112), w) | f :: _ => match (w.setW n (x.wts t)).ws[a]? with | none => ((0, 0, 112), w) | some y => ((((f : Nat) : Int), ((a : Nat) : Int), (0 : Int)), (w.setW n (x.wts t)).setW a (giveW y f))) := by
   unfold accR; rw [hnk]; dsimp only; rw [hx]; rfl
  refine Hd.skip <| Hd.toK hK3 ?_; refine Hd.seq fun _ hK6 => ?_
  refine sr fun _ hK7 => ?_
  refine yv y_mv <| yv y_np <| yv (y_f 0 129 Tryz.underlying133 sz129) ?_; refine yv (y_l1 ag129 rfl) ?_; refine yv y_mv <| yv (y_idxR Tryz.underlying129 sz221 rfl rfl (by omega) (by exact RdS.own pkk)) ?_; refine yv (y_fR 18 3 Tryz.underlying221 sz3) ?_; refine yv (y_rw ag3 rfl hrow 18 rfl) ?_; refine yv (y_eql rfl rfl) ?_; refine fk [(0, _), (7, _), (27, _)] hK7 ?_; refine Hd.cond rfl (fun hc1 => ?_) (fun hc1 => ?_)
  ·try simp only [hyZ] at hc1
   refine sr fun _ hK8 => ?_
   refine yv y_as <| yv y_as <| yv y_as <| fk [(4, _), (5, _), (6, _)] hK8 ?_; refine Hd.ret <| Hd.thenRet ?_; rw [hR, if_pos hc1]; exact Hd.ret3 rfl () rfl rfl rfl rfl (rw_fold hi)
  ·try simp only [hyZ] at hc1
   refine Hd.skip <| Hd.toK hK6 ?_; refine Hd.seq fun _ hK9 => ?_
   refine sr fun _ hK10 => ?_
   refine yv y_mv <| yv y_np <| yv (y_f 0 129 Tryz.underlying133 sz129) ?_; refine yv (y_l1 ag129 rfl) ?_; refine yv y_mv <| yv (y_idxR Tryz.underlying129 sz221 rfl rfl (by omega) (by exact RdS.own pkk)) ?_; refine yv (y_fR 19 44 Tryz.underlying221 sz44) ?_; refine yv (y_rw ag44 rfl hrow 19 rfl) ?_; refine yv (y_len Tryz.underlying44 rfl) ?_; refine yv (y_eql rfl rfl) ?_; refine fk [(0, _), (7, _), (37, _)] hK10 ?_; refine Hd.cond rfl (fun hc2 => ?_) (fun hc2 => ?_)
   ·try simp only [hyZ] at hc2
    refine sr fun _ hK11 => ?_
    refine yv y_as <| yv y_as <| yv y_as <| fk [(4, _), (5, _), (6, _)] hK11 ?_; refine Hd.ret <| Hd.thenRet ?_; rw [hR, if_neg hc1, List.length_eq_zero_iff.1 (show x.wt.length = 0 by omega)]; exact Hd.ret3 rfl () rfl rfl rfl rfl (rw_fold hi)
   ·try simp only [hyZ] at hc2
    obtain ⟨a, t, hat⟩ : ∃ a t, x.wt = a :: t := by
     cases h : x.wt with
     | nil => rw [h] at hc2; exact absurd rfl hc2
     | cons a t => exact ⟨a, t, rfl⟩
    have hR2 : accR w fd = (match frees w.at with | [] => ((0, 0, 112), w) | f :: _ => match (w.setW n (x.wts t)).ws[a]? with | none => ((0, 0, 112), w) | some y => ((((f : Nat) : Int), ((a : Nat) : Int), (0 : Int)), (w.setW n (x.wts t)).setW a (giveW y f))) := by
     rw [hR, if_neg hc1, hat]
    refine Hd.heap (RwP b w :: L) (rw_fold hi) ?_; refine Hd.skip <| Hd.toK hK9 ?_; refine sr fun _ hK12 => ?_
    refine yv y_mv <| callE rfl fk114 (rfree_ct _ b w hw) sq ?_; rintro ⟨ad, c⟩; dsimp only; refine yv y_as <| fk [(0, _), (7, _), (9, _)] hK12 ?_; refine Hd.seq fun _ hK13 => ?_
    refine sr fun _ hK14 => ?_
    refine yv y_mv <| yv (y_len Tryz.underlying44 rfl) ?_; refine yv (y_eql rfl rfl) ?_; refine fk [(0, _), (7, _), (9, _), (42, _)] hK14 ?_; refine Hd.cond rfl (fun hc3 => ?_) (fun hc3 => ?_)
    ·try simp only [hyZ] at hc3
     refine sr fun _ hK15 => ?_
     refine yv y_as <| yv y_as <| yv y_as <| fk [(4, _), (5, _), (6, _)] hK15 ?_; refine Hd.ret <| Hd.thenRet ?_; rw [hR2, List.length_eq_zero_iff.1 (show (frees w.at).length = 0 by omega)]; exact Hd.ret3 rfl () rfl rfl rfl rfl sq
    ·try simp only [hyZ] at hc3
     obtain ⟨f, ft, hf⟩ : ∃ f ft, frees w.at = f :: ft := by
      cases h : frees w.at with
      | nil => rw [h] at hc3; exact absurd rfl hc3
      | cons f ft => exact ⟨f, ft, rfl⟩
     have hna : n ≠ a := fun e => hw.ns n x hx (by rw [hat, ← e]; exact List.mem_cons_self)
     obtain ⟨y, hy, hy0⟩ := hw.wm a (List.mem_flatMap.2 ⟨x, List.mem_of_getElem? hx, by rw [hat]; exact List.mem_cons_self⟩)
     have hy2 : (w.setW n (x.wts t)).ws[a]? = some y := by rw [setW_ne (Ne.symm hna)]; exact hy
     have hR3 : accR w fd = ((((f : Nat) : Int), ((a : Nat) : Int), (0 : Int)), (w.setW n (x.wts t)).setW a (giveW y f)) := by rw [hR2, hf]; dsimp only; rw [hy2]
     have hfr0 : (nats (frees w.at))[0 * 1]? = some (.int .i64 (f : Int)) := by rw [hf]; rfl
     have hwl0 : (nats x.wt)[0 * 1]? = some (.int .i64 (a : Int)) := by rw [hat]; rfl
     have hwl : 0 < x.wt.length := by rw [hat]; exact Nat.succ_pos _
     have hfl : 0 < (frees w.at).length := by rw [hf]; exact Nat.succ_pos _
     refine Hd.rw (.there .here) (fun i2 hi2 => ?_)
     have hrl2 := rows_n hi2
     obtain ⟨j2, hrow2⟩ := row_at hi2 hx
     have hn2 : n < i2.1.length := (List.getElem?_eq_some_iff.1 hrow2).1
     refine Hd.bagOut pkk hrow2 ?_; refine Hd.sd .here 0 (by decide) ?_; refine Hd.ownCap (e := 3) (ad := j2.wa) (m := x.wt.length) (cap := j2.wc) pkk (fun hcap => ?_); refine Hd.skip <| Hd.toK hK13 ?_; refine sr fun _ hK16 => ?_
     refine yv y_mv <| yv y_np <| yv (y_f 0 129 Tryz.underlying133 sz129) ?_; refine yv (y_l1 ag129 rfl) ?_; refine yv y_mv <| yv (y_idxR Tryz.underlying129 sz221 rfl rfl (by omega) (by exact RdS.own pkk)) ?_; refine yv (y_fR 19 44 Tryz.underlying221 sz44) ?_; refine yv (y_rw ag44 rfl hrow2 19 rfl) ?_; refine yv (y_idxR Tryz.underlying44 sz3 rfl rfl (by exact (show (0 : Nat) < _ by omega)) (by exact RdS.own pkk)) ?_; refine yv (y_loadR1 ag3 rfl (RdS.own (ad := j2.wa) (us := nats x.wt) pkk) hwl0) ?_; refine yv y_as <| fk [(0, _), (7, _), (9, _), (10, _)] hK16 ?_; refine Hd.seq fun _ hK17 => ?_
     refine Hd.drawsH ([RwH b w i2.1.length i2.2.1 i2.2.2, OwR i2]) (fun j => !([16].contains j)) mixed ?_; simp only [List.length, Nat.zero_add, Nat.reduceAdd]; refine tH 0 rfl y_mv ?_; refine tH 1 rfl y_np ?_; refine tH 2 rfl (y_f 0 129 Tryz.underlying133 sz129) ?_; refine tH 3 rfl (y_l1 ag129 rfl) ?_; refine tH 4 rfl y_mv ?_; refine tH 5 rfl y_mv ?_; refine tH 6 rfl y_np ?_; refine tH 7 rfl (y_f 0 129 Tryz.underlying133 sz129) ?_; refine tH 8 rfl (y_l1 ag129 rfl) ?_; refine tH 9 rfl y_mv ?_; refine tH 10 rfl (y_idxR Tryz.underlying129 sz221 rfl rfl (by omega) (by exact RdS.own pkk)) ?_; refine tH 11 rfl (y_fR 19 44 Tryz.underlying221 sz44) ?_; refine tH 12 rfl (y_to (v' := .slice j2.wa x.wt.length j2.wc) (y_rw ag44 rfl hrow2 19 rfl) (by rfl)) ?_; refine tH 13 rfl (y_slo_oxx Tryz.underlying44 sz3 rfl rfl (by omega) (by omega)) ?_; refine onlyH 14 rfl kq ?_; refine yv (y_idxR Tryz.underlying129 sz221 rfl rfl (by omega) (by exact RdS.own pkk)) ?_
     refine Hd.nil <| thenN <| heldK (J := (fun j => !([16].contains j))) (i := 14) sq ?_; refine tH 15 rfl (y_fR 19 44 Tryz.underlying221 sz44) ?_; refine onlyH 16 rfl kq ?_; refine Hd.storeO1 sz44 rfl rfl rfl pkk (by rw [rows_len encRW_len]; omega) ?_
     try simp only [hyS]
     refine Hd.nil <| thenN <| Hd.heldN (J := (fun j => !([16].contains j))) (i := 16) rfl ?_; refine endH kq ?_; rw [rset_wts (l := t) hrow2 (by omega) (by rw [hat]; rfl)]; refine Hd.ownDrop (e := 3) (ad := j2.wa) (m := x.wt.length) (cap := j2.wc) (us := nats x.wt) pkk 1 (nats [a]) (nats t) hwl (by rw [hat]; rfl) rfl ?_; refine Hd.heap (RwP b (w.setW n (x.wts t)) :: own 3 1 ad (frees w.at).length c (nats (frees w.at)) :: L) (fun q s => rw_put hi2 hn2 q (Ent.sep enn q (sd_wts (X := x) (j := j2) (l := t) (a := cutA j2.wa 1 1 j2.wc) (c := j2.wc - 1) q (Ent.sep (.eq pkk (own_eq3 (by rw [hat]; rfl) rfl rfl) enn) q s)))) ?_; refine Hd.rw .here (fun i3 hi3 => ?_)
     have hrl3 := rows_n hi3
     obtain ⟨j3, hrow3⟩ := row_at hi3 hy2
     have hn3 : a < i3.1.length := (List.getElem?_eq_some_iff.1 hrow3).1
     have hl3 : (i3.1.flatMap encRW).length = i3.1.length * 20 := rows_len encRW_len _
     refine sk [(0, _), (9, _), (10, _)] hK17 ?_; refine sr fun _ hK18 => ?_
     refine yv y_mv <| yv y_np <| yv (y_f 0 129 Tryz.underlying133 sz129) ?_; refine yv (y_l1 ag129 rfl) ?_; refine yv y_mv <| yv (y_idxR Tryz.underlying129 sz221 rfl rfl (by omega) (by exact RdS.own pkk)) ?_; refine yv (y_fR 0 219 Tryz.underlying221 sz219) ?_; refine yv (y_idxAR Tryz.underlying219 sz218 rfl rfl (by decide)) ?_; refine yv (y_fR 0 3 Tryz.underlying218 sz3) ?_; refine Hd.storeO1 sz3 rfl rfl rfl pkk (by show a * 20 + 0 + 0 * 8 + 0 < (i3.1.flatMap encRW).length; rw [hl3]; omega) ?_
     try simp only [hyS]
     refine Hd.nil ?_; rw [rset (x' := y.up 0 fun e => { e with what := 1 }) (i' := j3) (k := 0) (j := 0) (o := a * 20 + 0 + 0 * 8 + 0) (v := .int .i64 1) hrow3 (by decide) (by decide) (by omega) rfl rfl rfl]
     have hrow4 : (i3.1.set a (y.up 0 (fun e => { e with what := 1 }), j3))[a]? = some (y.up 0 (fun e => { e with what := 1 }), j3) := by rw [List.getElem?_set_self hn3]
     refine sk [(0, _), (9, _), (10, _)] hK18 ?_; refine Hd.seq fun _ hK19 => ?_
     refine Hd.drawsH ([RwH b (w.setW n (x.wts t)) i3.1.length i3.2.1 i3.2.2, own 221 20 i3.2.1 i3.1.length i3.2.2 ((i3.1.set a (y.up 0 (fun e => { e with what := 1 }), j3)).flatMap encRW), own 3 1 ad (frees w.at).length c (nats (frees w.at))]) (fun j => !([12].contains j)) mixed ?_; simp only [List.length, Nat.zero_add, Nat.reduceAdd]; refine tH 0 rfl y_mv ?_; refine tH 1 rfl y_np ?_; refine tH 2 rfl (y_f 0 129 Tryz.underlying133 sz129) ?_; refine tH 3 rfl (y_l1 ag129 rfl) ?_; refine tH 4 rfl y_mv ?_; refine tH 5 rfl y_mv ?_; refine tH 6 rfl (y_idxR Tryz.underlying44 sz3 rfl rfl (by exact (show (0 : Nat) < _ by omega)) (by exact RdS.own pkk)) ?_; refine tH 7 rfl (y_loadR1 ag3 rfl (by exact RdS.own pkk) (by exact hfr0)) ?_; refine onlyH 8 rfl kq ?_; refine yv (y_idxR Tryz.underlying129 sz221 rfl rfl (by omega) (by exact RdS.own pkk)) ?_; refine Hd.nil <| thenN <| heldK (J := (fun j => !([12].contains j))) (i := 8) sq ?_
     refine onlyH 9 rfl kq ?_; refine yv (y_fR 0 219 Tryz.underlying221 sz219) ?_; refine Hd.nil <| thenN <| heldK (J := (fun j => !([12].contains j))) (i := 9) sq ?_; refine onlyH 10 rfl kq ?_; refine yv (y_idxAR Tryz.underlying219 sz218 rfl rfl (by decide)) ?_; refine Hd.nil <| thenN <| heldK (J := (fun j => !([12].contains j))) (i := 10) sq ?_; refine tH 11 rfl (y_fR 1 3 Tryz.underlying218 sz3) ?_; refine onlyH 12 rfl kq ?_; refine Hd.storeO1 sz3 rfl rfl rfl pkk (show a * 20 + 0 + 0 * 8 + 1 < ((i3.1.set a (y.up 0 (fun e => { e with what := 1 }), j3)).flatMap encRW).length by rw [rows_len encRW_len, List.length_set]; omega) ?_; refine Hd.nil <| thenN <| Hd.heldN (J := (fun j => !([12].contains j))) (i := 12) rfl ?_; refine endH kq ?_; rw [rset (x' := giveW y f) (i' := j3) (k := 0) (j := 1) (o := a * 20 + 0 + 0 * 8 + 1) (v := .int .i64 (f : Int)) hrow4 (by decide) (by decide) (by omega) rfl rfl rfl, List.set_set]
     refine sk [(9, _), (10, _)] hK19 ?_; refine sr fun _ hK20 => ?_
     refine yv y_mv <| yv (y_idxR Tryz.underlying44 sz3 rfl rfl (by exact (show (0 : Nat) < _ by omega)) (by exact RdS.own pkk)) ?_; refine yv (y_loadR1 ag3 rfl (by exact RdS.own pkk) (by exact hfr0)) ?_; refine yv y_mv <| yv y_as <| yv y_as <| yv y_as <| fk [(4, _), (5, _), (6, _)] hK20 ?_; refine Hd.ret ?_; rw [hR3]
     exact Hd.ret3 rfl () rfl rfl rfl rfl (fun q s => rw_head (x' := giveW y f) hi3 hrow3 (fun k hk => by
      rcases (show k = 0 ∨ k = 1 by omega) with rfl | rfl
      ·rw [give0]
      ·rw [give1]) rfl q (Ent.sep enn q s))
end Rf
end Go.Proofs.YtbfddabjbkohdaaGreat
namespace Go.Proofs.YtbfddabjbkohdaaGreat
set_option maxHeartbeats 2000000
open Go.RX.Hd (yv y2 n1 fk sk sr tH callE heldK onlyH endH thenN slots)
open Go.RX Fx
namespace Wo
set_option maxRecDepth 8000
theorem clonen_ct (L : List SP) (ad : Option Addr) (c : Nat) (xs : List Nat) (h : RdS L 1 ad xs.length (nats xs)) (hb : xs.length ≤ 10000000) : Ct Tryz.prog 179 #[.slice ad xs.length c] (L) (fun q_ : Option Addr × Nat => .slice q_.1 xs.length q_.2) (fun q_ : Option Addr × Nat => own 3 1 q_.1 xs.length q_.2 (nats xs) :: L) := by
 refine Ct.o1 Tryz.func179 ?_; intro E
 show Hd E 8 _ _ _ _
 refine Hd.rdsF h (fun _ hnil => ?_); refine sr fun _ hK1 => ?_
 refine yv y_as <| fk [(0, _)] hK1 ?_; refine Hd.seq fun _ hK2 => ?_
 refine sr fun _ hK3 => ?_
 refine yv y_mv <| yv (y_eql_slice Tryz.underlying44 rfl rfl) ?_; refine fk [(0, _), (4, _)] hK3 ?_; refine Hd.cond rfl (fun hc0 => ?_) (fun hc0 => ?_)
 ·try simp only [hyZ] at hc0
  refine sr fun _ hK4 => ?_
  refine yv y_as <| fk [(2, _)] hK4 ?_; refine Hd.ret <| Hd.thenRet ?_
  have h0 : xs = [] := by
   have := hnil (by simpa using hc0)
   simpa using this
  subst h0; exact Hd.ret1 rfl (none, 0) rfl (Ent.sep (.ownNil .same))
 ·try simp only [hyZ] at hc0
  refine Hd.skip <| Hd.toK hK2 ?_; refine sr fun _ hK5 => ?_
  refine Hd.bslice (vs := []) rfl (by exact bs179_5 ..) (fun b5 => ?_); refine Hd.ownNil 3 1 (some ⟨b5, 0, none⟩) ?_; refine yv y_mv <| Hd.append Tryz.underlying44 ty3 rfl rfl rfl pkk (by exact RdS.mono h sq) (by simp [Value.oneCell']; done) (by simp only [maxLen]; omega) (by omega) (fun ad7 cap7 => ?_); refine yv y_as <| fk [(2, _)] hK5 ?_; refine Hd.ret ?_; exact Hd.ret1 rfl (ad7, cap7) (by simp; rfl) (Ent.sep (.eq pkk (own_eq (by omega) (by simp)) enn))
theorem conn_yes {w : WA} {n : Nat} {x : WireA} {m : Int} (hx : w.ws[n]? = some x) : connR w n m = if x.bl = 0 ∨ (x.e 0).what ≠ 1 then ((0, 116), w) else if m < 1 ∨ 65536 < m then ((0, 2), w) else if x.bl ≤ (x.wt.length : Int) then ((0, 113), w)
  else if 1000 ≤ w.ws.length then ((0, 112), w) else ((((w.ws.length : Nat) : Int), (0 : Int)), (w.addW (connW m.toNat)).setW n (waitW x w.ws.length)) := by
 unfold connR; rw [if_neg (by omega), Int.toNat_natCast, hx]
theorem conn_off {w : WA} {n m : Int} (h : n < 0 ∨ (w.ws.length : Int) ≤ n) : connR w n m = ((0, 116), w) := by
 unfold connR
 have e : (if n < 0 then none else w.ws[n.toNat]?) = none := by
  split
  ·rfl
  ·exact List.getElem?_eq_none (by omega)
 rw [e]
theorem wire_wait {b m : Nat} {x : WireA} {i : WI} {wa : Option Addr} {wc : Nat} {L : List SP} (hi : WIOk x i) : ∀ h, sep (pt b (encW (waitW x m) { i with wa := wa, wc := wc }) 199 :: own 3 1 wa (x.wt ++ [m]).length wc (nats (x.wt ++ [m])) :: RgO (i.p 0) x.cap (x.e 0).b :: RgO (i.p (1 - 0)) x.cap (x.e (1 - 0)).b :: L) h → sep (WireP b (waitW x m) :: L) h := fun h s => by
 have e0 := (wait_e x m 0).2.2.2.2
 have e1 := (wait_e x m 1).2.2.2.2
 refine wire_fold (x := waitW x m) (i := { i with wa := wa, wc := wc }) (k := 0) ⟨fun j hj => by rw [(wait_e x m j).2.2.1]; exact hi.rd j hj⟩ (by omega) h ?_; unfold WireB; rw [e0, show ((waitW x m).e (1 - 0)).b = (x.e 1).b from e1]; exact Ent.sep (show Ent _ (WireH b (waitW x m) { i with wa := wa, wc := wc } :: RgO (i.p 0) x.cap (x.e 0).b :: RgO (i.p (1 - 0)) x.cap (x.e (1 - 0)).b :: own 3 1 wa (x.wt ++ [m]).length wc (nats (x.wt ++ [m])) :: L) from enn) h s
theorem conn0_ct (L : List SP) (wb : Nat) (w : WA) (n m : Int) (hn : n < 0 ∨ (w.ws.length : Int) ≤ n) : Ct Tryz.prog 133 #[.pointer (some ⟨wb, 0, none⟩), .int .i64 n, .int .i64 m] (WorldP wb w :: L) (fun _ : Unit => .tuple #[.int .i64 0, .int .i64 116]) (fun _ : Unit => WorldP wb w :: L) := by
 refine Ct.o3 Tryz.func133 ?_; intro E
 show Hd E 143 _ _ _ _
 refine Hd.world .here (fun i hw hrs => ?_)
 have hrl : i.rs.length = w.ws.length := by rw [← hrs, List.length_map]
 refine sr fun _ hK1 => ?_
 refine yv y_as <| yv y_as <| fk [(0, _), (1, _), (2, _)] hK1 ?_; refine Hd.seq fun _ hK2 => ?_
 refine Hd.block <| sr fun _ hK3 => ?_
 refine yv y_mv <| callE rfl fk113 (wnone_ct _ wb w.at w i.rs.length i) sq ?_; intro _; refine yv y_as <| fk [(0, _), (1, _), (2, _), (10, _)] hK3 ?_; refine Hd.condF rfl ?_; refine sr fun _ hK4 => ?_
 refine yv y_mv <| yv (y_lss rfl rfl) ?_; refine yv y_mv <| Hd.part (gd := 16) rfl (fun hg3_16 => ?_) (fun hg3_16 => ?_)
 ·try simp only [hyZ] at hg3_16
  refine n1 <| n1 <| n1 <| n1 <| n1 <| n1 <| n1 <| yv (y_pickT rfl rfl) ?_; refine yv y_mv <| Hd.part (gd := 25) rfl (fun hg3_25 => ?_) (fun hg3_25 => ?_)
  ·try simp only [hyZ] at hg3_25
   refine n1 <| n1 <| n1 <| n1 <| n1 <| n1 <| n1 <| n1 <| n1 <| n1 <| n1 <| yv (y_pickT rfl rfl) ?_; refine yv y_mv <| Hd.part (gd := 38) rfl (fun hg3_38 => ?_) (fun hg3_38 => ?_)
   ·try simp only [hyZ] at hg3_38
    refine n1 <| n1 <| n1 <| n1 <| n1 <| n1 <| n1 <| n1 <| n1 <| n1 <| n1 <| n1 <| n1 <| yv (y_pickT rfl rfl) ?_; refine yv y_as <| fk [(0, _), (1, _), (2, _), (13, _)] hK4 ?_; refine Hd.condT rfl ?_; refine sr fun _ hK5 => ?_
    refine yv y_as <| yv y_as <| fk [(6, _), (7, _)] hK5 ?_; refine Hd.ret <| Hd.inBret <| Hd.thenRet ?_; exact Hd.ret2 rfl () rfl rfl rfl (Ent.sep (.ex i (.pure ⟨hw, hrs⟩ enn)))
   ·try simp only [hyZ] at hg3_38
    exfalso; simp at hg3_38; done
  ·try simp only [hyZ] at hg3_25
   exfalso; simp at hg3_25; done
 ·try simp only [hyZ] at hg3_16
  refine y2 y_mv <| y2 y_mv <| y2 y_np <| y2 (y_f 288 208 Tryz.underlying210 sz208) ?_; refine y2 (y_load1 ag208 rfl (Rd.pt1 pkk (by exact woT_at (j := 0) (by omega) rfl))) ?_; refine y2 (y_len Tryz.underlying208 rfl) ?_; refine y2 (y_geq rfl rfl) ?_; refine yv (y_pickF rfl rfl) ?_; refine yv y_mv <| Hd.part (gd := 25) rfl (fun hg3_25 => ?_) (fun hg3_25 => ?_)
  ·try simp only [hyZ] at hg3_25
   refine n1 <| n1 <| n1 <| n1 <| n1 <| n1 <| n1 <| n1 <| n1 <| n1 <| n1 <| yv (y_pickT rfl rfl) ?_; refine yv y_mv <| Hd.part (gd := 38) rfl (fun hg3_38 => ?_) (fun hg3_38 => ?_)
   ·try simp only [hyZ] at hg3_38
    refine n1 <| n1 <| n1 <| n1 <| n1 <| n1 <| n1 <| n1 <| n1 <| n1 <| n1 <| n1 <| n1 <| yv (y_pickT rfl rfl) ?_; refine yv y_as <| fk [(0, _), (1, _), (2, _), (13, _)] hK4 ?_; refine Hd.condT rfl ?_; refine sr fun _ hK6 => ?_
    refine yv y_as <| yv y_as <| fk [(6, _), (7, _)] hK6 ?_; refine Hd.ret <| Hd.inBret <| Hd.thenRet ?_; exact Hd.ret2 rfl () rfl rfl rfl (Ent.sep (.ex i (.pure ⟨hw, hrs⟩ enn)))
   ·try simp only [hyZ] at hg3_38
    exfalso; simp at hg3_38; done
  ·try simp only [hyZ] at hg3_25
   exfalso; omega
theorem conn1_ct (L : List SP) (wb : Nat) (w : WA) (n : Nat) (x : WireA) (hx : w.ws[n]? = some x) (m : Int) : Ct Tryz.prog 133 #[.pointer (some ⟨wb, 0, none⟩), .int .i64 (n : Int), .int .i64 m] (WorldP wb w :: L) (fun _ : Unit => .tuple #[.int .i64 (connR w n m).1.1, .int .i64 (connR w n m).1.2]) (fun _ : Unit => WorldP wb (connR w n m).2 :: L) := by
 refine Ct.o3 Tryz.func133 ?_; intro E
 show Hd E 143 _ _ _ _
 refine Hd.world .here (fun i hw hrs => ?_)
 have hrl : i.rs.length = w.ws.length := by rw [← hrs, List.length_map]
 obtain ⟨b, hb⟩ := rs_at hrs hx
 have hnl : n < i.rs.length := (List.getElem?_eq_some_iff.1 hb).1
 have hok := conn_ok hw (n : Int) m
 have hcr := conn_yes (m := m) hx
 have hwl := wt_le hw hx
 have hwe := hw.len
 refine sr fun _ hK1 => ?_
 refine yv y_as <| yv y_as <| fk [(0, _), (1, _), (2, _)] hK1 ?_; refine Hd.seq fun _ hK2 => ?_
 refine Hd.block <| sr fun _ hK3 => ?_
 refine yv y_mv <| callE rfl fk113 (wnone_ct _ wb w.at w i.rs.length i) sq ?_; intro _; refine yv y_as <| fk [(0, _), (1, _), (2, _), (10, _)] hK3 ?_; refine Hd.condF rfl ?_; refine Hd.seq fun _ hK4 => ?_
 refine Hd.wOut pkk hb ?_; refine Hd.wire .here 0 (by omega) (fun i2 hi => ?_); refine Hd.region <| yv y_mv <| yv (y_lss rfl rfl) ?_; refine yv y_mv ?_; apply Hd.org 8 16 24 [(0, _), (1, _), (2, _)] rfl sbq
 ·intro _
  simp only [List.take]; refine n1 <| n1 <| n1 <| n1 <| n1 <| n1 <| n1 <| yv (y_pickT rfl rfl) ?_; refine Hd.nil ?_; exact Hd.mq
 ·intro hg3_16
  try simp only [hyZ] at hg3_16
  simp only [List.take]; refine y2 y_mv <| y2 y_mv <| y2 y_np <| y2 (y_f 288 208 Tryz.underlying210 sz208) ?_; refine y2 (y_load1 ag208 rfl (Rd.pt1 pkk (by exact woT_at (j := 0) (by omega) rfl))) ?_; refine y2 (y_len Tryz.underlying208 rfl) ?_; refine y2 (y_geq rfl rfl) ?_; refine yv (y_pickF rfl rfl) ?_; refine Hd.nil ?_; exact Hd.mq
 simp only [List.drop]; refine yv y_mv ?_; apply Hd.org (q := decide (x.bl = 0)) 12 25 37 [(0, _), (1, _), (2, _)] rfl sbq
 ·intro _
  simp only [List.take]; refine n1 <| n1 <| n1 <| n1 <| n1 <| n1 <| n1 <| n1 <| n1 <| n1 <| n1 <| yv (y_pickT rfl rfl) ?_; refine Hd.nil ?_; exact Hd.mq
 ·intro hg3_25
  try simp only [hyZ] at hg3_25
  simp only [List.take]; refine y2 y_mv <| y2 y_np <| y2 (y_f 288 208 Tryz.underlying210 sz208) ?_; refine y2 (y_load1 ag208 rfl (Rd.pt1 pkk (by exact woT_at (j := 0) (by omega) rfl))) ?_; refine y2 y_mv <| y2 (y_idxR Tryz.underlying208 sz191 rfl rfl (by omega) (by exact RdS.own pkk)) ?_; refine y2 (y_loadR1 ag191 rfl (by exact RdS.own pkk) (by exact pws_at hb)) ?_; refine y2 y_np <| y2 (y_f 15 3 Tryz.underlying199 sz3) ?_; refine y2 (y_l1 ag3 rfl) ?_; refine y2 (y_eql rfl rfl) ?_; refine yv (y_pickF rfl rfl) ?_; refine Hd.nil ?_; exact Hd.mq
 simp only [List.drop]; refine yv y_mv ?_; apply Hd.org (q := decide ((x.e 0).what ≠ 1)) 14 38 52 [(0, _), (1, _), (2, _)] rfl sbq
 ·intro _
  simp only [List.take]; refine n1 <| n1 <| n1 <| n1 <| n1 <| n1 <| n1 <| n1 <| n1 <| n1 <| n1 <| n1 <| n1 <| yv (y_pickT rfl rfl) ?_; refine Hd.nil ?_; exact Hd.mq
 ·intro hg3_38
  try simp only [hyZ] at hg3_38
  simp only [List.take]; refine y2 y_mv <| y2 y_np <| y2 (y_f 288 208 Tryz.underlying210 sz208) ?_; refine y2 (y_load1 ag208 rfl (Rd.pt1 pkk (by exact woT_at (j := 0) (by omega) rfl))) ?_; refine y2 y_mv <| y2 (y_idxR Tryz.underlying208 sz191 rfl rfl (by omega) (by exact RdS.own pkk)) ?_; refine y2 (y_loadR1 ag191 rfl (by exact RdS.own pkk) (by exact pws_at hb)) ?_; refine y2 y_np <| y2 (y_f 0 197 Tryz.underlying199 sz197) ?_; refine y2 (y_idxA Tryz.underlying197 sz196 rfl rfl (by decide)) ?_; refine y2 (y_f 0 3 Tryz.underlying196 sz3) ?_; refine y2 (y_l1 ag3 rfl) ?_; refine y2 (y_neq rfl rfl) ?_; refine yv (y_pickF rfl rfl) ?_; refine Hd.nil ?_; exact Hd.mq
 simp only [List.drop]; refine yv y_as <| fk [(0, _), (1, _), (2, _), (13, _)] hK4 ?_; refine Hd.cond rfl (fun hc1 => ?_) (fun hc1 => ?_)
 ·try simp only [hyZ] at hc1
  refine sr fun _ hK5 => ?_
  refine yv y_as <| yv y_as <| fk [(6, _), (7, _)] hK5 ?_; refine Hd.ret <| Hd.inBret <| Hd.thenRet ?_
  have h1 : x.bl = 0 ∨ (x.e 0).what ≠ 1 := by
   rcases hc1 with (h | h) | h
   ·omega
   ·exact .inl h
   ·exact .inr h
  rw [hcr, if_pos h1]; exact Hd.ret2 rfl () rfl rfl rfl (fun q s => world_back (k := 0) hw hrs hb hi (by omega) q (Ent.sep enn q s))
 ·try simp only [hyZ] at hc1
  rw [if_neg (by rintro (h | h); exact hc1.1.2 h; exact h hc1.2)] at hcr; refine sr fun _ hK6 => ?_
  refine yv y_mv <| callE rfl fk169 (cap_ct _ m) sq ?_; intro _; refine yv (y_not rfl) ?_; refine yv y_as <| fk [(0, _), (1, _), (2, _), (53, _)] hK6 ?_; refine Hd.cond rfl (fun hc2 => ?_) (fun hc2 => ?_)
  ·try simp only [hyZ] at hc2
   refine sr fun _ hK7 => ?_
   refine yv y_as <| yv y_as <| fk [(6, _), (7, _)] hK7 ?_; refine Hd.ret <| Hd.inBret <| Hd.thenRet ?_; rw [hcr, if_pos (by omega)]; exact Hd.ret2 rfl () rfl rfl rfl (fun q s => world_back (k := 0) hw hrs hb hi (by omega) q (Ent.sep enn q s))
  ·try simp only [hyZ] at hc2
   rw [if_neg (by omega)] at hcr; refine Hd.seq fun _ hK8 => ?_
   refine Hd.quiet mixed kq ?_; refine Hq.yv y_mv ?_; refine Hq.yv y_np ?_; refine Hq.yv (y_f 288 208 Tryz.underlying210 sz208) ?_; refine Hq.yv (y_load1 ag208 rfl (Rd.pt1 pkk (by exact woT_at (j := 0) (by omega) rfl))) ?_; refine Hq.yv y_mv ?_; refine Hq.yv (y_idxR Tryz.underlying208 sz191 rfl rfl (by omega) (by exact RdS.own pkk)) ?_; refine Hq.yv (y_loadR1 ag191 rfl (by exact RdS.own pkk) (by exact pws_at hb)) ?_; refine Hq.yv y_np ?_; refine Hq.yv (y_f 16 44 Tryz.underlying199 sz44) ?_; refine Hq.yv (y_l1 ag44 rfl) ?_; refine Hq.yv (y_len Tryz.underlying44 rfl) ?_; refine Hq.yv y_mv ?_; refine Hq.yv y_np ?_; refine Hq.yv (y_f 288 208 Tryz.underlying210 sz208) ?_; refine Hq.yv (y_load1 ag208 rfl (Rd.pt1 pkk (by exact woT_at (j := 0) (by omega) rfl))) ?_; refine Hq.yv y_mv ?_; refine Hq.yv (y_idxR Tryz.underlying208 sz191 rfl rfl (by omega) (by exact RdS.own pkk)) ?_; refine Hq.yv (y_loadR1 ag191 rfl (by exact RdS.own pkk) (by exact pws_at hb)) ?_
   refine Hq.yv y_np ?_; refine Hq.yv (y_f 15 3 Tryz.underlying199 sz3) ?_; refine Hq.yv (y_l1 ag3 rfl) ?_; refine Hq.yv (y_geq rfl rfl) ?_; refine Hq.yv y_as ?_; refine Hq.nil ?_; refine sk [(0, _), (1, _), (2, _), (57, _)] hK8 ?_; refine Hd.cond rfl (fun hc3 => ?_) (fun hc3 => ?_)
   ·try simp only [hyZ] at hc3
    refine sr fun _ hK9 => ?_
    refine yv y_as <| yv y_as <| fk [(6, _), (7, _)] hK9 ?_; refine Hd.ret <| Hd.inBret <| Hd.thenRet ?_; rw [hcr, if_pos (by omega)]; exact Hd.ret2 rfl () rfl rfl rfl (fun q s => world_back (k := 0) hw hrs hb hi (by omega) q (Ent.sep enn q s))
   ·try simp only [hyZ] at hc3
    rw [if_neg (by omega)] at hcr; refine sr fun _ hK10 => ?_
    refine yv y_mv <| yv y_np <| yv (y_f 288 208 Tryz.underlying210 sz208) ?_; refine yv (y_load1 ag208 rfl (Rd.pt1 pkk (by exact woT_at (j := 0) (by omega) rfl))) ?_; refine yv (y_len Tryz.underlying208 rfl) ?_; refine yv (y_geq rfl rfl) ?_; refine yv y_as <| fk [(0, _), (1, _), (2, _), (80, _)] hK10 ?_; refine Hd.cond rfl (fun hc4 => ?_) (fun hc4 => ?_)
    ·try simp only [hyZ] at hc4
     refine sr fun _ hK11 => ?_
     refine yv y_as <| yv y_as <| fk [(6, _), (7, _)] hK11 ?_; refine Hd.ret <| Hd.inBret <| Hd.thenRet ?_; rw [hcr, if_pos (by omega)]; exact Hd.ret2 rfl () rfl rfl rfl (fun q s => world_back (k := 0) hw hrs hb hi (by omega) q (Ent.sep enn q s))
    ·try simp only [hyZ] at hc4
     rw [if_neg (by omega)] at hcr
     obtain ⟨mm, rfl⟩ : ∃ k : Nat, m = (k : Int) := ⟨m.toNat, by omega⟩
     rw [Int.toNat_natCast] at hcr; refine Hd.skip <| Hd.inB <| Hd.toK hK2 ?_; refine sr fun _ hK12 => ?_
     refine yv y_mv <| callE rfl fk109 (both_ct _ mm (by omega) (by omega)) sq ?_; intro bn; refine yv y_as <| fk [(0, _), (1, _), (8, _)] hK12 ?_; refine Hd.seq fun _ hK13 => ?_
     refine Hd.wire .here 1 (by omega) (fun i3 hi3 => ?_); refine Hd.region <| yv y_mv <| yv y_np <| yv (y_f 0 197 Tryz.underlying199 sz197) ?_; refine yv (y_idxA Tryz.underlying197 sz196 rfl rfl (by decide)) ?_; refine yv (y_f 0 3 Tryz.underlying196 sz3) ?_; refine Hd.store1 sz3 rfl rfl rfl pkk (by simp; done) ?_
     try simp only [hyS]
     refine Hd.nil ?_; rw [show (encW (halfW mm 2) i3).set (0 + 0 + 1 * 7 + 0) (.int .i64 2) = encW (connW mm) i3 from rfl]; refine Hd.heap (WireP bn (connW mm) :: _) (fun q s => wire_close (x := halfW mm 2) (f := fun e => { e with what := 2 }) (k := 1) (k' := 1) hi3 (by omega) (fun _ => rfl) (fun _ => rfl) q (by exact Ent.sep enn q s)) ?_; refine sk [(0, _), (1, _), (8, _)] hK13 ?_; refine sr fun _ hK14 => ?_
     refine yv y_mv <| yv y_np <| yv (y_f 288 208 Tryz.underlying210 sz208) ?_; refine yv (y_load1 ag208 rfl (Rd.pt1 pkk (by exact woT_at (j := 0) (by omega) rfl))) ?_; refine yv y_mv <| yv (y_idxR Tryz.underlying208 sz191 rfl rfl (by omega) (by exact RdS.own pkk)) ?_; refine yv (y_loadR1 ag191 rfl (by exact RdS.own pkk) (by exact pws_at hb)) ?_; refine yv y_as <| fk [(0, _), (8, _), (9, _)] hK14 ?_; refine Hd.cutK (ι := Option Addr × Nat) [(0, _), (8, _), (9, _)] (fun _ => []) (fun j => pt b (encW (x.wts (x.wt ++ [w.ws.length])) { i2 with wa := j.1, wc := j.2 }) 199 :: own 3 1 j.1 (x.wt ++ [w.ws.length]).length j.2 (nats (x.wt ++ [w.ws.length])) :: RgO (i2.p 0) x.cap (x.e 0).b :: RgO (i2.p (1 - 0)) x.cap (x.e (1 - 0)).b :: WireP bn (connW mm) :: WoR wb n w i L) ?_ ?_ ⟨rfl, rfl, rfl, trivial⟩
     ·refine Hd.drawsH ([WireH b x i2, WoH wb w.at w i.rs.length i, own 3 1 i2.wa x.wt.length i2.wc (nats x.wt)]) (fun j => !([15].contains j)) mixed ?_
      simp only [List.length, Nat.zero_add, Nat.reduceAdd]; refine tH 0 rfl y_mv ?_; refine tH 1 rfl y_mv ?_; refine tH 2 rfl y_np ?_; refine tH 3 rfl (y_f 16 44 Tryz.underlying199 sz44) ?_; refine tH 4 rfl (y_l1 ag44 rfl) ?_; refine tH 6 rfl y_mv ?_; refine tH 7 rfl y_np ?_; refine tH 8 rfl (y_f 288 208 Tryz.underlying210 sz208) ?_; refine tH 9 rfl (y_load1 ag208 rfl (Rd.pt1 pkk (by exact woT_at (j := 0) (by omega) rfl))) ?_; refine tH 10 rfl (y_len Tryz.underlying208 rfl) ?_; refine Hd.eitherH 5 11 rfl rfl kq ?_ ?_
      ·refine callE rfl fk179 (clonen_ct _ i2.wa i2.wc x.wt ?hD (by omega)) sq ?_
       case hD => exact RdS.own pkk
       rintro ⟨ca, cc⟩; dsimp only; refine Hd.nil <| thenN <| heldK (J := (fun j => !([15].contains j))) (i := 5) sq ?_; refine onlyH 11 rfl kq ?_; refine Hd.bslice (vs := [(0, _)]) rfl (by exact bs133_112 ..) (fun b112 => ?_); refine Hd.nil <| thenN <| heldK (J := (fun j => !([15].contains j))) (i := 11) sq ?_; refine onlyH 12 rfl kq ?_; refine Hd.append Tryz.underlying44 ty3 rfl rfl rfl pkk (by exact RdS.rd (Rd.pt pkk (fun j v e => by simpa using e)) rfl) (by simp [Value.oneCell']; done) (by simp only [maxLen]; omega) (by omega) (fun ad113 cap113 => ?_); refine Hd.nil <| thenN <| heldK (J := (fun j => !([15].contains j))) (i := 12) sq ?_; refine onlyH 13 rfl kq ?_; refine yv y_np <| Hd.nil <| thenN <| heldK (J := (fun j => !([15].contains j))) (i := 13) sq ?_; refine tH 14 rfl (y_f 16 44 Tryz.underlying199 sz44) ?_; refine onlyH 15 rfl kq ?_
       refine Hd.store1 sz44 rfl rfl rfl pkk (by simp; done) ?_
       try simp only [hyS]
       refine Hd.nil <| thenN <| Hd.heldN (J := (fun j => !([15].contains j))) (i := 15) rfl ?_; refine endH kq ?_; refine slots [(0, _), (8, _), (9, _)] sbq ?_; refine thenN ?_
       have el : (x.wt ++ [w.ws.length]).length = x.wt.length + 1 := by simp
       exact Hd.meet (ad113, cap113) sbq (Ent.sep (.eq pkk (pt_eq (by show _ = encW (x.wts (x.wt ++ [w.ws.length])) { i2 with wa := ad113, wc := cap113 }; show _ = encE _ _ ++ (encE _ _ ++ [_, _, Value.slice ad113 (x.wt ++ [w.ws.length]).length cap113]); rw [el]; rfl)) (.eq pkk (own_eq3 el.symm rfl (by simp [nats, hrl])) enn)))
      ·refine Hd.bslice (vs := [(0, _)]) rfl (by exact bs133_112 ..) (fun b112 => ?_)
       refine Hd.nil <| thenN <| heldK (J := (fun j => !([15].contains j))) (i := 11) sq ?_; refine onlyH 5 rfl kq ?_; refine callE rfl fk179 (clonen_ct _ i2.wa i2.wc x.wt ?hD (by omega)) sq ?_
       case hD => exact RdS.own pkk
       rintro ⟨ca, cc⟩; dsimp only; refine Hd.nil <| thenN <| heldK (J := (fun j => !([15].contains j))) (i := 5) sq ?_; refine onlyH 12 rfl kq ?_; refine Hd.append Tryz.underlying44 ty3 rfl rfl rfl pkk (by exact RdS.rd (Rd.pt pkk (fun j v e => by simpa using e)) rfl) (by simp [Value.oneCell']; done) (by simp only [maxLen]; omega) (by omega) (fun ad113 cap113 => ?_); refine Hd.nil <| thenN <| heldK (J := (fun j => !([15].contains j))) (i := 12) sq ?_; refine onlyH 13 rfl kq ?_; refine yv y_np <| Hd.nil <| thenN <| heldK (J := (fun j => !([15].contains j))) (i := 13) sq ?_; refine tH 14 rfl (y_f 16 44 Tryz.underlying199 sz44) ?_; refine onlyH 15 rfl kq ?_; refine Hd.store1 sz44 rfl rfl rfl pkk (by simp; done) ?_
       try simp only [hyS]
       refine Hd.nil <| thenN <| Hd.heldN (J := (fun j => !([15].contains j))) (i := 15) rfl ?_; refine endH kq ?_; refine slots [(0, _), (8, _), (9, _)] sbq ?_; refine thenN ?_
       have el : (x.wt ++ [w.ws.length]).length = x.wt.length + 1 := by simp
       exact Hd.meet (ad113, cap113) sbq (Ent.sep (.eq pkk (pt_eq (by show _ = encW (x.wts (x.wt ++ [w.ws.length])) { i2 with wa := ad113, wc := cap113 }; show _ = encE _ _ ++ (encE _ _ ++ [_, _, Value.slice ad113 (x.wt ++ [w.ws.length]).length cap113]); rw [el]; rfl)) (.eq pkk (own_eq3 el.symm rfl (by simp [nats, hrl])) enn)))
     ·rintro ⟨ad113, cap113⟩
      dsimp only; refine Hd.seq fun _ hK15 => ?_
      refine Hd.tail 11 mixed kq ?_; simp only [List.take, List.drop]; refine Ht.yv y_mv ?_; refine Ht.yv y_np ?_; refine Ht.yv (y_f 0 197 Tryz.underlying199 sz197) ?_; refine Ht.yv (y_idxA Tryz.underlying197 sz196 rfl rfl (by decide)) ?_; refine Ht.yv (y_f 5 30 Tryz.underlying196 sz30) ?_; refine Ht.yv (y_l1 ag30 rfl) ?_; refine Ht.yv (y_add rfl rfl) ?_; refine Ht.yv y_np ?_; refine Ht.yv (y_f 0 197 Tryz.underlying199 sz197) ?_; refine Ht.yv (y_idxA Tryz.underlying197 sz196 rfl rfl (by decide)) ?_; refine Ht.yv (y_f 5 30 Tryz.underlying196 sz30) ?_; refine Ht.nil ?_; refine Hd.store1 sz30 rfl rfl rfl pkk (by simp; done) ?_
      try simp only [hyS]
      refine Hd.nil <| Hd.heap (WireP b (waitW x w.ws.length) :: _) (fun q s => wire_wait (x := x) (i := i2) (m := w.ws.length) hi q (by exact Ent.sep (.eq pkk (pt_eq (by rfl)) enn) q s)) ?_; refine sk [(0, _), (8, _)] hK15 ?_; refine sr fun _ hK16 => ?_
      refine yv y_mv <| yv y_mv <| yv y_np <| yv (y_f 288 208 Tryz.underlying210 sz208) ?_; refine yv (y_load1 ag208 rfl (Rd.pt1 pkk (by exact woT_at (j := 0) (by omega) rfl))) ?_; refine yv y_mv <| Hd.bslice (vs := [(0, _)]) rfl (by exact bs133_133 ..) (fun b133 => ?_); refine Hd.append Tryz.underlying208 ty191 rfl rfl rfl pkk (by exact RdS.rd (Rd.pt pkk (fun j v e => by simpa using e)) rfl) (by simp [Value.oneCell']; done) (by simp only [maxLen]; omega) (by omega) (fun ad134 cap134 => ?_); refine yv y_np <| yv (y_f 288 208 Tryz.underlying210 sz208) ?_; refine Hd.store1 sz208 rfl rfl rfl pkk (by rw [List.length_append, fdC_len]; simp) ?_
      try simp only [hyS]
      refine Hd.nil ?_; rw [show (fdC w.at ++ woT w i.rs.length i).set (0 + 288) (.slice ad134 (i.rs.length + 1) cap134) = fdC w.at ++ woT w (i.rs.length + 1) { i with wa := ad134, wc := cap134 } by rw [List.set_append_right _ _ (by rw [fdC_len]; omega), fdC_len]; rfl]; refine sk [(0, _)] hK16 ?_; refine sr fun _ hK17 => ?_
      refine yv y_mv <| yv y_np <| yv (y_f 288 208 Tryz.underlying210 sz208) ?_; refine yv (y_load1 ag208 rfl (Rd.pt1 pkk (by exact woT_at (j := 0) (by omega) rfl))) ?_; refine yv (y_len Tryz.underlying208 rfl) ?_; refine yv (y_to (v' := .int .i64 (w.ws.length : Int)) (y_subn rfl rfl (by simp only [InK]; omega)) (by (congr 1; omega))) ?_; refine yv y_as <| yv y_as <| fk [(6, _), (7, _)] hK17 ?_; refine Hd.ret ?_; rw [hcr] at hok ⊢
      have hl : (i.rs ++ [(bn, connW mm)]).length = i.rs.length + 1 := by simp
      have hbb : (i.rs ++ [(bn, connW mm)])[n]? = some (b, x) := by rw [List.getElem?_append_left hnl]; exact hb
      have hst : (i.rs ++ [(bn, connW mm)]).set n (b, waitW x w.ws.length) = i.rs.set n (b, waitW x w.ws.length) ++ [(bn, connW mm)] := List.set_append_left _ _ hnl
      have hfs : (i.rs.set n (b, waitW x w.ws.length) ++ [(bn, connW mm)]).map Prod.fst = (i.rs ++ [(bn, connW mm)]).map Prod.fst := by rw [← hst, set_fst hbb]
      have hws : (i.rs.set n (b, waitW x w.ws.length) ++ [(bn, connW mm)]).map Prod.snd = ((w.addW (connW mm)).setW n (waitW x w.ws.length)).ws := by
       rw [← hst, List.map_set, List.map_append, hrs]; rfl
      refine Hd.ret2 rfl () rfl rfl rfl (sep_trans (B := WireP b (waitW x w.ws.length) :: Wires (i.rs.take n) :: Wires (i.rs.drop (n + 1)) :: WireP bn (connW mm) :: WoH wb w.at w (i.rs.length + 1) { i with wa := ad134, wc := cap134 } :: own 191 1 ad134 (i.rs.length + 1) cap134 (pws i.rs ++ [ptr (some bn)]) :: SigP i.sb w.hd w.ct :: L) (Ent.sep (.pick pkk (.pick pkk (.pick pkk (.pick pkk (.pick pkk (.eq pkk (own_eq3 rfl rfl (by rfl)) enn))))))) ?_); refine sep_trans (fun q s => ws_in hnl s) ?_; refine sep_trans (B := WireP bn (connW mm) :: Wires (i.rs.set n (b, waitW x w.ws.length)) :: _) (Ent.sep (.pick pkk (.pick pkk .same))) ?_; refine sep_trans (fun q s => ws_add s) ?_; refine sep_trans (Ent.sep ?_) (world_all (w := w) (i := { i with rs := i.rs ++ [(bn, connW mm)], wa := ad134, wc := cap134 }) (rs' := i.rs.set n (b, waitW x w.ws.length) ++ [(bn, connW mm)]) hok.1 hfs hws hok.2.1 rfl); exact .pick pkk (.eq pkk (pt_eq (show fdC w.at ++ woT w (i.rs.length + 1) { i with wa := ad134, wc := cap134 } = fdC w.at ++ woT w (i.rs ++ [(bn, connW mm)]).length { i with rs := i.rs ++ [(bn, connW mm)], wa := ad134, wc := cap134 } by rw [hl])) (.eq pkk (own_eq3 hl.symm rfl (pws_app ..)) enn))
theorem wconn_ct (L : List SP) (wb : Nat) (w : WA) (n m : Int) :
  Ct Tryz.prog 133 #[.pointer (some ⟨wb, 0, none⟩), .int .i64 n, .int .i64 m] (WorldP wb w :: L) (fun _ : Unit => .tuple #[.int .i64 (connR w n m).1.1, .int .i64 (connR w n m).1.2]) (fun _ => WorldP wb (connR w n m).2 :: L) := by
 by_cases h : n < 0 ∨ (w.ws.length : Int) ≤ n
 ·rw [conn_off h]
  exact conn0_ct L wb w n m h
 ·obtain ⟨k, rfl⟩ : ∃ k : Nat, n = (k : Int) := ⟨n.toNat, by omega⟩
  exact conn1_ct L wb w k _ (List.getElem?_eq_getElem (by omega)) m
end Wo
end Go.Proofs.YtbfddabjbkohdaaGreat
namespace Go.Proofs.YtbfddabjbkohdaaGreat
set_option maxHeartbeats 2000000
open Go.RX.Hd (yv y2 n1 fk sk sr tH callE heldK onlyH endH thenN slots)
open Go.RX Fx
namespace Rf
open Wo
set_option maxRecDepth 8000
theorem mkX1_r (n j : Nat) (hj : j < 2) : (encRW (mkX 1 n j j, jz)).set (0 + 0 + j * 8 + 2) (.bool true) = encRW (mkX 1 n (j + 1) j, jz) := by
 rcases (show j = 0 ∨ j = 1 by omega) with rfl | rfl <;> rfl
theorem mkX1_w (n j : Nat) (hj : j < 2) : (encRW (mkX 1 n (j + 1) j, jz)).set (0 + 0 + j * 8 + 3) (.bool true) = encRW (mkX 1 n (j + 1) (j + 1), jz) := by
 rcases (show j = 0 ∨ j = 1 by omega) with rfl | rfl <;> rfl
theorem conn_b (n : Nat) : ((connW n).e 0).b = [] ∧ ((connW n).e 1).b = [] ∧ (connW n).wt = [] := ⟨rfl, rfl, rfl⟩
theorem conn_set {w : WA} {n : Nat} {y z : WireA} (h : n < w.ws.length) : (w.addW y).setW n z = (w.setW n z).addW y := by
 show ({ w with ws := (w.ws ++ [y]).set n z } : WA) = { w with ws := w.ws.set n z ++ [y] }
 rw [List.set_append_left _ _ h]
theorem rConn0_ct (L : List SP) (b : Nat) (w : WA) (n m : Int) (hn : n < 0 ∨ (w.ws.length : Int) ≤ n) : Ct Tryz.prog 134 #[.pointer (some ⟨b, 0, none⟩), .int .i64 n, .int .i64 m] (RwP b w :: L) (fun _ : Unit => .tuple #[.int .i64 0, .int .i64 116]) (fun _ : Unit => RwP b w :: L) := by
 refine Ct.o3 Tryz.func134 ?_; intro E
 show Hd E 149 _ _ _ _
 refine Hd.rw .here (fun i hi => ?_)
 have hrl := rows_n hi
 refine sr fun _ hK1 => ?_
 refine yv y_as <| yv y_as <| fk [(0, _), (1, _), (2, _)] hK1 ?_; refine Hd.seq fun _ hK2 => ?_
 refine sr fun _ hK3 => ?_
 refine yv y_mv <| yv (y_lss rfl rfl) ?_; refine yv y_mv <| Hd.part (gd := 13) rfl (fun hg1_13 => ?_) (fun hg1_13 => ?_)
 ·try simp only [hyZ] at hg1_13
  refine n1 <| n1 <| n1 <| n1 <| n1 <| n1 <| n1 <| yv (y_pickT rfl rfl) ?_; refine yv y_mv <| Hd.part (gd := 22) rfl (fun hg1_22 => ?_) (fun hg1_22 => ?_)
  ·try simp only [hyZ] at hg1_22
   refine n1 <| n1 <| n1 <| n1 <| n1 <| n1 <| n1 <| n1 <| n1 <| yv (y_pickT rfl rfl) ?_; refine yv y_mv <| Hd.part (gd := 33) rfl (fun hg1_33 => ?_) (fun hg1_33 => ?_)
   ·try simp only [hyZ] at hg1_33
    refine n1 <| n1 <| n1 <| n1 <| n1 <| n1 <| n1 <| n1 <| n1 <| n1 <| n1 <| yv (y_pickT rfl rfl) ?_; refine fk [(0, _), (1, _), (2, _), (45, _)] hK3 ?_; refine Hd.condT rfl ?_; refine sr fun _ hK4 => ?_
    refine yv y_as <| yv y_as <| fk [(6, _), (7, _)] hK4 ?_; refine Hd.ret <| Hd.thenRet ?_; exact Hd.ret2 rfl () rfl rfl rfl (rw_fold hi)
   ·try simp only [hyZ] at hg1_33
    exfalso; simp at hg1_33; done
  ·try simp only [hyZ] at hg1_22
   exfalso; simp at hg1_22; done
 ·try simp only [hyZ] at hg1_13
  refine y2 y_mv <| y2 y_mv <| y2 y_np <| y2 (y_f 0 129 Tryz.underlying133 sz129) ?_; refine y2 (y_l1 ag129 rfl) ?_; refine y2 (y_len Tryz.underlying129 rfl) ?_; refine y2 (y_geq rfl rfl) ?_; refine yv (y_pickF rfl rfl) ?_; refine yv y_mv <| Hd.part (gd := 22) rfl (fun hg1_22 => ?_) (fun hg1_22 => ?_)
  ·try simp only [hyZ] at hg1_22
   refine n1 <| n1 <| n1 <| n1 <| n1 <| n1 <| n1 <| n1 <| n1 <| yv (y_pickT rfl rfl) ?_; refine yv y_mv <| Hd.part (gd := 33) rfl (fun hg1_33 => ?_) (fun hg1_33 => ?_)
   ·try simp only [hyZ] at hg1_33
    refine n1 <| n1 <| n1 <| n1 <| n1 <| n1 <| n1 <| n1 <| n1 <| n1 <| n1 <| yv (y_pickT rfl rfl) ?_; refine fk [(0, _), (1, _), (2, _), (45, _)] hK3 ?_; refine Hd.condT rfl ?_; refine sr fun _ hK5 => ?_
    refine yv y_as <| yv y_as <| fk [(6, _), (7, _)] hK5 ?_; refine Hd.ret <| Hd.thenRet ?_; exact Hd.ret2 rfl () rfl rfl rfl (rw_fold hi)
   ·try simp only [hyZ] at hg1_33
    exfalso; simp at hg1_33; done
  ·try simp only [hyZ] at hg1_22
   exfalso; omega
theorem rConn1_ct (L : List SP) (b : Nat) (w : WA) (hw : WOk w) (n : Nat) (x : WireA) (hx : w.ws[n]? = some x) (m : Int) : Ct Tryz.prog 134 #[.pointer (some ⟨b, 0, none⟩), .int .i64 (n : Int), .int .i64 m] (RwP b w :: L) (fun _ : Unit => .tuple #[.int .i64 (connR w n m).1.1, .int .i64 (connR w n m).1.2]) (fun _ : Unit => RwP b (connR w n m).2 :: L) := by
 refine Ct.o3 Tryz.func134 ?_; intro E
 show Hd E 149 _ _ _ _
 refine Hd.rw .here (fun i hi => ?_)
 have hrl := rows_n hi
 obtain ⟨j, hrow⟩ := row_at hi hx
 have hn : n < i.1.length := (List.getElem?_eq_some_iff.1 hrow).1
 have hlen := hw.len
 have hwt := wt_le hw hx
 have hcr := conn_yes (m := m) hx
 refine sr fun _ hK1 => ?_
 refine yv y_as <| yv y_as <| fk [(0, _), (1, _), (2, _)] hK1 ?_; refine Hd.seq fun _ hK2 => ?_
 refine sr fun _ hK3 => ?_
 refine yv y_mv <| yv (y_lss rfl rfl) ?_; refine yv y_mv <| Hd.part (gd := 13) rfl (fun hg1_13 => ?_) (fun hg1_13 => ?_)
 ·try simp only [hyZ] at hg1_13
  exfalso; omega
 ·try simp only [hyZ] at hg1_13
  refine y2 y_mv <| y2 y_mv <| y2 y_np <| y2 (y_f 0 129 Tryz.underlying133 sz129) ?_; refine y2 (y_l1 ag129 rfl) ?_; refine y2 (y_len Tryz.underlying129 rfl) ?_; refine y2 (y_geq rfl rfl) ?_; refine yv (y_pickF rfl rfl) ?_; refine yv y_mv <| Hd.part (gd := 22) rfl (fun hg1_22 => ?_) (fun hg1_22 => ?_)
  ·try simp only [hyZ] at hg1_22
   exfalso; omega
  ·try simp only [hyZ] at hg1_22
   refine y2 y_mv <| y2 y_np <| y2 (y_f 0 129 Tryz.underlying133 sz129) ?_; refine y2 (y_l1 ag129 rfl) ?_; refine y2 y_mv <| y2 (y_idxR Tryz.underlying129 sz221 rfl rfl (by omega) (by exact RdS.own pkk)) ?_; refine y2 (y_fR 18 3 Tryz.underlying221 sz3) ?_; refine y2 (y_rw ag3 rfl hrow 18 rfl) ?_; refine y2 (y_eql rfl rfl) ?_; refine yv (y_pickF rfl rfl) ?_; refine yv y_mv <| Hd.part (gd := 33) rfl (fun hg1_33 => ?_) (fun hg1_33 => ?_)
   ·try simp only [hyZ] at hg1_33
    refine n1 <| n1 <| n1 <| n1 <| n1 <| n1 <| n1 <| n1 <| n1 <| n1 <| n1 <| yv (y_pickT rfl rfl) ?_; refine fk [(0, _), (1, _), (2, _), (45, _)] hK3 ?_; refine Hd.condT rfl ?_; refine sr fun _ hK4 => ?_
    refine yv y_as <| yv y_as <| fk [(6, _), (7, _)] hK4 ?_; refine Hd.ret <| Hd.thenRet ?_
    have h1 : x.bl = 0 := by simpa using hg1_33
    rw [hcr, if_pos (.inl h1)]; exact Hd.ret2 rfl () rfl rfl rfl (rw_fold hi)
   ·try simp only [hyZ] at hg1_33
    refine y2 y_mv <| y2 y_np <| y2 (y_f 0 129 Tryz.underlying133 sz129) ?_; refine y2 (y_l1 ag129 rfl) ?_; refine y2 y_mv <| y2 (y_idxR Tryz.underlying129 sz221 rfl rfl (by omega) (by exact RdS.own pkk)) ?_; refine y2 (y_fR 0 219 Tryz.underlying221 sz219) ?_; refine y2 (y_idxAR Tryz.underlying219 sz218 rfl rfl (by decide)) ?_; refine y2 (y_fR 0 3 Tryz.underlying218 sz3) ?_; refine y2 (y_rc ag3 rfl hrow (k := 0) (by decide) 0 rfl (ho := by show n * 20 + 0 + 0 * 8 + 0 = n * 20 + 0 * 8 + 0; omega)) ?_; refine y2 (y_neq rfl rfl) ?_; refine yv (y_pickF rfl rfl) ?_; refine fk [(0, _), (1, _), (2, _), (45, _)] hK3 ?_; refine Hd.cond rfl (fun hc0 => ?_) (fun hc0 => ?_)
    ·try simp only [hyZ] at hc0
     refine sr fun _ hK5 => ?_
     refine yv y_as <| yv y_as <| fk [(6, _), (7, _)] hK5 ?_; refine Hd.ret <| Hd.thenRet ?_
     have h1 : (x.e 0).what ≠ 1 := by simpa using hc0
     rw [hcr, if_pos (.inr h1)]; exact Hd.ret2 rfl () rfl rfl rfl (rw_fold hi)
    ·try simp only [hyZ] at hc0
     have hbl : ¬ (x.bl = 0) := by simpa using hg1_33
     have hwh : (x.e 0).what = 1 := by simpa using hc0
     rw [if_neg (by rintro (h | h); exact hbl h; exact h hwh)] at hcr; refine Hd.skip <| Hd.toK hK2 ?_; refine Hd.seq fun _ hK6 => ?_
     refine sr fun _ hK7 => ?_
     refine yv y_mv <| yv (y_lss rfl rfl) ?_; refine yv y_mv ?_; apply Hd.org 3 48 51 [(0, _), (1, _), (2, _)] rfl sbq
     ·intro _
      simp only [List.take]; refine n1 <| n1 <| yv (y_pickT rfl rfl) ?_; refine Hd.nil ?_; exact Hd.mq
     ·intro _
      simp only [List.take]; refine y2 y_mv <| y2 (y_gtr rfl rfl) ?_; refine yv (y_pickF rfl rfl) ?_; refine Hd.nil ?_; exact Hd.mq
     simp only [List.drop]; refine fk [(0, _), (1, _), (2, _), (51, _)] hK7 ?_; refine Hd.cond rfl (fun hc1 => ?_) (fun hc1 => ?_)
     ·try simp only [hyZ] at hc1
      refine sr fun _ hK8 => ?_
      refine yv y_as <| yv y_as <| fk [(6, _), (7, _)] hK8 ?_; refine Hd.ret <| Hd.thenRet ?_; rw [hcr, if_pos (by omega)]; exact Hd.ret2 rfl () rfl rfl rfl (rw_fold hi)
     ·try simp only [hyZ] at hc1
      rw [if_neg (by omega)] at hcr; refine Hd.skip <| Hd.toK hK6 ?_; refine Hd.seq fun _ hK9 => ?_
      refine Hd.seq fun _ hK10 => ?_
      refine Hd.quiet mixed kq ?_; refine Hq.yv y_mv ?_; refine Hq.yv y_np ?_; refine Hq.yv (y_f 0 129 Tryz.underlying133 sz129) ?_; refine Hq.yv (y_l1 ag129 rfl) ?_; refine Hq.yv y_mv ?_; refine Hq.yv (y_idxR Tryz.underlying129 sz221 rfl rfl (by omega) (by exact RdS.own pkk)) ?_; refine Hq.yv (y_fR 19 44 Tryz.underlying221 sz44) ?_; refine Hq.yv (y_rw ag44 rfl hrow 19 rfl) ?_; refine Hq.yv (y_len Tryz.underlying44 rfl) ?_; refine Hq.yv y_mv ?_; refine Hq.yv y_np ?_; refine Hq.yv (y_f 0 129 Tryz.underlying133 sz129) ?_; refine Hq.yv (y_l1 ag129 rfl) ?_; refine Hq.yv y_mv ?_; refine Hq.yv (y_idxR Tryz.underlying129 sz221 rfl rfl (by omega) (by exact RdS.own pkk)) ?_; refine Hq.yv (y_fR 18 3 Tryz.underlying221 sz3) ?_; refine Hq.yv (y_rw ag3 rfl hrow 18 rfl) ?_; refine Hq.yv (y_geq rfl rfl) ?_; refine Hq.nil ?_; refine sk [(0, _), (1, _), (2, _), (69, _)] hK10 ?_; refine Hd.cond rfl (fun hc2 => ?_) (fun hc2 => ?_)
      ·try simp only [hyZ] at hc2
       refine sr fun _ hK11 => ?_
       refine yv y_as <| yv y_as <| fk [(6, _), (7, _)] hK11 ?_; refine Hd.ret <| Hd.thenRet ?_; rw [hcr, if_pos (by omega)]; exact Hd.ret2 rfl () rfl rfl rfl (rw_fold hi)
      ·try simp only [hyZ] at hc2
       rw [if_neg (by omega)] at hcr; refine Hd.skip <| Hd.toK hK9 ?_; refine Hd.seq fun _ hK12 => ?_
       refine sr fun _ hK13 => ?_
       refine yv y_mv <| yv y_np <| yv (y_f 0 129 Tryz.underlying133 sz129) ?_; refine yv (y_l1 ag129 rfl) ?_; refine yv (y_len Tryz.underlying129 rfl) ?_; refine yv (y_geq rfl rfl) ?_; refine fk [(0, _), (1, _), (2, _), (75, _)] hK13 ?_; refine Hd.cond rfl (fun hc3 => ?_) (fun hc3 => ?_)
       ·try simp only [hyZ] at hc3
        refine sr fun _ hK14 => ?_
        refine yv y_as <| yv y_as <| fk [(6, _), (7, _)] hK14 ?_; refine Hd.ret <| Hd.thenRet ?_; rw [hcr, if_pos (by omega)]; exact Hd.ret2 rfl () rfl rfl rfl (rw_fold hi)
       ·try simp only [hyZ] at hc3
        rw [if_neg (by omega)] at hcr
        obtain ⟨mm, rfl⟩ : ∃ k : Nat, m = (k : Int) := ⟨m.toNat, by omega⟩
        rw [Int.toNat_natCast] at hcr; refine Hd.skip <| Hd.toK hK12 ?_; refine sr fun _ hK15 => ?_
        refine yv y_mv <| yv (y_build (vs := [(1, _)]) rfl (bd_rx mm)) ?_; refine Hd.alloc zr221 (fun b8 => ?_); refine Hd.storeA (us := encRW (mkX 0 mm 0 0, jz)) sz221 rfl rfl rfl (encRW_one _) pkk (by exact rfl) ?_; refine fk [(0, _), (1, _), (8, _)] hK15 ?_; refine Hd.seq fun _ hK16 => ?_
        refine sr fun _ hK17 => ?_
        refine Hd.heap (pt b8 (encRW (mkX 1 mm 0 0, jz)) 221 :: RwL b w i L) (Ent.sep (.eq pkk (pt_eq (by rfl)) enn)) ?_; refine yv y_as <| fk [(0, _), (1, _), (8, _), (9, _)] hK17 ?_; refine Hd.block <| Hd.loopK (ι := Nat) [(0, _), (1, _), (8, _)] (fun q => [(9, .int .i64 (q : Int))]) (fun q => pu (q ≤ 2) :: pt b8 (encRW (mkX 1 mm q q, jz)) 221 :: RwL b w i L) (fun q => 2 - q) 0 sbq sbq (Ent.sep (.pure (by omega) enn)) ?_; intro q
        try dsimp only
        refine Hd.pure (fun hp0 => ?_)
        try dsimp only at hp0
        refine Hd.seq fun _ hK18 => ?_
        refine sr fun _ hK19 => ?_
        refine yv y_mv <| yv (y_lss rfl rfl) ?_; refine fk [(0, _), (1, _), (8, _), (9, _), (79, _)] hK19 ?_; refine Hd.cond rfl (fun hc4 => ?_) (fun hc4 => ?_)
        ·try simp only [hyZ] at hc4
         have hq : q < 2 := by omega
         refine Hd.skip <| Hd.toK hK18 ?_; refine Hd.seq fun _ hK20 => ?_
         refine Hd.block <| sr fun _ hK21 => ?_
         refine yv y_mv <| yv (y_f 0 219 Tryz.underlying221 sz219) ?_; refine yv (y_idxA Tryz.underlying219 sz218 rfl rfl (by omega)) ?_; refine yv (y_f 2 4 Tryz.underlying218 sz4) ?_; refine Hd.store1 sz4 rfl rfl rfl pkk (by simp; omega) ?_
         try simp only [hyS]
         refine Hd.nil ?_; rw [mkX1_r mm q hq]; refine sk [(0, _), (1, _), (8, _), (9, _)] hK21 ?_; refine Hd.region <| yv y_mv <| yv (y_f 0 219 Tryz.underlying221 sz219) ?_; refine yv (y_idxA Tryz.underlying219 sz218 rfl rfl (by omega)) ?_; refine yv (y_f 3 4 Tryz.underlying218 sz4) ?_; refine Hd.store1 sz4 rfl rfl rfl pkk (by simp; omega) ?_
         try simp only [hyS]
         refine Hd.nil ?_; rw [mkX1_w mm q hq]; refine slots [(0, _), (1, _), (8, _), (9, _)] sbq ?_; refine Hd.inB <| Hd.toK hK20 ?_; refine Hd.region <| yv y_mv <| yv (y_addn rfl rfl (by simp only [InK]; omega)) ?_; refine yv y_as <| Hd.nil <| slots [(0, _), (1, _), (8, _), (9, _)] sbq ?_; refine thenN ?_; exact Hd.again (q + 1) (by omega) sbq (Ent.sep (.pure (by omega) enn))
        ·try simp only [hyZ] at hc4
         obtain rfl : q = 2 := by omega
         refine Hd.exit <| Hd.thenExit <| Hd.thenExit <| Hd.inBexit <| Hd.toK hK16 ?_; refine sr fun _ hK22 => ?_
         refine yv (y_f 0 219 Tryz.underlying221 sz219) ?_; refine yv (y_idxA Tryz.underlying219 sz218 rfl rfl (by decide)) ?_; refine yv (y_f 0 3 Tryz.underlying218 sz3) ?_; refine Hd.store1 sz3 rfl rfl rfl pkk (by simp; done) ?_
         try simp only [hyS]
         refine Hd.nil ?_; rw [show (encRW (mkX 1 mm 2 2, jz)).set (0 + 0 + 1 * 8 + 0) (.int .i64 2) = encRW (connW mm, jz) from rfl]; refine Hd.bagOut pkk hrow ?_; refine Hd.sd .here 0 (by decide) ?_; refine Hd.heap (own 3 1 none 0 0 [] :: _) (Ent.sep (.ownNil .same)) ?_; refine sk [(0, _), (1, _), (8, _)] hK22 ?_; refine sr fun _ hK23 => ?_
         refine yv y_as <| fk [(0, _), (1, _), (8, _), (10, _)] hK23 ?_; refine sr fun _ hK24 => ?_
         refine yv y_mv <| yv y_mv <| yv y_np <| yv (y_f 0 129 Tryz.underlying133 sz129) ?_; refine yv (y_l1 ag129 rfl) ?_; refine yv y_mv <| yv (y_idxR Tryz.underlying129 sz221 rfl rfl (by omega) (by exact RdS.own pkk)) ?_; refine yv (y_fR 19 44 Tryz.underlying221 sz44) ?_; refine yv (y_to (v' := .slice j.wa x.wt.length j.wc) (y_rw ag44 rfl hrow 19 rfl) (by rfl)) ?_; refine Hd.append Tryz.underlying44 ty3 rfl rfl rfl (us := []) pkk (RdS.own (ad := j.wa) (us := nats x.wt) pkk) nat_one (by simp only [maxLen]; omega) (by omega) (fun ad102 cap102 => ?_); refine yv y_as <| Hd.nil ?_; rw [Nat.zero_add, List.nil_append]; refine sk [(0, _), (1, _), (8, _), (10, _)] hK24 ?_; refine Hd.seq fun _ hK25 => ?_
         refine Hd.drawsH ([RwH b w i.1.length i.2.1 i.2.2, OwR i]) (fun j => !([15].contains j)) mixed ?_; simp only [List.length, Nat.zero_add, Nat.reduceAdd]; refine tH 0 rfl y_mv ?_; refine tH 1 rfl y_np ?_; refine tH 2 rfl (y_f 0 129 Tryz.underlying133 sz129) ?_; refine tH 3 rfl (y_l1 ag129 rfl) ?_; refine tH 4 rfl y_mv ?_; refine tH 5 rfl y_mv ?_; refine tH 6 rfl y_mv ?_; refine tH 7 rfl y_np ?_; refine tH 8 rfl (y_f 0 129 Tryz.underlying133 sz129) ?_; refine tH 9 rfl (y_l1 ag129 rfl) ?_; refine tH 10 rfl (y_len Tryz.underlying129 rfl) ?_; refine onlyH 11 rfl kq ?_; refine Hd.bslice (vs := [(0, _)]) rfl (by exact bs134_114 ..) (fun b114 => ?_); refine Hd.nil <| thenN <| heldK (J := (fun j => !([15].contains j))) (i := 11) sq ?_; refine onlyH 12 rfl kq ?_; refine Hd.append Tryz.underlying44 ty3 rfl rfl rfl pkk (by exact RdS.rd (Rd.pt pkk (fun j v e => by simpa using e)) rfl) (by simp [Value.oneCell']; done) (by simp only [maxLen]; omega) (by omega) (fun ad115 cap115 => ?_)
         refine Hd.nil <| thenN <| heldK (J := (fun j => !([15].contains j))) (i := 12) sq ?_; refine onlyH 13 rfl kq ?_; refine yv (y_idxR Tryz.underlying129 sz221 rfl rfl (by omega) (by exact RdS.own pkk)) ?_; refine Hd.nil <| thenN <| heldK (J := (fun j => !([15].contains j))) (i := 13) sq ?_; refine tH 14 rfl (y_fR 19 44 Tryz.underlying221 sz44) ?_; refine onlyH 15 rfl kq ?_; refine Hd.storeO1 sz44 rfl rfl rfl pkk (by rw [rows_len encRW_len]; omega) ?_
         try simp only [hyS]
         refine Hd.nil <| thenN <| Hd.heldN (J := (fun j => !([15].contains j))) (i := 15) rfl ?_; refine endH kq ?_; rw [rset_wts (l := x.wt ++ [w.ws.length]) hrow (by omega) (by simp)]
         obtain ⟨X1, hX1⟩ : ∃ X1, X1 = x.wts (x.wt ++ [w.ws.length]) := ⟨_, rfl⟩
         have hx3 : (w.setW n X1).ws[n]? = some X1 := setW_self hx
         have hup : (X1.up 0 fun e => { e with inn := IntKind.u64.wrap ((X1.e 0).inn + 1) }) = waitW x w.ws.length := by
          rw [hX1]; exact (up_eq (x := x.wts (x.wt ++ [w.ws.length])) (k := 0) (g := fun e => { e with inn := IntKind.u64.wrap (e.inn + 1) }) rfl).trans rfl
         refine Hd.heap (RwP b (w.setW n (x.wts (x.wt ++ [w.ws.length]))) :: pt b8 (encRW (connW mm, jz)) 221 :: L) (fun q s => rw_put hi hn q (Ent.sep enn q (sd_wts (X := x) (j := j) (l := x.wt ++ [w.ws.length]) (a := ad115) (c := cap115) q (Ent.sep (.eq pkk (own_eq3 (by simp) rfl (by simp [nats, hrl])) enn) q s)))) ?_; rw [← hX1]; refine Hd.rw .here (fun i3 hi3 => ?_)
         have hrl3 := rows_n hi3
         obtain ⟨j3, hrow3⟩ := row_at hi3 hx3
         have hn3 : n < i3.1.length := (List.getElem?_eq_some_iff.1 hrow3).1
         refine sk [(0, _), (1, _), (8, _)] hK25 ?_; refine Hd.seq fun _ hK26 => ?_
         refine Hd.drawsH ([RwH b (w.setW n X1) i3.1.length i3.2.1 i3.2.2, OwR i3]) (fun j => !([15].contains j)) mixed ?_; simp only [List.length, Nat.zero_add, Nat.reduceAdd]; refine tH 0 rfl y_mv ?_; refine tH 1 rfl y_np ?_; refine tH 2 rfl (y_f 0 129 Tryz.underlying133 sz129) ?_; refine tH 3 rfl (y_l1 ag129 rfl) ?_; refine tH 4 rfl y_mv ?_; refine tH 5 rfl (y_idxR Tryz.underlying129 sz221 rfl rfl (by omega) (by exact RdS.own pkk)) ?_; refine tH 6 rfl (y_fR 0 219 Tryz.underlying221 sz219) ?_; refine tH 7 rfl (y_idxAR Tryz.underlying219 sz218 rfl rfl (by decide)) ?_; refine tH 8 rfl (y_fR 6 30 Tryz.underlying218 sz30) ?_; refine tH 9 rfl (y_rc ag30 rfl hrow3 (k := 0) (by decide) 6 rfl (ho := by show n * 20 + 0 + 0 * 8 + 6 = n * 20 + 0 * 8 + 6; omega)) ?_; refine tH 10 rfl (y_add rfl rfl) ?_; refine onlyH 11 rfl kq ?_; refine yv (y_idxR Tryz.underlying129 sz221 rfl rfl (by omega) (by exact RdS.own pkk)) ?_
         refine Hd.nil <| thenN <| heldK (J := (fun j => !([15].contains j))) (i := 11) sq ?_; refine onlyH 12 rfl kq ?_; refine yv (y_fR 0 219 Tryz.underlying221 sz219) ?_; refine Hd.nil <| thenN <| heldK (J := (fun j => !([15].contains j))) (i := 12) sq ?_; refine onlyH 13 rfl kq ?_; refine yv (y_idxAR Tryz.underlying219 sz218 rfl rfl (by decide)) ?_; refine Hd.nil <| thenN <| heldK (J := (fun j => !([15].contains j))) (i := 13) sq ?_; refine tH 14 rfl (y_fR 6 30 Tryz.underlying218 sz30) ?_; refine onlyH 15 rfl kq ?_; refine Hd.storeO1 sz30 rfl rfl rfl pkk (show n * 20 + 0 + 0 * 8 + 6 < (i3.1.flatMap encRW).length by rw [rows_len encRW_len]; omega) ?_; refine Hd.nil <| thenN <| Hd.heldN (J := (fun j => !([15].contains j))) (i := 15) rfl ?_; refine endH kq ?_; rw [rset_inn (k := 0) (o := n * 20 + 0 + 0 * 8 + 6) hrow3 (by decide) (by omega), hup]
         refine Hd.heap (RwP b (w.setW n (waitW x w.ws.length)) :: pt b8 (encRW (connW mm, jz)) 221 :: L) (fun q s => by
          have h := rw_head (x' := waitW x w.ws.length) (L := pt b8 (encRW (connW mm, jz)) 221 :: L) hi3 hrow3 (fun k hk => by rw [← hup]; exact up_b X1 0 (f := fun e => { e with inn := IntKind.u64.wrap ((X1.e 0).inn + 1) }) (fun _ => rfl) k) (by rw [← hup]; rfl) q (Ent.sep enn q s)
          rwa [setW_setW] at h) ?_
         refine Hd.rw .here (fun i4 hi4 => ?_)
         have hrl4 := rows_n hi4
         rw [setW_len] at hrl4; refine sk [(0, _), (8, _)] hK26 ?_; refine Hd.seq fun _ hK27 => ?_
         refine Hd.drawsH ([RwH b (w.setW n (waitW x w.ws.length)) i4.1.length i4.2.1 i4.2.2, pt b8 (encRW (connW mm, jz)) 221]) (fun j => !([10].contains j)) mixed ?_; simp only [List.length, Nat.zero_add, Nat.reduceAdd]; refine tH 0 rfl y_mv ?_; refine tH 1 rfl y_mv ?_; refine tH 2 rfl y_np ?_; refine tH 3 rfl (y_f 0 129 Tryz.underlying133 sz129) ?_; refine tH 4 rfl (y_l1 ag129 rfl) ?_; refine tH 5 rfl (y_loadn ag221 rfl (Rd.pt pkk (by exact fun j v e => by rw [Nat.zero_add]; exact e)) (by exact sz221)) ?_; refine onlyH 6 rfl kq ?_; refine Hd.bslice (vs := [(0, _)]) rfl (by exact bs134_139 ..) (fun b139 => ?_); refine Hd.nil <| thenN <| heldK (J := (fun j => !([10].contains j))) (i := 6) sq ?_; refine onlyH 7 rfl kq ?_; refine Hd.append Tryz.underlying129 ty221 rfl rfl rfl pkk (by exact RdS.rd (Rd.pt pkk (fun j v e => by simpa using e)) rfl) (by simp [Value.oneCell']; done) (by simp only [maxLen]; omega) (by omega) (fun ad140 cap140 => ?_)
         refine Hd.nil <| thenN <| heldK (J := (fun j => !([10].contains j))) (i := 7) sq ?_; refine onlyH 8 rfl kq ?_; refine yv y_np <| Hd.nil <| thenN <| heldK (J := (fun j => !([10].contains j))) (i := 8) sq ?_; refine tH 9 rfl (y_f 0 129 Tryz.underlying133 sz129) ?_; refine onlyH 10 rfl kq ?_; refine Hd.store1 sz129 rfl rfl rfl pkk (by simp; done) ?_
         try simp only [hyS]
         refine Hd.nil <| thenN <| Hd.heldN (J := (fun j => !([10].contains j))) (i := 10) rfl ?_; refine endH kq ?_; refine Hd.heap (RwP b ((w.setW n (waitW x w.ws.length)).addW (connW mm)) :: L) (fun q s => rw_add (i := i4) hi4 (conn_b mm) q (by exact Ent.sep (.pick pkk (.eq pkk (own_eq3 rfl rfl (by rfl)) enn)) q s)) ?_; rw [← conn_set (w := w) (n := n) (by omega)]; refine Hd.rw .here (fun i5 hi5 => ?_)
         have hrl5 := rows_n hi5
         rw [setW_len, show (w.addW (connW mm)).ws.length = w.ws.length + 1 from by show (w.ws ++ [_]).length = _; rw [List.length_append]; rfl] at hrl5; refine sk [(0, _)] hK27 ?_; refine sr fun _ hK28 => ?_
         refine yv y_mv <| yv y_np <| yv (y_f 0 129 Tryz.underlying133 sz129) ?_; refine yv (y_l1 ag129 rfl) ?_; refine yv (y_len Tryz.underlying129 rfl) ?_; refine yv (y_to (v' := .int .i64 ((w.ws.length : Nat) : Int)) (y_subn rfl rfl (by simp only [InK]; omega)) (by (congr 1; omega))) ?_; refine yv y_as <| yv y_as <| fk [(6, _), (7, _)] hK28 ?_; refine Hd.ret ?_; rw [hcr]; exact Hd.ret2 rfl () rfl rfl rfl (rw_fold hi5)
theorem rConnect_ct (L : List SP) (b : Nat) (w : WA) (hw : WOk w) (n m : Int) : Ct Tryz.prog 134 #[.pointer (some ⟨b, 0, none⟩), .int .i64 n, .int .i64 m] (RwP b w :: L) (fun _ : Unit => .tuple #[.int .i64 (connR w n m).1.1, .int .i64 (connR w n m).1.2]) (fun _ => RwP b (connR w n m).2 :: L) := by
 by_cases h : n < 0 ∨ (w.ws.length : Int) ≤ n
 ·have e : connR w n m = ((0, 116), w) := by
   unfold connR
   by_cases h0 : n < 0
   ·rw [if_pos h0]
   ·rw [if_neg h0, List.getElem?_eq_none (by omega)]
  rw [e]; exact rConn0_ct L b w n m h
 ·obtain ⟨q, rfl⟩ : ∃ q : Nat, n = (q : Int) := ⟨n.toNat, by omega⟩
  exact rConn1_ct L b w hw q _ (List.getElem?_eq_getElem (by omega)) m
end Rf
end Go.Proofs.YtbfddabjbkohdaaGreat
namespace Go.RX
def u8of (i : Int) : UInt8 := UInt8.ofNat i.toNat
theorem B_u8of {i : Int} (h : InK .u8 i) : B (u8of i) = .int .u8 i := by
 simp only [InK] at h
 have : ((u8of i).toNat : Int) = i := by
  unfold u8of
  have h1 : i.toNat < 256 := by omega
  simp only [UInt8.toNat_ofNat']; omega
 rw [B, this]
theorem map_u8of {l : List Int} (h : ∀ y ∈ l, InK .u8 y) : (l.map u8of).map B = l.map (Value.int .u8) := by
 rw [List.map_map]; exact List.map_congr_left fun y hy => B_u8of (h y hy)
theorem rd_u8 {W : World} {x : (Sh.slice (.int .u8)).T} (h : (Sh.slice (.int .u8)).ok W x) : RdS [Old W] 1 x.ad (x.l.map u8of).length ((x.l.map u8of).map B) := by
 rw [map_u8of h.2.2.2.2, List.length_map]; exact rd_int h
end Go.RX
namespace Go.Proofs.YtbfddabjbkohdaaGreat
set_option maxHeartbeats 2000000
open Go.RX.Hd (yv y2 n1 fk sk sr tH callE heldK onlyH endH thenN slots)
open Go.RX Fx
namespace Wo
set_option maxRecDepth 8000
abbrev encO (o : Ov) : List Value := [.int .i64 o.k, .int .i64 o.a, .int .i64 o.n, .int .u64 o.t, .slice o.ad o.d.length o.c]
structure OvOk (L : List SP) (o : Ov) : Prop where
 rd : RdS L 1 o.ad o.d.length (bsl o.d)
 c : o.d.length ≤ o.c
 k : InK .i64 o.k
 a : InK .i64 o.a
 n : InK .i64 o.n
 t : InK .u64 o.t
def gO (xs : List Ov) : Int := if 200 < xs.length then 1 else if ∀ o ∈ xs, o.d.length ≤ 300 then 0 else 1
theorem gO_ok {xs : List Ov} (h : ¬ 0 < gO xs) : xs.length ≤ 200 ∧ ∀ o ∈ xs, o.d.length ≤ 300 := by
 unfold gO at h
 split at h
 ·exact absurd (by decide) h
 ·split at h
  ·rename_i h1 h2; exact ⟨by omega, h2⟩
  ·exact absurd (by decide) h
theorem great11_ct (L : List SP) (ad : Option Addr) (c : Nat) (xs : List Ov) (hR : RdS L 5 ad xs.length (xs.flatMap encO)) : Ct Tryz.prog 14 #[.slice ad xs.length c] (L) (fun _ : Unit => .int .i64 (gO xs)) (fun _ : Unit => L) := by
 refine Ct.o1 Tryz.func14 ?_; intro E
 show Hd E 20 _ _ _ _
 refine sr fun _ hK1 => ?_
 refine yv y_as <| fk [(0, _)] hK1 ?_; refine Hd.seq fun _ hK2 => ?_
 refine sr fun _ hK3 => ?_
 refine yv y_mv <| yv (y_len Tryz.underlying22 rfl) ?_; refine yv (y_gtr rfl rfl) ?_; refine fk [(0, _), (6, _)] hK3 ?_; refine Hd.cond rfl (fun hc0 => ?_) (fun hc0 => ?_)
 ·try simp only [hyZ] at hc0
  refine sr fun _ hK4 => ?_
  refine yv y_as <| fk [(2, _)] hK4 ?_; refine Hd.ret <| Hd.thenRet ?_; exact Hd.ret1 rfl () (by unfold gO; rw [if_pos (by omega)]; rfl) sq
 ·try simp only [hyZ] at hc0
  have hx : xs.length ≤ 200 := by omega
  refine Hd.skip <| Hd.toK hK2 ?_; refine Hd.seq fun _ hK5 => ?_
  refine sr fun _ hK6 => ?_
  refine yv y_mv <| yv (y_len Tryz.underlying22 rfl) ?_; refine yv y_mv <| fk [(0, _), (8, _), (9, _)] hK6 ?_; refine Hd.block <| Hd.loopK (ι := Nat) [(0, _), (8, _)] (fun i => [(9, .int .i64 (i : Int))]) (fun i => pu (i ≤ xs.length ∧ ∀ o ∈ xs.take i, o.d.length ≤ 300) :: L) (fun i => xs.length - i) 0 sbq sbq (Ent.sep (.pure ⟨Nat.zero_le _, fun o ho => by simp at ho⟩ enn)) ?_; intro i
  try dsimp only
  refine Hd.pure (fun hp0 => ?_)
  try dsimp only at hp0
  refine sr fun _ hK7 => ?_
  refine yv (y_lss rfl rfl) ?_; refine fk [(0, _), (8, _), (9, _), (10, _)] hK7 ?_; refine Hd.seq fun _ hK8 => ?_
  refine Hd.cond rfl (fun hc1 => ?_) (fun hc1 => ?_)
  ·try simp only [hyZ] at hc1
   have hi : i < xs.length := by omega
   obtain ⟨o, ho⟩ : ∃ o, xs[i]? = some o := ⟨_, List.getElem?_eq_getElem hi⟩
   refine Hd.skip <| Hd.toK hK8 ?_; refine Hd.seq fun _ hK9 => ?_
   refine Hd.block <| sr fun _ hK10 => ?_
   refine yv y_mv <| yv y_as <| fk [(0, _), (3, _), (8, _), (9, _)] hK10 ?_; refine sr fun _ hK11 => ?_
   refine yv y_mv <| yv y_mv <| yv (y_idxR Tryz.underlying22 sz33 rfl rfl (by omega) (by exact RdS.mono hR sq)) ?_; refine yv (y_fR 4 31 Tryz.underlying33 sz31) ?_; refine yv (y_loadR1 ag31 rfl (by exact RdS.mono hR sq) (by exact flat_cells encO 5 (fun _ => rfl) ho 4 _ rfl)) ?_; refine yv (y_len Tryz.underlying31 rfl) ?_; refine yv (y_gtr rfl rfl) ?_; refine fk [(0, _), (8, _), (9, _), (18, _)] hK11 ?_; refine Hd.cond rfl (fun hc2 => ?_) (fun hc2 => ?_)
   ·try simp only [hyZ] at hc2
    refine sr fun _ hK12 => ?_
    refine yv y_as <| fk [(2, _)] hK12 ?_; refine Hd.ret <| Hd.inBret <| Hd.thenRet <| Hd.thenRet <| Hd.inBret <| Hd.thenRet ?_; exact Hd.ret1 rfl () (by unfold gO; rw [if_neg (by omega), if_neg (fun h => by have := h o (List.mem_of_getElem? ho); omega)]; rfl) sq
   ·try simp only [hyZ] at hc2
    refine Hd.skip <| Hd.inB <| Hd.toK hK9 ?_; refine Hd.region <| yv (y_addn rfl rfl (by simp only [InK]; omega)) ?_; refine yv y_mv <| Hd.nil <| slots [(0, _), (8, _), (9, _)] sbq ?_; refine thenN ?_
    have hnew : ∀ q ∈ xs.take (i + 1), q.d.length ≤ 300 := by
     intro q hq; rw [List.take_add_one, ho] at hq
     rcases List.mem_append.1 hq with h | h
     ·exact hp0.2 q h
     ·obtain rfl : q = o := by simpa using h
      omega
    exact Hd.again (i + 1) (by omega) sbq (Ent.sep (.pure ⟨hi, hnew⟩ enn))
  ·try simp only [hyZ] at hc1
   refine Hd.exit <| Hd.thenExit <| Hd.thenExit <| Hd.inBexit <| Hd.toK hK5 ?_; refine sr fun _ hK13 => ?_
   refine yv y_as <| fk [(2, _)] hK13 ?_; refine Hd.ret ?_; exact Hd.ret1 rfl () (by unfold gO; rw [if_neg (by omega), if_pos (by rw [List.take_of_length_le (by omega)] at hp0; exact hp0.2)]; rfl) sq
theorem Hd.wokW {E : World} {n : Nat} {ds : List Deferred} {st : List (Nat × Value)} {L L' : List SP} {K : Act → World → Prop} {wb : Nat} {w : WA} (p : Pick L (WorldP wb w) L') (h : WOk w → Hd E n ds st L K) : Hd E n ds st L K := fun a v f s => by
 refine h ?_ a v f s
 obtain ⟨h1, s1, i, x⟩ := sep.one p s.2.2.2
 obtain ⟨_, _, _, _, _, hq, _⟩ := x
 exact hq.1
abbrev BoP (pb wb rb : Nat) : SP := pt pb [.pointer (some ⟨wb, 0, none⟩), .pointer (some ⟨rb, 0, none⟩)] 41
theorem fresh_ct (L : List SP) : Ct Tryz.prog 16 #[] (L) (fun q_ : Nat × Nat × Nat => .pointer (some ⟨q_.1, 0, none⟩)) (fun q_ : Nat × Nat × Nat => BoP q_.1 q_.2.1 q_.2.2 :: WorldP q_.2.1 newA :: Rf.RwP q_.2.2 newA :: L) := by
 refine Ct.o0 Tryz.func16 ?_; intro E
 show Hd E 5 _ _ _ _
 refine sr fun _ hK1 => ?_
 refine yv y_as <| fk [] hK1 ?_; refine sr fun _ hK2 => ?_
 refine callE rfl fk49 (wnew_ct _) sq ?_; intro wb; refine callE rfl fk53 (Rf.rNew_ct _) sq ?_; intro rb; refine yv (y_build (vs := [(0, _), (1, _)]) rfl (by exact bd16_3 ..)) ?_; refine Hd.box rfl rfl (fun b4 => ?_); refine yv y_as <| fk [(0, _)] hK2 ?_; refine Hd.ret ?_; exact Hd.ret1 rfl (b4, wb, rb) rfl sq
theorem more_ct (L : List SP) (pb wb rb : Nat) (w : WA) (K : Nat) (hK : K ≤ 100000000) (hl : Lo K w) (o : Ov) (hk : o.k < 0 ∨ 8 < o.k) (ht : InK .u64 o.t) (hd : o.d.length ≤ 300) (hR : RdS L 1 o.ad o.d.length (bsl o.d)) (hc : o.d.length ≤ o.c) (ad : Option Addr) (c : Nat) (hR2 : RdS L 1 ad o.d.length (bsl o.d)) (hc2 : o.d.length ≤ c) : Ct Tryz.prog 69 #[.pointer (some ⟨pb, 0, none⟩), .agg (encO o).toArray, .slice ad o.d.length c] (BoP pb wb rb :: WorldP wb w :: Rf.RwP rb w :: L) (fun _ : Unit => .bool true) (fun _ : Unit => BoP pb wb rb :: WorldP wb (doA w o) :: Rf.RwP rb (doA w o) :: L) := by
 refine Ct.o3 Tryz.func69 ?_; intro E
 show Hd E 333 _ _ _ _
 simp only [InK] at ht
 have hnow := hl.now
 have hb2 := hl.bd (B := 2000000000) (by omega)
 have hb1 := hl.bd (B := 1000000000) (by omega)
 refine Hd.wokW (.there .here) (fun hw => ?_); refine sr fun _ hK1 => ?_
 refine Hd.box rfl rfl (fun b4 => ?_); refine yv y_as <| fk [(0, _), (2, _), (4, _)] hK1 ?_; refine Hd.seq fun _ hK2 => ?_
 refine sr fun _ hK3 => ?_
 refine yv (y_f 0 3 Tryz.underlying33 sz3) ?_; refine yv (y_l1 ag3 rfl) ?_; refine fk [(0, _), (2, _), (4, _), (33, _)] hK3 ?_; refine Hd.block <| sr fun _ hK4 => ?_
 refine yv (y_eql rfl rfl) ?_; refine yv y_as <| fk [(0, _), (2, _), (4, _), (33, _), (34, _)] hK4 ?_; refine Hd.cond rfl (fun hc0 => ?_) (fun hc0 => ?_)
 ·try simp only [hyZ] at hc0
  refine Hd.seq fun _ hK5 => ?_
  refine Hd.drawsH ([BoP pb wb rb, pt b4 (encO o) 33]) (fun _ => true) mixed ?_; simp only [List.length, Nat.zero_add, Nat.reduceAdd]; refine tH 0 rfl y_mv ?_; refine tH 1 rfl y_np ?_; refine tH 2 rfl (y_f 0 38 Tryz.underlying41 sz38) ?_; refine tH 3 rfl (y_l1 ag38 rfl) ?_; refine tH 4 rfl (y_f 1 3 Tryz.underlying33 sz3) ?_; refine tH 5 rfl (y_l1 ag3 rfl) ?_; refine tH 6 rfl y_mv ?_; refine onlyH 7 rfl kq ?_; refine callE rfl fk52 (wput_ct _ wb w o.a ad o.d.length c o.d rfl ?hD (by omega) hc2) sq ?_
  case hD => exact RdS.mono hR2 sq
  intro _; refine Hd.nil <| thenN <| heldK (J := (fun _ => true)) (i := 7) sq ?_; refine tH 8 rfl y_mv ?_; refine tH 9 rfl y_ex ?_; refine tH 10 rfl y_ex ?_; refine tH 11 rfl y_as ?_; refine tH 12 rfl y_as ?_; refine endH kq ?_; refine sk [(0, _), (4, _), (7, _), (8, _)] hK5 ?_; refine Hd.seq fun _ hK6 => ?_
  refine Hd.drawsH ([BoP pb wb rb, pt b4 (encO o) 33]) (fun _ => true) mixed ?_; simp only [List.length, Nat.zero_add, Nat.reduceAdd]; refine tH 0 rfl y_mv ?_; refine tH 1 rfl y_np ?_; refine tH 2 rfl (y_f 1 39 Tryz.underlying41 sz39) ?_; refine tH 3 rfl (y_l1 ag39 rfl) ?_; refine tH 4 rfl (y_f 1 3 Tryz.underlying33 sz3) ?_; refine tH 5 rfl (y_l1 ag3 rfl) ?_; refine tH 6 rfl (y_f 4 31 Tryz.underlying33 sz31) ?_; refine tH 7 rfl (y_l1 ag31 rfl) ?_; refine onlyH 8 rfl kq ?_; refine callE rfl fk124 (Rf.rPut_ct _ rb w hw o.a o.ad o.d.length o.c o.d rfl ?hD (by omega) hc) sq ?_
  case hD => exact RdS.mono hR sq
  intro _; refine Hd.nil <| thenN <| heldK (J := (fun _ => true)) (i := 8) sq ?_; refine tH 9 rfl y_mv ?_; refine tH 10 rfl y_ex ?_; refine tH 11 rfl y_ex ?_; refine tH 12 rfl y_as ?_; refine tH 13 rfl y_as ?_; refine endH kq ?_; refine sk [(7, _), (8, _), (9, _), (10, _)] hK6 ?_; refine sr fun _ hK7 => ?_
  refine yv y_mv <| yv y_mv <| yv (y_eqlT rfl rfl) ?_; refine yv y_mv ?_; apply Hd.andg 4 62 66 [] rfl sbq
  ·intro _
   simp only [List.take]; refine y2 y_mv <| y2 y_mv <| y2 (y_eqlT rfl rfl) ?_; refine yv (y_pickT rfl rfl) ?_; refine Hd.nil ?_; exact Hd.mq
  ·intro _
   simp only [List.take]; refine n1 <| n1 <| n1 <| yv (y_pickF rfl rfl) ?_; refine Hd.nil ?_; exact Hd.mq
  simp only [List.drop]; refine yv y_as <| fk [(6, _)] hK7 ?_; refine Hd.ret <| Hd.inBret <| Hd.thenRet ?_; rw [do_9 hc0]; exact Hd.ret1 rfl () (by rfl) sq
 ·try simp only [hyZ] at hc0
  refine sr fun _ hK8 => ?_
  refine yv (y_eql rfl rfl) ?_; refine yv y_as <| fk [(0, _), (4, _), (33, _), (67, _)] hK8 ?_; refine Hd.cond rfl (fun hc1 => ?_) (fun hc1 => ?_)
  ·try simp only [hyZ] at hc1
   refine Hd.seq fun _ hK9 => ?_
   refine Hd.drawsH ([BoP pb wb rb, pt b4 (encO o) 33]) (fun _ => true) mixed ?_; simp only [List.length, Nat.zero_add, Nat.reduceAdd]; refine tH 0 rfl y_mv ?_; refine tH 1 rfl y_np ?_; refine tH 2 rfl (y_f 0 38 Tryz.underlying41 sz38) ?_; refine tH 3 rfl (y_l1 ag38 rfl) ?_; refine tH 4 rfl (y_f 1 3 Tryz.underlying33 sz3) ?_; refine tH 5 rfl (y_l1 ag3 rfl) ?_; refine tH 6 rfl (y_f 2 3 Tryz.underlying33 sz3) ?_; refine tH 7 rfl (y_l1 ag3 rfl) ?_; refine onlyH 8 rfl kq ?_; refine callE rfl fk125 (wtake_ct _ wb w o.a o.n) sq ?_; rintro ⟨ta, tc⟩; dsimp only; refine Hd.nil <| thenN <| heldK (J := (fun _ => true)) (i := 8) sq ?_; refine tH 9 rfl y_mv ?_; refine tH 10 rfl y_ex ?_; refine tH 11 rfl y_ex ?_; refine tH 12 rfl y_as ?_; refine tH 13 rfl y_as ?_; refine endH kq ?_; refine sk [(0, _), (4, _), (11, _), (12, _)] hK9 ?_; refine Hd.seq fun _ hK10 => ?_
   refine Hd.drawsH ([BoP pb wb rb, pt b4 (encO o) 33]) (fun _ => true) mixed ?_; simp only [List.length, Nat.zero_add, Nat.reduceAdd]; refine tH 0 rfl y_mv ?_; refine tH 1 rfl y_np ?_; refine tH 2 rfl (y_f 1 39 Tryz.underlying41 sz39) ?_; refine tH 3 rfl (y_l1 ag39 rfl) ?_; refine tH 4 rfl (y_f 1 3 Tryz.underlying33 sz3) ?_; refine tH 5 rfl (y_l1 ag3 rfl) ?_; refine tH 6 rfl (y_f 2 3 Tryz.underlying33 sz3) ?_; refine tH 7 rfl (y_l1 ag3 rfl) ?_; refine onlyH 8 rfl kq ?_; refine callE rfl fk126 (Rf.rTake_ct _ rb w o.a o.n) sq ?_; rintro ⟨ua, uc⟩; dsimp only; refine Hd.nil <| thenN <| heldK (J := (fun _ => true)) (i := 8) sq ?_; refine tH 9 rfl y_mv ?_; refine tH 10 rfl y_ex ?_; refine tH 11 rfl y_ex ?_; refine tH 12 rfl y_as ?_; refine tH 13 rfl y_as ?_; refine endH kq ?_; refine sk [(11, _), (12, _), (13, _), (14, _)] hK10 ?_; refine sr fun _ hK11 => ?_
   refine yv y_mv <| yv (y_strOf (l := _) kq Tryz.underlying9 rfl (by exact RdS.own pkk)) ?_; refine yv y_mv <| yv (y_strOf (l := _) kq Tryz.underlying9 rfl (by exact RdS.own pkk)) ?_; refine yv (y_eqlstr rfl rfl) ?_; refine yv y_mv ?_; apply Hd.andg 4 98 102 [] rfl sbq
   ·intro _
    simp only [List.take]; refine y2 y_mv <| y2 y_mv <| y2 (y_eqlT rfl rfl) ?_; refine yv (y_pickT rfl rfl) ?_; refine Hd.nil ?_; exact Hd.mq
   ·intro _
    simp only [List.take]; refine n1 <| n1 <| n1 <| yv (y_pickF rfl rfl) ?_; refine Hd.nil ?_; exact Hd.mq
   simp only [List.drop]; refine yv y_as <| fk [(6, _)] hK11 ?_; refine Hd.ret <| Hd.inBret <| Hd.thenRet ?_; rw [do_10 hc1]; exact Hd.ret1 rfl () (by rfl) sq
  ·try simp only [hyZ] at hc1
   refine sr fun _ hK12 => ?_
   refine yv (y_eql rfl rfl) ?_; refine yv y_as <| fk [(0, _), (4, _), (33, _), (103, _)] hK12 ?_; refine Hd.cond rfl (fun hc2 => ?_) (fun hc2 => ?_)
   ·try simp only [hyZ] at hc2
    refine Hd.seq fun _ hK13 => ?_
    refine Hd.drawsH ([BoP pb wb rb, pt b4 (encO o) 33]) (fun _ => true) mixed ?_; simp only [List.length, Nat.zero_add, Nat.reduceAdd]; refine tH 0 rfl y_mv ?_; refine tH 1 rfl y_np ?_; refine tH 2 rfl (y_f 0 38 Tryz.underlying41 sz38) ?_; refine tH 3 rfl (y_l1 ag38 rfl) ?_; refine tH 4 rfl (y_f 1 3 Tryz.underlying33 sz3) ?_; refine tH 5 rfl (y_l1 ag3 rfl) ?_; refine onlyH 6 rfl kq ?_; refine callE rfl fk127 (pshut_ct _ wb w o.a) sq ?_; intro _; refine Hd.nil <| thenN <| heldK (J := (fun _ => true)) (i := 6) sq ?_; refine tH 7 rfl y_as ?_; refine endH kq ?_; refine sk [(0, _), (4, _), (15, _)] hK13 ?_; refine Hd.seq fun _ hK14 => ?_
    refine Hd.drawsH ([BoP pb wb rb, pt b4 (encO o) 33]) (fun _ => true) mixed ?_; simp only [List.length, Nat.zero_add, Nat.reduceAdd]; refine tH 0 rfl y_mv ?_; refine tH 1 rfl y_mv ?_; refine tH 2 rfl y_np ?_; refine tH 3 rfl (y_f 1 39 Tryz.underlying41 sz39) ?_; refine tH 4 rfl (y_l1 ag39 rfl) ?_; refine tH 5 rfl (y_f 1 3 Tryz.underlying33 sz3) ?_; refine tH 6 rfl (y_l1 ag3 rfl) ?_; refine onlyH 7 rfl kq ?_; refine callE rfl fk128 (Rf.rPshut_ct _ rb w o.a) sq ?_; intro _; refine Hd.nil <| thenN <| heldK (J := (fun _ => true)) (i := 7) sq ?_; refine tH 8 rfl (y_eqlT rfl rfl) ?_; refine tH 9 rfl y_as ?_; refine endH kq ?_; refine sk [(6, _)] hK14 ?_; refine Hd.ret <| Hd.inBret <| Hd.thenRet ?_; rw [do_11 hc2]; exact Hd.ret1 rfl () (by rfl) sq
   ·try simp only [hyZ] at hc2
    refine sr fun _ hK15 => ?_
    refine yv (y_eql rfl rfl) ?_; refine yv y_as <| fk [(0, _), (4, _), (33, _), (121, _)] hK15 ?_; refine Hd.cond rfl (fun hc3 => ?_) (fun hc3 => ?_)
    ·try simp only [hyZ] at hc3
     refine Hd.seq fun _ hK16 => ?_
     refine Hd.drawsH ([BoP pb wb rb, pt b4 (encO o) 33]) (fun _ => true) mixed ?_; simp only [List.length, Nat.zero_add, Nat.reduceAdd]; refine tH 0 rfl y_mv ?_; refine tH 1 rfl y_np ?_; refine tH 2 rfl (y_f 0 38 Tryz.underlying41 sz38) ?_; refine tH 3 rfl (y_l1 ag38 rfl) ?_; refine tH 4 rfl (y_f 1 3 Tryz.underlying33 sz3) ?_; refine tH 5 rfl (y_l1 ag3 rfl) ?_; refine onlyH 6 rfl kq ?_; refine callE rfl fk129 (pclose_ct _ wb w o.a) sq ?_; intro _; refine Hd.nil <| thenN <| heldK (J := (fun _ => true)) (i := 6) sq ?_; refine tH 7 rfl y_as ?_; refine endH kq ?_; refine sk [(0, _), (4, _), (16, _)] hK16 ?_; refine Hd.seq fun _ hK17 => ?_
     refine Hd.drawsH ([BoP pb wb rb, pt b4 (encO o) 33]) (fun _ => true) mixed ?_; simp only [List.length, Nat.zero_add, Nat.reduceAdd]; refine tH 0 rfl y_mv ?_; refine tH 1 rfl y_mv ?_; refine tH 2 rfl y_np ?_; refine tH 3 rfl (y_f 1 39 Tryz.underlying41 sz39) ?_; refine tH 4 rfl (y_l1 ag39 rfl) ?_; refine tH 5 rfl (y_f 1 3 Tryz.underlying33 sz3) ?_; refine tH 6 rfl (y_l1 ag3 rfl) ?_; refine onlyH 7 rfl kq ?_; refine callE rfl fk130 (Rf.rPclose_ct _ rb w o.a) sq ?_; intro _; refine Hd.nil <| thenN <| heldK (J := (fun _ => true)) (i := 7) sq ?_; refine tH 8 rfl (y_eqlT rfl rfl) ?_; refine tH 9 rfl y_as ?_; refine endH kq ?_; refine sk [(6, _)] hK17 ?_; refine Hd.ret <| Hd.inBret <| Hd.thenRet ?_; rw [do_12 hc3]; exact Hd.ret1 rfl () (by rfl) sq
    ·try simp only [hyZ] at hc3
     refine sr fun _ hK18 => ?_
     refine yv (y_eql rfl rfl) ?_; refine yv y_as <| fk [(0, _), (4, _), (33, _), (139, _)] hK18 ?_; refine Hd.cond rfl (fun hc4 => ?_) (fun hc4 => ?_)
     ·try simp only [hyZ] at hc4
      refine Hd.seq fun _ hK19 => ?_
      refine Hd.drawsH ([BoP pb wb rb, pt b4 (encO o) 33]) (fun _ => true) mixed ?_; simp only [List.length, Nat.zero_add, Nat.reduceAdd]; refine tH 0 rfl y_mv ?_; refine tH 1 rfl y_np ?_; refine tH 2 rfl (y_f 0 38 Tryz.underlying41 sz38) ?_; refine tH 3 rfl (y_l1 ag38 rfl) ?_; refine tH 4 rfl (y_f 1 3 Tryz.underlying33 sz3) ?_; refine tH 5 rfl (y_l1 ag3 rfl) ?_; refine onlyH 6 rfl kq ?_; refine callE rfl fk131 (wreset_ct _ wb w o.a) sq ?_; intro _; refine Hd.nil <| thenN <| heldK (J := (fun _ => true)) (i := 6) sq ?_; refine tH 7 rfl y_as ?_; refine endH kq ?_; refine sk [(0, _), (4, _), (17, _)] hK19 ?_; refine Hd.seq fun _ hK20 => ?_
      refine Hd.drawsH ([BoP pb wb rb, pt b4 (encO o) 33]) (fun _ => true) mixed ?_; simp only [List.length, Nat.zero_add, Nat.reduceAdd]; refine tH 0 rfl y_mv ?_; refine tH 1 rfl y_mv ?_; refine tH 2 rfl y_np ?_; refine tH 3 rfl (y_f 1 39 Tryz.underlying41 sz39) ?_; refine tH 4 rfl (y_l1 ag39 rfl) ?_; refine tH 5 rfl (y_f 1 3 Tryz.underlying33 sz3) ?_; refine tH 6 rfl (y_l1 ag3 rfl) ?_; refine onlyH 7 rfl kq ?_; refine callE rfl fk132 (Rf.rReset_ct _ rb w o.a) sq ?_; intro _; refine Hd.nil <| thenN <| heldK (J := (fun _ => true)) (i := 7) sq ?_; refine tH 8 rfl (y_eqlT rfl rfl) ?_; refine tH 9 rfl y_as ?_; refine endH kq ?_; refine sk [(6, _)] hK20 ?_; refine Hd.ret <| Hd.inBret <| Hd.thenRet ?_; rw [do_13 hc4]; exact Hd.ret1 rfl () (by rfl) sq
     ·try simp only [hyZ] at hc4
      refine sr fun _ hK21 => ?_
      refine yv (y_eql rfl rfl) ?_; refine yv y_as <| fk [(0, _), (4, _), (33, _), (157, _)] hK21 ?_; refine Hd.cond rfl (fun hc5 => ?_) (fun hc5 => ?_)
      ·try simp only [hyZ] at hc5
       refine Hd.seq fun _ hK22 => ?_
       refine Hd.drawsH ([BoP pb wb rb, pt b4 (encO o) 33]) (fun _ => true) mixed ?_; simp only [List.length, Nat.zero_add, Nat.reduceAdd]; refine tH 0 rfl y_mv ?_; refine tH 1 rfl y_np ?_; refine tH 2 rfl (y_f 0 38 Tryz.underlying41 sz38) ?_; refine tH 3 rfl (y_l1 ag38 rfl) ?_; refine tH 4 rfl (y_f 1 3 Tryz.underlying33 sz3) ?_; refine tH 5 rfl (y_l1 ag3 rfl) ?_; refine tH 6 rfl (y_f 2 3 Tryz.underlying33 sz3) ?_; refine tH 7 rfl (y_l1 ag3 rfl) ?_; refine onlyH 8 rfl kq ?_; refine callE rfl fk133 (wconn_ct _ wb w o.a o.n) sq ?_; intro _; refine Hd.nil <| thenN <| heldK (J := (fun _ => true)) (i := 8) sq ?_; refine tH 9 rfl y_mv ?_; refine tH 10 rfl y_ex ?_; refine tH 11 rfl y_ex ?_; refine tH 12 rfl y_as ?_; refine tH 13 rfl y_as ?_; refine endH kq ?_; refine sk [(0, _), (4, _), (18, _), (19, _)] hK22 ?_; refine Hd.seq fun _ hK23 => ?_
       refine Hd.drawsH ([BoP pb wb rb, pt b4 (encO o) 33]) (fun _ => true) mixed ?_; simp only [List.length, Nat.zero_add, Nat.reduceAdd]; refine tH 0 rfl y_mv ?_; refine tH 1 rfl y_np ?_; refine tH 2 rfl (y_f 1 39 Tryz.underlying41 sz39) ?_; refine tH 3 rfl (y_l1 ag39 rfl) ?_; refine tH 4 rfl (y_f 1 3 Tryz.underlying33 sz3) ?_; refine tH 5 rfl (y_l1 ag3 rfl) ?_; refine tH 6 rfl (y_f 2 3 Tryz.underlying33 sz3) ?_; refine tH 7 rfl (y_l1 ag3 rfl) ?_; refine onlyH 8 rfl kq ?_; refine callE rfl fk134 (Rf.rConnect_ct _ rb w hw o.a o.n) sq ?_; intro _; refine Hd.nil <| thenN <| heldK (J := (fun _ => true)) (i := 8) sq ?_; refine tH 9 rfl y_mv ?_; refine tH 10 rfl y_ex ?_; refine tH 11 rfl y_ex ?_; refine tH 12 rfl y_as ?_; refine tH 13 rfl y_as ?_; refine endH kq ?_; refine sk [(18, _), (19, _), (20, _), (21, _)] hK23 ?_; refine sr fun _ hK24 => ?_
       refine yv y_mv <| yv y_mv <| yv (y_eqlT rfl rfl) ?_; refine yv y_mv ?_; apply Hd.andg 4 186 190 [] rfl sbq
       ·intro _
        simp only [List.take]; refine y2 y_mv <| y2 y_mv <| y2 (y_eqlT rfl rfl) ?_; refine yv (y_pickT rfl rfl) ?_; refine Hd.nil ?_; exact Hd.mq
       ·intro _
        simp only [List.take]; refine n1 <| n1 <| n1 <| yv (y_pickF rfl rfl) ?_; refine Hd.nil ?_; exact Hd.mq
       simp only [List.drop]; refine yv y_as <| fk [(6, _)] hK24 ?_; refine Hd.ret <| Hd.inBret <| Hd.thenRet ?_; rw [do_14 hc5]; exact Hd.ret1 rfl () (by rfl) sq
      ·try simp only [hyZ] at hc5
       refine sr fun _ hK25 => ?_
       refine yv (y_eql rfl rfl) ?_; refine yv y_as <| fk [(0, _), (4, _), (33, _), (191, _)] hK25 ?_; refine Hd.cond rfl (fun hc6 => ?_) (fun hc6 => ?_)
       ·try simp only [hyZ] at hc6
        refine Hd.seq fun _ hK26 => ?_
        refine Hd.drawsH ([BoP pb wb rb, pt b4 (encO o) 33]) (fun _ => true) mixed ?_; simp only [List.length, Nat.zero_add, Nat.reduceAdd]; refine tH 0 rfl y_mv ?_; refine tH 1 rfl y_np ?_; refine tH 2 rfl (y_f 0 38 Tryz.underlying41 sz38) ?_; refine tH 3 rfl (y_l1 ag38 rfl) ?_; refine tH 4 rfl (y_f 3 30 Tryz.underlying33 sz30) ?_; refine tH 5 rfl (y_l1 ag30 rfl) ?_; refine onlyH 6 rfl kq ?_; refine callE rfl fk135 (pass_ct _ wb w o.t ht hnow) sq ?_; intro _; refine Hd.nil <| thenN <| heldK (J := (fun _ => true)) (i := 6) sq ?_; refine endH kq ?_; refine sk [(0, _), (4, _)] hK26 ?_; refine Hd.drawsH ([BoP pb wb rb, pt b4 (encO o) 33]) (fun _ => true) mixed ?_; simp only [List.length, Nat.zero_add, Nat.reduceAdd]; refine tH 0 rfl y_mv ?_; refine tH 1 rfl y_np ?_; refine tH 2 rfl (y_f 1 39 Tryz.underlying41 sz39) ?_; refine tH 3 rfl (y_l1 ag39 rfl) ?_; refine tH 4 rfl (y_f 3 30 Tryz.underlying33 sz30) ?_
        refine tH 5 rfl (y_l1 ag30 rfl) ?_; refine onlyH 6 rfl kq ?_; refine callE rfl fk136 (Rf.rPass_ct _ rb w o.t ht hnow) sq ?_; intro _; refine Hd.nil <| thenN <| heldK (J := (fun _ => true)) (i := 6) sq ?_; refine endH kq ?_; refine slots [] sbq ?_; refine Hd.inB <| Hd.toK hK2 ?_; refine sr fun _ hK27 => ?_
        refine yv y_as <| fk [(6, _)] hK27 ?_; refine Hd.ret ?_; rw [do_15 hc6]; exact Hd.ret1 rfl () (by rfl) sq
       ·try simp only [hyZ] at hc6
        refine sr fun _ hK28 => ?_
        refine yv (y_eql rfl rfl) ?_; refine yv y_as <| fk [(0, _), (4, _), (33, _), (207, _)] hK28 ?_; refine Hd.cond rfl (fun hc7 => ?_) (fun hc7 => ?_)
        ·try simp only [hyZ] at hc7
         refine Hd.seq fun _ hK29 => ?_
         refine Hd.drawsH ([BoP pb wb rb, pt b4 (encO o) 33]) (fun _ => true) mixed ?_; simp only [List.length, Nat.zero_add, Nat.reduceAdd]; refine tH 0 rfl y_mv ?_; refine tH 1 rfl y_np ?_; refine tH 2 rfl (y_f 0 38 Tryz.underlying41 sz38) ?_; refine tH 3 rfl (y_l1 ag38 rfl) ?_; refine tH 4 rfl (y_f 1 3 Tryz.underlying33 sz3) ?_; refine tH 5 rfl (y_l1 ag3 rfl) ?_; refine tH 6 rfl (y_f 2 3 Tryz.underlying33 sz3) ?_; refine tH 7 rfl (y_l1 ag3 rfl) ?_; refine tH 8 rfl (y_gtr rfl rfl) ?_; refine onlyH 9 rfl kq ?_; refine callE rfl fk137 (whandle_ct _ wb w hb2 o.a (decide (o.n > 0))) sq ?_; intro _; refine Hd.nil <| thenN <| heldK (J := (fun _ => true)) (i := 9) sq ?_; refine tH 10 rfl y_as ?_; refine endH kq ?_; refine sk [(0, _), (4, _), (22, _)] hK29 ?_; refine Hd.seq fun _ hK30 => ?_
         refine Hd.drawsH ([BoP pb wb rb, pt b4 (encO o) 33]) (fun _ => true) mixed ?_; simp only [List.length, Nat.zero_add, Nat.reduceAdd]; refine tH 0 rfl y_mv ?_; refine tH 1 rfl y_mv ?_; refine tH 2 rfl y_np ?_; refine tH 3 rfl (y_f 1 39 Tryz.underlying41 sz39) ?_; refine tH 4 rfl (y_l1 ag39 rfl) ?_; refine tH 5 rfl (y_f 1 3 Tryz.underlying33 sz3) ?_; refine tH 6 rfl (y_l1 ag3 rfl) ?_; refine tH 7 rfl (y_f 2 3 Tryz.underlying33 sz3) ?_; refine tH 8 rfl (y_l1 ag3 rfl) ?_; refine tH 9 rfl (y_gtr rfl rfl) ?_; refine onlyH 10 rfl kq ?_; refine callE rfl fk138 (Rf.rHandle_ct _ rb w hw hb2 o.a (decide (o.n > 0))) sq ?_; intro _; refine Hd.nil <| thenN <| heldK (J := (fun _ => true)) (i := 10) sq ?_; refine tH 11 rfl (y_eqlT rfl rfl) ?_; refine tH 12 rfl y_as ?_; refine endH kq ?_; refine sk [(6, _)] hK30 ?_; refine Hd.ret <| Hd.inBret <| Hd.thenRet ?_; rw [do_16 hc7]
         exact Hd.ret1 rfl () (by rfl) sq
        ·try simp only [hyZ] at hc7
         refine sr fun _ hK31 => ?_
         refine yv (y_eql rfl rfl) ?_; refine yv y_as <| fk [(0, _), (4, _), (33, _), (231, _)] hK31 ?_; refine Hd.cond rfl (fun hc8 => ?_) (fun hc8 => ?_)
         ·try simp only [hyZ] at hc8
          refine Hd.seq fun _ hK32 => ?_
          refine Hd.drawsH ([BoP pb wb rb, pt b4 (encO o) 33]) (fun _ => true) mixed ?_; simp only [List.length, Nat.zero_add, Nat.reduceAdd]; refine tH 0 rfl y_mv ?_; refine tH 1 rfl y_np ?_; refine tH 2 rfl (y_f 0 38 Tryz.underlying41 sz38) ?_; refine tH 3 rfl (y_l1 ag38 rfl) ?_; refine tH 4 rfl (y_f 1 3 Tryz.underlying33 sz3) ?_; refine tH 5 rfl (y_l1 ag3 rfl) ?_; refine onlyH 6 rfl kq ?_; refine callE rfl fk139 (wraise_ct _ wb w hb1 o.a) sq ?_; intro _; refine Hd.nil <| thenN <| heldK (J := (fun _ => true)) (i := 6) sq ?_; refine tH 7 rfl y_as ?_; refine endH kq ?_; refine sk [(0, _), (4, _), (23, _)] hK32 ?_; refine Hd.seq fun _ hK33 => ?_
          refine Hd.drawsH ([BoP pb wb rb, pt b4 (encO o) 33]) (fun _ => true) mixed ?_; simp only [List.length, Nat.zero_add, Nat.reduceAdd]; refine tH 0 rfl y_mv ?_; refine tH 1 rfl y_mv ?_; refine tH 2 rfl y_np ?_; refine tH 3 rfl (y_f 1 39 Tryz.underlying41 sz39) ?_; refine tH 4 rfl (y_l1 ag39 rfl) ?_; refine tH 5 rfl (y_f 1 3 Tryz.underlying33 sz3) ?_; refine tH 6 rfl (y_l1 ag3 rfl) ?_; refine onlyH 7 rfl kq ?_; refine callE rfl fk140 (Rf.rRaise_ct _ rb w hw hb1 o.a) sq ?_; intro _; refine Hd.nil <| thenN <| heldK (J := (fun _ => true)) (i := 7) sq ?_; refine tH 8 rfl (y_eqlT rfl rfl) ?_; refine tH 9 rfl y_as ?_; refine endH kq ?_; refine sk [(6, _)] hK33 ?_; refine Hd.ret <| Hd.inBret <| Hd.thenRet ?_; rw [do_17 hc8]; exact Hd.ret1 rfl () (by rfl) sq
         ·try simp only [hyZ] at hc8
          refine sr fun _ hK34 => ?_
          refine yv (y_eql rfl rfl) ?_; refine yv y_as <| fk [(0, _), (4, _), (33, _), (249, _)] hK34 ?_; refine Hd.cond rfl (fun hc9 => ?_) (fun hc9 => ?_)
          ·try simp only [hyZ] at hc9
           have hgl : (sigR w).1.length ≤ 32 := by have := cntF_le w.ct 0; rw [hw.ctl] at this; exact this
           refine sr fun _ hK35 => ?_
           refine yv y_mv <| yv y_np <| yv (y_f 0 38 Tryz.underlying41 sz38) ?_; refine yv (y_l1 ag38 rfl) ?_; refine callE rfl fk141 (wsignals_ct _ wb w hb2) sq ?_; rintro ⟨sa, sc⟩; dsimp only; refine yv y_as <| fk [(0, _), (24, _)] hK35 ?_; refine sr fun _ hK36 => ?_
           refine yv y_mv <| yv y_np <| yv (y_f 1 39 Tryz.underlying41 sz39) ?_; refine yv (y_l1 ag39 rfl) ?_; refine callE rfl fk142 (Rf.rSignals_ct _ rb w hw hb2) sq ?_; rintro ⟨va, vc⟩; dsimp only; refine yv y_as <| fk [(24, _), (25, _)] hK36 ?_; refine Hd.seq fun _ hK37 => ?_
           refine sr fun _ hK38 => ?_
           refine yv y_mv <| yv (y_len Tryz.underlying238 rfl) ?_; refine yv y_mv <| yv (y_len Tryz.underlying238 rfl) ?_; refine yv (y_neq rfl rfl) ?_; refine fk [(24, _), (25, _), (265, _)] hK38 ?_; refine Hd.cond rfl (fun hc10 => ?_) (fun hc10 => ?_)
           ·try simp only [hyZ] at hc10
            exact absurd trivial hc10
           ·try simp only [hyZ] at hc10
            refine Hd.skip <| Hd.toK hK37 ?_; refine sr fun _ hK39 => ?_
            refine yv y_mv <| yv (y_len Tryz.underlying238 rfl) ?_; refine yv y_mv <| fk [(24, _), (25, _), (267, _), (268, _)] hK39 ?_; refine Hd.block <| Hd.loopK (ι := Nat) [(24, _), (25, _), (267, _)] (fun i => [(268, .int .i64 (i : Int))]) (fun i => pu (i ≤ (sigR w).1.length) :: own 241 2 va (sigR w).1.length vc ((sigR w).1.flatMap encCn) :: own 241 2 sa (sigR w).1.length sc ((sigR w).1.flatMap encCn) :: BoP pb wb rb :: WorldP wb (sigR w).2 :: Rf.RwP rb (sigR w).2 :: L) (fun i => (sigR w).1.length - i) 0 sbq sbq (Ent.sep (.pure (by omega) enn)) ?_; intro i
            try dsimp only
            refine Hd.pure (fun hp0 => ?_)
            try dsimp only at hp0
            refine sr fun _ hK40 => ?_
            refine yv (y_lss rfl rfl) ?_; refine fk [(24, _), (25, _), (267, _), (268, _), (269, _)] hK40 ?_; refine Hd.seq fun _ hK41 => ?_
            refine Hd.cond rfl (fun hc11 => ?_) (fun hc11 => ?_)
            ·try simp only [hyZ] at hc11
             have hi : i < (sigR w).1.length := by omega
             obtain ⟨q, hq⟩ : ∃ q, (sigR w).1[i]? = some q := ⟨_, List.getElem?_eq_getElem hi⟩
             refine Hd.skip <| Hd.toK hK41 ?_; refine Hd.seq fun _ hK42 => ?_
             refine Hd.block <| sr fun _ hK43 => ?_
             refine yv y_mv <| yv y_as <| fk [(24, _), (25, _), (26, _), (267, _), (268, _)] hK43 ?_; refine Hd.seq fun _ hK44 => ?_
             refine Hd.quiet mixed kq ?_; refine Hq.yv y_mv ?_; refine Hq.yv y_mv ?_; refine Hq.yv (y_idxR Tryz.underlying238 sz241 rfl rfl (by omega) (by exact RdS.own pkk)) ?_; refine Hq.yv (y_loadRn (vs := encCn q) ag241 rfl (RdS.own (ad := sa) (us := (sigR w).1.flatMap encCn) pkk) (flat_cells encCn 2 (fun _ => rfl) hq) sz241 (by simp)) ?_; refine Hq.yv y_mv ?_; refine Hq.yv y_mv ?_; refine Hq.yv (y_idxR Tryz.underlying238 sz241 rfl rfl (by omega) (by exact RdS.own pkk)) ?_; refine Hq.yv (y_loadRn (vs := encCn q) ag241 rfl (RdS.own (ad := va) (us := (sigR w).1.flatMap encCn) pkk) (flat_cells encCn 2 (fun _ => rfl) hq) sz241 (by simp)) ?_; refine Hq.yv (y_neq_agg rfl rfl eqt241 rfl ⟨rfl, rfl⟩) ?_; refine Hq.nil ?_; refine sk [(24, _), (25, _), (267, _), (268, _), (279, _)] hK44 ?_; refine Hd.cond rfl (fun hc12 => ?_) (fun hc12 => ?_)
             ·try simp only [hyZ] at hc12
              simp [allEq, eqv] at hc12
             ·try simp only [hyZ] at hc12
              refine Hd.skip <| Hd.inB <| Hd.toK hK42 ?_; refine Hd.region <| yv (y_addn rfl rfl (by simp only [InK]; omega)) ?_; refine yv y_mv <| Hd.nil <| slots [(24, _), (25, _), (267, _), (268, _)] sbq ?_; refine thenN ?_; exact Hd.again (i + 1) (by omega) sbq (Ent.sep (.pure (by omega) enn))
            ·try simp only [hyZ] at hc11
             refine Hd.exit <| Hd.thenExit <| Hd.thenExit <| Hd.inBexit <| Hd.inB <| Hd.toK hK2 ?_; refine sr fun _ hK45 => ?_
             refine yv y_as <| fk [(6, _)] hK45 ?_; refine Hd.ret ?_; rw [do_18 hc9]; exact Hd.ret1 rfl () rfl sq
          ·try simp only [hyZ] at hc9
           refine sr fun _ hK46 => ?_
           refine yv (y_eql rfl rfl) ?_; refine yv y_as <| fk [(0, _), (4, _), (33, _), (281, _)] hK46 ?_; refine Hd.cond rfl (fun hc13 => ?_) (fun hc13 => ?_)
           ·try simp only [hyZ] at hc13
            refine Hd.seq fun _ hK47 => ?_
            refine Hd.drawsH ([BoP pb wb rb, pt b4 (encO o) 33]) (fun _ => true) mixed ?_; simp only [List.length, Nat.zero_add, Nat.reduceAdd]; refine tH 0 rfl y_mv ?_; refine tH 1 rfl y_np ?_; refine tH 2 rfl (y_f 0 38 Tryz.underlying41 sz38) ?_; refine tH 3 rfl (y_l1 ag38 rfl) ?_; refine tH 4 rfl (y_f 1 3 Tryz.underlying33 sz3) ?_; refine tH 5 rfl (y_l1 ag3 rfl) ?_; refine tH 6 rfl (y_f 2 3 Tryz.underlying33 sz3) ?_; refine tH 7 rfl (y_l1 ag3 rfl) ?_; refine onlyH 8 rfl kq ?_; refine callE rfl fk143 (wnotice_ct _ wb w hb2 o.a o.n) sq ?_; intro _; refine Hd.nil <| thenN <| heldK (J := (fun _ => true)) (i := 8) sq ?_; refine tH 9 rfl y_as ?_; refine endH kq ?_; refine sk [(0, _), (4, _), (27, _)] hK47 ?_; refine Hd.seq fun _ hK48 => ?_
            refine Hd.drawsH ([BoP pb wb rb, pt b4 (encO o) 33]) (fun _ => true) mixed ?_; simp only [List.length, Nat.zero_add, Nat.reduceAdd]; refine tH 0 rfl y_mv ?_; refine tH 1 rfl y_mv ?_; refine tH 2 rfl y_np ?_; refine tH 3 rfl (y_f 1 39 Tryz.underlying41 sz39) ?_; refine tH 4 rfl (y_l1 ag39 rfl) ?_; refine tH 5 rfl (y_f 1 3 Tryz.underlying33 sz3) ?_; refine tH 6 rfl (y_l1 ag3 rfl) ?_; refine tH 7 rfl (y_f 2 3 Tryz.underlying33 sz3) ?_; refine tH 8 rfl (y_l1 ag3 rfl) ?_; refine onlyH 9 rfl kq ?_; refine callE rfl fk144 (Rf.rNotice_ct _ rb w hw hb2 o.a o.n) sq ?_; intro _; refine Hd.nil <| thenN <| heldK (J := (fun _ => true)) (i := 9) sq ?_; refine tH 10 rfl (y_eqlT rfl rfl) ?_; refine tH 11 rfl y_as ?_; refine endH kq ?_; refine sk [(6, _)] hK48 ?_; refine Hd.ret <| Hd.inBret <| Hd.thenRet ?_; rw [do_19 hc13]; exact Hd.ret1 rfl () (by rfl) sq
           ·try simp only [hyZ] at hc13
            refine sr fun _ hK49 => ?_
            refine yv (y_eql rfl rfl) ?_; refine yv y_as <| fk [(0, _), (4, _), (303, _)] hK49 ?_; refine Hd.cond rfl (fun hc14 => ?_) (fun hc14 => ?_)
            ·try simp only [hyZ] at hc14
             refine Hd.seq fun _ hK50 => ?_
             refine Hd.quiet mixed kq ?_; refine Hq.yv y_mv ?_; refine Hq.yv y_np ?_; refine Hq.yv (y_f 0 38 Tryz.underlying41 sz38) ?_; refine Hq.yv (y_l1 ag38 rfl) ?_; refine Hq.yv (y_f 1 3 Tryz.underlying33 sz3) ?_; refine Hq.yv (y_l1 ag3 rfl) ?_; refine Hq.call rfl fk71 ((wwire_ct _ wb w o.a).swap sq sq) ?_; refine Hq.yv y_mv ?_; refine Hq.yv y_ex ?_; refine Hq.yv y_ex ?_; refine Hq.yv y_as ?_; refine Hq.yv y_as ?_; refine Hq.nil ?_; refine sk [(0, _), (4, _), (28, _), (29, _)] hK50 ?_; refine Hd.seq fun _ hK51 => ?_
             refine Hd.quiet mixed kq ?_; refine Hq.yv y_mv ?_; refine Hq.yv y_np ?_; refine Hq.yv (y_f 1 39 Tryz.underlying41 sz39) ?_; refine Hq.yv (y_l1 ag39 rfl) ?_; refine Hq.yv (y_f 1 3 Tryz.underlying33 sz3) ?_; refine Hq.yv (y_l1 ag3 rfl) ?_; refine Hq.call rfl fk79 ((Rf.rWire_ct _ rb w hw o.a).swap sq sq) ?_; refine Hq.yv y_mv ?_; refine Hq.yv y_ex ?_; refine Hq.yv y_ex ?_; refine Hq.yv y_as ?_; refine Hq.yv y_as ?_; refine Hq.nil ?_; refine sk [(28, _), (29, _), (30, _), (31, _)] hK51 ?_; refine sr fun _ hK52 => ?_
             refine yv y_mv <| yv y_mv <| yv (y_eqlT rfl rfl) ?_; refine yv y_mv ?_; apply Hd.andg 4 328 332 [] rfl sbq
             ·intro _
              simp only [List.take]; refine y2 y_mv <| y2 y_mv <| y2 (y_eqlT rfl rfl) ?_; refine yv (y_pickT rfl rfl) ?_; refine Hd.nil ?_; exact Hd.mq
             ·intro _
              simp only [List.take]; refine n1 <| n1 <| n1 <| yv (y_pickF rfl rfl) ?_; refine Hd.nil ?_; exact Hd.mq
             simp only [List.drop]; refine yv y_as <| fk [(6, _)] hK52 ?_; refine Hd.ret <| Hd.inBret <| Hd.thenRet ?_; rw [do_oth (by omega)]; exact Hd.ret1 rfl () (by rfl) sq
            ·try simp only [hyZ] at hc14
             refine Hd.skip <| Hd.inB <| Hd.toK hK2 ?_; refine sr fun _ hK53 => ?_
             refine yv y_as <| fk [(6, _)] hK53 ?_; refine Hd.ret ?_; rw [do_oth (by omega)]; exact Hd.ret1 rfl () rfl sq
end Wo
end Go.Proofs.YtbfddabjbkohdaaGreat
