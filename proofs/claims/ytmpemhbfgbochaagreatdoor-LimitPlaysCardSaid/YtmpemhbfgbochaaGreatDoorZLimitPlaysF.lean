/-
  The document's world: New, Make.
-/
import Derived.Test.YtmpemhbfgbochaaGreatDoorZLimitPlaysE
set_option linter.unusedSimpArgs false
set_option linter.unusedVariables false
set_option linter.unnecessarySimpa false
set_option maxRecDepth 8000
set_option maxHeartbeats 2000000
open Go.RX.Hd (yv y2 n1 fk sk sr tH callE heldK qo qk qn qt qz qv endH thenN slots)
namespace Go.Proofs.YtmpemhbfgbochaaGreatDoor
open Go.RX Fx
namespace Rf
open Wo
theorem bd_rw:Tryz.prog.built 102 [(4,.int .i64 (-1))]=some (RwC newA 0 none 0).toArray:=by kernel_rfl
theorem rNew_ct (L:List SP):Ct Tryz.prog 46 #[] (L) (fun b:Nat=>.pointer (some ⟨b,0,none⟩)) (fun b:Nat=>RwP b newA::L):=by
 refine Ct.o0 Tryz.func46 ?_;intro E
 show Hd E 3 _ _ _ _
 refine sr fun _ K1=>?_
 refine yv y_as<|fk [] K1 ?_;refine sr fun _ K2=>?_
 refine yv (y_build (vs:=[(4,_)]) rfl bd_rw) ?_;refine Hd.box (us:=RwC newA 0 none 0) rfl rfl (fun b2=>?_);refine yv y_as<|fk [(0,_)] K2 ?_;refine Hd.ret<|Hd.heap (RwP b2 newA::L) (fun k s=>rw_fold (i:=([],none,0)) rfl k (show sep (pt b2 (RwC newA 0 none 0) 102::own 204 20 none 0 0 []::Bag Sd []::L) k from Ent.sep (.pick pkk (.ownNil enn)) k (bag_nil (f:=Sd) s))) ?_;exact Hd.ret1 rfl b2 rfl sq
def rdK (k:Int) (i:Nat):Bool:=decide (k < 3) && (decide (0 < k) || decide ((i:Int)=0))
def wrK (k:Int) (i:Nat):Bool:=decide (k < 3) && (decide (0 < k) || decide ((i:Int)=1))
def mkX (k:Int) (n a b:Nat):WireA:=⟨fun i=>⟨0,0,if i < a then rdK k i else false,if i < b then wrK k i else false,[],false,0,0⟩,n,false,0,[]⟩
abbrev jz:RwI:=⟨fun _=>none,fun _=>0,none,0⟩
theorem bd_rx (n:Nat):Tryz.prog.built 204 [(1,.int .i64 (n:Int))]=some (encRW (mkX 0 n 0 0,jz)).toArray:=by kernel_rfl
theorem mkX_r (k:Int) (n j:Nat) (hj:j < 2):(encRW (mkX k n j j,jz)).set (0 + 0 + j * 8 + 2) (.bool (decide (k < 3) && (decide (0 < k) || decide ((j:Int)=0))))=encRW (mkX k n (j + 1) j,jz):=by
 rcases (show j=0∨j=1 by omega) with rfl | rfl<;>rfl
theorem mkX_w (k:Int) (n j:Nat) (hj:j < 2):(encRW (mkX k n (j + 1) j,jz)).set (0 + 0 + j * 8 + 3) (.bool (decide (k < 3) && (decide (0 < k) || decide ((j:Int)=1))))=encRW (mkX k n (j + 1) (j + 1),jz):=by
 rcases (show j=0∨j=1 by omega) with rfl | rfl<;>rfl
theorem mkX_k (k:Int) (hk:0≤k∧k≤3) (n:Nat) (h2:k≠2) (h3:k≠3):encRW (mkX k n 2 2,jz)=encRW (mkKW k n,jz):=by
 rcases (show k=0∨k=1 by omega) with rfl | rfl<;>rfl
def mk4 (k:Int) (n:Nat):WireA:=if k=2 then connW n else mkX k n 2 2
theorem mk4_k (k:Int) (hk:0≤k∧k≤3) (n:Nat) (h3:k≠3):encRW (mk4 k n,jz)=encRW (mkKW k n,jz):=by
 unfold mk4
 by_cases h:k=2
 ·subst h;rfl
 ·rw [if_neg h];exact mkX_k k hk n h h3
theorem rw_open (x:WireA) (fs:List Nat) {j:Nat} (hj:j < 2):((encRW (openW x fs j,jz)).set (0 + 0 + j * 8 + 0) (.int .i64 1)).set (0 + 0 + j * 8 + 1) (.int .i64 ((fs.getD j 0:Nat):Int))=encRW (openW x fs (j + 1),jz):=by
 rcases (show j=0∨j=1 by omega) with rfl | rfl<;>rfl
def badK (k n:Int):Prop:=n < 1∨65536 < n∨(k=3∧64 < n)
instance (k n:Int):Decidable (badK k n):=by unfold badK;exact inferInstance
def mkErr (w:WA) (k n:Int):Int:=if badK k n then 2 else mkE w (mkKE k)
def mkLst (w:WA) (k n:Int):List Nat:=if badK k n then [] else mkF w (mkKE k)
theorem mk_bad {w:WA} {k n:Int} (h:badK k n):mkErr w k n=2∧mkLst w k n=[]∧makeR w k n=w:=⟨if_pos h,if_pos h,if_pos h⟩
theorem mk_no {w:WA} {k n:Int} (h:¬ badK k n) (ho:mkOk w (mkKE k)=false):mkErr w k n=112∧mkLst w k n=[]∧makeR w k n=w:=by
 refine ⟨(if_neg h).trans ?_,(if_neg h).trans ?_,(if_neg h).trans ?_⟩
 ·unfold mkE;rw [ho];rfl
 ·unfold mkF;rw [ho];rfl
 ·unfold mkW;rw [ho];rfl
theorem mk_yes {w:WA} {k n:Int} (h:¬ badK k n) (ho:mkOk w (mkKE k)=true):mkErr w k n=0∧mkLst w k n=(frees w.at).take (mkKE k)∧makeR w k n=w.addW (openW (mkKW k n) ((frees w.at).take (mkKE k)) (mkKE k)):=by
 refine ⟨(if_neg h).trans ?_,(if_neg h).trans ?_,(if_neg h).trans ?_⟩
 ·unfold mkE;rw [ho];rfl
 ·unfold mkF;rw [ho];rfl
 ·unfold mkW;rw [ho];rfl
theorem rw_add {b:Nat} {w:WA} {i:Rows_} (hi:i.1.map Prod.fst=w.ws) {Y:WireA} {ad:Option Addr} {c:Nat} {L:List SP} (hb:(Y.e 0).b=[]∧(Y.e 1).b=[]∧Y.wt=[]):∀ h,sep (pt b ((RwC w i.1.length i.2.1 i.2.2).set (0 + 0) (.slice ad (i.1.length + 1) c)) 102::own 204 20 ad (i.1.length + 1) c (i.1.flatMap encRW++encRW (Y,jz))::Bag Sd i.1::L) h→sep (RwP b (w.addW Y)::L) h:=fun h s=>by
 have e:SdL (Y,jz) 0 (Bag Sd i.1::pt b ((RwC w i.1.length i.2.1 i.2.2).set (0 + 0) (.slice ad (i.1.length + 1) c)) 102::own 204 20 ad (i.1.length + 1) c (i.1.flatMap encRW++encRW (Y,jz))::L)=own 5 1 none 0 0 []::own 5 1 none 0 0 []::own 3 1 none 0 0 []::Bag Sd i.1::pt b ((RwC w i.1.length i.2.1 i.2.2).set (0 + 0) (.slice ad (i.1.length + 1) c)) 102::own 204 20 ad (i.1.length + 1) c (i.1.flatMap encRW++encRW (Y,jz))::L:=by
  unfold SdL SdB SdW;rw [show 1 - 0=1 from rfl,hb.1,hb.2.1,hb.2.2];rfl
 have s1:sep (SdL (Y,jz) 0 (Bag Sd i.1::pt b ((RwC w i.1.length i.2.1 i.2.2).set (0 + 0) (.slice ad (i.1.length + 1) c)) 102::own 204 20 ad (i.1.length + 1) c (i.1.flatMap encRW++encRW (Y,jz))::L)) h:=by
  rw [e];exact Ent.sep (.ownNil (.ownNil (.ownNil enn))) h s
 have s2:=bag_add (f:=Sd) (sd_fold (by decide) h s1)
 refine rw_fold (i:=(i.1++[(Y,jz)],ad,c)) (by rw [List.map_append,hi];rfl) h ?_
 show sep (pt b (RwC (w.addW Y) (i.1++[(Y,jz)]).length ad c) 102::own 204 20 ad (i.1++[(Y,jz)]).length c ((i.1++[(Y,jz)]).flatMap encRW)::Bag Sd (i.1++[(Y,jz)])::L) h
 rw [show (i.1++[(Y,jz)]).length=i.1.length + 1 by rw [List.length_append];rfl,List.flatMap_append,show [(Y,jz)].flatMap encRW=encRW (Y,jz) from by rw [List.flatMap_cons,List.flatMap_nil,List.append_nil]];exact Ent.sep (.eq pkk (pt_eq (by rfl)) enn) h s2
theorem mkKW_b (k n:Int):((mkKW k n).e 0).b=[]∧((mkKW k n).e 1).b=[]∧(mkKW k n).wt=[]:=by
 unfold mkKW
 split
 ·exact ⟨rfl,rfl,rfl⟩
 ·split
  ·exact ⟨rfl,rfl,rfl⟩
  ·split<;>exact ⟨rfl,rfl,rfl⟩
theorem rMake_ct (L:List SP) (b:Nat) (w:WA) (hw:WOk w) (k n:Int) (hk:0≤k∧k≤3):Ct Tryz.prog 50 #[.pointer (some ⟨b,0,none⟩),.int .i64 k,.int .i64 n] (RwP b w::L) (fun q_:Option Addr×Nat=>.tuple #[.slice q_.1 (mkLst w k n).length q_.2,.int .i64 (mkErr w k n)]) (fun q_:Option Addr×Nat=>own 3 1 q_.1 (mkLst w k n).length q_.2 (nats (mkLst w k n))::RwP b (makeR w k n)::L):=by
 refine Ct.o3 Tryz.func50 ?_;intro E
 show Hd E 116 _ _ _ _
 refine sr fun _ K1=>?_
 refine yv y_as<|yv y_as<|fk [(0,_),(1,_),(2,_)] K1 ?_;refine Hd.seq fun _ K2=>?_
 refine sr fun _ K3=>?_
 refine yv y_mv<|yv (y_lss rfl rfl) ?_;refine yv y_mv ?_;apply Hd.org 3 15 18 [(0,_),(1,_),(2,_)] rfl sbq
 ·intro hg1_15
  try simp only [hyZ] at hg1_15
  simp only [List.take];refine n1<|n1<|yv (y_pickT rfl rfl) ?_;exact Hd.mn
 ·intro hg1_15
  try simp only [hyZ] at hg1_15
  simp only [List.take];refine y2 y_mv<|y2 (y_gtr rfl rfl) ?_;refine yv (y_pickF rfl rfl) ?_;exact Hd.mn
 simp only [List.drop];refine yv y_mv ?_;apply Hd.org 7 19 26 [(0,_),(1,_),(2,_)] rfl sbq
 ·intro hg1_19
  try simp only [hyZ] at hg1_19
  simp only [List.take];refine n1<|n1<|n1<|n1<|n1<|n1<|yv (y_pickT rfl rfl) ?_;exact Hd.mn
 ·intro hg1_19
  try simp only [hyZ] at hg1_19
  simp only [List.take];refine y2 y_mv<|y2 (y_eql rfl rfl) ?_;refine y2 y_mv ?_;apply Hd.andg 3 22 25 [(0,_),(1,_),(2,_),(19,_)] rfl sbq
  ·intro hg1_22
   try simp only [hyZ] at hg1_22
   simp only [List.take];refine y2 y_mv<|y2 (y_gtr rfl rfl) ?_;refine y2 (y_pickT rfl rfl) ?_;exact Hd.mn
  ·intro hg1_22
   try simp only [hyZ] at hg1_22
   simp only [List.take];refine n1<|n1<|y2 (y_pickF rfl rfl) ?_;exact Hd.mn
  simp only [List.drop];refine yv (y_pickF rfl rfl) ?_;exact Hd.mn
 simp only [List.drop];refine fk [(0,_),(1,_),(2,_),(26,_)] K3 ?_;refine qz ?_ ?_<;>intro hc0<;>try simp only [hyZ] at hc0
 ·refine sr fun _ K4=>?_
  refine yv y_as<|yv y_as<|fk [(6,_),(7,_)] K4 ?_;refine Hd.ret<|Hd.thenRet ?_
  obtain ⟨e1,e2,e3⟩:=mk_bad (w:=w) (k:=k) (n:=n) (by unfold badK;omega)
  rw [e1,e2,e3];exact Hd.ret2 rfl (none,0) rfl rfl rfl (Ent.sep (.ownNil enn))
 have hb:¬ badK k n:=by unfold badK;omega
 obtain ⟨m,rfl⟩:∃ m:Nat,n=(m:Int):=⟨n.toNat,by unfold badK at hb;omega⟩
 refine qv K2<|sr fun _ K5=>?_
 refine yv y_as<|fk [(0,_),(1,_),(2,_),(8,_)] K5 ?_;refine Hd.cutK (ι:=Unit) [(0,_),(1,_),(2,_)] (fun _=>[(8,.int .i64 (mkKE k:Nat))]) (fun _=>RwP b w::L) ?_ ?_ ⟨rfl,rfl,rfl,trivial⟩
 ·refine sr fun _ K6=>?_
  refine yv y_mv<|yv (y_gtr rfl rfl) ?_;refine fk [(0,_),(1,_),(2,_),(8,_),(28,_)] K6 ?_;refine qz ?_ ?_<;>intro hc1<;>try simp only [hyZ] at hc1
  ·refine Hd.region ?_
   refine yv y_as<|Hd.nil<|slots [(0,_),(1,_),(2,_),(8,_)] sbq ?_;refine thenN ?_;exact Hd.meet () ⟨congrArg some (congrArg (Value.int .i64) (by unfold mkKE;split<;>omega)),by repeat (first | exact trivial | refine ⟨rfl,?_⟩)⟩ sq
  refine Hd.skip<|thenN ?_;exact Hd.meet () ⟨congrArg some (congrArg (Value.int .i64) (by unfold mkKE;split<;>omega)),by repeat (first | exact trivial | refine ⟨rfl,?_⟩)⟩ sq
 intro _;refine sr fun _ K7=>?_
 refine yv y_mv<|callE rfl fk115 (rfree_ct _ b w hw) sq ?_;rintro ⟨ad,c⟩;dsimp only
 have hlen:=hw.len
 refine Hd.rw (.there .here) (fun i hi=>?_)
 have hrl:=rows_n hi
 refine yv y_as<|fk [(0,_),(1,_),(2,_),(8,_),(9,_)] K7 ?_;refine Hd.seq fun _ K8=>?_
 refine sr fun _ K9=>?_
 refine yv y_mv<|yv (y_len Tryz.underlying94 rfl) ?_;refine yv y_mv<|yv (y_lss rfl rfl) ?_;refine yv y_mv ?_;apply Hd.org 7 35 42 [(0,_),(1,_),(2,_),(8,_),(9,_)] rfl sbq
 ·intro hg7_35
  try simp only [hyZ] at hg7_35
  simp only [List.take];refine n1<|n1<|n1<|n1<|n1<|n1<|yv (y_pickT rfl rfl) ?_;exact Hd.mn
 ·intro hg7_35
  try simp only [hyZ] at hg7_35
  simp only [List.take];refine y2 y_mv<|y2 y_np<|y2 (y_f 0 98 Tryz.underlying102 sz98)<|y2 (y_l1 ag98 rfl)<|y2 (y_len Tryz.underlying98 rfl) ?_;refine y2 (y_geq rfl rfl) ?_;refine yv (y_pickF rfl rfl) ?_;exact Hd.mn
 simp only [List.drop];refine fk [(0,_),(1,_),(2,_),(8,_),(9,_),(42,_)] K9 ?_;refine qz ?_ ?_<;>intro hc2<;>try simp only [hyZ] at hc2
 ·refine sr fun _ K10=>?_
  refine yv y_as<|yv y_as<|fk [(6,_),(7,_)] K10 ?_;refine Hd.ret<|Hd.thenRet ?_
  have ho:mkOk w (mkKE k)=false:=by
   unfold mkOk;rw [List.length_take,Bool.and_eq_false_iff,decide_eq_false_iff_not,decide_eq_false_iff_not];omega
  obtain ⟨e1,e2,e3⟩:=mk_no hb ho
  rw [e1,e2,e3];exact Hd.ret2 rfl (none,0) rfl rfl rfl (Ent.sep (.ownNil (.ex i (.pure hi enn))))
 have ho:mkOk w (mkKE k)=true:=by
  unfold mkOk;rw [List.length_take,Bool.and_eq_true,decide_eq_true_eq,decide_eq_true_eq];omega
 obtain ⟨e1,e2,e3⟩:=mk_yes hb ho
 have hE:=mkKE_le k
 have hfl:((frees w.at).take (mkKE k)).length=mkKE k:=by unfold mkOk at ho;simp at ho;rw [List.length_take];omega
 refine qv K8<|sr fun _ K11=>?_
 refine yv y_mv<|yv (y_build (vs:=[(1,_)]) rfl (bd_rx m)) ?_;refine Hd.alloc zr204 (fun b10=>?_);refine Hd.storeA (us:=encRW (mkX 0 m 0 0,jz)) sz204 rfl rfl rfl (encRW_one _) pkk (by exact rfl) ?_;refine fk [(0,_),(1,_),(2,_),(8,_),(9,_),(10,_)] K11 ?_;refine Hd.seq fun _ K12=>?_
 refine sr fun _ K13=>?_
 refine Hd.heap (pt b10 (encRW (mkX k m 0 0,jz)) 204::own 3 1 ad (frees w.at).length c (nats (frees w.at))::RwL b w i L) (Ent.sep (.eq pkk (pt_eq (by rfl)) enn)) ?_;refine yv y_as<|fk [(0,_),(1,_),(2,_),(8,_),(9,_),(10,_),(11,_)] K13 ?_;refine Hd.block<|Hd.loopK (ι:=Nat) [(0,_),(1,_),(2,_),(8,_),(9,_),(10,_)] (fun j=>[(11,.int .i64 (j:Int))]) (fun j=>pu (j≤2)::pt b10 (encRW (mkX k m j j,jz)) 204::own 3 1 ad (frees w.at).length c (nats (frees w.at))::RwL b w i L) (fun j=>2 - j) 0 sbq sbq (Ent.sep (.pure (by omega) enn)) ?_;intro j
 try dsimp only
 refine Hd.pure (fun hp0=>?_)
 try dsimp only at hp0
 refine Hd.seq fun _ K14=>?_
 refine sr fun _ K15=>?_
 refine yv y_mv<|yv (y_lss rfl rfl) ?_;refine fk [(0,_),(1,_),(2,_),(8,_),(9,_),(10,_),(11,_),(46,_)] K15 ?_;refine qz ?_ ?_<;>intro hc3<;>try simp only [hyZ] at hc3
 ·have hj:j < 2:=by omega
  refine qv K14<|Hd.seq fun _ K16=>?_
  refine Hd.block<|sr fun _ K17=>?_
  refine yv y_mv<|yv y_mv<|yv (y_lss rfl rfl) ?_;refine yv y_mv ?_;apply Hd.andg 7 52 59 [(0,_),(1,_),(2,_),(8,_),(9,_),(10,_),(11,_),(49,_)] rfl sbq
  ·intro hg13_52
   try simp only [hyZ] at hg13_52
   simp only [List.take];refine y2 y_mv<|y2 (y_gtr rfl rfl) ?_;refine y2 y_mv ?_;apply Hd.org 3 55 58 [(0,_),(1,_),(2,_),(8,_),(9,_),(10,_),(11,_),(49,_),(52,_)] rfl sbq
   ·intro hg13_55
    try simp only [hyZ] at hg13_55
    simp only [List.take];refine n1<|n1<|y2 (y_pickT rfl rfl) ?_;exact Hd.mn
   ·intro hg13_55
    try simp only [hyZ] at hg13_55
    simp only [List.take];refine y2 y_mv<|y2 (y_eql rfl rfl) ?_;refine y2 (y_pickF rfl rfl) ?_;exact Hd.mn
   simp only [List.drop];refine yv (y_pickT rfl rfl) ?_;exact Hd.mn
  ·intro hg13_52
   try simp only [hyZ] at hg13_52
   simp only [List.take];refine n1<|n1<|n1<|n1<|n1<|n1<|yv (y_pickF rfl rfl) ?_;exact Hd.mn
  simp only [List.drop];refine yv (y_f 0 202 Tryz.underlying204 sz202)<|yv (y_idxA Tryz.underlying202 sz201 rfl rfl (by omega)) ?_;refine yv (y_f 2 4 Tryz.underlying201 sz4)<|Hd.store1 sz4 rfl rfl rfl pkk (by simp;omega) ?_
  try simp only [hyS]
  refine Hd.nil ?_;rw [mkX_r k m j hj];refine sk [(0,_),(1,_),(2,_),(8,_),(9,_),(10,_),(11,_)] K17 ?_;refine Hd.region<|yv y_mv<|yv y_mv<|yv (y_lss rfl rfl) ?_;refine yv y_mv ?_;apply Hd.andg 7 66 73 [(0,_),(1,_),(2,_),(8,_),(9,_),(10,_),(11,_),(63,_)] rfl sbq
  ·intro hg14_66
   try simp only [hyZ] at hg14_66
   simp only [List.take];refine y2 y_mv<|y2 (y_gtr rfl rfl) ?_;refine y2 y_mv ?_;apply Hd.org 3 69 72 [(0,_),(1,_),(2,_),(8,_),(9,_),(10,_),(11,_),(63,_),(66,_)] rfl sbq
   ·intro hg14_69
    try simp only [hyZ] at hg14_69
    simp only [List.take];refine n1<|n1<|y2 (y_pickT rfl rfl) ?_;exact Hd.mn
   ·intro hg14_69
    try simp only [hyZ] at hg14_69
    simp only [List.take];refine y2 y_mv<|y2 (y_eql rfl rfl) ?_;refine y2 (y_pickF rfl rfl) ?_;exact Hd.mn
   simp only [List.drop];refine yv (y_pickT rfl rfl) ?_;exact Hd.mn
  ·intro hg14_66
   try simp only [hyZ] at hg14_66
   simp only [List.take];refine n1<|n1<|n1<|n1<|n1<|n1<|yv (y_pickF rfl rfl) ?_;exact Hd.mn
  simp only [List.drop];refine yv (y_f 0 202 Tryz.underlying204 sz202)<|yv (y_idxA Tryz.underlying202 sz201 rfl rfl (by omega)) ?_;refine yv (y_f 3 4 Tryz.underlying201 sz4)<|Hd.store1 sz4 rfl rfl rfl pkk (by simp;omega) ?_
  try simp only [hyS]
  refine Hd.nil ?_;rw [mkX_w k m j hj];refine slots [(0,_),(1,_),(2,_),(8,_),(9,_),(10,_),(11,_)] sbq ?_;refine Hd.inB<|Hd.toK K16 ?_;refine Hd.region<|yv y_mv<|yv (y_addn rfl rfl (by simp only [InK];omega)) ?_;refine yv y_as<|Hd.nil<|slots [(0,_),(1,_),(2,_),(8,_),(9,_),(10,_),(11,_)] sbq ?_;refine thenN ?_;exact Hd.again (j + 1) (by omega) sbq (Ent.sep (.pure (by omega) enn))
 obtain rfl:j=2:=by omega
 refine Hd.exit<|Hd.thenExit<|Hd.thenExit<|Hd.inBexit<|Hd.toK K12 ?_;refine Hd.cutK (ι:=Unit) [(0,_),(1,_),(2,_),(8,_),(9,_),(10,_)] (fun _=>[]) (fun _=>pt b10 (encRW (mk4 k m,jz)) 204::own 3 1 ad (frees w.at).length c (nats (frees w.at))::RwL b w i L) ?_ ?_ ⟨rfl,rfl,rfl,rfl,rfl,rfl,trivial⟩
 ·refine sr fun _ K18=>?_
  refine yv y_mv<|yv (y_eql rfl rfl) ?_;refine fk [(0,_),(1,_),(2,_),(8,_),(9,_),(10,_),(78,_)] K18 ?_;refine qz ?_ ?_<;>intro hc4<;>try simp only [hyZ] at hc4
  ·refine Hd.region ?_
   refine yv (y_f 0 202 Tryz.underlying204 sz202)<|yv (y_idxA Tryz.underlying202 sz201 rfl rfl (by decide)) ?_;refine yv (y_f 0 3 Tryz.underlying201 sz3)<|Hd.store1 sz3 rfl rfl rfl pkk (by simp;done) ?_
   try simp only [hyS]
   refine Hd.nil<|slots [(0,_),(1,_),(2,_),(8,_),(9,_),(10,_)] sbq ?_;refine thenN ?_;exact Hd.meet () sbq (Ent.sep (.eq pkk (pt_eq (by obtain rfl:k=2:=hc4;rfl)) enn))
  refine Hd.skip<|thenN ?_;exact Hd.meet () sbq (Ent.sep (.eq pkk (pt_eq (by unfold mk4;rw [if_neg hc4])) enn))
 intro _;refine Hd.cutK (ι:=Unit) [(0,_),(8,_),(9,_),(10,_)] (fun _=>[]) (fun _=>pt b10 (encRW (openW (mkKW k m) ((frees w.at).take (mkKE k)) 0,jz)) 204::own 3 1 ad (frees w.at).length c (nats (frees w.at))::RwL b w i L) ?_ ?_ ⟨rfl,rfl,rfl,rfl,trivial⟩
 ·refine sr fun _ K19=>?_
  refine yv y_mv<|yv (y_eql rfl rfl) ?_;refine fk [(0,_),(2,_),(8,_),(9,_),(10,_),(83,_)] K19 ?_;refine qz ?_ ?_<;>intro hc5<;>try simp only [hyZ] at hc5
  ·refine Hd.region ?_
   refine yv y_mv<|yv (y_f 18 3 Tryz.underlying204 sz3)<|Hd.store1 sz3 rfl rfl rfl pkk (by simp;done) ?_
   try simp only [hyS]
   refine Hd.nil<|slots [(0,_),(8,_),(9,_),(10,_)] sbq ?_;refine thenN ?_;exact Hd.meet () sbq (Ent.sep (.eq pkk (pt_eq (by obtain rfl:k=3:=hc5;rfl)) enn))
  refine Hd.skip<|thenN ?_;exact Hd.meet () sbq (Ent.sep (.eq pkk (pt_eq (by rw [mk4_k k hk m hc5];rfl)) enn))
 intro _
 obtain ⟨X,hX⟩:∃ X,mkKW k m=X:=⟨_,rfl⟩
 obtain ⟨N,hN⟩:∃ N,mkKE k=N:=⟨_,rfl⟩
 rw [hX,hN];rw [hX,hN] at e3;rw [hN] at e2 hE hfl
 obtain ⟨fs,hfs⟩:∃ fs,(frees w.at).take N=fs:=⟨_,rfl⟩
 rw [hfs] at e2 e3 hfl ⊢
 have hfrl:N≤(frees w.at).length:=by rw [←hfs,List.length_take] at hfl;omega
 have hg:∀ {j:Nat},j < N→(nats (frees w.at))[j * 1]?=some (.int .i64 ((fs.getD j 0:Nat):Int)):=fun {j} hj=>by
  rw [nats_at (by omega),←hfs,List.getD_eq_getElem?_getD,List.getD_eq_getElem?_getD,List.getElem?_take_of_lt hj]
 refine Hd.seq fun _ K20=>?_
 refine sr fun _ K21=>?_
 refine yv y_as<|fk [(0,_),(8,_),(9,_),(10,_),(12,_)] K21 ?_;refine Hd.block<|Hd.loopK (ι:=Nat) [(0,_),(8,_),(9,_),(10,_)] (fun j=>[(12,.int .i64 (j:Int))]) (fun j=>pu (j≤N)::pt b10 (encRW (openW X fs j,jz)) 204::own 3 1 ad (frees w.at).length c (nats (frees w.at))::RwL b w i L) (fun j=>N - j) 0 sbq sbq (Ent.sep (.pure (by omega) enn)) ?_;intro j
 try dsimp only
 refine Hd.pure (fun hp1=>?_)
 try dsimp only at hp1
 refine Hd.seq fun _ K22=>?_
 refine sr fun _ K23=>?_
 refine yv y_mv<|yv y_mv<|yv (y_lss rfl rfl) ?_;refine fk [(0,_),(8,_),(9,_),(10,_),(12,_),(88,_)] K23 ?_;refine qz ?_ ?_<;>intro hc6<;>try simp only [hyZ] at hc6
 ·have hj:j < N:=by omega
  have hj2:j < 2:=by omega
  refine qv K22<|Hd.seq fun _ K24=>?_
  refine Hd.block<|sr fun _ K25=>?_
  refine yv y_mv<|yv (y_f 0 202 Tryz.underlying204 sz202)<|yv (y_idxA Tryz.underlying202 sz201 rfl rfl (by omega)) ?_;refine yv (y_f 0 3 Tryz.underlying201 sz3)<|Hd.store1 sz3 rfl rfl rfl pkk (by simp;omega) ?_
  try simp only [hyS]
  refine fk [(0,_),(8,_),(9,_),(10,_),(12,_)] K25 ?_;refine Hd.region<|yv y_mv<|yv y_mv<|yv y_mv<|yv (y_idxR Tryz.underlying94 sz3 rfl rfl (by omega) (by exact RdS.own pkk)) ?_;refine yv (y_loadR1 ag3 rfl (by exact RdS.own pkk) (by exact hg hj)) ?_;refine yv (y_f 0 202 Tryz.underlying204 sz202)<|yv (y_idxA Tryz.underlying202 sz201 rfl rfl (by omega)) ?_;refine yv (y_f 1 3 Tryz.underlying201 sz3)<|Hd.store1 sz3 rfl rfl rfl pkk (by simp;omega) ?_
  try simp only [hyS]
  refine Hd.nil ?_;rw [rw_open X fs hj2];refine slots [(0,_),(8,_),(9,_),(10,_),(12,_)] sbq ?_;refine Hd.inB<|Hd.toK K24 ?_;refine Hd.region<|yv y_mv<|yv (y_addn rfl rfl (by simp only [InK];omega)) ?_;refine yv y_as<|Hd.nil<|slots [(0,_),(8,_),(9,_),(10,_),(12,_)] sbq ?_;refine thenN ?_;exact Hd.again (j + 1) (by omega) sbq (Ent.sep (.pure (by omega) enn))
 obtain rfl:N=j:=by omega
 refine Hd.exit<|Hd.thenExit<|Hd.thenExit<|Hd.inBexit<|Hd.toK K20 ?_;refine Hd.seq fun _ K26=>?_
 refine Hd.drawsH ([RwH b w i.1.length i.2.1 i.2.2,pt b10 (encRW (openW X fs N,jz)) 204]) (fun j=>!([10].contains j)) mixed ?_;simp only [List.length,Nat.zero_add,Nat.reduceAdd];refine tH 0 rfl y_mv<|tH 1 rfl y_mv<|tH 2 rfl y_np<|tH 3 rfl (y_f 0 98 Tryz.underlying102 sz98)<|tH 4 rfl (y_l1 ag98 rfl)<|tH 5 rfl (y_loadn ag204 rfl (Rd.pt pkk (by exact fun j v e=>by rw [Nat.zero_add];exact e)) (by exact sz204)) ?_;refine qo 6 ?_;refine Hd.bslice (vs:=[(0,_)]) rfl (by exact bs50_109 ..) (fun b109=>?_);refine qk<|qo 7 ?_;refine Hd.append Tryz.underlying98 ty204 rfl rfl rfl pkk (by exact RdS.rd (Rd.pt pkk (fun j v e=>by simpa using e)) rfl) (by simp [Value.oneCell'];done) (by simp only [maxLen];omega) (by omega) (fun ad110 cap110=>?_);refine qk<|qo 8 ?_;refine yv y_np<|qk<|tH 9 rfl (y_f 0 98 Tryz.underlying102 sz98) ?_
 refine qo 10 ?_;refine Hd.store1 sz98 rfl rfl rfl pkk (by simp;done) ?_
 try simp only [hyS]
 refine qn<|endH kq ?_;refine sk [(8,_),(9,_)] K26 ?_;refine Hd.seq fun _ K27=>?_
 refine Hd.ownCap (ad:=ad) (us:=nats (frees w.at)) pkk (fun hcap=>?_);refine Hd.region<|yv y_mv<|yv y_mv<|yv (y_slo_xoxN Tryz.underlying94 sz3 rfl rfl (by omega)) ?_;refine yv y_as<|yv y_as<|fk [(6,_),(7,_)] K27 ?_;refine Hd.ret ?_;rw [e1,e2,e3];refine Hd.ownTake (ad:=ad) (us:=nats (frees w.at)) pkk N (nats fs) (nats ((frees w.at).drop N)) hfrl (by rw [←hfs,←List.map_append,List.take_append_drop]) (by rw [List.length_map,hfl,Nat.mul_one]) ?_
 have hbb:((openW X fs N).e 0).b=[]∧((openW X fs N).e 1).b=[]∧(openW X fs N).wt=[]:=by
  have h:=mkKW_b k m
  rw [hX] at h;exact ⟨by rw [(open_same X fs N 0).2];exact h.1,by rw [(open_same X fs N 1).2];exact h.2.1,h.2.2⟩
 refine Hd.heap (RwP b (w.addW (openW X fs N))::own 3 1 ad N c (nats fs)::L) (fun q s=>rw_add (i:=i) hi hbb q (by exact Ent.sep (.pick pkk (.eq pkk (own_eq3 rfl rfl (by rfl)) enn)) q s)) ?_;rw [←hfl];exact Hd.ret2 rfl (ad,c) rfl rfl rfl sq
end Rf
end Go.Proofs.YtmpemhbfgbochaaGreatDoor
namespace Go.Proofs.YtmpemhbfgbochaaGreatDoor
open Go.RX Fx
namespace Wo
abbrev encO (o:Ov):List Value:=[.int .i64 o.k,.int .i64 o.a,.int .i64 o.n,.int .u64 o.t,.slice o.ad o.d.length o.c]
theorem Hd.wokW {E:World} {n:Nat} {ds:List Deferred} {st:List (Nat×Value)} {L L':List SP} {K:Act→World→Prop} {wb:Nat} {w:WA} (p:Pick L (WorldP wb w) L') (h:WOk w→Hd E n ds st L K):Hd E n ds st L K:=fun a v f s=>by
 refine h ?_ a v f s
 obtain ⟨h1,s1,i,x⟩:=sep.one p s.2.2.2
 obtain ⟨_,_,_,_,_,hq,_⟩:=x
 exact hq.1
abbrev BoP (pb wb rb:Nat):SP:=pt pb [.pointer (some ⟨wb,0,none⟩),.pointer (some ⟨rb,0,none⟩)] 40
theorem fresh_ct (L:List SP):Ct Tryz.prog 7 #[] (L) (fun q_:Nat×Nat×Nat=>.pointer (some ⟨q_.1,0,none⟩)) (fun q_:Nat×Nat×Nat=>BoP q_.1 q_.2.1 q_.2.2::WorldP q_.2.1 newA::Rf.RwP q_.2.2 newA::L):=by
 refine Ct.o0 Tryz.func7 ?_;intro E
 show Hd E 5 _ _ _ _
 refine sr fun _ K1=>?_
 refine yv y_as<|fk [] K1 ?_;refine sr fun _ K2=>?_
 refine callE rfl fk42 (wnew_ct _) sq ?_;intro wb;refine callE rfl fk46 (Rf.rNew_ct _) sq ?_;intro rb;refine yv (y_build (vs:=[(0,_),(1,_)]) rfl (by exact bd7_3 ..)) ?_;refine Hd.box rfl rfl (fun b4=>?_);refine yv y_as<|fk [(0,_)] K2 ?_;refine Hd.ret ?_;exact Hd.ret1 rfl (b4,wb,rb) rfl sq
end Wo
end Go.Proofs.YtmpemhbfgbochaaGreatDoor
namespace Go.Proofs.YtmpemhbfgbochaaGreatDoor
open Go.RX Fx
namespace Wo
open Rf (badK mkErr mkLst mk_bad mk_no mk_yes)
def mkA (w:WA) (k n:Int):Int:=if badK k n then 0 else mkI w (mkKE k) 0
def mkB (w:WA) (k n:Int):Int:=if badK k n then 0 else if k≤1 then mkI w 2 1 else mkN w 1
theorem bad_of {k n:Int} (hk:k≠3):badK k n↔(n < 1∨65536 < n):=by unfold badK;omega
theorem wmk1_ct (L:List SP) (wb:Nat) (w:WA) (k n:Int) (hk:k=1):Ct Tryz.prog 43 #[.pointer (some ⟨wb,0,none⟩),.int .i64 n] (WorldP wb w::L) (fun _:Unit=>.tuple #[.int .i64 (mkA w k n),.int .i64 (mkB w k n),.int .i64 (mkErr w k n)]) (fun _=>WorldP wb (makeR w k n)::L):=by
 subst hk
 by_cases h:badK 1 n
 ·obtain ⟨e1,_,e3⟩:=mk_bad (w:=w) h
  rw [show mkA w 1 n=0 from if_pos h,show mkB w 1 n=0 from if_pos h,e1,e3];exact pairbad_ct L wb w n ((bad_of (by decide)).1 h)
 ·rw [show mkA w 1 n=mkI w 2 0 from if_neg h,show mkB w 1 n=mkI w 2 1 from if_neg h,show mkErr w 1 n=mkE w 2 from if_neg h,show makeR w 1 n=mkW w 2 (halfW n.toNat 2) from if_neg h]
  rw [bad_of (by decide)] at h
  obtain ⟨m,rfl⟩:∃ m:Nat,n=(m:Int):=⟨n.toNat,by omega⟩
  exact pair_ct L wb w m (by omega) (by omega)
structure MadeOk (a b e wire:Int) (l:List Nat):Prop where
 no:e≠0→a=0∧b=0
 yes:e=0→∃ f t,l=f::t∧a=((f:Nat):Int)∧((t=[]∧b=wire)∨∃ g,t=[g]∧b=((g:Nat):Int))
theorem made_ok (w:WA) {k:Int} (hk:0≤k∧k≤3) (n:Int):MadeOk (mkA w k n) (mkB w k n) (mkErr w k n) (((makeR w k n).ws.length:Nat) - 1) (mkLst w k n):=by
 by_cases h:badK k n
 ·obtain ⟨e1,e2,e3⟩:=mk_bad (w:=w) h
  exact ⟨fun _=>⟨if_pos h,if_pos h⟩,fun e=>by rw [e1] at e;exact absurd e (by decide)⟩
 have hA:mkA w k n=mkI w (mkKE k) 0:=if_neg h
 have hB:mkB w k n=if k≤1 then mkI w 2 1 else mkN w 1:=if_neg h
 cases ho:mkOk w (mkKE k) with
 | false =>
  obtain ⟨e1,e2,e3⟩:=mk_no (w:=w) h ho
  have hF:mkF w (mkKE k)=[]:=by unfold mkF;rw [ho];rfl
  refine ⟨fun _=>⟨by rw [hA];unfold mkI;rw [hF];rfl,?_⟩,fun e=>by rw [e1] at e;exact absurd e (by decide)⟩;rw [hB]
  by_cases h1:k≤1
  ·rw [if_pos h1]
   have:mkKE k=2:=if_pos (by omega)
   rw [this] at hF;unfold mkI;rw [hF];rfl
  ·rw [if_neg h1]
   have:mkKE k=1:=if_neg (by omega)
   rw [this] at ho;unfold mkN mkE;rw [ho];rfl
 | true =>
  obtain ⟨e1,e2,e3⟩:=mk_yes (w:=w) h ho
  have hF:mkF w (mkKE k)=(frees w.at).take (mkKE k):=by unfold mkF;rw [ho];rfl
  have hl:((frees w.at).take (mkKE k)).length=mkKE k:=by unfold mkOk at ho;simp only [Bool.and_eq_true,decide_eq_true_eq] at ho;omega
  refine ⟨fun e=>absurd e1 e,fun _=>?_⟩;rw [e2,hA,hB];unfold mkI;rw [hF]
  by_cases h1:k≤1
  ·have h2:mkKE k=2:=if_pos (by omega)
   rw [h2] at hl hF ⊢;rw [if_pos h1,hF]
   obtain ⟨f,g,hfg⟩:∃ f g,(frees w.at).take 2=[f,g]:=by
    match hm:(frees w.at).take 2,hl with
    | [f,g],_=>exact ⟨f,g,rfl⟩
   rw [hfg];exact ⟨f,[g],rfl,rfl,.inr ⟨g,rfl,rfl⟩⟩
  ·have h2:mkKE k=1:=if_neg (by omega)
   rw [h2] at hl ho ⊢;rw [if_neg h1]
   obtain ⟨f,hf⟩:∃ f,(frees w.at).take 1=[f]:=by
    match hm:(frees w.at).take 1,hl with
    | [f],_=>exact ⟨f,rfl⟩
   rw [hf];refine ⟨f,[],rfl,rfl,.inl ⟨rfl,?_⟩⟩
   have he:mkE w 1=0:=by unfold mkE;rw [ho];rfl
   rw [show mkN w 1=(w.ws.length:Int) from if_pos he]
   have:makeR w k n=mkW w 1 (mkKW k n):=by
    rw [←h2];exact if_neg h
   rw [this,mkW_len he];omega
theorem made_ct (L:List SP) (a b e wire:Int) (l:List Nat) (ad:Option Addr) (c:Nat) (hR:RdS L 1 ad l.length (nats l)) (h:MadeOk a b e wire l):Ct Tryz.prog 51 #[.int .i64 a,.int .i64 b,.int .i64 e,.slice ad l.length c,.int .i64 wire,.int .i64 e] (L) (fun _:Unit=>.bool true) (fun _:Unit=>L):=by
 refine Ct.o6 Tryz.func51 ?_;intro E
 show Hd E 55 _ _ _ _
 refine sr fun _ K1=>?_
 refine yv y_as<|fk [(0,_),(1,_),(2,_),(3,_),(4,_),(5,_)] K1 ?_;refine Hd.seq fun _ K2=>?_
 refine sr fun _ K3=>?_
 refine yv y_mv<|yv (y_neq rfl rfl) ?_;refine yv y_mv ?_;apply Hd.org 3 15 18 [(0,_),(1,_),(2,_),(3,_),(4,_),(5,_)] rfl sbq
 ·intro hg1_15
  try simp only [hyZ] at hg1_15
  simp only [List.take];refine n1<|n1<|yv (y_pickT rfl rfl) ?_;exact Hd.mn
 ·intro hg1_15
  try simp only [hyZ] at hg1_15
  simp only [List.take];refine y2 y_mv<|y2 (y_neq rfl rfl) ?_;refine yv (y_pickF rfl rfl) ?_;exact Hd.mn
 simp only [List.drop];refine fk [(0,_),(1,_),(2,_),(3,_),(4,_),(5,_),(18,_)] K3 ?_;refine qz ?_ ?_<;>intro hc0<;>try simp only [hyZ] at hc0
 ·refine sr fun _ K4=>?_
  refine yv y_mv<|yv y_mv<|yv (y_eqlT rfl rfl) ?_;refine yv y_mv ?_;apply Hd.andg 3 22 25 [(1,_)] rfl sbq
  ·intro hg2_22
   try simp only [hyZ] at hg2_22
   simp only [List.take];refine y2 y_mv<|y2 (y_eql rfl rfl) ?_;refine yv (y_pickT rfl rfl) ?_;exact Hd.mn
  ·intro hg2_22
   try simp only [hyZ] at hg2_22
   simp only [List.take];refine n1<|n1<|yv (y_pickF rfl rfl) ?_;exact Hd.mn
  simp only [List.drop];refine yv y_mv ?_;apply Hd.andg 3 26 29 [] rfl sbq
  ·intro hg2_26
   try simp only [hyZ] at hg2_26
   simp only [List.take];refine y2 y_mv<|y2 (y_eql rfl rfl) ?_;refine yv (y_pickT rfl rfl) ?_;exact Hd.mn
  ·intro hg2_26
   try simp only [hyZ] at hg2_26
   simp only [List.take];refine n1<|n1<|yv (y_pickF rfl rfl) ?_;exact Hd.mn
  simp only [List.drop];refine yv y_as<|fk [(12,_)] K4 ?_;refine Hd.ret<|Hd.thenRet ?_
  obtain ⟨rfl,rfl⟩:=h.no (by omega)
  exact Hd.ret1 rfl () rfl sq
 obtain ⟨f,t,rfl,rfl,ht⟩:=h.yes (by omega)
 have hln:0 < (f::t).length:=Nat.succ_pos _
 refine qv K2<|Hd.seq fun _ K5=>?_
 refine sr fun _ K6=>?_
 refine yv y_mv<|yv (y_len Tryz.underlying94 rfl) ?_;refine yv (y_eql rfl rfl) ?_;refine fk [(0,_),(1,_),(3,_),(4,_),(32,_)] K6 ?_;refine qz ?_ ?_<;>intro hc1<;>try simp only [hyZ] at hc1
 ·obtain ⟨g,rfl,rfl⟩:∃ g,t=[g]∧b=((g:Nat):Int):=by
   rcases ht with ⟨rfl,_⟩ | h1
   ·simp at hc1
   ·exact h1
  refine sr fun _ K7=>?_
  refine yv y_mv<|yv y_mv<|yv (y_idxR Tryz.underlying94 sz3 rfl rfl (by exact (show (0:Nat) < _ by omega)) (by exact hR)) ?_;refine yv (y_loadR1 ag3 rfl (by exact hR) (by rfl)) ?_;refine yv (y_eqlT rfl rfl) ?_;refine yv y_mv ?_;apply Hd.andg 6 38 44 [] rfl sbq
  ·intro hg4_38
   try simp only [hyZ] at hg4_38
   simp only [List.take];refine y2 y_mv<|y2 y_mv<|y2 (y_idxR Tryz.underlying94 sz3 rfl rfl (by exact (show (1:Nat) < _ by omega)) (by exact hR)) ?_;refine y2 (y_loadR1 ag3 rfl (by exact hR) (by rfl)) ?_;refine y2 (y_eqlT rfl rfl) ?_;refine yv (y_pickT rfl rfl) ?_;exact Hd.mn
  ·intro hg4_38
   try simp only [hyZ] at hg4_38
   simp only [List.take];refine n1<|n1<|n1<|n1<|n1<|yv (y_pickF rfl rfl) ?_;exact Hd.mn
  simp only [List.drop];refine yv y_as<|fk [(12,_)] K7 ?_;refine Hd.ret<|Hd.thenRet ?_;exact Hd.ret1 rfl () (by rfl) sq
 obtain ⟨rfl,rfl⟩:t=[]∧b=wire:=by
  rcases ht with h1 | ⟨g,rfl,_⟩
  ·exact h1
  ·exact absurd rfl hc1
 refine qv K5<|sr fun _ K8=>?_
 refine yv y_mv<|yv y_mv<|yv (y_idxR Tryz.underlying94 sz3 rfl rfl (by exact (show (0:Nat) < _ by omega)) (by exact hR)) ?_;refine yv (y_loadR1 ag3 rfl (by exact hR) (by rfl)) ?_;refine yv (y_eqlT rfl rfl) ?_;refine yv y_mv ?_;apply Hd.andg 4 50 54 [] rfl sbq
 ·intro hg5_50
  try simp only [hyZ] at hg5_50
  simp only [List.take];refine y2 y_mv<|y2 y_mv<|y2 (y_eqlT rfl rfl) ?_;refine yv (y_pickT rfl rfl) ?_;exact Hd.mn
 ·intro hg5_50
  try simp only [hyZ] at hg5_50
  simp only [List.take];refine n1<|n1<|n1<|yv (y_pickF rfl rfl) ?_;exact Hd.mn
 simp only [List.drop];refine yv y_as<|fk [(12,_)] K8 ?_;refine Hd.ret ?_;exact Hd.ret1 rfl () (by rfl) sq
theorem do1_ct (L:List SP) (pb wb rb:Nat) (w:WA) (K:Nat) (hK:K≤100000000) (hl:Lo K w) (o:Ov) (hk:o.k=1) (ht:InK .u64 o.t) (hd:o.d.length≤300) (hR:RdS L 1 o.ad o.d.length (bsl o.d)) (hc:o.d.length≤o.c):Ct Tryz.prog 8 #[.pointer (some ⟨pb,0,none⟩),.agg (encO o).toArray] (BoP pb wb rb::WorldP wb w::Rf.RwP rb w::L) (fun _:Unit=>.bool true) (fun _:Unit=>BoP pb wb rb::WorldP wb (doA w o)::Rf.RwP rb (doA w o)::L):=by
 refine Ct.o2 Tryz.func8 ?_;intro E
 show Hd E 289 _ _ _ _
 have ht0:=ht
 simp only [InK] at ht
 have hnow:=hl.now
 refine Hd.wokW (.there .here) (fun hw=>?_);refine sr fun _ K1=>?_
 refine Hd.box rfl rfl (fun b3=>?_);refine yv y_as<|fk [(0,_),(3,_)] K1 ?_;refine sr fun _ K2=>?_
 refine Hd.bslice (vs:=[]) rfl (by exact bs8_31 ..) (fun b31=>?_);refine Hd.ownNil 5 1 (some ⟨b31,0,none⟩) ?_;refine yv (y_f 4 30 Tryz.underlying32 sz30)<|yv (y_l1 ag30 rfl)<|Hd.append Tryz.underlying30 ty5 rfl rfl rfl pkk (by exact RdS.mono hR sq) (by simp [Value.oneCell'];done) (by simp only [maxLen];omega) (by omega) (fun ad34 cap34=>?_);refine yv y_as<|Hd.nil ?_;rw [Nat.zero_add,List.nil_append]
 obtain ⟨k,a,n,t,ad,c,d⟩:=o
 obtain rfl:k=1:=hk
 dsimp only at hd hc ht hR;refine sk [(0,_),(3,_),(5,_)] K2 ?_;refine Hd.seq fun _ K3=>?_
 refine Hd.ownCap (ad:=ad34) (us:=bsl d) pkk (fun hcap=>?_);refine Hd.region<|yv y_as<|fk [(0,_),(3,_),(5,_)] K3 ?_;refine Hd.cutK (ι:=Unit) [(5,_)] (fun _=>[(6,.bool true)]) (fun _=>own 5 1 ad34 d.length cap34 (bsl d)::BoP pb wb rb::WorldP wb (doA w ⟨1,a,n,t,ad,c,d⟩)::Rf.RwP rb (doA w ⟨1,a,n,t,ad,c,d⟩)::L) ?_ ?_ ⟨rfl,trivial⟩
 ·refine sr fun _ K4=>?_
  refine yv (y_f 0 3 Tryz.underlying32 sz3)<|yv (y_l1 ag3 rfl)<|fk [(0,_),(3,_),(5,_),(36,_)] K4 ?_;refine Hd.block<|Hd.seq fun _ K5=>?_
  refine sr fun _ K6=>?_
  refine yv (y_eql rfl rfl) ?_;refine yv y_as<|fk [(0,_),(3,_),(5,_),(36,_),(41,_)] K6 ?_;refine Hd.condF rfl ?_;refine sr fun _ K7=>?_
  refine yv (y_eqlT rfl rfl) ?_;refine yv y_as<|fk [(0,_),(3,_),(5,_),(36,_),(41,_)] K7 ?_;refine Hd.condT rfl ?_;refine qv K5<|Hd.condT rfl ?_;refine sr fun _ K8=>?_
  refine yv y_as<|yv y_as<|fk [(0,_),(3,_),(5,_)] K8 ?_;refine sr fun _ K9=>?_
  refine yv y_as<|fk [(0,_),(3,_),(5,_)] K9 ?_;refine Hd.seq fun _ K10=>?_
  refine sr fun _ K11=>?_
  refine yv (y_f 0 3 Tryz.underlying32 sz3)<|yv (y_l1 ag3 rfl)<|fk [(0,_),(3,_),(5,_),(47,_)] K11 ?_;refine Hd.block<|sr fun _ K12=>?_
  refine yv (y_eql rfl rfl) ?_;refine yv y_as<|fk [(0,_),(3,_),(5,_),(47,_),(59,_)] K12 ?_;refine Hd.condF rfl ?_;refine sr fun _ K13=>?_
  refine yv (y_eqlT rfl rfl) ?_;refine yv y_as<|fk [(0,_),(3,_),(5,_),(47,_),(72,_)] K13 ?_;refine Hd.condT rfl ?_;refine Hd.drawsH ([BoP pb wb rb,pt b3 (encO ⟨1,a,n,t,ad,c,d⟩) 32]) (fun _=>true) mixed ?_;simp only [List.length,Nat.zero_add,Nat.reduceAdd];refine tH 0 rfl y_mv<|tH 1 rfl y_np<|tH 2 rfl (y_f 0 37 Tryz.underlying40 sz37)<|tH 3 rfl (y_l1 ag37 rfl)<|tH 4 rfl (y_f 2 3 Tryz.underlying32 sz3)<|tH 5 rfl (y_l1 ag3 rfl)<|qo 6 ?_;refine callE rfl fk43 (wmk1_ct _ wb w 1 n (by omega)) sq ?_;intro _;refine qk<|tH 7 rfl y_mv<|tH 8 rfl y_ex<|tH 9 rfl y_ex<|tH 10 rfl y_ex<|tH 11 rfl y_as<|tH 12 rfl y_as<|tH 13 rfl y_as<|endH kq ?_;refine slots [(0,_),(3,_),(5,_),(7,_),(8,_),(9,_)] sbq ?_;refine Hd.inB<|Hd.toK K10 ?_
  refine Hd.seq fun _ K14=>?_
  refine Hd.drawsH ([BoP pb wb rb,pt b3 (encO ⟨1,a,n,t,ad,c,d⟩) 32]) (fun _=>true) mixed ?_;simp only [List.length,Nat.zero_add,Nat.reduceAdd];refine tH 0 rfl y_mv<|tH 1 rfl y_np<|tH 2 rfl (y_f 1 38 Tryz.underlying40 sz38)<|tH 3 rfl (y_l1 ag38 rfl)<|tH 4 rfl (y_f 0 3 Tryz.underlying32 sz3)<|tH 5 rfl (y_l1 ag3 rfl)<|tH 6 rfl (y_f 2 3 Tryz.underlying32 sz3)<|tH 7 rfl (y_l1 ag3 rfl)<|qo 8 ?_;refine callE rfl fk50 (Rf.rMake_ct _ rb w hw 1 n (by omega)) sq ?_;rintro ⟨ma,mc⟩;dsimp only;refine qk<|tH 9 rfl y_mv<|tH 10 rfl y_ex<|tH 11 rfl y_ex<|tH 12 rfl y_as<|tH 13 rfl y_as<|endH kq ?_;refine sk [(0,_),(5,_),(7,_),(8,_),(9,_),(10,_),(11,_)] K14 ?_;refine Hd.wokW (wb:=wb) (w:=makeR w 1 n) pkk (fun hw2=>?_);refine Rf.Hd.rw (b:=rb) (w:=makeR w 1 n) pkk (fun i hi=>?_)
  have hrl:=Rf.rows_n hi
  have hlen:=hw2.len
  refine Hd.region<|yv y_mv<|yv y_mv<|yv y_mv<|yv y_mv<|yv y_mv<|yv y_np<|yv (y_f 1 38 Tryz.underlying40 sz38)<|yv (y_l1 ag38 rfl)<|yv y_np<|yv (y_f 0 98 Tryz.underlying102 sz98)<|yv (y_l1 ag98 rfl)<|yv (y_len Tryz.underlying98 rfl) ?_;refine yv (y_to (v':=.int .i64 (((makeR w 1 n).ws.length:Nat) - 1)) (y_subn rfl rfl (by simp only [InK];omega)) (by (congr 1;omega))) ?_;refine yv y_mv<|callE rfl fk51 (made_ct _ _ _ _ _ _ ma mc ?hD (made_ok w (k:=1) (by omega) n)) sq ?_
  case hD=>exact RdS.own pkk
  intro _;refine yv y_as<|Hd.nil<|slots [(5,_),(6,_)] sbq ?_;refine Hd.inB<|thenN ?_;rw [do_mk ⟨by simp;done,by simp;done⟩];exact Hd.meet () sbq (Ent.sep (.pick pkk (.pick pkk (.pick pkk (.ex i (.pure hi enn))))))
 intro _;refine Hd.seq fun _ K15=>?_
 refine sr fun _ K16=>?_
 refine yv y_mv<|yv (y_len Tryz.underlying30 rfl) ?_;refine yv y_mv<|fk [(5,_),(6,_),(275,_),(276,_)] K16 ?_;refine Hd.block<|Hd.loopK (ι:=Nat×List Value) [(5,_),(6,_),(275,_)] (fun q_=>[(276,.int .i64 (q_.1:Int))]) (fun q_=>pu (q_.1≤d.length∧q_.2.length=d.length∧∀ v∈q_.2,∃ x,v=.int .u8 x)::own 5 1 ad34 d.length cap34 q_.2::BoP pb wb rb::WorldP wb (doA w ⟨1,a,n,t,ad,c,d⟩)::Rf.RwP rb (doA w ⟨1,a,n,t,ad,c,d⟩)::L) (fun q_=>d.length - q_.1) (0,bsl d) sbq sbq (Ent.sep (.pure ⟨Nat.zero_le _,by simp [bsl],fun v hv=>by obtain ⟨b,_,rfl⟩:=List.mem_map.1 hv;exact ⟨_,rfl⟩⟩ enn)) ?_;rintro ⟨i,us⟩
 try dsimp only
 refine Hd.pure (fun hp0=>?_)
 try dsimp only at hp0
 refine sr fun _ K17=>?_
 refine yv (y_lss rfl rfl) ?_;refine fk [(5,_),(6,_),(275,_),(276,_),(277,_)] K17 ?_;refine Hd.seq fun _ K18=>?_
 refine qz ?_ ?_<;>intro hc12<;>try simp only [hyZ] at hc12
 ·have hi:i < d.length:=by omega
  have hiu:i < us.length:=by omega
  obtain ⟨x,hx⟩:=hp0.2.2 us[i] (List.getElem_mem hiu)
  have hg:us[i * 1]?=some (.int .u8 x):=by rw [Nat.mul_one,List.getElem?_eq_getElem hiu,hx]
  refine qv K18<|Hd.seq fun _ K19=>?_
  refine Hd.block<|sr fun _ K20=>?_
  refine yv y_mv<|yv y_as<|fk [(5,_),(6,_),(30,_),(275,_),(276,_)] K20 ?_;refine Hd.region<|yv y_mv<|yv y_mv<|yv y_mv<|yv y_mv<|yv (y_idxR Tryz.underlying30 sz5 rfl rfl (by omega) (by exact RdS.own pkk)) ?_;refine yv (y_loadR1 ag5 rfl (by exact RdS.own pkk) (by exact hg)) ?_;refine yv (y_add rfl rfl) ?_;refine yv (y_idxR Tryz.underlying30 sz5 rfl rfl (by omega) (by exact RdS.own pkk)) ?_;refine Hd.storeO1 sz5 rfl rfl rfl pkk (by omega) ?_
  try simp only [hyS]
  refine Hd.nil<|slots [(5,_),(6,_),(275,_),(276,_)] sbq ?_;refine Hd.inB<|Hd.toK K19 ?_;refine Hd.region<|yv (y_addn rfl rfl (by simp only [InK];omega)) ?_;refine yv y_mv<|Hd.nil<|slots [(5,_),(6,_),(275,_),(276,_)] sbq ?_;refine thenN ?_
  have hnew:∀ v∈us.set (i * 1) (.int .u8 (IntKind.u8.wrap (x + 1))),∃ x,v=.int .u8 x:=fun v hv=>(List.mem_or_eq_of_mem_set hv).elim (fun h=>hp0.2.2 v h) (fun h=>⟨_,h⟩)
  exact Hd.again (i + 1,us.set (i * 1) (.int .u8 (IntKind.u8.wrap (x + 1)))) (by omega) sbq (Ent.sep (.pure ⟨hi,by rw [List.length_set];exact hp0.2.1,hnew⟩ enn))
 refine Hd.exit<|Hd.thenExit<|Hd.thenExit<|Hd.inBexit<|Hd.toK K15 ?_;refine sr fun _ K21=>?_
 refine yv y_mv<|yv y_as<|fk [(4,_)] K21 ?_;refine Hd.ret ?_;exact Hd.ret1 rfl () (by rfl) sq
theorem do5_ct (L:List SP) (pb wb rb:Nat) (w:WA) (K:Nat) (hK:K≤100000000) (hl:Lo K w) (o:Ov) (hk:o.k=5) (ht:InK .u64 o.t) (hd:o.d.length≤300) (hR:RdS L 1 o.ad o.d.length (bsl o.d)) (hc:o.d.length≤o.c):Ct Tryz.prog 8 #[.pointer (some ⟨pb,0,none⟩),.agg (encO o).toArray] (BoP pb wb rb::WorldP wb w::Rf.RwP rb w::L) (fun _:Unit=>.bool true) (fun _:Unit=>BoP pb wb rb::WorldP wb (doA w o)::Rf.RwP rb (doA w o)::L):=by
 refine Ct.o2 Tryz.func8 ?_;intro E
 show Hd E 289 _ _ _ _
 have ht0:=ht
 simp only [InK] at ht
 have hnow:=hl.now
 refine Hd.wokW (.there .here) (fun hw=>?_);refine sr fun _ K1=>?_
 refine Hd.box rfl rfl (fun b3=>?_);refine yv y_as<|fk [(0,_),(3,_)] K1 ?_;refine sr fun _ K2=>?_
 refine Hd.bslice (vs:=[]) rfl (by exact bs8_31 ..) (fun b31=>?_);refine Hd.ownNil 5 1 (some ⟨b31,0,none⟩) ?_;refine yv (y_f 4 30 Tryz.underlying32 sz30)<|yv (y_l1 ag30 rfl)<|Hd.append Tryz.underlying30 ty5 rfl rfl rfl pkk (by exact RdS.mono hR sq) (by simp [Value.oneCell'];done) (by simp only [maxLen];omega) (by omega) (fun ad34 cap34=>?_);refine yv y_as<|Hd.nil ?_;rw [Nat.zero_add,List.nil_append]
 obtain ⟨k,a,n,t,ad,c,d⟩:=o
 obtain rfl:k=5:=hk
 dsimp only at hd hc ht hR;refine sk [(0,_),(3,_),(5,_)] K2 ?_;refine Hd.seq fun _ K3=>?_
 refine Hd.ownCap (ad:=ad34) (us:=bsl d) pkk (fun hcap=>?_);refine Hd.region<|yv y_as<|fk [(0,_),(3,_),(5,_)] K3 ?_;refine Hd.cutK (ι:=Unit) [(5,_)] (fun _=>[(6,.bool true)]) (fun _=>own 5 1 ad34 d.length cap34 (bsl d)::BoP pb wb rb::WorldP wb (doA w ⟨5,a,n,t,ad,c,d⟩)::Rf.RwP rb (doA w ⟨5,a,n,t,ad,c,d⟩)::L) ?_ ?_ ⟨rfl,trivial⟩
 ·refine sr fun _ K4=>?_
  refine yv (y_f 0 3 Tryz.underlying32 sz3)<|yv (y_l1 ag3 rfl)<|fk [(0,_),(3,_),(5,_),(36,_)] K4 ?_;refine Hd.block<|Hd.seq fun _ K5=>?_
  refine sr fun _ K6=>?_
  refine yv (y_eql rfl rfl) ?_;refine yv y_as<|fk [(0,_),(3,_),(5,_),(36,_),(41,_)] K6 ?_;refine Hd.condF rfl ?_;refine sr fun _ K7=>?_
  refine yv (y_eql rfl rfl) ?_;refine yv y_as<|fk [(0,_),(3,_),(5,_),(36,_),(41,_)] K7 ?_;refine Hd.condF rfl ?_;refine sr fun _ K8=>?_
  refine yv (y_eql rfl rfl) ?_;refine yv y_as<|fk [(0,_),(3,_),(5,_),(36,_),(41,_)] K8 ?_;refine Hd.condF rfl ?_;refine Hd.region<|yv (y_eql rfl rfl) ?_;refine yv y_as<|fk [(0,_),(3,_),(5,_),(36,_),(41,_)] K5 ?_;refine Hd.condF rfl ?_;refine sr fun _ K9=>?_
  refine yv (y_eql rfl rfl) ?_;refine yv y_as<|fk [(0,_),(3,_),(5,_),(36,_),(125,_)] K9 ?_;refine Hd.condF rfl ?_;refine sr fun _ K10=>?_
  refine yv (y_eqlT rfl rfl) ?_;refine yv y_as<|fk [(0,_),(3,_),(5,_),(36,_),(162,_)] K10 ?_;refine Hd.condT rfl ?_;refine Hd.seq fun _ K11=>?_
  refine Hd.drawsH ([BoP pb wb rb,pt b3 (encO ⟨5,a,n,t,ad,c,d⟩) 32]) (fun _=>true) mixed ?_;simp only [List.length,Nat.zero_add,Nat.reduceAdd];refine tH 0 rfl y_mv<|tH 1 rfl y_np<|tH 2 rfl (y_f 0 37 Tryz.underlying40 sz37)<|tH 3 rfl (y_l1 ag37 rfl)<|tH 4 rfl (y_f 1 3 Tryz.underlying32 sz3)<|tH 5 rfl (y_l1 ag3 rfl)<|tH 6 rfl (y_f 2 3 Tryz.underlying32 sz3)<|tH 7 rfl (y_l1 ag3 rfl)<|qo 8 ?_;refine callE rfl fk54 (wread_ct _ wb w a n) sq ?_;rintro ⟨ta,tc⟩;dsimp only;refine qk<|tH 9 rfl y_mv<|tH 10 rfl y_ex<|tH 11 rfl y_ex<|tH 12 rfl y_ex<|tH 13 rfl y_as<|tH 14 rfl y_as<|tH 15 rfl y_as<|endH kq ?_;refine sk [(0,_),(3,_),(5,_),(18,_),(19,_),(20,_)] K11 ?_;refine Hd.seq fun _ K12=>?_
  refine Hd.drawsH ([BoP pb wb rb,pt b3 (encO ⟨5,a,n,t,ad,c,d⟩) 32]) (fun _=>true) mixed ?_;simp only [List.length,Nat.zero_add,Nat.reduceAdd];refine tH 0 rfl y_mv<|tH 1 rfl y_np<|tH 2 rfl (y_f 1 38 Tryz.underlying40 sz38)<|tH 3 rfl (y_l1 ag38 rfl)<|tH 4 rfl (y_f 1 3 Tryz.underlying32 sz3)<|tH 5 rfl (y_l1 ag3 rfl)<|tH 6 rfl (y_f 2 3 Tryz.underlying32 sz3)<|tH 7 rfl (y_l1 ag3 rfl)<|qo 8 ?_;refine callE rfl fk55 (Rf.rRead_ct _ rb w hw a n) sq ?_;rintro ⟨ua,uc⟩;dsimp only;refine qk<|tH 9 rfl y_mv<|tH 10 rfl y_ex<|tH 11 rfl y_ex<|tH 12 rfl y_ex<|tH 13 rfl y_as<|tH 14 rfl y_as<|tH 15 rfl y_as<|endH kq ?_;refine sk [(5,_),(18,_),(19,_),(20,_),(21,_),(22,_),(23,_)] K12 ?_;refine Hd.region<|yv y_mv<|yv (y_strOf (l:=_) kq Tryz.underlying9 rfl (by exact RdS.own pkk)) ?_
  refine yv y_mv<|yv (y_strOf (l:=_) kq Tryz.underlying9 rfl (by exact RdS.own pkk)) ?_;refine yv (y_eqlstr rfl rfl) ?_;refine yv y_mv ?_;apply Hd.andg 4 195 199 [(5,_),(20,_),(23,_)] rfl sbq
  ·intro hg28_195
   try simp only [hyZ] at hg28_195
   simp only [List.take];refine y2 y_mv<|y2 y_mv<|y2 (y_eqlb Tryz.underlying4 rfl rfl) ?_;refine yv (y_pickT rfl rfl) ?_;exact Hd.mn
  ·intro hg28_195
   try simp only [hyZ] at hg28_195
   simp only [List.take];refine n1<|n1<|n1<|yv (y_pickF rfl rfl) ?_;exact Hd.mn
  simp only [List.drop];refine yv y_mv ?_;apply Hd.andg 4 200 204 [(5,_)] rfl sbq
  ·intro hg28_200
   try simp only [hyZ] at hg28_200
   simp only [List.take];refine y2 y_mv<|y2 y_mv<|y2 (y_eqlT rfl rfl) ?_;refine yv (y_pickT rfl rfl) ?_;exact Hd.mn
  ·intro hg28_200
   try simp only [hyZ] at hg28_200
   simp only [List.take];refine n1<|n1<|n1<|yv (y_pickF rfl rfl) ?_;exact Hd.mn
  simp only [List.drop];refine yv y_as<|Hd.nil<|slots [(5,_),(6,_)] sbq ?_;refine Hd.inB<|thenN ?_;rw [do_5 rfl];exact Hd.meet () (by simp;repeat (first | exact trivial | refine ⟨rfl,?_⟩)) sq
 intro _;refine Hd.seq fun _ K13=>?_
 refine sr fun _ K14=>?_
 refine yv y_mv<|yv (y_len Tryz.underlying30 rfl) ?_;refine yv y_mv<|fk [(5,_),(6,_),(275,_),(276,_)] K14 ?_;refine Hd.block<|Hd.loopK (ι:=Nat×List Value) [(5,_),(6,_),(275,_)] (fun q_=>[(276,.int .i64 (q_.1:Int))]) (fun q_=>pu (q_.1≤d.length∧q_.2.length=d.length∧∀ v∈q_.2,∃ x,v=.int .u8 x)::own 5 1 ad34 d.length cap34 q_.2::BoP pb wb rb::WorldP wb (doA w ⟨5,a,n,t,ad,c,d⟩)::Rf.RwP rb (doA w ⟨5,a,n,t,ad,c,d⟩)::L) (fun q_=>d.length - q_.1) (0,bsl d) sbq sbq (Ent.sep (.pure ⟨Nat.zero_le _,by simp [bsl],fun v hv=>by obtain ⟨b,_,rfl⟩:=List.mem_map.1 hv;exact ⟨_,rfl⟩⟩ enn)) ?_;rintro ⟨i,us⟩
 try dsimp only
 refine Hd.pure (fun hp0=>?_)
 try dsimp only at hp0
 refine sr fun _ K15=>?_
 refine yv (y_lss rfl rfl) ?_;refine fk [(5,_),(6,_),(275,_),(276,_),(277,_)] K15 ?_;refine Hd.seq fun _ K16=>?_
 refine qz ?_ ?_<;>intro hc12<;>try simp only [hyZ] at hc12
 ·have hi:i < d.length:=by omega
  have hiu:i < us.length:=by omega
  obtain ⟨x,hx⟩:=hp0.2.2 us[i] (List.getElem_mem hiu)
  have hg:us[i * 1]?=some (.int .u8 x):=by rw [Nat.mul_one,List.getElem?_eq_getElem hiu,hx]
  refine qv K16<|Hd.seq fun _ K17=>?_
  refine Hd.block<|sr fun _ K18=>?_
  refine yv y_mv<|yv y_as<|fk [(5,_),(6,_),(30,_),(275,_),(276,_)] K18 ?_;refine Hd.region<|yv y_mv<|yv y_mv<|yv y_mv<|yv y_mv<|yv (y_idxR Tryz.underlying30 sz5 rfl rfl (by omega) (by exact RdS.own pkk)) ?_;refine yv (y_loadR1 ag5 rfl (by exact RdS.own pkk) (by exact hg)) ?_;refine yv (y_add rfl rfl) ?_;refine yv (y_idxR Tryz.underlying30 sz5 rfl rfl (by omega) (by exact RdS.own pkk)) ?_;refine Hd.storeO1 sz5 rfl rfl rfl pkk (by omega) ?_
  try simp only [hyS]
  refine Hd.nil<|slots [(5,_),(6,_),(275,_),(276,_)] sbq ?_;refine Hd.inB<|Hd.toK K17 ?_;refine Hd.region<|yv (y_addn rfl rfl (by simp only [InK];omega)) ?_;refine yv y_mv<|Hd.nil<|slots [(5,_),(6,_),(275,_),(276,_)] sbq ?_;refine thenN ?_
  have hnew:∀ v∈us.set (i * 1) (.int .u8 (IntKind.u8.wrap (x + 1))),∃ x,v=.int .u8 x:=fun v hv=>(List.mem_or_eq_of_mem_set hv).elim (fun h=>hp0.2.2 v h) (fun h=>⟨_,h⟩)
  exact Hd.again (i + 1,us.set (i * 1) (.int .u8 (IntKind.u8.wrap (x + 1)))) (by omega) sbq (Ent.sep (.pure ⟨hi,by rw [List.length_set];exact hp0.2.1,hnew⟩ enn))
 refine Hd.exit<|Hd.thenExit<|Hd.thenExit<|Hd.inBexit<|Hd.toK K13 ?_;refine sr fun _ K19=>?_
 refine yv y_mv<|yv y_as<|fk [(4,_)] K19 ?_;refine Hd.ret ?_;exact Hd.ret1 rfl () (by rfl) sq
theorem do6_ct (L:List SP) (pb wb rb:Nat) (w:WA) (K:Nat) (hK:K≤100000000) (hl:Lo K w) (o:Ov) (hk:o.k=6) (ht:InK .u64 o.t) (hd:o.d.length≤300) (hR:RdS L 1 o.ad o.d.length (bsl o.d)) (hc:o.d.length≤o.c):Ct Tryz.prog 8 #[.pointer (some ⟨pb,0,none⟩),.agg (encO o).toArray] (BoP pb wb rb::WorldP wb w::Rf.RwP rb w::L) (fun _:Unit=>.bool true) (fun _:Unit=>BoP pb wb rb::WorldP wb (doA w o)::Rf.RwP rb (doA w o)::L):=by
 refine Ct.o2 Tryz.func8 ?_;intro E
 show Hd E 289 _ _ _ _
 have ht0:=ht
 simp only [InK] at ht
 have hnow:=hl.now
 refine Hd.wokW (.there .here) (fun hw=>?_);refine sr fun _ K1=>?_
 refine Hd.box rfl rfl (fun b3=>?_);refine yv y_as<|fk [(0,_),(3,_)] K1 ?_;refine sr fun _ K2=>?_
 refine Hd.bslice (vs:=[]) rfl (by exact bs8_31 ..) (fun b31=>?_);refine Hd.ownNil 5 1 (some ⟨b31,0,none⟩) ?_;refine yv (y_f 4 30 Tryz.underlying32 sz30)<|yv (y_l1 ag30 rfl)<|Hd.append Tryz.underlying30 ty5 rfl rfl rfl pkk (by exact RdS.mono hR sq) (by simp [Value.oneCell'];done) (by simp only [maxLen];omega) (by omega) (fun ad34 cap34=>?_);refine yv y_as<|Hd.nil ?_;rw [Nat.zero_add,List.nil_append]
 obtain ⟨k,a,n,t,ad,c,d⟩:=o
 obtain rfl:k=6:=hk
 dsimp only at hd hc ht hR;refine sk [(0,_),(3,_),(5,_)] K2 ?_;refine Hd.seq fun _ K3=>?_
 refine Hd.ownCap (ad:=ad34) (us:=bsl d) pkk (fun hcap=>?_);refine Hd.region<|yv y_as<|fk [(0,_),(3,_),(5,_)] K3 ?_;refine Hd.cutK (ι:=Unit) [(5,_)] (fun _=>[(6,.bool true)]) (fun _=>own 5 1 ad34 d.length cap34 (bsl d)::BoP pb wb rb::WorldP wb (doA w ⟨6,a,n,t,ad,c,d⟩)::Rf.RwP rb (doA w ⟨6,a,n,t,ad,c,d⟩)::L) ?_ ?_ ⟨rfl,trivial⟩
 ·refine sr fun _ K4=>?_
  refine yv (y_f 0 3 Tryz.underlying32 sz3)<|yv (y_l1 ag3 rfl)<|fk [(0,_),(3,_),(5,_),(36,_)] K4 ?_;refine Hd.block<|Hd.seq fun _ K5=>?_
  refine sr fun _ K6=>?_
  refine yv (y_eql rfl rfl) ?_;refine yv y_as<|fk [(0,_),(3,_),(5,_),(36,_),(41,_)] K6 ?_;refine Hd.condF rfl ?_;refine sr fun _ K7=>?_
  refine yv (y_eql rfl rfl) ?_;refine yv y_as<|fk [(0,_),(3,_),(5,_),(36,_),(41,_)] K7 ?_;refine Hd.condF rfl ?_;refine sr fun _ K8=>?_
  refine yv (y_eql rfl rfl) ?_;refine yv y_as<|fk [(0,_),(3,_),(5,_),(36,_),(41,_)] K8 ?_;refine Hd.condF rfl ?_;refine Hd.region<|yv (y_eql rfl rfl) ?_;refine yv y_as<|fk [(0,_),(3,_),(5,_),(36,_),(41,_)] K5 ?_;refine Hd.condF rfl ?_;refine sr fun _ K9=>?_
  refine yv (y_eql rfl rfl) ?_;refine yv y_as<|fk [(0,_),(3,_),(5,_),(36,_),(125,_)] K9 ?_;refine Hd.condF rfl ?_;refine sr fun _ K10=>?_
  refine yv (y_eql rfl rfl) ?_;refine yv y_as<|fk [(0,_),(3,_),(5,_),(36,_),(162,_)] K10 ?_;refine Hd.condF rfl ?_;refine sr fun _ K11=>?_
  refine yv (y_eqlT rfl rfl) ?_;refine yv y_as<|fk [(0,_),(3,_),(5,_),(36,_),(205,_)] K11 ?_;refine Hd.condT rfl ?_;refine Hd.seq fun _ K12=>?_
  refine Hd.drawsH ([BoP pb wb rb,pt b3 (encO ⟨6,a,n,t,ad,c,d⟩) 32]) (fun _=>true) mixed ?_;simp only [List.length,Nat.zero_add,Nat.reduceAdd];refine tH 0 rfl y_mv<|tH 1 rfl y_np<|tH 2 rfl (y_f 0 37 Tryz.underlying40 sz37)<|tH 3 rfl (y_l1 ag37 rfl)<|tH 4 rfl (y_f 1 3 Tryz.underlying32 sz3)<|tH 5 rfl (y_l1 ag3 rfl)<|tH 6 rfl y_mv<|qo 7 ?_;refine callE rfl fk44 (wwrite_ct _ wb w a ad34 d.length cap34 d rfl ?hD (by omega) hcap) sq ?_
  case hD=>exact RdS.own pkk
  intro _;refine qk<|tH 8 rfl y_mv<|tH 9 rfl y_ex<|tH 10 rfl y_ex<|tH 11 rfl y_as<|tH 12 rfl y_as<|endH kq ?_;refine sk [(0,_),(3,_),(5,_),(24,_),(25,_)] K12 ?_;refine Hd.seq fun _ K13=>?_
  refine Hd.drawsH ([BoP pb wb rb,pt b3 (encO ⟨6,a,n,t,ad,c,d⟩) 32]) (fun _=>true) mixed ?_;simp only [List.length,Nat.zero_add,Nat.reduceAdd];refine tH 0 rfl y_mv<|tH 1 rfl y_np<|tH 2 rfl (y_f 1 38 Tryz.underlying40 sz38)<|tH 3 rfl (y_l1 ag38 rfl)<|tH 4 rfl (y_f 1 3 Tryz.underlying32 sz3)<|tH 5 rfl (y_l1 ag3 rfl)<|tH 6 rfl (y_f 4 30 Tryz.underlying32 sz30)<|tH 7 rfl (y_l1 ag30 rfl)<|qo 8 ?_;refine callE rfl fk56 (Rf.rWrite_ct _ rb w hw a ad d.length c d rfl ?hD (by omega) hc) sq ?_
  case hD=>exact RdS.mono hR sq
  intro _;refine qk<|tH 9 rfl y_mv<|tH 10 rfl y_ex<|tH 11 rfl y_ex<|tH 12 rfl y_as<|tH 13 rfl y_as<|endH kq ?_;refine sk [(5,_),(24,_),(25,_),(26,_),(27,_)] K13 ?_;refine Hd.region<|yv y_mv<|yv y_mv<|yv (y_eqlT rfl rfl) ?_;refine yv y_mv ?_;apply Hd.andg 4 233 237 [(5,_)] rfl sbq
  ·intro hg32_233
   try simp only [hyZ] at hg32_233
   simp only [List.take];refine y2 y_mv<|y2 y_mv<|y2 (y_eqlT rfl rfl) ?_;refine yv (y_pickT rfl rfl) ?_;exact Hd.mn
  ·intro hg32_233
   try simp only [hyZ] at hg32_233
   simp only [List.take];refine n1<|n1<|n1<|yv (y_pickF rfl rfl) ?_;exact Hd.mn
  simp only [List.drop];refine yv y_as<|Hd.nil<|slots [(5,_),(6,_)] sbq ?_;refine Hd.inB<|thenN ?_;rw [do_6 rfl];exact Hd.meet () (by (repeat (first | exact trivial | refine ⟨rfl,?_⟩));done) sq
 intro _;refine Hd.seq fun _ K14=>?_
 refine sr fun _ K15=>?_
 refine yv y_mv<|yv (y_len Tryz.underlying30 rfl) ?_;refine yv y_mv<|fk [(5,_),(6,_),(275,_),(276,_)] K15 ?_;refine Hd.block<|Hd.loopK (ι:=Nat×List Value) [(5,_),(6,_),(275,_)] (fun q_=>[(276,.int .i64 (q_.1:Int))]) (fun q_=>pu (q_.1≤d.length∧q_.2.length=d.length∧∀ v∈q_.2,∃ x,v=.int .u8 x)::own 5 1 ad34 d.length cap34 q_.2::BoP pb wb rb::WorldP wb (doA w ⟨6,a,n,t,ad,c,d⟩)::Rf.RwP rb (doA w ⟨6,a,n,t,ad,c,d⟩)::L) (fun q_=>d.length - q_.1) (0,bsl d) sbq sbq (Ent.sep (.pure ⟨Nat.zero_le _,by simp [bsl],fun v hv=>by obtain ⟨b,_,rfl⟩:=List.mem_map.1 hv;exact ⟨_,rfl⟩⟩ enn)) ?_;rintro ⟨i,us⟩
 try dsimp only
 refine Hd.pure (fun hp0=>?_)
 try dsimp only at hp0
 refine sr fun _ K16=>?_
 refine yv (y_lss rfl rfl) ?_;refine fk [(5,_),(6,_),(275,_),(276,_),(277,_)] K16 ?_;refine Hd.seq fun _ K17=>?_
 refine qz ?_ ?_<;>intro hc12<;>try simp only [hyZ] at hc12
 ·have hi:i < d.length:=by omega
  have hiu:i < us.length:=by omega
  obtain ⟨x,hx⟩:=hp0.2.2 us[i] (List.getElem_mem hiu)
  have hg:us[i * 1]?=some (.int .u8 x):=by rw [Nat.mul_one,List.getElem?_eq_getElem hiu,hx]
  refine qv K17<|Hd.seq fun _ K18=>?_
  refine Hd.block<|sr fun _ K19=>?_
  refine yv y_mv<|yv y_as<|fk [(5,_),(6,_),(30,_),(275,_),(276,_)] K19 ?_;refine Hd.region<|yv y_mv<|yv y_mv<|yv y_mv<|yv y_mv<|yv (y_idxR Tryz.underlying30 sz5 rfl rfl (by omega) (by exact RdS.own pkk)) ?_;refine yv (y_loadR1 ag5 rfl (by exact RdS.own pkk) (by exact hg)) ?_;refine yv (y_add rfl rfl) ?_;refine yv (y_idxR Tryz.underlying30 sz5 rfl rfl (by omega) (by exact RdS.own pkk)) ?_;refine Hd.storeO1 sz5 rfl rfl rfl pkk (by omega) ?_
  try simp only [hyS]
  refine Hd.nil<|slots [(5,_),(6,_),(275,_),(276,_)] sbq ?_;refine Hd.inB<|Hd.toK K18 ?_;refine Hd.region<|yv (y_addn rfl rfl (by simp only [InK];omega)) ?_;refine yv y_mv<|Hd.nil<|slots [(5,_),(6,_),(275,_),(276,_)] sbq ?_;refine thenN ?_
  have hnew:∀ v∈us.set (i * 1) (.int .u8 (IntKind.u8.wrap (x + 1))),∃ x,v=.int .u8 x:=fun v hv=>(List.mem_or_eq_of_mem_set hv).elim (fun h=>hp0.2.2 v h) (fun h=>⟨_,h⟩)
  exact Hd.again (i + 1,us.set (i * 1) (.int .u8 (IntKind.u8.wrap (x + 1)))) (by omega) sbq (Ent.sep (.pure ⟨hi,by rw [List.length_set];exact hp0.2.1,hnew⟩ enn))
 refine Hd.exit<|Hd.thenExit<|Hd.thenExit<|Hd.inBexit<|Hd.toK K14 ?_;refine sr fun _ K20=>?_
 refine yv y_mv<|yv y_as<|fk [(4,_)] K20 ?_;refine Hd.ret ?_;exact Hd.ret1 rfl () (by rfl) sq
end Wo
end Go.Proofs.YtmpemhbfgbochaaGreatDoor
namespace Go.Proofs.YtmpemhbfgbochaaGreatDoor
open Go.RX Fx
namespace Bc
structure Row where
 ad:Option Addr
 cap:Nat
 l:List UInt8
abbrev bsl (l:List UInt8):List Value:=l.map B
abbrev hdr (r:Row):Value:=.slice r.ad r.l.length r.cap
def flat (rs:List Row):List UInt8:=rs.flatMap (·.l)
abbrev ow (r:Row):SP:=own 5 1 r.ad r.l.length r.cap (bsl r.l)
structure rows (rs:List Row) (h:PH):Prop where
 all:sep (rs.map ow) h
theorem rows_split {a b:List Row} {L:List SP} {h:PH} (s:sep (rows (a++b)::L) h):sep (rows a::rows b::L) h:=by
 obtain ⟨h1,h2,d,s1,s2,⟨x⟩,y⟩:=s
 rw [List.map_append] at x
 obtain ⟨k1,k2,d',a',b',x1,x2⟩:=sep_append x
 exact ⟨k1,uni k2 h2,(Dis.uniL d'.sym (d.subL a').sym).sym,a'.tr s1,Sub.uni (b'.tr s1) s2,⟨x1⟩,k2,h2,d.subL b',Sub.uniL,Sub.uniR (d.subL b'),⟨x2⟩,y⟩
theorem rows_join {a b:List Row} {L:List SP} {h:PH} (s:sep (rows a::rows b::L) h):sep (rows (a++b)::L) h:=by
 obtain ⟨h1,h2,d,s1,s2,⟨x⟩,k1,k2,d',a',b',⟨x'⟩,y⟩:=s
 refine ⟨uni h1 k1,k2,Dis.uniL (d.subR b') d',Sub.uni s1 (a'.tr s2),b'.tr s2,⟨?_⟩,y⟩;rw [List.map_append];exact sep_join (d.subR a') Sub.uniL (Sub.uniR (d.subR a')) x x'
theorem rows_own {r:Row} {L:List SP} {h:PH} (s:sep (rows [r]::L) h):sep (ow r::L) h:=by
 obtain ⟨h1,h2,d,s1,s2,⟨k1,k2,d',a',b',x,_⟩,y⟩:=s
 exact ⟨k1,h2,d.subL a',a'.tr s1,s2,x,y⟩
theorem own_rows {r:Row} {L:List SP} {h:PH} (s:sep (ow r::L) h):sep (rows [r]::L) h:=by
 obtain ⟨h1,h2,d,s1,s2,x,y⟩:=s
 exact ⟨h1,h2,d,s1,s2,⟨h1,fun _=>none,fun _=>.inr rfl,Sub.rfl',(fun _ _ e=>by cases e),x,trivial⟩,y⟩
theorem rows_nil {L:List SP} {h:PH} (s:sep L h):sep (rows []::L) h:=⟨fun _=>none,h,fun _=>.inl rfl,(fun _ _ e=>by cases e),Sub.rfl',⟨trivial⟩,s⟩
theorem pick_mem {rs:List Row} {r:Row} (hr:r∈rs):∃ L',Pick (rs.map ow) (ow r) L':=by
 induction rs with
 | nil=>cases hr
 | cons a rs ih =>
  rcases List.mem_cons.1 hr with rfl | h
  ·exact ⟨_,.here⟩
  ·obtain ⟨L',p⟩:=ih h;exact ⟨_,.there p⟩
theorem rows_rd {L L':List SP} {rs:List Row} (p:Pick L (rows rs) L') {r:Row} (hr:r∈rs):RdS L 1 r.ad r.l.length (bsl r.l):=fun k s=>by
 obtain ⟨h1,s1,⟨x⟩⟩:=sep.one p s
 obtain ⟨L2,p2⟩:=pick_mem hr
 obtain ⟨hl,hv⟩:=RdS.own p2 h1 x
 refine ⟨hl,?_⟩
 rcases hv with h | ⟨b,o,had,hc⟩
 ·exact .inl h
 ·exact .inr ⟨b,o,had,fun j v e=>by obtain ⟨fr,hh⟩:=hc j v e;exact ⟨fr,s1 _ _ hh⟩⟩
theorem flat_take_succ {rs:List Row} {i:Nat} (h:i < rs.length):flat (rs.take (i + 1))=flat (rs.take i)++rs[i].l:=by
 unfold flat;rw [List.take_add_one,List.getElem?_eq_getElem h];simp only [List.flatMap_append,Option.toList_some,List.flatMap_cons,List.flatMap_nil,List.append_nil]
theorem flat_take_le {rs:List Row} (i:Nat):(flat (rs.take i)).length≤(flat rs).length:=by
 have:flat rs=flat (rs.take i)++flat (rs.drop i):=by unfold flat;rw [←List.flatMap_append,List.take_append_drop]
 rw [this,List.length_append];omega
theorem flat_all {rs:List Row} {i:Nat} (h:rs.length≤i):flat (rs.take i)=flat rs:=by rw [List.take_of_length_le h]
theorem hdr_at {rs:List Row} {i:Nat} (h:i < rs.length):(rs.map hdr)[i * 1]?=some (hdr rs[i]):=by simp [h]
theorem hdr_one {rs:List Row}:∀ u∈rs.map hdr,u.oneCell'=true:=by simp [Value.oneCell']
theorem clone_ct (L:List SP) (ad:Option Addr) (m cap:Nat) (l:List UInt8) (hR:RdS L 1 ad m (bsl l)) (hb:m≤70368744177664):Ct Tryz.prog 157 #[.slice ad m cap] (L) (fun i:Option Addr×Nat=>.slice i.1 m i.2) (fun i:Option Addr×Nat=>own 5 1 i.1 m i.2 (bsl l)::L):=by
 refine Ct.o1 Tryz.func157 ?_;intro E
 show Hd E 8 _ _ _ _
 refine Hd.rdsF hR (fun hlen hnil=>?_);refine sr fun _ K1=>?_
 refine yv y_as<|fk [(0,_)] K1 ?_;refine Hd.seq fun _ K2=>?_
 refine sr fun _ K3=>?_
 refine yv y_mv<|yv (y_eql_slice Tryz.underlying30 rfl rfl) ?_;refine fk [(0,_),(4,_)] K3 ?_;refine qz ?_ ?_<;>intro hc0<;>try simp only [hyZ] at hc0
 ·have hnone:ad=none:=by simpa using hc0
  obtain rfl:=hnil hnone
  obtain rfl:l=[]:=List.eq_nil_of_length_eq_zero (by simpa using hlen)
  refine sr fun _ K4=>?_
  refine yv y_as<|fk [(2,_)] K4 ?_;refine Hd.ret<|Hd.thenRet ?_;exact Hd.ret1 rfl (none,0) rfl sq
 refine qv K2<|sr fun _ K5=>?_
 refine Hd.bslice (vs:=[]) rfl (by exact bs157_5 ..) (fun b5=>?_);refine Hd.ownNil 5 1 (some ⟨b5,0,none⟩) ?_;refine yv y_mv<|Hd.append Tryz.underlying30 ty5 rfl rfl rfl pkk (by exact RdS.mono hR sq) (by simp [Value.oneCell'];done) (by simp only [maxLen];omega) (by omega) (fun ad7 cap7=>?_);refine yv y_as<|fk [(2,_)] K5 ?_;refine Hd.ret ?_;exact Hd.ret1 rfl (ad7,cap7) (by simp only [Nat.zero_add];rfl) (Ent.sep (.eq pkk (own_eq (by simp) (by simp)) enn))
theorem clone2_ct (L:List SP) (ad:Option Addr) (m cap:Nat) (us:List Value) (h1:∀ u∈us,u.oneCell'=true) (hR:RdS L 1 ad m us) (hb:m≤1099511627776):Ct Tryz.prog 212 #[.slice ad m cap] (L) (fun i:Option Addr×Nat=>.slice i.1 m i.2) (fun i:Option Addr×Nat=>own 30 1 i.1 m i.2 us::L):=by
 refine Ct.o1 Tryz.func212 ?_;intro E
 show Hd E 8 _ _ _ _
 refine Hd.rdsF hR (fun hlen hnil=>?_);refine sr fun _ K1=>?_
 refine yv y_as<|fk [(0,_)] K1 ?_;refine Hd.seq fun _ K2=>?_
 refine sr fun _ K3=>?_
 refine yv y_mv<|yv (y_eql_slice Tryz.underlying114 rfl rfl) ?_;refine fk [(0,_),(4,_)] K3 ?_;refine qz ?_ ?_<;>intro hc0<;>try simp only [hyZ] at hc0
 ·have hnone:ad=none:=by simpa using hc0
  obtain rfl:=hnil hnone
  obtain rfl:us=[]:=List.eq_nil_of_length_eq_zero (by simpa using hlen)
  refine sr fun _ K4=>?_
  refine yv y_as<|fk [(2,_)] K4 ?_;refine Hd.ret<|Hd.thenRet ?_;exact Hd.ret1 rfl (none,0) rfl sq
 refine qv K2<|sr fun _ K5=>?_
 refine Hd.bslice (vs:=[]) rfl (by exact bs212_5 ..) (fun b5=>?_);refine Hd.ownNil 30 1 (some ⟨b5,0,none⟩) ?_;refine yv y_mv<|Hd.append Tryz.underlying114 ty30 rfl rfl rfl pkk (by exact RdS.mono hR sq) (by assumption) (by simp only [maxLen];omega) (by omega) (fun ad7 cap7=>?_);refine yv y_as<|fk [(2,_)] K5 ?_;refine Hd.ret ?_;exact Hd.ret1 rfl (ad7,cap7) (by simp only [Nat.zero_add];rfl) (Ent.sep (.eq pkk (own_eq (by simp) (by simp)) enn))
theorem grow_ct (L:List SP) (j:Nat) (hj:j≤70368744177664):Ct Tryz.prog 211 #[.slice none 0 0,.int .i64 (j:Int)] (L) (fun i:Option Addr×Nat=>.slice i.1 0 i.2) (fun i:Option Addr×Nat=>own 5 1 i.1 0 i.2 []::L):=by
 refine Ct.o2 Tryz.func211 ?_;intro E
 show Hd E 27 _ _ _ _
 refine sr fun _ K1=>?_
 refine yv y_as<|fk [(0,_),(1,_)] K1 ?_;refine Hd.seq fun _ K2=>?_
 refine sr fun _ K3=>?_
 refine yv y_mv<|yv (y_lss rfl rfl) ?_;rw [decide_eq_false (show ¬((j:Int) < 0) by omega)];refine fk [(0,_),(1,_),(6,_)] K3 ?_;refine Hd.condF rfl ?_;refine qv K2<|Hd.seq fun _ K4=>?_
 refine sr fun _ K5=>?_
 refine yv y_mv<|yv y_mv<|yv (y_cap Tryz.underlying30 rfl) ?_;refine yv y_mv<|yv (y_len Tryz.underlying30 rfl) ?_;refine yv (y_subn rfl rfl (by simp only [InK];omega)) ?_;refine yv (y_subn rfl rfl (by simp only [InK];omega)) ?_;refine yv y_as<|fk [(0,_),(1,_)] K5 ?_;refine sr fun _ K6=>?_
 refine yv y_mv<|yv (y_gtr rfl rfl) ?_;refine fk [(0,_),(1,_),(16,_)] K6 ?_;refine qz ?_ ?_<;>intro hc1<;>try simp only [hyZ] at hc1
 ·refine Hd.ownNil 5 1 none ?_
  refine Hd.region<|yv y_mv<|yv y_mv<|yv (y_cap Tryz.underlying30 rfl) ?_;refine yv (y_slo_xoxN Tryz.underlying30 sz5 rfl rfl (by omega)) ?_;refine yv y_mv<|Hd.name (b:=(j:Int)) 21 rfl (by omega) ?_;refine Hd.appendZ Tryz.underlying30 Tryz.underlying3 ty5 zr5 rfl rfl rfl pkk (by omega) (by omega) (by simp only [maxLen];omega) (by omega) (fun ad22 cap22=>?_);refine yv y_mv<|yv (y_len Tryz.underlying30 rfl) ?_;refine yv (y_slo_xoxN Tryz.underlying30 sz5 rfl rfl (by omega)) ?_;refine yv y_as<|fk [(0,_)] K4 ?_;refine sr fun _ K7=>?_
  refine yv y_mv<|yv y_as<|fk [(4,_)] K7 ?_;refine Hd.ret ?_;exact Hd.ret1 rfl (ad22,cap22) rfl (fun k s=>sep_head (Ent.sep (.pick pkk enn) k s) fun k' x=>own_take (us1:=[]) (us2:=List.replicate j (.int .u8 0)) (Nat.zero_le _) rfl (by simpa using x))
 refine qv K4<|sr fun _ K8=>?_
 refine yv y_mv<|yv y_as<|fk [(4,_)] K8 ?_;refine Hd.ret ?_;exact Hd.ret1 rfl (none,0) rfl (Ent.sep (.ownNil enn))
theorem concat_ct (L:List SP) (ad:Option Addr) (cap:Nat) (rs:List Row) (hR:RdS L 1 ad rs.length (rs.map hdr)) (hrd:∀ r∈rs,RdS L 1 r.ad r.l.length (bsl r.l)) (hm:rs.length≤1099511627776) (hb:(flat rs).length≤70368744177664):Ct Tryz.prog 158 #[.slice ad rs.length cap] (L) (fun i:Option Addr×Nat=>.slice i.1 (flat rs).length i.2) (fun i:Option Addr×Nat=>own 5 1 i.1 (flat rs).length i.2 (bsl (flat rs))::L):=by
 refine Ct.o1 Tryz.func158 ?_;intro E
 show Hd E 36 _ _ _ _
 refine sr fun _ K1=>?_
 refine yv y_as<|fk [(0,_)] K1 ?_;refine sr fun _ K2=>?_
 refine yv y_as<|fk [(0,_),(3,_)] K2 ?_;refine Hd.seq fun _ K3=>?_
 refine sr fun _ K4=>?_
 refine yv y_mv<|yv (y_len Tryz.underlying114 rfl) ?_;refine yv y_mv<|fk [(0,_),(3,_),(9,_),(10,_),(11,_)] K4 ?_;refine Hd.block<|Hd.loopK (ι:=Nat) [(0,_),(9,_),(10,_)] (fun i=>[(3,.int .i64 ((flat (rs.take i)).length:Int)),(11,.int .i64 (i:Int))]) (fun i=>pu (i≤rs.length)::L) (fun i=>rs.length - i) 0 sbq sbq (Ent.sep (.pure (by omega) enn)) ?_;intro i
 try dsimp only
 refine Hd.pure (fun hp0=>?_)
 try dsimp only at hp0
 refine sr fun _ K5=>?_
 refine yv (y_lss rfl rfl) ?_;refine fk [(0,_),(3,_),(9,_),(10,_),(11,_),(12,_)] K5 ?_;refine Hd.seq fun _ K6=>?_
 refine qz ?_ ?_<;>intro hc0<;>try simp only [hyZ] at hc0
 ·have hi':i < rs.length:=by omega
  have e1:=flat_take_succ hi'
  have e2:=flat_take_le (rs:=rs) (i + 1)
  rw [e1,List.length_append] at e2;refine qv K6<|Hd.seq fun _ K7=>?_
  refine Hd.block<|sr fun _ K8=>?_
  refine yv (y_idxR Tryz.underlying114 sz30 rfl rfl (by omega) (by exact RdS.mono hR sq)) ?_;refine yv (y_loadR1 ag30 rfl (by exact RdS.mono hR sq) (by exact hdr_at hi')) ?_;refine yv y_as<|fk [(0,_),(3,_),(5,_),(9,_),(10,_),(11,_)] K8 ?_;refine sr fun _ K9=>?_
  refine yv y_mv<|yv y_mv<|yv (y_len Tryz.underlying30 rfl) ?_;refine yv (y_addn rfl rfl (by simp only [InK];omega)) ?_;refine yv y_as<|fk [(0,_),(3,_),(9,_),(10,_),(11,_)] K9 ?_;refine sr fun _ K10=>?_
  refine yv y_mv<|yv (y_lss rfl rfl) ?_;rw [decide_eq_false (show ¬(((flat (rs.take i)).length:Int) + (rs[i].l.length:Int) < 0) by omega)];refine fk [(0,_),(3,_),(9,_),(10,_),(11,_),(20,_)] K10 ?_;refine Hd.condF rfl ?_;refine Hd.skip<|Hd.inB<|Hd.toK K7 ?_;refine Hd.region<|yv (y_addn rfl rfl (by simp only [InK];omega)) ?_;refine yv y_mv<|Hd.nil<|slots [(0,_),(3,_),(9,_),(10,_),(11,_)] sbq ?_;refine thenN ?_;exact Hd.again (i + 1) (by omega) (by repeat (first | exact trivial | refine ⟨rfl,?_⟩ | refine ⟨by (simp only [look,e1,List.length_append];try rfl),?_⟩)) (Ent.sep (.pure (by omega) enn))
 obtain rfl:i=rs.length:=by omega
 rw [flat_all (Nat.le_refl _)];refine Hd.exit<|Hd.thenExit<|Hd.thenExit<|Hd.inBexit<|Hd.toK K3 ?_;refine sr fun _ K11=>?_
 refine yv y_mv<|callE rfl fk211 (grow_ct _ _ hb) sq ?_;rintro ⟨ad2,cap2⟩;refine yv y_as<|fk [(0,_),(6,_)] K11 ?_;refine Hd.seq fun _ K12=>?_
 refine sr fun _ K13=>?_
 refine yv y_mv<|yv (y_len Tryz.underlying114 rfl) ?_;refine yv y_mv<|fk [(6,_),(25,_),(26,_),(27,_)] K13 ?_;refine Hd.block<|Hd.loopK (ι:=Nat×Option Addr×Nat) [(25,_),(26,_)] (fun q_=>[(6,.slice q_.2.1 (flat (rs.take q_.1)).length q_.2.2),(27,.int .i64 (q_.1:Int))]) (fun q_=>pu (q_.1≤rs.length)::own 5 1 q_.2.1 (flat (rs.take q_.1)).length q_.2.2 (bsl (flat (rs.take q_.1)))::L) (fun q_=>rs.length - q_.1) (0,ad2,cap2) sbq sbq (Ent.sep (.pure (by omega) enn)) ?_;rintro ⟨i,ad3,cap3⟩
 try dsimp only
 refine Hd.pure (fun hp1=>?_)
 try dsimp only at hp1
 refine sr fun _ K14=>?_
 refine yv (y_lss rfl rfl) ?_;refine fk [(6,_),(25,_),(26,_),(27,_),(28,_)] K14 ?_;refine Hd.seq fun _ K15=>?_
 refine qz ?_ ?_<;>intro hc2<;>try simp only [hyZ] at hc2
 ·have hi':i < rs.length:=by omega
  have e1:=flat_take_succ hi'
  have e2:=flat_take_le (rs:=rs) (i + 1)
  rw [e1,List.length_append] at e2;refine qv K15<|Hd.seq fun _ K16=>?_
  refine Hd.block<|sr fun _ K17=>?_
  refine yv (y_idxR Tryz.underlying114 sz30 rfl rfl (by omega) (by exact RdS.mono hR sq)) ?_;refine yv (y_loadR1 ag30 rfl (by exact RdS.mono hR sq) (by exact hdr_at hi')) ?_;refine yv y_as<|fk [(6,_),(8,_),(25,_),(26,_),(27,_)] K17 ?_;refine Hd.region<|yv y_mv<|yv y_mv<|Hd.append Tryz.underlying30 ty5 rfl rfl rfl pkk (by exact RdS.mono (hrd _ (List.getElem_mem hi')) sq) (by simp [Value.oneCell'];done) (by simp only [maxLen];omega) (by omega) (fun ad33 cap33=>?_);refine yv y_as<|Hd.nil<|slots [(6,_),(25,_),(26,_),(27,_)] sbq ?_;refine Hd.inB<|Hd.toK K16 ?_;refine Hd.region<|yv (y_addn rfl rfl (by simp only [InK];omega)) ?_;refine yv y_mv<|Hd.nil<|slots [(6,_),(25,_),(26,_),(27,_)] sbq ?_;refine thenN ?_;exact Hd.again (i + 1,ad33,cap33) (by omega) (by repeat (first | exact trivial | refine ⟨rfl,?_⟩ | refine ⟨by (simp only [look,e1,List.length_append];try rfl),?_⟩)) (Ent.sep (.pure (by omega) (.eq pkk (own_eq (by rw [e1,List.length_append]) (by rw [e1];simp)) enn)))
 refine Hd.exit<|Hd.thenExit<|Hd.thenExit<|Hd.inBexit<|Hd.toK K12 ?_;refine sr fun _ K18=>?_
 refine yv y_mv<|yv y_as<|fk [(2,_)] K18 ?_;refine Hd.ret ?_
 obtain rfl:i=rs.length:=by omega
 rw [flat_all (Nat.le_refl _)];exact Hd.ret1 rfl (ad3,cap3) rfl sq
def mayE (have_ more:Nat):Int:=if more≤1048576 - have_ then 0 else 70
theorem may_ct (L:List SP) (b o:Nat) (v:Value) (k m:Nat) (hk:k≤1048576):Ct Tryz.prog 155 #[.pointer (some ⟨b,o,none⟩),.int .i64 (m:Int)] (seg b o [v,.int .i64 (k:Int)]::L) (fun _:Unit=>.int .i64 (mayE k m)) (fun _:Unit=>seg b o [v,.int .i64 (k:Int)]::L):=by
 refine Ct.o2 Tryz.func155 ?_;intro E
 show Hd E 16 _ _ _ _
 refine sr fun _ K1=>?_
 refine yv y_as<|fk [(0,_),(1,_)] K1 ?_;refine Hd.seq fun _ K2=>?_
 refine Hd.block<|sr fun _ K3=>?_
 refine yv y_mv<|yv (y_eql_pointer Tryz.underlying231 rfl rfl) ?_;refine yv y_as<|fk [(0,_),(1,_),(5,_)] K3 ?_;refine Hd.condF rfl ?_;refine sr fun _ K4=>?_
 refine yv y_mv<|yv y_mv<|yv y_np<|yv (y_f 1 3 Tryz.underlying116 sz3)<|yv (y_load1 ag3 rfl (Rd.seg1 pkk (by rfl))) ?_;refine yv (y_subn rfl rfl (by simp only [InK];omega)) ?_;refine yv (y_gtr rfl rfl) ?_;refine yv y_as<|fk [(8,_)] K4 ?_;refine qz ?_ ?_<;>intro hc1<;>try simp only [hyZ] at hc1
 ·refine sr fun _ K5=>?_
  refine yv y_as<|fk [(4,_)] K5 ?_;refine Hd.ret<|Hd.inBret<|Hd.thenRet ?_;exact Hd.ret1 rfl () (by simp only [mayE];rw [if_neg (by omega)];rfl) sq
 refine Hd.skip<|Hd.inB<|Hd.toK K2 ?_;refine sr fun _ K6=>?_
 refine yv y_as<|fk [(4,_)] K6 ?_;refine Hd.ret ?_;exact Hd.ret1 rfl () (by simp only [mayE];rw [if_pos (by omega)];rfl) sq
def pcs (m:Nat):Nat→List (Nat×Nat)
 | 0=>[]
 | k + 1=>pcs m k++[(k * 256,min 256 (m - k * 256))]
theorem pcs_len (m:Nat):∀ k,(pcs m k).length=k
 | 0=>rfl
 | k + 1=>by simp [pcs,pcs_len m k]
def npc (m:Nat):Nat:=(m + 255) / 256
abbrev encP (ad:Option Addr) (c:Nat×Nat):List Value:=[.slice (cutA ad 1 c.1 (c.1 + c.2)) (c.1 + c.2 - c.1) (c.1 + c.2 - c.1)]
def SpP (m:Nat) (xs:List (Nat×Nat)):Prop:=∃ k,xs=pcs m (k + 1)∧k * 256 < m
theorem spP_last {m:Nat} {pre:List (Nat×Nat)} {c:Nat×Nat} (h:SpP m (pre++[c])):∃ k,pre=pcs m k∧c=(k * 256,min 256 (m - k * 256))∧k * 256 < m:=by
 obtain ⟨k,e,hk⟩:=h
 simp only [pcs] at e
 have:=List.append_inj' e rfl
 exact ⟨k,this.1,by simpa using this.2,hk⟩
theorem chunk_ct (L:List SP) (v:Value) (hv:v.cells=#[v]):Ct Tryz.prog 156 #[v,.int .i64 256] (L) (fun i:Nat×Nat=>.func (.func 210) #[] #[.pointer (some ⟨i.1,0,none⟩),.pointer (some ⟨i.2,0,none⟩)]) (fun i:Nat×Nat=>pt i.1 [v] 30::pt i.2 [.int .i64 256] 3::L):=by
 refine Ct.o2 Tryz.func156 ?_;intro E
 show Hd E 9 _ _ _ _
 refine sr fun _ K1=>?_
 refine Hd.box (us:=[v]) rfl hv (fun b2=>?_);refine Hd.box rfl rfl (fun b3=>?_);refine yv y_as<|fk [(2,_),(3,_)] K1 ?_;refine Hd.seq fun _ K2=>?_
 refine sr fun _ K3=>?_
 refine yv (y_l1 ag3 rfl)<|yv (y_lss rfl rfl) ?_;rw [decide_eq_false (show ¬((256:Int) < 1) by omega)];refine fk [(2,_),(3,_),(6,_)] K3 ?_;refine Hd.condF rfl ?_;refine qv K2<|sr fun _ K4=>?_
 refine yv (y_mkf (fv:=[]) (cv:=[_,_]) rfl rfl) ?_;refine yv y_as<|fk [(4,_)] K4 ?_;refine Hd.ret ?_;exact Hd.ret1 rfl (b2,b3) rfl sq
theorem chunk_it (L:List SP) (b2 b3:Nat) (ad:Option Addr) (m cap:Nat) (hmc:m≤cap) (hm:m≤70368744177664):It Tryz.prog 210 [.pointer (some ⟨b2,0,none⟩),.pointer (some ⟨b3,0,none⟩)] (encP ad)
  (fun xs=>xs=pcs m (npc m)) (SpP m)
  (pt b2 [.slice ad m cap] 30::pt b3 [.int .i64 256] 3::L) (pt b2 [.slice ad m cap] 30::pt b3 [.int .i64 256] 3::L):=by
 intro l J X hy;refine Ct.of (vs:=[.func (.yield l) #[] #[],.pointer (some ⟨b2,0,none⟩),.pointer (some ⟨b3,0,none⟩)]) Tryz.func210 rfl rfl [(0,.func (.yield l) #[] #[]),(1,.pointer (some ⟨b2,0,none⟩)),(2,.pointer (some ⟨b3,0,none⟩))] ⟨rfl,rfl,rfl,trivial⟩ ?_;intro E
 show Hd E 31 _ _ _ _
 refine Hd.heap (pt b2 [.slice ad m cap] 30::pt b3 [.int .i64 256] 3::(J []++L)) (fun k h=>sep_two h) ?_;refine sr fun _ K1=>?_
 refine yv y_as<|fk [(0,_),(1,_),(2,_),(4,_)] K1 ?_;refine Hd.block<|Hd.loopK (ι:=Nat) [(0,_),(1,_),(2,_)] (fun k=>[(4,.int .i64 ((k * 256:Nat):Int))]) (fun k=>pu (k=0∨(k - 1) * 256 < m)::pt b2 [.slice ad m cap] 30::pt b3 [.int .i64 256] 3::(J (pcs m k)++L)) (fun k=>npc m - k) 0 sbq sbq (Ent.sep (.pure (by omega) enn)) ?_;intro k
 try dsimp only
 refine Hd.pure (fun hp0=>?_)
 try dsimp only at hp0
 refine Hd.seq fun _ K2=>?_
 refine sr fun _ K3=>?_
 refine yv y_mv<|yv (y_l1 ag30 rfl)<|yv (y_len Tryz.underlying30 rfl) ?_;refine yv (y_lss rfl rfl) ?_;refine fk [(0,_),(1,_),(2,_),(4,_),(9,_)] K3 ?_;refine qz ?_ ?_<;>intro hc0<;>try simp only [hyZ] at hc0
 ·have hk:k * 256 < m:=by omega
  refine qv K2<|Hd.seq fun _ K4=>?_
  refine Hd.block<|Hd.seq fun _ K5=>?_
  refine Hd.quiet mixed kq ?_;refine Hq.yv (y_l1 ag3 rfl) ?_;refine Hq.yv (y_l1 ag30 rfl) ?_;refine Hq.yv y_mv ?_;refine Hq.yv (y_slo_oxxN Tryz.underlying30 sz5 rfl rfl (by omega)) ?_;refine Hq.yv (y_len Tryz.underlying30 rfl) ?_;refine Hq.yv (y_min rfl rfl) ?_;refine Hq.yv y_as ?_;refine Hq.nil ?_;refine Hd.name (b:=((min 256 (m - k * 256):Nat):Int)) 5 rfl (by omega) ?_;refine sk [(0,_),(1,_),(2,_),(4,_),(5,_)] K5 ?_;refine sr fun _ K6=>?_
  refine yv y_mv<|yv (y_l1 ag30 rfl)<|yv y_mv<|yv y_mv<|yv y_mv<|yv (y_addn rfl rfl (by simp only [InK];omega)) ?_;refine yv y_mv<|yv y_mv<|yv (y_addn rfl rfl (by simp only [InK];omega)) ?_;refine Hd.name (b:=((k * 256 + min 256 (m - k * 256):Nat):Int)) 24 rfl (by omega) ?_;refine Hd.name (b:=((k * 256 + min 256 (m - k * 256):Nat):Int)) 27 rfl (by omega) ?_;refine yv (y_slo_oooN Tryz.underlying30 sz5 rfl rfl rfl rfl (by omega) (by omega) (by omega)) ?_;refine Hd.yield (pre:=pcs m k) (c:=(k * 256,min 256 (m - k * 256))) (M:=pt b2 [.slice ad m cap] 30::pt b3 [.int .i64 256] 3::L) hy rfl rfl ⟨k,rfl,hk⟩ (fun k h=>sep_two' h) ?_;intro yb;refine yv (y_not rfl)<|fk [(0,_),(1,_),(2,_),(4,_),(30,_)] K6 ?_;refine qz ?_ ?_<;>intro hc1<;>try simp only [hyZ] at hc1
  ·subst hc1
   simp only [cond_false];refine Hd.ret<|Hd.inBret<|Hd.thenRet<|Hd.thenRet<|Hd.inBret ?_;exact Hd.ret0 rfl (pcs m (k + 1),false) rfl (fun k' h=>Ent.sep (.pure ⟨k,rfl,hk⟩ .same) k' h)
  subst hc1;simp only [cond_true];refine Hd.heap (pt b2 [.slice ad m cap] 30::pt b3 [.int .i64 256] 3::(J (pcs m (k + 1))++L)) (fun k h=>sep_two h) ?_;refine Hd.skip<|Hd.inB<|Hd.toK K4 ?_;refine Hd.region<|yv y_mv<|yv (y_l1 ag3 rfl)<|yv (y_addn rfl rfl (by simp only [InK];omega)) ?_;refine yv y_as<|Hd.nil<|slots [(0,_),(1,_),(2,_),(4,_)] sbq ?_;refine thenN<|Hd.name (b:=(((k + 1) * 256:Nat):Int)) 4 rfl (by omega) ?_;exact Hd.again (k + 1) (by simp only [npc];omega) sbq (fun k' h=>Ent.sep (.pure (by omega) .same) k' h)
 refine Hd.exit<|Hd.thenExit<|Hd.thenExit<|Hd.inBexit ?_
 have hk:k=npc m:=by simp only [npc];omega
 subst hk;exact Hd.end0 rfl (pcs m (npc m),true) rfl (fun k' h=>Ent.sep (.pure rfl .same) k' (sep_two' h))
abbrev ChL (b o:Nat) (rs:List Row) (len:Int):SP:=RX.ex fun i:Option Addr×Nat=>[seg b o [.slice i.1 rs.length i.2,.int .i64 len],own 30 1 i.1 rs.length i.2 (rs.map hdr),rows rs]
def Full (rs:List Row):Prop:=∀ r∈rs,0 < r.l.length
def Good (rs:List Row):Prop:=Full rs∧(flat rs).length≤1048576
abbrev Ch (b o:Nat) (rs:List Row):SP:=ChL b o rs ((flat rs).length:Int)
theorem full_len {rs:List Row} (h:Full rs):rs.length≤(flat rs).length:=by
 induction rs with
 | nil=>simp
 | cons r rs ih =>
  have h1:=h r (by simp)
  have h2:=ih (fun x hx=>h x (List.mem_cons_of_mem _ hx))
  simp only [flat,List.flatMap_cons,List.length_append,List.length_cons] at *;omega
theorem flat_app (a b:List Row):flat (a++b)=flat a++flat b:=by simp [flat]
theorem flat_one (r:Row):flat [r]=r.l:=by simp [flat]
theorem full_app {a b:List Row} (ha:Full a) (hb:Full b):Full (a++b):=fun r hr=>by
 rcases List.mem_append.1 hr with h | h
 ·exact ha r h
 ·exact hb r h
theorem full_one {r:Row} (h:0 < r.l.length):Full [r]:=fun x hx=>by simp at hx;subst hx;exact h
theorem mem_le {rs:List Row} {r:Row} (h:r∈rs):r.l.length≤(flat rs).length:=by
 induction rs with
 | nil=>cases h
 | cons a rs ih =>
  simp only [flat,List.flatMap_cons,List.length_append]
  rcases List.mem_cons.1 h with rfl | h
  ·omega
  ·have:=ih h;simp only [flat] at this;omega
theorem last_of {rs:List Row} (h:0 < rs.length):∃ a r,rs=a++[r]:=by
 refine ⟨rs.dropLast,rs.getLast (by intro e;subst e;simp at h),(List.dropLast_concat_getLast _).symm⟩
theorem hdr_last {rs rs0:List Row} {r0:Row} (h:rs=rs0++[r0]):(rs.map hdr)[(rs.length - 1) * 1]?=some (hdr r0):=by subst h;simp
theorem hdr_set {rs rs0:List Row} {r0 r1:Row} (h:rs=rs0++[r0]):(rs.map hdr).set ((rs.length - 1) * 1) (hdr r1)=(rs0++[r1]).map hdr:=by
 subst h;simp only [List.map_append,List.length_append,List.map_cons,List.map_nil,List.length_cons,List.length_nil];rw [List.set_append_right _ _ (by simp)];simp
theorem addRow_sep {L L' L2:List SP} {rs:List Row} {ad:Option Addr} {m cap:Nat} {us:List Value} (l:List UInt8) (p1:Pick L (rows rs) L') (p2:Pick L' (own 5 1 ad m cap us) L2) (hl:l.length=m) (hu:us=bsl l) (k:PH) (s:sep L k):sep (rows (rs++[⟨ad,cap,l⟩])::L2) k:=by
 subst hl;subst hu
 have s1:=p1.sep s
 have s2:sep (rows rs::ow ⟨ad,cap,l⟩::L2) k:=Ent.imp' .here (fun _ x=>x) (fun k s=>p2.sep s) s1
 exact rows_join (Ent.imp' .here (fun _ x=>x) (fun k s=>own_rows s) s2)
section
variable {E : World} {n : Nat} {ds : List Deferred} {st : List (Nat × Value)} {L L' L2 : List SP} {K : Act → World → Prop}
theorem Hd.splitLast {rs rs0:List Row} {r0:Row} (e:rs=rs0++[r0]) (p:Pick L (rows rs) L') (h:Hd E n ds st (rows rs0::ow r0::L') K):Hd E n ds st L K:=by
 subst e;exact Hd.heap _ (fun _ s=>Ent.imp' .here (fun _ x=>x) (fun k s=>rows_own s) (rows_split (p.sep s))) h
theorem Hd.addRow {rs:List Row} {ad:Option Addr} {m cap:Nat} {us:List Value} (l:List UInt8) (p1:Pick L (rows rs) L') (p2:Pick L' (own 5 1 ad m cap us) L2) (hl:l.length=m) (hu:us=bsl l) (h:Hd E n ds st (rows (rs++[⟨ad,cap,l⟩])::L2) K):Hd E n ds st L K :=
 Hd.heap _ (fun k s=>addRow_sep l p1 p2 hl hu k s) h
end
def AddI (L:List SP) (rs:List Row) (l:List UInt8) (rs1:List Row) (ad1:Option Addr) (m1 cap1:Nat) (l1:List UInt8):Prop :=
 flat rs1++l1=flat rs++l∧Full rs1∧m1≤cap1∧(l1.length=m1∧m1≤l.length)∧RdS L 1 ad1 m1 (bsl l1)
theorem take_piece {l:List UInt8} {k:Nat} (h:k * 256 < l.length):l.take ((k + 1) * 256)=l.take (k * 256)++(l.drop (k * 256)).take (min 256 (l.length - k * 256)):=by
 rw [show (k + 1) * 256=k * 256 + 256 by omega,List.take_add]
 congr 1
 rw [List.take_eq_take_iff,List.length_drop];omega
theorem B_take {l:List UInt8} {k:Nat}:∀ u∈(bsl l).take k,u.oneCell'=true:=fun u hu=>B_one u (List.mem_of_mem_take hu)
theorem add_ct (L:List SP) (b o:Nat) (rs:List Row) (hg:Good rs) (ad:Option Addr) (m cap:Nat) (l:List UInt8) (hD:RdS L 1 ad m (bsl l)) (hmc:m≤cap) (hm:m≤70368744177664):Ct Tryz.prog 72 #[.pointer (some ⟨b,o,none⟩),.slice ad m cap] (Ch b o rs::L) (fun rs':List Row=>.int .i64 (mayE (flat rs).length m)) (fun rs':List Row=>pu (Good rs'∧flat rs'=if m≤1048576 - (flat rs).length then flat rs++l else flat rs)::Ch b o rs'::L):=by
 refine Ct.o2M Tryz.func72 ?_;intro E
 show Hd E 77 _ _ _ _
 obtain ⟨hfull,hlen⟩:=hg
 have hrl:=full_len hfull
 refine Hd.exs pkk ?_;rintro ⟨ha,hcp⟩;simp only [List.cons_append,List.nil_append];refine Hd.rdsF (RdS.mono hD sq) (fun hlm hnil=>?_)
 have hl:l.length=m:=by simpa using hlm
 refine sr fun _ K1=>?_
 refine Hd.box rfl rfl (fun b2=>?_);refine yv y_as<|fk [(1,_),(2,_)] K1 ?_;refine Hd.seq fun _ K2=>?_
 refine sr fun _ K3=>?_
 refine yv (y_l1 ag231 rfl)<|yv y_mv<|yv (y_len Tryz.underlying30 rfl) ?_;refine callE rfl fk155 (may_ct _ b o _ (flat rs).length m hlen) sq ?_;intro _;refine yv y_as<|fk [(1,_),(2,_),(5,_)] K3 ?_;refine sr fun _ K4=>?_
 refine yv y_mv<|yv (y_neq rfl rfl) ?_;refine fk [(1,_),(2,_),(5,_),(15,_)] K4 ?_;refine qz ?_ ?_<;>intro hc0<;>try simp only [hyZ] at hc0
 ·have hno:¬ m≤1048576 - (flat rs).length:=fun h=>hc0 (by simp [mayE,h])
  refine sr fun _ K5=>?_
  refine yv y_mv<|yv y_as<|fk [(4,_)] K5 ?_;refine Hd.ret<|Hd.thenRet ?_;exact Hd.retM (fun a fr=>Lv.end1 fr rfl rs rfl (Ent.sep (.pure ⟨⟨hfull,hlen⟩,by rw [if_neg hno]⟩ (.ex (ha,hcp) enn))))
 have hyes:m≤1048576 - (flat rs).length:=by
  refine Decidable.byContradiction fun h=>?_
  simp [mayE,h] at hc0
 refine qv K2<|sr fun _ K6=>?_
 refine yv (y_l1 ag231 rfl)<|yv y_np<|yv (y_f 1 3 Tryz.underlying116 sz3)<|yv (y_load1 ag3 rfl (Rd.seg1 pkk (by rfl))) ?_;refine yv y_mv<|yv (y_len Tryz.underlying30 rfl) ?_;refine yv (y_addn rfl rfl (by simp only [InK];omega)) ?_;refine yv y_np<|yv (y_f 1 3 Tryz.underlying116 sz3)<|Hd.storeG1 sz3 rfl rfl rfl pkk (by simp;done) ?_
 try simp only [hyS]
 refine fk [(1,_),(2,_)] K6 ?_;refine Hd.cutK (ι:=List Row×Option Addr×Nat×Nat×List UInt8) [(2,_)] (fun j=>[(1,.slice j.2.1 j.2.2.1 j.2.2.2.1)]) (fun j=>pu (AddI L rs l j.1 j.2.1 j.2.2.1 j.2.2.2.1 j.2.2.2.2)::ChL b o j.1 (((flat rs).length:Int) + (m:Int))::pt b2 [.pointer (some ⟨b,o,none⟩)] 231::L) ?_ ?_ ⟨rfl,trivial⟩
 ·refine sr fun _ K7=>?_
  refine yv (y_l1 ag231 rfl)<|yv y_np<|yv (y_f 0 114 Tryz.underlying116 sz114)<|yv (y_load1 ag114 rfl (Rd.seg1 pkk (by rfl))) ?_;refine yv (y_len Tryz.underlying114 rfl) ?_;refine yv y_as<|fk [(1,_),(2,_),(6,_)] K7 ?_;refine sr fun _ K8=>?_
  refine yv y_mv<|yv (y_gtr rfl rfl) ?_;refine fk [(1,_),(2,_),(6,_),(32,_)] K8 ?_;refine qz ?_ ?_<;>intro hc1<;>try simp only [hyZ] at hc1
  ·obtain ⟨rs0,r0,hrs⟩:=last_of (show 0 < rs.length by omega)
   have hr0:r0.l.length≤1048576:=Nat.le_trans (mem_le (rs:=rs) (by rw [hrs];simp)) hlen
   refine Hd.seq fun _ K9=>?_
   skip
   refine Hd.region<|yv (y_l1 ag231 rfl)<|yv y_np<|yv (y_f 0 114 Tryz.underlying116 sz114)<|yv (y_load1 ag114 rfl (Rd.seg1 pkk (by rfl))) ?_;refine yv y_mv<|yv (y_subn rfl rfl (by simp only [InK];omega)) ?_;refine Hd.name (b:=((rs.length - 1:Nat):Int)) 38 rfl (by omega) ?_;refine yv (y_idxR Tryz.underlying114 sz30 rfl rfl (by omega) (by exact RdS.own pkk)) ?_;refine yv (y_loadR1 ag30 rfl (by exact RdS.own pkk) (by exact hdr_last hrs)) ?_;refine yv y_as<|fk [(1,_),(2,_),(6,_),(7,_)] K9 ?_;refine sr fun _ K10=>?_
   refine yv y_mv<|yv (y_len Tryz.underlying30 rfl) ?_;refine yv y_mv<|yv (y_len Tryz.underlying30 rfl) ?_;refine yv (y_subn rfl rfl (by simp only [InK];omega)) ?_;refine yv (y_max rfl rfl) ?_;refine yv (y_min rfl rfl) ?_;refine yv y_as<|Hd.nil<|Hd.name (b:=((min m (256 - r0.l.length):Nat):Int)) 8 rfl (by omega) ?_;refine sk [(1,_),(2,_),(6,_),(7,_),(8,_)] K10 ?_;refine Hd.seq fun _ K11=>?_
   refine Hd.splitLast hrs pkk ?_;refine Hd.drawsH ([pt b2 [.pointer (some ⟨b,o,none⟩)] 231,seg b o [.slice ha rs.length hcp,.int .i64 (((flat rs).length:Int) + (m:Int))],own 30 1 ha rs.length hcp (rs.map hdr)]) (fun j=>!([12].contains j)) mixed ?_;simp only [List.length,Nat.zero_add,Nat.reduceAdd];refine tH 0 rfl (y_l1 ag231 rfl)<|tH 1 rfl y_np<|tH 2 rfl (y_f 0 114 Tryz.underlying116 sz114)<|tH 3 rfl (y_load1 ag114 rfl (Rd.seg1 pkk (by rfl))) ?_;refine tH 4 rfl y_mv<|tH 5 rfl (y_subn rfl rfl (by simp only [InK];omega)) ?_;refine tH 6 rfl y_mv<|tH 7 rfl y_mv<|tH 8 rfl y_mv<|tH 9 rfl (y_slo_xoxN Tryz.underlying30 sz5 rfl rfl (by omega)) ?_;refine qo 10 ?_;refine Hd.append Tryz.underlying30 ty5 rfl rfl rfl pkk (by exact RdS.mono (RdS.head hD (show min m (256 - r0.l.length)≤m by omega)) sq) (by exact B_take) (by simp only [maxLen];omega) (by omega) (fun ad58 cap58=>?_)
   refine qk<|Hd.name (b:=((rs.length - 1:Nat):Int)) 53 rfl (by omega) ?_;refine tH 11 rfl (y_idxR Tryz.underlying114 sz30 rfl rfl (by omega) (by exact RdS.own pkk)) ?_;refine qo 12 ?_;refine Hd.storeO1 sz30 rfl rfl rfl pkk (by simp;omega) ?_
   try simp only [hyS]
   refine qn<|endH kq ?_;refine sk [(1,_),(2,_),(8,_)] K11 ?_;refine Hd.region<|yv y_mv<|yv y_mv<|yv (y_slo_oxxN Tryz.underlying30 sz5 rfl rfl (by omega)) ?_;refine yv y_as<|Hd.nil<|slots [(1,_),(2,_)] sbq ?_;refine thenN<|Hd.addRow (rs:=rs0) (r0.l++l.take (min m (256 - r0.l.length))) pkk pkk (by simp [hl]) (by simp [List.map_take]) ?_
   have hk1:min m (256 - r0.l.length)≤m:=by omega
   refine Hd.meet (rs0++[⟨ad58,cap58,r0.l++l.take (min m (256 - r0.l.length))⟩],cutA ad 1 (min m (256 - r0.l.length)) cap,m - min m (256 - r0.l.length),cap - min m (256 - r0.l.length),l.drop (min m (256 - r0.l.length))) sbq (Ent.sep (.pure ⟨?_,?_,?_,?_,?_⟩ (.ex (ha,hcp) (.eq pkk (seg_eq ?_) (.eq pkk (own_eq ?_ ?_) (.pick pkk enn))))))
   ·rw [hrs,flat_app,flat_app,flat_one,flat_one];simp
   ·subst hrs
    exact full_app (fun x hx=>hfull x (List.mem_append_left _ hx)) (full_one (by have:=hfull r0 (by simp);simp;omega))
   ·exact Nat.sub_le_sub_right hmc _
   ·simp [hl]
   ·have:=RdS.tail (mx:=cap) hD hk1 hmc
    rw [Nat.mul_one,←List.map_drop] at this;exact this
   ·subst hrs;simp
   ·subst hrs;simp
   ·have:=hdr_set (r1:=⟨ad58,cap58,r0.l++l.take (min m (256 - r0.l.length))⟩) hrs
    have e:hdr ⟨ad58,cap58,r0.l++l.take (min m (256 - r0.l.length))⟩=.slice ad58 (r0.l.length + min m (256 - r0.l.length)) cap58:=by
     simp [hdr,hl]
    rw [←this,e]
  refine Hd.skip<|thenN ?_
  have hrs0:rs=[]:=List.eq_nil_of_length_eq_zero (by omega)
  subst hrs0;refine Hd.meet ([],ad,m,cap,l) sbq (Ent.sep (.pure ⟨rfl,hfull,hmc,⟨hl,by rw [hl];exact Nat.le_refl _⟩,hD⟩ (.ex (ha,hcp) enn)))
 rintro ⟨rs1,ad1,m1,cap1,l1⟩;dsimp only;refine Hd.pure (fun hI=>?_)
 obtain ⟨hfl,hfull1,hmc1,⟨hl1,hmm⟩,hR1⟩:=hI
 refine Hd.seq fun _ K12=>?_
 refine sr fun _ K13=>?_
 refine yv y_mv<|callE rfl fk156 (chunk_ct _ (.slice ad1 m1 cap1) rfl) sq ?_;rintro ⟨c2,c3⟩;dsimp only;refine fk [(2,_),(64,_)] K13 ?_;refine Hd.block<|Hd.rangeF (enc:=encP ad1) (S:=fun xs=>xs=pcs m1 (npc m1)) (Sp:=SpP m1)
  (fun pre=>(RX.ex fun rs2:List Row=>[pu (flat rs2=flat rs1++l1.take (pre.length * 256)∧Full rs2),ChL b o rs2 (((flat rs).length:Int) + (m:Int)),pt b2 [.pointer (some ⟨b,o,none⟩)] 231])::L) (fun _ _=>[pu False])
  rfl kq (fun _=>rfl) rfl (chunk_it [] c2 c3 ad1 m1 cap1 hmc1 (by omega)) (Ent.sep (.ex rs1 (.pure ⟨by simp,hfull1⟩ (.pick pkk (.pick pkk .two))))) ?_ ?_ ?_
 ·intro E l' R pre c N hR hG
  obtain ⟨q,rfl,rfl,hq⟩:=spP_last hG
  unfold Rnd;simp only [List.cons_append,List.nil_append,pz,encP];refine Hd.region<|yv y_as<|Hd.nil<|slots [(2,_),(9,_)] sbq ?_;refine thenN<|Hd.begin hR pkk ?_;refine Hd.block<|Hd.exs pkk ?_;rintro rs2;simp only [List.cons_append,List.nil_append];refine Hd.pure (fun hrs2=>?_)
  obtain ⟨hf2,hfull2⟩:=hrs2
  rw [pcs_len] at hf2
  have hrl2:=full_len hfull2
  have hbig:(flat rs2).length≤1048576:=by
   have h1:=congrArg List.length hfl
   rw [hf2];simp only [List.length_append,List.length_take] at h1 ⊢;omega
  refine Hd.exs pkk ?_;rintro ⟨ha2,hc2⟩;simp only [List.cons_append,List.nil_append]
  have hR2:RdS (L++N) 1 (cutA ad1 1 (q * 256) (q * 256 + min 256 (m1 - q * 256))) (q * 256 + min 256 (m1 - q * 256) - q * 256) (bsl ((l1.drop (q * 256)).take (min 256 (m1 - q * 256)))):=by
   have:=RdS.part (mx:=q * 256 + min 256 (m1 - q * 256)) hR1 (show q * 256≤q * 256 + min 256 (m1 - q * 256) by omega) (by omega) (Nat.le_refl _)
   rw [Nat.mul_one,Nat.mul_one,←List.map_drop,←List.map_take] at this;rw [show q * 256 + min 256 (m1 - q * 256) - q * 256=min 256 (m1 - q * 256) by omega] at this ⊢;exact RdS.mono this (Ent.sep .left)
  refine Hd.drawsH ([pt b2 [.pointer (some ⟨b,o,none⟩)] 231,seg b o [.slice ha2 rs2.length hc2,.int .i64 (((flat rs).length:Int) + (m:Int))]]) (fun j=>!([11].contains j)) mixed ?_;simp only [List.length,Nat.zero_add,Nat.reduceAdd];refine tH 0 rfl (y_l1 ag231 rfl)<|tH 1 rfl (y_l1 ag231 rfl)<|tH 2 rfl y_np<|tH 3 rfl (y_f 0 114 Tryz.underlying116 sz114)<|tH 4 rfl (y_load1 ag114 rfl (Rd.seg1 pkk (by rfl))) ?_;refine tH 5 rfl y_mv<|qo 6 ?_;refine Hd.call rfl fk157 (clone_ct _ _ _ _ _ (RdS.mono hR2 sq) (by omega)) ?_;rintro ⟨ad72,cap72⟩;dsimp only;refine qk<|qo 7 ?_;refine Hd.bslice (vs:=[(0,_)]) rfl (by exact bs72_73 ..) (fun b73=>?_);refine qk<|qo 8 ?_;refine Hd.append Tryz.underlying114 ty30 rfl rfl rfl pkk (by exact RdS.rd (Rd.pt pkk (fun j v e=>by simpa using e)) rfl) (by simp [Value.oneCell'];done) (by simp only [maxLen];omega) (by omega) (fun ad74 cap74=>?_)
  refine qk<|qo 9 ?_;refine yv y_np<|qk<|tH 10 rfl (y_f 0 114 Tryz.underlying116 sz114)<|qo 11 ?_;refine Hd.storeG1 sz114 rfl rfl rfl pkk (by simp;done) ?_
  try simp only [hyS]
  refine qn<|endH kq ?_;refine slots [] sbq ?_;refine Hd.inB<|Hd.reN ?_;simp only [List.cons_append,List.nil_append]
  have hpl:((l1.drop (q * 256)).take (min 256 (m1 - q * 256))).length=q * 256 + min 256 (m1 - q * 256) - q * 256:=by simp [hl1]
  intro k s
  have s2:=addRow_sep (rs:=rs2) ((l1.drop (q * 256)).take (min 256 (m1 - q * 256))) pkk pkk hpl rfl k s
  refine Ent.sep (.pick pkk (.ex (rs2++[⟨ad72,cap72,(l1.drop (q * 256)).take (min 256 (m1 - q * 256))⟩]) (.pure ⟨?_,?_⟩ (.ex (ad74,cap74) (.eq pkk (seg_eq ?_) (.eq pkk (own_eq ?_ ?_) (.pick pkk enn))))))) k s2
  ·simp
  ·simp
  ·simp [hl1]
  ·rw [flat_app,flat_one,hf2,List.length_append,pcs_len,List.append_assoc]
   have:=take_piece (l:=l1) (k:=q) (by omega)
   rw [hl1] at this;rw [←this];rfl
  ·exact full_app hfull2 (full_one (by rw [hpl];omega))
 ·intro r0 xs hxs
  have hxs':xs=pcs m1 (npc m1):=hxs
  try simp only [List.cons_append,List.nil_append]
  refine Hd.inB<|Hd.toK K12 ?_;refine sr fun _ K14=>?_
  refine yv y_as<|fk [(4,_)] K14 ?_;refine Hd.ret<|Hd.exs pkk ?_;rintro rs2;simp only [List.cons_append,List.nil_append];refine Hd.pure (fun hrs2=>?_)
  obtain ⟨hf2,hfull2⟩:=hrs2
  have e2:flat rs2=flat rs++l:=by
   rw [hf2,hxs',pcs_len,List.take_of_length_le (by simp only [npc];omega),hfl]
  have e3:((flat rs2).length:Int)=((flat rs).length:Int) + (m:Int):=by rw [e2,List.length_append,hl];simp
  refine Hd.exs pkk ?_;rintro ⟨ha2,hc2⟩;simp only [List.cons_append,List.nil_append];exact Hd.retM (fun a fr=>Lv.mark pkk (Lv.end1 fr rfl rs2 (by simp [mayE,hyes];rfl) (Ent.sep (.pure ⟨⟨hfull2,by rw [e2,List.length_append];omega⟩,by rw [if_pos hyes,e2]⟩ (.ex (ha2,hc2) (.eq pkk (seg_eq (by rw [e3])) (.pick pkk (.pick pkk enn))))))))
 rintro r0_0 (_ | id0) pre0 hG0
 ·exact Hd.absurd (by exact id)
 exact Hd.absurd (by exact id)
section
variable {E : World} {n : Nat} {ds : List Deferred} {st : List (Nat × Value)} {L L' L2 : List SP} {K : Act → World → Prop}
theorem Hd.rowsCap {rs:List Row} (p:Pick L (rows rs) L') (h:(∀ r∈rs,r.l.length≤r.cap)→Hd E n ds st L K):Hd E n ds st L K:=fun a w f s=>by
 refine h (fun r hr=>?_) a w f s
 obtain ⟨h1,s1,⟨x⟩⟩:=sep.one p s.2.2.2
 obtain ⟨L3,p3⟩:=pick_mem hr
 obtain ⟨h2,s2,x2⟩:=sep.one p3 x
 exact (own_le x2).1
theorem cutRow_sep {outs rest:List Row} {r0:Row} {j:Nat} (hj:j≤r0.l.length) (p1:Pick L (rows outs) L') (p2:Pick L' (rows (r0::rest)) L2) (k:PH) (s:sep L k) :
  sep (rows (outs++[⟨r0.ad,j,r0.l.take j⟩])::rows (⟨cutA r0.ad 1 j r0.cap,r0.cap - j,r0.l.drop j⟩::rest)::L2) k:=by
 have s1:sep (rows outs::rows (r0::rest)::L2) k:=Ent.imp' .here (fun _ x=>x) (fun k s=>p2.sep s) (p1.sep s)
 have s2:sep (rows outs::rows [⟨r0.ad,j,r0.l.take j⟩]::rows (⟨cutA r0.ad 1 j r0.cap,r0.cap - j,r0.l.drop j⟩::rest)::L2) k:=by
  refine Ent.imp' .here (fun _ x=>x) (fun k s=>?_) s1
  have s3:=rows_own ((fun s=>rows_split (a:=[r0]) (b:=rest) s) s) |> fun x=>x
  have s4:sep (own 5 1 r0.ad r0.l.length r0.cap (bsl (r0.l.take j)++bsl (r0.l.drop j))::rows rest::L2) k:=by
   rw [←List.map_append,List.take_append_drop];exact s3
  have s5:=own_split (l:=j) hj (by simp [hj]) s4
  have e1:own 5 1 r0.ad j j (bsl (r0.l.take j))=ow ⟨r0.ad,j,r0.l.take j⟩:=by simp [ow,Nat.min_eq_left hj]
  have e2:own 5 1 (cutA r0.ad 1 j r0.cap) (r0.l.length - j) (r0.cap - j) (bsl (r0.l.drop j))=ow ⟨cutA r0.ad 1 j r0.cap,r0.cap - j,r0.l.drop j⟩:=by simp [ow]
  rw [e1,e2] at s5;refine Ent.imp' .here (fun _ x=>x) (fun k s=>?_) (own_rows s5);exact rows_join (a:=[⟨cutA r0.ad 1 j r0.cap,r0.cap - j,r0.l.drop j⟩]) (own_rows s)
 exact rows_join s2
theorem ownDropP {e sz m cap:Nat} {ad:Option Addr} {us:List Value} (p:Pick L (own e sz ad m cap us) L') (l:Nat) (us1 us2:List Value) (hl:l≤m) (hu:us=us1++us2) (h1:us1.length=l * sz) (k:PH) (s:sep L k) :
  sep (own e sz (cutA ad sz l cap) (m - l) (cap - l) us2::L') k:=by subst hu;exact own_drop hl h1 (p.sep s)
theorem rows_tail {r0:Row} {rest:List Row} {k:PH} (h:rows (r0::rest) k):rows rest k:=by
 obtain ⟨⟨h1,h2,d,a,b,x,y⟩⟩:=h
 exact ⟨y.up b⟩
end
theorem joinNil {L:List SP} {k:PH} (s:sep L k):sep (rows []::L) k:=rows_nil s
theorem hdr_first {rs rs0:List Row} {r0:Row} (h:rs=r0::rs0):(rs.map hdr)[0 * 1]?=some (hdr r0):=by subst h;rfl
abbrev OwH (ad:Option Addr) (cap:Nat) (rs:List Row):SP:=own 30 1 ad rs.length cap (rs.map hdr)
def CutI (n:Int) (rs outs rest:List Row) (nn:Int):Prop:=flat outs++flat rest=flat rs∧Full outs∧Full rest∧(flat outs).length + nn.toNat=n.toNat∧(flat rs).length≤1048576∧rs.length≤1048576∧outs.length + rest.length≤rs.length + 1∧(0 < nn→outs.length + rest.length≤rs.length)
theorem cut_ct (L:List SP) (b o:Nat) (rs:List Row) (hg:Good rs) (n:Int) (hn:n≤9223372036854775807):Ct Tryz.prog 159 #[.pointer (some ⟨b,o,none⟩),.int .i64 n] (Ch b o rs::L) (fun q_:List Row×List Row×Option Addr×Nat=>.slice q_.2.2.1 q_.1.length q_.2.2.2) (fun q_:List Row×List Row×Option Addr×Nat=>pu (flat q_.1=(flat rs).take n.toNat∧flat q_.2.1=(flat rs).drop n.toNat∧Full q_.1∧Full q_.2.1)::OwH q_.2.2.1 q_.2.2.2 q_.1::rows q_.1::Ch b o q_.2.1::L):=by
 refine Ct.o2 Tryz.func159 ?_;intro E
 show Hd E 75 _ _ _ _
 obtain ⟨hfull,hlen⟩:=hg
 have hrl:=full_len hfull
 refine Hd.exs pkk ?_;rintro ⟨ha,hcp⟩;simp only [List.cons_append,List.nil_append];refine sr fun _ K1=>?_
 refine yv y_as<|fk [(0,_),(1,_)] K1 ?_;refine sr fun _ K2=>?_
 refine yv y_as<|fk [(0,_),(1,_),(5,_)] K2 ?_;refine Hd.seq fun _ K3=>?_
 refine Hd.block<|Hd.loopK (ι:=List Row×List Row×Option Addr×Nat×Option Addr×Nat×Int) [(0,_)] (fun q_=>[(1,.int .i64 q_.2.2.2.2.2.2),(5,.slice q_.2.2.1 q_.1.length q_.2.2.2.1)]) (fun q_=>pu (CutI n rs q_.1 q_.2.1 q_.2.2.2.2.2.2)::seg b o [.slice q_.2.2.2.2.1 q_.2.1.length q_.2.2.2.2.2.1,.int .i64 ((flat q_.2.1).length:Int)]::OwH q_.2.2.2.2.1 q_.2.2.2.2.2.1 q_.2.1::rows q_.2.1::OwH q_.2.2.1 q_.2.2.2.1 q_.1::rows q_.1::L) (fun q_=>q_.2.2.2.2.2.2.toNat) ([],rs,none,0,ha,hcp,n) sbq sbq (fun k s=>Ent.sep (.pure ⟨rfl,fun r hr=>by simp at hr,hfull,by simp [flat],hlen,by omega,by simp,by simp⟩ (.pick pkk (.pick pkk (.pick pkk (.ownNil (.pick pkk enn)))))) k (joinNil s)) ?_;rintro ⟨outs,rest,adO,capO,adH,capH,nn⟩
 try dsimp only
 refine Hd.pure (fun hp0=>?_)
 try dsimp only at hp0
 obtain ⟨hI1,hI2,hI3,hI4,hI5,hI6,hI7,hI8⟩:=hp0
 refine Hd.seq fun _ K4=>?_
 refine sr fun _ K5=>?_
 refine yv y_mv<|yv (y_gtr rfl rfl) ?_;refine yv y_mv ?_;apply Hd.andg 7 10 17 [(0,_),(1,_),(5,_)] rfl sbq
 ·intro hg2_10
  try simp only [hyZ] at hg2_10
  simp only [List.take];refine y2 y_mv<|y2 y_np<|y2 (y_f 0 114 Tryz.underlying116 sz114)<|y2 (y_load1 ag114 rfl (Rd.seg1 pkk (by rfl))) ?_;refine y2 (y_len Tryz.underlying114 rfl) ?_;refine y2 (y_gtr rfl rfl) ?_;refine yv (y_pickT rfl rfl) ?_;exact Hd.mn
 ·intro hg2_10
  try simp only [hyZ] at hg2_10
  simp only [List.take];refine n1<|n1<|n1<|n1<|n1<|n1<|yv (y_pickF rfl rfl) ?_;exact Hd.mn
 simp only [List.drop];refine fk [(0,_),(1,_),(5,_),(17,_)] K5 ?_;refine qz ?_ ?_<;>intro hc0<;>try simp only [hyZ] at hc0
 ·obtain ⟨hn0,hr0⟩:=hc0
  obtain ⟨r0,rest',hrest⟩:=List.exists_cons_of_ne_nil (show rest≠[] by intro e;subst e;simp at hr0)
  have hrl2:rest.length=rest'.length + 1:=by rw [hrest];rfl
  have hr0p:0 < r0.l.length:=hI3 r0 (by rw [hrest];simp)
  have hfr:(flat rest).length=r0.l.length + (flat rest').length:=by rw [hrest];simp [flat]
  have hfa:(flat outs).length + (flat rest).length=(flat rs).length:=by rw [←hI1,List.length_append]
  have hI8':=hI8 hn0
  refine Hd.rowsCap (rs:=rest) pkk (fun hcaps=>?_)
  have hcap0:r0.l.length≤r0.cap:=hcaps r0 (by rw [hrest];simp)
  refine qv K4<|Hd.block<|sr fun _ K6=>?_
  refine yv y_mv<|yv y_np<|yv (y_f 0 114 Tryz.underlying116 sz114)<|yv (y_load1 ag114 rfl (Rd.seg1 pkk (by rfl))) ?_;refine yv (y_idxR Tryz.underlying114 sz30 rfl rfl (by exact (show (0:Nat) < _ by omega)) (by exact RdS.own pkk)) ?_;refine yv (y_loadR1 ag30 rfl (by exact RdS.own pkk) (by exact hdr_first hrest)) ?_;refine yv y_as<|fk [(0,_),(1,_),(5,_),(6,_)] K6 ?_;refine sr fun _ K7=>?_
  refine yv y_mv<|yv y_mv<|yv (y_len Tryz.underlying30 rfl) ?_;refine yv (y_min rfl rfl) ?_;refine yv y_as<|Hd.nil<|Hd.name (b:=((min nn.toNat r0.l.length:Nat):Int)) 7 rfl (by omega) ?_;refine sk [(0,_),(1,_),(5,_),(6,_),(7,_)] K7 ?_;refine sr fun _ K8=>?_
  refine yv y_mv<|yv y_mv<|yv y_mv<|yv y_mv<|yv (y_slo_xooN Tryz.underlying30 sz5 rfl rfl rfl (by omega) (by omega)) ?_;refine Hd.bslice (vs:=[(0,_)]) rfl (by exact bs159_33 ..) (fun b33=>?_);refine Hd.append Tryz.underlying114 ty30 rfl rfl rfl pkk (by exact RdS.rd (Rd.pt pkk (fun j v e=>by simpa using e)) rfl) (by simp [Value.oneCell'];done) (by simp only [maxLen];omega) (by omega) (fun ad34 cap34=>?_);refine yv y_as<|fk [(0,_),(1,_),(5,_),(6,_),(7,_)] K8 ?_;refine Hd.seq fun _ K9=>?_
  refine sr fun _ K10=>?_
  refine yv y_mv<|yv y_mv<|yv (y_len Tryz.underlying30 rfl) ?_;refine yv (y_eql rfl rfl) ?_;refine fk [(0,_),(1,_),(5,_),(6,_),(7,_),(38,_)] K10 ?_;refine qz ?_ ?_<;>intro hc1<;>try simp only [hyZ] at hc1
  ·refine Hd.region ?_
   refine yv y_mv<|yv y_mv<|yv y_np<|yv (y_f 0 114 Tryz.underlying116 sz114)<|yv (y_load1 ag114 rfl (Rd.seg1 pkk (by rfl))) ?_;refine yv (y_slo_oxx Tryz.underlying114 sz30 rfl rfl (by omega) (by omega)) ?_;refine yv y_np<|yv (y_f 0 114 Tryz.underlying116 sz114)<|Hd.storeG1 sz114 rfl rfl rfl pkk (by simp;done) ?_
   try simp only [hyS]
   refine fk [(0,_),(1,_),(5,_),(7,_)] K9 ?_;refine sr fun _ K11=>?_
   refine yv y_mv<|yv y_mv<|yv (y_subn rfl rfl (by simp only [InK];omega)) ?_;refine yv y_as<|fk [(0,_),(1,_),(5,_),(7,_)] K11 ?_;refine Hd.region<|yv y_mv<|yv y_np<|yv (y_f 1 3 Tryz.underlying116 sz3)<|yv (y_load1 ag3 rfl (Rd.seg1 pkk (by rfl))) ?_;refine yv y_mv<|yv (y_subn rfl rfl (by simp only [InK];omega)) ?_;refine yv y_np<|yv (y_f 1 3 Tryz.underlying116 sz3)<|Hd.storeG1 sz3 rfl rfl rfl pkk (by simp;done) ?_
   try simp only [hyS]
   refine Hd.nil<|slots [(0,_),(1,_),(5,_)] sbq ?_;refine Hd.inB<|thenN ?_
   have hk:min nn.toNat r0.l.length=r0.l.length:=by omega
   refine Hd.name (b:=nn - (r0.l.length:Int)) 1 rfl (by omega) ?_;refine Hd.again (outs++[⟨r0.ad,r0.l.length,r0.l⟩],rest',ad34,cap34,cutA adH 1 1 capH,capH - 1,nn - (r0.l.length:Int)) (by simp only;omega) (by repeat (first | exact trivial | refine ⟨rfl,?_⟩ | refine ⟨by show some _=some _;simp,?_⟩)) ?_;intro k s;subst hrest
   have s2:=cutRow_sep (outs:=outs) (rest:=rest') (r0:=r0) (j:=r0.l.length) (Nat.le_refl _) pkk pkk k s
   have s3:=ownDropP (ad:=adH) pkk 1 [hdr r0] (rest'.map hdr) (by simp) (by rfl) rfl k s2
   dsimp only;refine Ent.sep (.pure ⟨?_,?_,?_,?_,hI5,hI6,?_,?_⟩ (.eq pkk (seg_eq ?_) (.eq pkk (own_eq ?_ ?_) (.imp (A:=rows (_::rest')) pkk (fun _ h=>rows_tail h) (.eq pkk (own_eq ?_ ?_) (.eq pkk ?_ enn)))))) k s3
   ·rw [hk,hfr];simp;omega
   ·simp
   ·simp
   ·simp
   ·rw [hk];simp
   ·rw [List.take_of_length_le (Nat.le_refl _)]
   ·rw [flat_app,flat_one,←hI1];simp [flat]
   ·exact full_app hI2 (full_one hr0p)
   ·exact fun r hr=>hI3 r (List.mem_cons_of_mem _ hr)
   ·rw [flat_app,flat_one,List.length_append];dsimp only;omega
   ·simp at *;omega
   ·intro h;simp at *;omega
  refine sr fun _ K12=>?_
  refine yv y_mv<|yv y_mv<|yv y_np<|yv (y_f 0 114 Tryz.underlying116 sz114)<|yv (y_load1 ag114 rfl (Rd.seg1 pkk (by rfl))) ?_;refine Hd.call rfl fk212 (clone2_ct _ _ _ _ _ hdr_one (RdS.own pkk) (by omega)) ?_;rintro ⟨ad52,cap52⟩;dsimp only;refine yv y_np<|yv (y_f 0 114 Tryz.underlying116 sz114)<|Hd.storeG1 sz114 rfl rfl rfl pkk (by simp;done) ?_
  try simp only [hyS]
  refine fk [(0,_),(1,_),(5,_),(6,_),(7,_)] K12 ?_;refine Hd.drawsH ([seg b o [.slice ad52 rest.length cap52,.int .i64 ((flat rest).length:Int)],own 30 1 ad52 rest.length cap52 (rest.map hdr)]) (fun j=>!([8].contains j)) mixed ?_;simp only [List.length,Nat.zero_add,Nat.reduceAdd];refine tH 0 rfl y_mv<|tH 1 rfl y_np<|tH 2 rfl (y_f 0 114 Tryz.underlying116 sz114)<|tH 3 rfl (y_load1 ag114 rfl (Rd.seg1 pkk (by rfl))) ?_;refine tH 4 rfl y_mv<|tH 5 rfl y_mv<|tH 6 rfl (y_slo_oxxN Tryz.underlying30 sz5 rfl rfl (by omega)) ?_;refine tH 7 rfl (y_idxR Tryz.underlying114 sz30 rfl rfl (by exact (show (0:Nat) < _ by omega)) (by exact RdS.own pkk)) ?_;refine qo 8 ?_;refine Hd.storeO1 sz30 rfl rfl rfl pkk (by simp;omega) ?_
  try simp only [hyS]
  refine qn<|endH kq ?_;refine sk [(0,_),(1,_),(5,_),(7,_)] K9 ?_;refine sr fun _ K13=>?_
  refine yv y_mv<|yv y_mv<|yv (y_subn rfl rfl (by simp only [InK];omega)) ?_;refine yv y_as<|fk [(0,_),(1,_),(5,_),(7,_)] K13 ?_;refine Hd.region<|yv y_mv<|yv y_np<|yv (y_f 1 3 Tryz.underlying116 sz3)<|yv (y_load1 ag3 rfl (Rd.seg1 pkk (by rfl))) ?_;refine yv y_mv<|yv (y_subn rfl rfl (by simp only [InK];omega)) ?_;refine yv y_np<|yv (y_f 1 3 Tryz.underlying116 sz3)<|Hd.storeG1 sz3 rfl rfl rfl pkk (by simp;done) ?_
  try simp only [hyS]
  refine Hd.nil<|slots [(0,_),(1,_),(5,_)] sbq ?_;refine Hd.inB<|thenN ?_
  have hk:min nn.toNat r0.l.length=nn.toNat:=by omega
  refine Hd.name (b:=0) 1 rfl (by omega) ?_;refine Hd.again (outs++[⟨r0.ad,nn.toNat,r0.l.take nn.toNat⟩],⟨cutA r0.ad 1 nn.toNat r0.cap,r0.cap - nn.toNat,r0.l.drop nn.toNat⟩::rest',ad34,cap34,ad52,cap52,0) (by simp only;omega) (by repeat (first | exact trivial | refine ⟨rfl,?_⟩ | refine ⟨by show some _=some _;simp,?_⟩)) ?_;intro k s;subst hrest
  have s2:=cutRow_sep (outs:=outs) (rest:=rest') (r0:=r0) (j:=nn.toNat) (by omega) pkk pkk k s
  dsimp only;refine Ent.sep (.pure ⟨?_,?_,?_,?_,hI5,hI6,?_,?_⟩ (.eq pkk (seg_eq ?_) (.eq pkk (own_eq (us:=List.set _ _ _) ?_ ?_) (.pick pkk (.eq pkk (own_eq ?_ ?_) (.pick pkk enn)))))) k s2
  ·rw [hk,hfr];simp [flat];omega
  ·simp
  ·rw [hk];simp
  ·simp
  ·rw [hk];simp;omega
  ·rw [flat_app,flat_one,←hI1];simp [flat];rw [←List.append_assoc,List.take_append_drop]
  ·exact full_app hI2 (full_one (by simp;omega))
  ·intro r hr
   rcases List.mem_cons.1 hr with rfl | hr
   ·simp;omega
   ·exact hI3 r (List.mem_cons_of_mem _ hr)
  ·rw [flat_app,flat_one,List.length_append];simp;omega
  ·simp at *;omega
  ·intro h;omega
 have hout:flat outs=(flat rs).take n.toNat∧flat rest=(flat rs).drop n.toNat:=by
  have hlo:(flat outs).length≤n.toNat:=by omega
  have hor:(flat outs).length=n.toNat∨flat rest=[]:=by
   by_cases h:nn.toNat=0
   ·left;omega
   ·right
    have:rest=[]:=by
     refine List.eq_nil_of_length_eq_zero ?_
     rcases Classical.em (rest.length=0) with h0 | h0
     ·exact h0
     ·exact absurd hc0 (by simp;omega)
    rw [this];rfl
  rw [←hI1]
  rcases hor with h | h
  ·rw [←h];simp
  ·rw [h,List.append_nil,List.take_of_length_le hlo,List.drop_of_length_le hlo];simp
 refine Hd.exit<|Hd.thenExit<|Hd.thenExit<|Hd.inBexit<|Hd.toK K3 ?_;refine sr fun _ K14=>?_
 refine yv y_mv<|yv y_as<|fk [(4,_)] K14 ?_;refine Hd.ret ?_;exact Hd.ret1 rfl (outs,rest,adO,capO) rfl (Ent.sep (.pure ⟨hout.1,hout.2,hI2,hI3⟩ (.pick pkk (.pick pkk (.ex (adH,capH) (.pick pkk (.pick pkk (.pick pkk enn))))))))
theorem take_ct (L:List SP) (b o:Nat) (rs:List Row) (hg:Good rs) (n:Int) (hn:n≤9223372036854775807):Ct Tryz.prog 73 #[.pointer (some ⟨b,o,none⟩),.int .i64 n] (Ch b o rs::L) (fun q_:List Row×Option Addr×Nat=>.slice q_.2.1 ((flat rs).take n.toNat).length q_.2.2) (fun q_:List Row×Option Addr×Nat=>pu (flat q_.1=(flat rs).drop n.toNat∧Full q_.1)::own 5 1 q_.2.1 ((flat rs).take n.toNat).length q_.2.2 (bsl ((flat rs).take n.toNat))::Ch b o q_.1::L):=by
 refine Ct.o2 Tryz.func73 ?_;intro E
 show Hd E 11 _ _ _ _
 refine sr fun _ K1=>?_
 refine yv y_as<|fk [(0,_),(1,_)] K1 ?_;refine Hd.seq fun _ K2=>?_
 refine sr fun _ K3=>?_
 refine yv y_mv<|yv (y_eql_pointer Tryz.underlying231 rfl rfl) ?_;refine fk [(0,_),(1,_),(6,_)] K3 ?_;refine Hd.condF rfl ?_;refine qv K2<|sr fun _ K4=>?_
 refine yv y_mv<|yv y_mv<|callE rfl fk159 (cut_ct _ b o rs hg n hn) sq ?_;rintro ⟨outs,rest,ad,cap⟩;dsimp only;refine Hd.pure (fun hcut=>?_)
 obtain ⟨ho,hr,hfo,hfr⟩:=hcut
 have hol:=full_len hfo
 have htl:(flat outs).length≤1048576:=by rw [ho,List.length_take];have:=hg.2;omega
 refine Hd.call rfl fk158 (concat_ct _ ad cap outs (RdS.own pkk) (fun r hr=>rows_rd pkk hr) (by omega) (by omega)) ?_;rintro ⟨a2,c2⟩;dsimp only;rw [ho];refine yv y_as<|fk [(4,_)] K4 ?_;refine Hd.ret ?_;exact Hd.ret1 rfl (rest,a2,c2) rfl (Ent.sep (.pure ⟨hr,hfr⟩ enn))
theorem lenC_ct (L:List SP) (b o:Nat) (rs:List Row):Ct Tryz.prog 78 #[.pointer (some ⟨b,o,none⟩)] (Ch b o rs::L) (fun _:Unit=>.int .i64 ((flat rs).length:Int)) (fun _:Unit=>Ch b o rs::L):=by
 refine Ct.o1 Tryz.func78 ?_;intro E
 show Hd E 9 _ _ _ _
 refine Hd.exs pkk ?_;rintro ⟨ha,hcp⟩;simp only [List.cons_append,List.nil_append];refine sr fun _ K1=>?_
 refine yv y_as<|fk [(0,_)] K1 ?_;refine Hd.seq fun _ K2=>?_
 refine sr fun _ K3=>?_
 refine yv y_mv<|yv (y_eql_pointer Tryz.underlying231 rfl rfl) ?_;refine fk [(0,_),(4,_)] K3 ?_;refine Hd.condF rfl ?_;refine qv K2<|sr fun _ K4=>?_
 refine yv y_mv<|yv y_np<|yv (y_f 1 3 Tryz.underlying116 sz3)<|yv (y_load1 ag3 rfl (Rd.seg1 pkk (by rfl))) ?_;refine yv y_as<|fk [(2,_)] K4 ?_;refine Hd.ret ?_;exact Hd.ret1 rfl () rfl (Ent.sep (.ex (ha,hcp) enn))
theorem drain_ct (L:List SP) (b o:Nat) (rs:List Row) (hg:Good rs) (n:Int) (hn:n≤9223372036854775807):Ct Tryz.prog 162 #[.pointer (some ⟨b,o,none⟩),.int .i64 n] (Ch b o rs::L) (fun rest:List Row=>.int .i64 (((flat rs).take n.toNat).length:Int)) (fun rest:List Row=>pu (flat rest=(flat rs).drop n.toNat∧Full rest)::Ch b o rest::L):=by
 refine Ct.o2 Tryz.func162 ?_;intro E
 show Hd E 17 _ _ _ _
 refine sr fun _ K1=>?_
 refine yv y_as<|fk [(0,_),(1,_)] K1 ?_;refine sr fun _ K2=>?_
 refine yv y_mv<|callE rfl fk78 (lenC_ct _ b o rs) sq ?_;intro _;refine yv y_as<|fk [(0,_),(1,_),(5,_)] K2 ?_;refine Hd.seq fun _ K3=>?_
 refine sr fun _ K4=>?_
 refine yv y_mv<|yv (y_neq_pointer Tryz.underlying231 rfl rfl) ?_;refine fk [(0,_),(1,_),(5,_),(9,_)] K4 ?_;refine Hd.condT rfl ?_;refine Hd.region<|yv y_mv<|yv y_mv<|callE rfl fk159 (cut_ct _ b o rs hg n hn) sq ?_;rintro ⟨outs,rest,ad,cap⟩;dsimp only;refine Hd.pure (fun hcut=>?_)
 obtain ⟨ho,hr,hfo,hfr⟩:=hcut
 have hl2:=hg.2
 have hl3:(flat rest).length=(flat rs).length - n.toNat:=by rw [hr,List.length_drop]
 refine fk [(0,_),(5,_)] K3 ?_;refine sr fun _ K5=>?_
 refine yv y_mv<|yv y_mv<|callE rfl fk78 (lenC_ct _ b o rest) sq ?_;intro _;refine yv (y_subn rfl rfl (by simp only [InK];omega)) ?_;refine yv y_as<|fk [(4,_)] K5 ?_;refine Hd.ret<|Hd.name (b:=(((flat rs).take n.toNat).length:Int)) 4 rfl (by rw [List.length_take];omega) ?_;exact Hd.ret1 rfl rest rfl (Ent.sep (.pure ⟨hr,hfr⟩ enn))
theorem chunks_ct (L:List SP) (p:Option Addr):Ct Tryz.prog 213 #[.pointer p] (L) (fun b:Nat=>.func (.func 235) #[] #[.pointer (some ⟨b,0,none⟩)]) (fun b:Nat=>pt b [.pointer p] 231::L):=by
 refine Ct.o1 Tryz.func213 ?_;intro E
 show Hd E 4 _ _ _ _
 refine sr fun _ K1=>?_
 refine Hd.box rfl rfl (fun b1=>?_);refine yv y_as<|fk [(1,_)] K1 ?_;refine sr fun _ K2=>?_
 refine yv (y_mkf (fv:=[]) (cv:=[_]) rfl rfl) ?_;refine yv y_as<|fk [(2,_)] K2 ?_;refine Hd.ret ?_;exact Hd.ret1 rfl b1 rfl sq
def ats:List Row→Nat→List (Nat×Row)
 | [],_=>[]
 | r::rs,a=>(a,r)::ats rs (a + r.l.length)
theorem ats_len:∀ (rs:List Row) (a:Nat),(ats rs a).length=rs.length
 | [],_=>rfl
 | r::rs,a=>by simp [ats,ats_len rs]
theorem ats_get:∀ (rs:List Row) (a i:Nat) (h:i < rs.length),(ats rs a)[i]?=some (a + (flat (rs.take i)).length,rs[i])
 | r::rs,a,0,_=>by simp [ats,flat]
 | r::rs,a,i + 1,h=>by
  have:=ats_get rs (a + r.l.length) i (by simpa using h)
  simp only [ats,List.getElem?_cons_succ,this,List.take_succ_cons,List.getElem_cons_succ];simp [flat,Nat.add_assoc]
theorem ats_take {rs:List Row} {i:Nat} (h:i < rs.length):(ats rs 0).take (i + 1)=(ats rs 0).take i++[((flat (rs.take i)).length,rs[i])]:=by
 rw [List.take_add_one,ats_get rs 0 i h];simp
abbrev encA (c:Nat×Row):List Value:=[.int .i64 (c.1:Int),hdr c.2]
def SpA (rs:List Row) (xs:List (Nat×Row)):Prop:=∃ i,i < rs.length∧xs=(ats rs 0).take (i + 1)
theorem spA_last {rs:List Row} {pre:List (Nat×Row)} {c:Nat×Row} (h:SpA rs (pre++[c])):∃ (i:Nat) (hi:i < rs.length),pre=(ats rs 0).take i∧c=((flat (rs.take i)).length,rs[i])∧pre.length=i:=by
 obtain ⟨i,hi,e⟩:=h
 rw [ats_take hi] at e
 have:=List.append_inj' e rfl
 refine ⟨i,hi,this.1,by simpa using this.2,?_⟩;rw [this.1,List.length_take,ats_len];omega
theorem chunks_it (bc b o:Nat) (rs:List Row) (ha:Option Addr) (hcp:Nat) (len:Int) (hm:(flat rs).length≤1048576) (hr:rs.length≤1048576):It Tryz.prog 235 [.pointer (some ⟨bc,0,none⟩)] encA
  (fun xs=>xs=ats rs 0) (SpA rs)
  (pt bc [.pointer (some ⟨b,o,none⟩)] 231::seg b o [.slice ha rs.length hcp,.int .i64 len]::OwH ha hcp rs::[]) (pt bc [.pointer (some ⟨b,o,none⟩)] 231::seg b o [.slice ha rs.length hcp,.int .i64 len]::OwH ha hcp rs::[]):=by
 intro l J X hy;refine Ct.of (vs:=[.func (.yield l) #[] #[],.pointer (some ⟨bc,0,none⟩)]) Tryz.func235 rfl rfl [(0,.func (.yield l) #[] #[]),(1,.pointer (some ⟨bc,0,none⟩))] ⟨rfl,rfl,trivial⟩ ?_;intro E
 show Hd E 27 _ _ _ _
 refine Hd.heap (pt bc [.pointer (some ⟨b,o,none⟩)] 231::seg b o [.slice ha rs.length hcp,.int .i64 len]::OwH ha hcp rs::J []) (fun k h=>sep_app h) ?_;refine Hd.seq fun _ K1=>?_
 refine sr fun _ K2=>?_
 refine yv (y_l1 ag231 rfl)<|yv (y_eql_pointer Tryz.underlying231 rfl rfl) ?_;refine fk [(0,_),(1,_),(7,_)] K2 ?_;refine Hd.condF rfl ?_;refine qv K1<|sr fun _ K3=>?_
 refine yv y_as<|fk [(0,_),(1,_),(3,_)] K3 ?_;refine sr fun _ K4=>?_
 refine yv (y_l1 ag231 rfl)<|yv y_np<|yv (y_f 0 114 Tryz.underlying116 sz114)<|yv (y_load1 ag114 rfl (Rd.seg1 pkk (by rfl))) ?_;refine yv (y_len Tryz.underlying114 rfl) ?_;refine yv y_mv<|fk [(0,_),(3,_),(11,_),(12,_),(13,_)] K4 ?_;refine Hd.block<|Hd.loopK (ι:=Nat) [(0,_),(11,_),(12,_)] (fun i=>[(3,.int .i64 ((flat (rs.take i)).length:Int)),(13,.int .i64 (i:Int))]) (fun i=>pu (i≤rs.length)::pt bc [.pointer (some ⟨b,o,none⟩)] 231::seg b o [.slice ha rs.length hcp,.int .i64 len]::OwH ha hcp rs::J ((ats rs 0).take i)) (fun i=>rs.length - i) 0 sbq sbq (Ent.sep (.pure (by omega) enn)) ?_;intro i
 try dsimp only
 refine Hd.pure (fun hp0=>?_)
 try dsimp only at hp0
 refine sr fun _ K5=>?_
 refine yv (y_lss rfl rfl) ?_;refine fk [(0,_),(3,_),(11,_),(12,_),(13,_),(14,_)] K5 ?_;refine Hd.seq fun _ K6=>?_
 refine qz ?_ ?_<;>intro hc1<;>try simp only [hyZ] at hc1
 ·have hi':i < rs.length:=by omega
  have e1:=flat_take_succ hi'
  have e2:=flat_take_le (rs:=rs) (i + 1)
  rw [e1,List.length_append] at e2;refine qv K6<|Hd.seq fun _ K7=>?_
  refine Hd.block<|sr fun _ K8=>?_
  refine yv (y_idxR Tryz.underlying114 sz30 rfl rfl (by omega) (by exact RdS.own pkk)) ?_;refine yv (y_loadR1 ag30 rfl (by exact RdS.own pkk) (by exact hdr_at hi')) ?_;refine yv y_as<|fk [(0,_),(3,_),(5,_),(11,_),(12,_),(13,_)] K8 ?_;refine Hd.seq fun _ K9=>?_
  refine sr fun _ K10=>?_
  refine yv y_mv<|yv y_mv<|yv y_mv<|Hd.yield (pre:=(ats rs 0).take i) (c:=((flat (rs.take i)).length,rs[i])) (M:=pt bc [.pointer (some ⟨b,o,none⟩)] 231::seg b o [.slice ha rs.length hcp,.int .i64 len]::OwH ha hcp rs::[]) hy rfl rfl ⟨i,hi',(ats_take hi').symm⟩ (fun k h=>sep_app (M:=[_,_,_]) h) ?_;intro yb;rw [←ats_take hi'];refine yv (y_not rfl)<|fk [(0,_),(3,_),(5,_),(11,_),(12,_),(13,_),(21,_)] K10 ?_;refine qz ?_ ?_<;>intro hc2<;>try simp only [hyZ] at hc2
  ·subst hc2
   simp only [cond_false];refine Hd.ret<|Hd.thenRet<|Hd.inBret<|Hd.thenRet<|Hd.thenRet<|Hd.inBret ?_;exact Hd.ret0 rfl ((ats rs 0).take (i + 1),false) rfl (fun k' h=>Ent.sep (.pure ⟨i,hi',rfl⟩ .same) k' h)
  subst hc2;simp only [cond_true];refine Hd.heap (pt bc [.pointer (some ⟨b,o,none⟩)] 231::seg b o [.slice ha rs.length hcp,.int .i64 len]::OwH ha hcp rs::J ((ats rs 0).take (i + 1))) (fun k h=>sep_app (N:=[_,_,_]) h) ?_;refine qv K9<|Hd.region<|yv y_mv<|yv y_mv<|yv (y_len Tryz.underlying30 rfl) ?_;refine yv (y_addn rfl rfl (by simp only [InK];omega)) ?_;refine yv y_as<|Hd.nil<|slots [(0,_),(3,_),(11,_),(12,_),(13,_)] sbq ?_;refine Hd.inB<|Hd.toK K7 ?_;refine Hd.region<|yv (y_addn rfl rfl (by simp only [InK];omega)) ?_;refine yv y_mv<|Hd.nil<|slots [(0,_),(3,_),(11,_),(12,_),(13,_)] sbq ?_;refine thenN ?_;exact Hd.again (i + 1) (by omega) (by repeat (first | exact trivial | refine ⟨rfl,?_⟩ | refine ⟨by (show some _=some _;rw [e1,List.length_append];rfl),?_⟩)) (Ent.sep (.pure (by omega) enn))
 refine Hd.exit<|Hd.thenExit<|Hd.thenExit<|Hd.inBexit ?_
 have hi:i=rs.length:=by omega
 subst hi
 have e0:(ats rs 0).take rs.length=ats rs 0:=List.take_of_length_le (by rw [ats_len];exact Nat.le_refl _)
 rw [e0];exact Hd.end0 rfl (ats rs 0,true) rfl (fun k' h=>Ent.sep (.pure rfl .same) k' (sep_app (M:=[_,_,_]) h))
theorem ent3 {L:List SP} {A B C:SP}:Ent (A::B::C::L) (L++[A,B,C]):=Ent.swap (L:=[A,B,C])
theorem own0 {L M:List SP} {e sz m:Nat} {ad:Option Addr} {us:List Value} (h1:m=0) (h2:us=[]) (q:Ent L M):Ent L (own e sz ad m 0 us::M):=by subst h1;subst h2;exact .ownNil q
def cpy (all:List UInt8) (f n:Int):List UInt8:=if f < 0∨n < 0 then [] else (all.drop f.toNat).take n.toNat
theorem take_drop_app (A R:List UInt8) (f n:Nat) (h:((A.drop f).take n).length≠n):((A++R).drop f).take n=(A.drop f).take n++(R.drop (f - A.length)).take (n - ((A.drop f).take n).length):=by
 have hl:(A.drop f).length < n:=by
  rw [List.length_take] at h
  rcases Nat.lt_or_ge (A.drop f).length n with h1 | h1
  ·exact h1
  ·exact absurd (Nat.min_eq_left h1) h
 rw [List.drop_append,List.take_append,List.take_of_length_le (Nat.le_of_lt hl)]
theorem take_full (A R:List UInt8) (f n:Nat) (h:((A.drop f).take n).length=n):((A++R).drop f).take n=(A.drop f).take n:=by
 have hl:n≤(A.drop f).length:=by rw [List.length_take] at h;omega
 rw [List.drop_append,List.take_append_of_le_length hl]
theorem flat_pre {rs:List Row} (i:Nat):flat rs=flat (rs.take i)++flat (rs.drop i):=by unfold flat;rw [←List.flatMap_append,List.take_append_drop]
theorem copy_ct (L:List SP) (b o:Nat) (rs:List Row) (hg:Good rs) (f n:Int) (hf:InK .i64 f) (hn:InK .i64 n):Ct Tryz.prog 161 #[.pointer (some ⟨b,o,none⟩),.int .i64 f,.int .i64 n] (Ch b o rs::L) (fun q_:Option Addr×Nat=>.slice q_.1 (cpy (flat rs) f n).length q_.2) (fun q_:Option Addr×Nat=>own 5 1 q_.1 (cpy (flat rs) f n).length q_.2 (bsl (cpy (flat rs) f n))::Ch b o rs::L):=by
 refine Ct.o3M Tryz.func161 ?_;intro E
 show Hd E 48 _ _ _ _
 obtain ⟨hfull,hlen⟩:=hg
 have hrl:=full_len hfull
 simp only [InK] at hf hn;refine sr fun _ K1=>?_
 refine Hd.box rfl rfl (fun b4=>?_);refine Hd.box rfl rfl (fun b5=>?_);refine yv y_as<|fk [(0,_),(4,_),(5,_)] K1 ?_;refine Hd.scope ?_;refine Hd.seq fun _ K2=>?_
 refine sr fun _ K3=>?_
 refine yv (y_l1 ag3 rfl)<|yv (y_lss rfl rfl) ?_;refine yv y_mv ?_;apply Hd.org 3 12 15 [(0,_),(4,_),(5,_)] rfl sbq
 ·intro hg1_12
  try simp only [hyZ] at hg1_12
  simp only [List.take];refine n1<|n1<|yv (y_pickT rfl rfl) ?_;exact Hd.mn
 ·intro hg1_12
  try simp only [hyZ] at hg1_12
  simp only [List.take];refine y2 (y_l1 ag3 rfl)<|y2 (y_lss rfl rfl) ?_;refine yv (y_pickF rfl rfl) ?_;exact Hd.mn
 simp only [List.drop];refine fk [(0,_),(4,_),(5,_),(15,_)] K3 ?_;refine qz ?_ ?_<;>intro hc0<;>try simp only [hyZ] at hc0
 ·refine sr fun _ K4=>?_
  refine yv y_as<|fk [(6,_)] K4 ?_;refine Hd.ret<|Hd.thenRet<|Hd.scRet ?_
  have e:cpy (flat rs) f n=[]:=by unfold cpy;rw [if_pos hc0]
  exact Hd.retM (fun a fr=>Lv.end1 fr rfl (none,0) (by rw [e];rfl) (by rw [e];exact Ent.sep (.ownNil enn)))
 obtain ⟨hf0,hn0⟩:0≤f∧0≤n:=by omega
 have e:cpy (flat rs) f n=((flat rs).drop f.toNat).take n.toNat:=by unfold cpy;rw [if_neg (by omega)]
 refine Hd.exs pkk ?_;rintro ⟨ha,hcp⟩;simp only [List.cons_append,List.nil_append];refine qv K2<|sr fun _ K5=>?_
 refine Hd.alloc zr30 (fun b7=>?_);refine fk [(0,_),(4,_),(5,_),(7,_)] K5 ?_;refine Hd.seq fun _ K6=>?_
 refine Hd.label ?_;refine Hd.toK K6 ?_;refine Hd.seq fun _ K7=>?_
 refine sr fun _ K8=>?_
 refine yv y_mv<|callE rfl fk213 (chunks_ct _ _) sq ?_;intro bc;refine fk [(4,_),(5,_),(7,_),(17,_)] K8 ?_;refine Hd.block<|Hd.rangeF (enc:=encA) (S:=fun xs=>xs=ats rs 0) (Sp:=SpA rs)
  (fun pre=>(RX.ex fun i:Option Addr×Nat=>[pt b7 [.slice i.1 (((flat (rs.take pre.length)).drop f.toNat).take n.toNat).length i.2] 30,own 5 1 i.1 (((flat (rs.take pre.length)).drop f.toNat).take n.toNat).length i.2 (bsl (((flat (rs.take pre.length)).drop f.toNat).take n.toNat))])::pt b4 [.int .i64 f] 3::pt b5 [.int .i64 n] 3::rows rs::L)
  (fun j pre=>[pu (j=some 0),RX.ex fun i:Option Addr×Nat=>[pt b7 [.slice i.1 (cpy (flat rs) f n).length i.2] 30,own 5 1 i.1 (cpy (flat rs) f n).length i.2 (bsl (cpy (flat rs) f n))]]++(rows rs::L))
  rfl kq (fun _=>rfl) rfl (chunks_it bc b o rs ha hcp _ hlen (by omega)) (Ent.sep (.ex (none,0) (.eq pkk (pt_eq (by simp [flat])) (own0 (by simp [flat]) (by simp [flat]) (.pick pkk (.pick pkk (.pick pkk ent3))))))) ?_ ?_ ?_
 ·intro E l' R pre c N hR hG
  obtain ⟨i,hi,hpre,rfl,hpl⟩:=spA_last hG
  unfold Rnd;simp only [List.cons_append,List.nil_append,pz,encA];refine sr fun _ K9=>?_
  refine yv y_as<|fk [(4,_),(5,_),(7,_),(8,_),(19,_)] K9 ?_;refine Hd.region<|yv y_as<|Hd.nil<|slots [(4,_),(5,_),(7,_),(8,_),(9,_)] sbq ?_;refine thenN<|Hd.begin hR pkk ?_;refine Hd.block<|Hd.seq fun _ K10=>?_
  refine Hd.seq fun _ K11=>?_
  rw [hpl]
  have e1:=flat_take_succ hi
  have e2:=flat_take_le (rs:=rs) (i + 1)
  rw [e1,List.length_append] at e2
  have hout:(((flat (rs.take i)).drop f.toNat).take n.toNat).length≤n.toNat:=by rw [List.length_take];omega
  have hout2:(((flat (rs.take i)).drop f.toNat).take n.toNat).length≤1048576:=by rw [List.length_take,List.length_drop];omega
  refine Hd.exs pkk ?_;rintro ⟨a4,c4⟩;simp only [List.cons_append,List.nil_append];refine Hd.rowsCap (rs:=rs) pkk (fun hcaps=>?_)
  have hcap0:=hcaps _ (List.getElem_mem hi)
  refine Hd.region<|yv (y_l1 ag30 rfl)<|yv (y_len Tryz.underlying30 rfl) ?_;refine yv (y_l1 ag3 rfl)<|yv (y_eql rfl rfl) ?_;refine fk [(4,_),(5,_),(7,_),(8,_),(9,_),(23,_)] K11 ?_;refine qz ?_ ?_<;>intro hc1<;>try simp only [hyZ] at hc1
  ·refine Hd.exit ?_
   refine Hd.thenExit<|Hd.inBexit' rfl ?_;refine Hd.reX ?_;simp only [List.cons_append,List.nil_append]
   have hc1':(((flat (rs.take i)).drop f.toNat).take n.toNat).length=n.toNat:=by omega
   have e3:cpy (flat rs) f n=((flat (rs.take i)).drop f.toNat).take n.toNat:=by rw [e,flat_pre i,take_full _ _ _ _ hc1']
   exact Ent.sep (.pick pkk (.pure (by trivial) (.ex (a4,c4) (.eq pkk (pt_eq (by rw [e3])) (.eq pkk (own_eq (by rw [e3]) (by rw [e3])) enn)))))
  have hc1':(((flat (rs.take i)).drop f.toNat).take n.toNat).length≠n.toNat:=by omega
  refine qv K10<|sr fun _ K12=>?_
  refine yv y_mv<|yv y_mv<|yv (y_len Tryz.underlying30 rfl) ?_;refine yv (y_addn rfl rfl (by simp only [InK];omega)) ?_;refine yv (y_l1 ag3 rfl)<|yv (y_gtr rfl rfl) ?_;refine fk [(4,_),(5,_),(7,_),(8,_),(9,_),(29,_)] K12 ?_;refine qz ?_ ?_<;>intro hc2<;>try simp only [hyZ] at hc2
  ·refine sr fun _ K13=>?_
   refine yv y_mv<|yv (y_l1 ag3 rfl)<|yv y_mv<|yv (y_subn rfl rfl (by simp only [InK];omega)) ?_;refine yv (y_max rfl rfl) ?_;refine Hd.name (b:=((f.toNat - (flat (rs.take i)).length:Nat):Int)) 34 rfl (by omega) ?_;refine yv (y_slo_oxxN Tryz.underlying30 sz5 rfl rfl (by omega)) ?_;refine yv y_as<|fk [(5,_),(7,_),(9,_)] K13 ?_;refine Hd.drawsH ([pt b7 [.slice a4 (((flat (rs.take i)).drop f.toNat).take n.toNat).length c4] 30,pt b5 [.int .i64 n] 3]) (fun j=>!([11].contains j)) mixed ?_;simp only [List.length,Nat.zero_add,Nat.reduceAdd];refine tH 0 rfl (y_l1 ag30 rfl)<|tH 1 rfl y_mv<|tH 2 rfl y_mv<|tH 3 rfl (y_len Tryz.underlying30 rfl) ?_;refine tH 4 rfl (y_l1 ag3 rfl)<|tH 5 rfl (y_l1 ag30 rfl)<|tH 6 rfl (y_len Tryz.underlying30 rfl) ?_;refine tH 7 rfl (y_subn rfl rfl (by simp only [InK];omega)) ?_
   refine tH 8 rfl (y_min rfl rfl) ?_;refine Hd.name (b:=((min (rs[i].l.length - (f.toNat - (flat (rs.take i)).length)) (n.toNat - (((flat (rs.take i)).drop f.toNat).take n.toNat).length):Nat):Int)) 44 rfl (by omega) ?_;refine tH 9 rfl (y_slo_xoxN Tryz.underlying30 sz5 rfl rfl (by omega)) ?_;refine qo 10 ?_;refine Hd.append Tryz.underlying30 ty5 rfl rfl rfl pkk (by exact RdS.head (RdS.tail (rows_rd pkk (List.getElem_mem hi)) (by omega) (by omega)) (by omega)) (by exact fun u hu=>B_one (l:=rs[i].l) u (List.mem_of_mem_drop (List.mem_of_mem_take hu))) (by simp only [maxLen];omega) (by omega) (fun ad46 cap46=>?_);refine qk<|qo 11 ?_;refine Hd.store1 sz30 rfl rfl rfl pkk (by simp;done) ?_
   try simp only [hyS]
   refine qn<|endH kq ?_;refine slots [(7,_)] sbq ?_;refine Hd.inB<|Hd.reN ?_;simp only [List.cons_append,List.nil_append]
   have e4:=take_drop_app (flat (rs.take i)) rs[i].l f.toNat n.toNat hc1'
   rw [←e1] at e4;refine Ent.sep (.pick pkk (.ex (ad46,cap46) (.eq pkk (pt_eq ?_) (.eq pkk (own_eq ?_ ?_) enn))))
   ·simp only [List.length_append,List.length_cons,List.length_nil,hpl,Nat.zero_add]
    rw [e4,List.length_append];simp only [List.length_take,List.length_drop]
    congr 2;omega
   ·simp only [List.length_append,List.length_cons,List.length_nil,hpl,Nat.zero_add]
    rw [e4,List.length_append];simp only [List.length_take,List.length_drop];omega
   ·simp only [List.length_append,List.length_cons,List.length_nil,hpl,Nat.zero_add]
    rw [e4];simp [List.map_take,List.map_drop];omega
  refine Hd.skip<|Hd.inB<|Hd.reN ?_;simp only [List.cons_append,List.nil_append]
  have e4:((flat (rs.take (i + 1))).drop f.toNat).take n.toNat=((flat (rs.take i)).drop f.toNat).take n.toNat:=by
   rw [e1,List.drop_append,List.drop_of_length_le (show rs[i].l.length≤f.toNat - (flat (rs.take i)).length by omega),List.append_nil]
  refine Ent.sep (.pick pkk (.ex (a4,c4) (.eq pkk (pt_eq ?_) (.eq pkk (own_eq ?_ ?_) enn))))
  all_goals simp only [List.length_append,List.length_cons,List.length_nil,hpl,Nat.zero_add,e4]
 ·intro r0 xs hxs
  have hxs':xs=ats rs 0:=hxs
  subst hxs';rw [ats_len,List.take_length,←e]
  try simp only [List.cons_append,List.nil_append]
  refine Hd.inB<|Hd.toK K7 ?_;refine Hd.seq fun _ K14=>?_
  refine Hd.exs pkk ?_;rintro ⟨a4,c4⟩;simp only [List.cons_append,List.nil_append];refine Hd.region<|yv (y_l1 ag30 rfl)<|yv y_as<|fk [(6,_)] K14 ?_;refine Hd.ret<|Hd.scRet ?_;exact Hd.retM (fun a fr=>Lv.mark pkk (Lv.end1 fr rfl (a4,c4) rfl (Ent.sep (.pick pkk (.ex (ha,hcp) enn)))))
 rintro r0_0 (_ | id0) pre0 hG0
 ·exact Hd.absurd (by simp)
 by_cases hid0:id0=0
 ·subst hid0
  simp only [List.cons_append,List.nil_append];refine Hd.pure (fun _=>?_)
  try simp only [List.cons_append,List.nil_append]
  refine Hd.exit<|Hd.inBexit<|Hd.toK K7 ?_;refine Hd.seq fun _ K15=>?_
  refine Hd.exs pkk ?_;rintro ⟨a4,c4⟩;simp only [List.cons_append,List.nil_append];refine Hd.region<|yv (y_l1 ag30 rfl)<|yv y_as<|fk [(6,_)] K15 ?_;refine Hd.ret<|Hd.scRet ?_;exact Hd.retM (fun a fr=>Lv.mark pkk (Lv.end1 fr rfl (a4,c4) rfl (Ent.sep (.pick pkk (.ex (ha,hcp) enn)))))
 ·exact Hd.absurd (by simpa using hid0)
def Mt (all w:List UInt8) (a:Nat):Prop:=(all.drop a).take w.length=w
instance (all w:List UInt8) (a:Nat):Decidable (Mt all w a):=by unfold Mt;infer_instance
section
variable {E : World} {n : Nat} {ds : List Deferred} {st : List (Nat × Value)} {L L' L2 : List SP} {K : Act → World → Prop}
theorem Hd.ptOwn {b:Nat} {cs:List Value} {e:TypeId} (m' sz':Nat) (p:Pick L (pt b cs e) L') (hl:cs.length=m' * sz') (hm:m'≤maxLen) (h:Hd E n ds st (own e sz' (some ⟨b,0,none⟩) m' m' cs::L') K):Hd E n ds st L K :=
 Hd.heap _ (fun k s=>sep_head (p.sep s) fun k x=>own_pt (sp:=[]) hl (Nat.le_refl _) hm (by simp) (by simpa using x)) h
end
end Bc
end Go.Proofs.YtmpemhbfgbochaaGreatDoor
namespace Go.Proofs.YtmpemhbfgbochaaGreatDoor
open Go.RX Fx
namespace Bu
open Wo
theorem sep_pure {p:Prop} {L:List SP} {k:PH} (h:sep (pu p::L) k):p∧sep L k:=by
 obtain ⟨h1,h2,_,_,b,x,y⟩:=h
 exact ⟨x,y.up b⟩
theorem Ct.exs {P:Program} {f:FuncId} {vs:Array Value} {L:List SP} {ι κ:Type} {val:ι→Value} {post:ι→List SP} {X:κ→List SP} (h:∀ i,Ct P f vs (X i++L) val post):Ct P f vs (RX.ex X::L) val post:=fun E w s=>by
 obtain ⟨h1,h2,h3,h4⟩:=s
 obtain ⟨k1,k2,d,s1,s2,⟨i,x⟩,y⟩:=h4
 exact h i E w ⟨h1,h2,h3,sep_join d s1 s2 x y⟩
theorem Ct.pure {P:Program} {f:FuncId} {vs:Array Value} {L:List SP} {ι:Type} {val:ι→Value} {post:ι→List SP} {p:Prop} (h:p→Ct P f vs L val post):Ct P f vs (pu p::L) val post:=fun E w s=>by
 have:=sep_pure s.2.2.2
 exact h this.1 E w ⟨s.1,s.2.1,s.2.2.1,this.2⟩
theorem Ct.imp {P:Program} {f:FuncId} {vs:Array Value} {L L':List SP} {ι ι':Type} {val:ι→Value} {val':ι'→Value} {post:ι→List SP} {post':ι'→List SP} (h:Ct P f vs L val post) (hL:∀ k,sep L' k→sep L k)
  (hp:∀ i,∃ j,val i=val' j∧∀ k,sep (post i) k→sep (post' j) k):Ct P f vs L' val' post':=fun E w s =>
 Calls.mono (h E w (s.mp hL)) (fun e w' ⟨i,he,hs⟩=>by obtain ⟨j,hv,hj⟩:=hp i;exact ⟨j,by rw [he,hv],hs.mp hj⟩)
def ChB (b o:Nat) (l:List UInt8):SP:=RX.ex fun rs:List Bc.Row=>[pu (Bc.Good rs∧Bc.flat rs=l),Bc.Ch b o rs]
theorem Hd.chB {E:World} {n:Nat} {ds:List Deferred} {st:List (Nat×Value)} {L L':List SP} {K:Act→World→Prop} {b o:Nat} {l:List UInt8} (p:Pick L (ChB b o l) L') (h:l.length≤1048576→Hd E n ds st L K):Hd E n ds st L K:=fun a w f s=>by
 refine h ?_ a w f s
 obtain ⟨h1,s1,rs,x⟩:=sep.one p s.2.2.2
 have x2:=(sep_pure (p:=Bc.Good rs∧Bc.flat rs=l) x).1
 rw [←x2.2];exact x2.1.2
theorem chLen (L:List SP) (b o:Nat) (l:List UInt8):Ct Tryz.prog 78 #[.pointer (some ⟨b,o,none⟩)] (ChB b o l::L) (fun _:Unit=>.int .i64 (l.length:Int)) (fun _=>ChB b o l::L) :=
 Ct.exs fun rs=>Ct.pure fun h=>by
  obtain ⟨hg,rfl⟩:=h
  exact Ct.imp (Bc.lenC_ct L b o rs) (fun k s=>s) fun i=>⟨(),rfl,fun k s=>Ent.sep (.ex rs (.pure ⟨hg,rfl⟩ enn)) k s⟩
def addA (l bs:List UInt8):List UInt8:=if bs.length≤1048576 - l.length then l++bs else l
def addE (l bs:List UInt8):Int:=if bs.length≤1048576 - l.length then 0 else 70
theorem chAdd (L:List SP) (b o:Nat) (l:List UInt8) (ad:Option Addr) (m cap:Nat) (bs:List UInt8) (hl:bs.length=m) (hD:RdS L 1 ad m (bsl bs)) (hmc:m≤cap) (hm:m≤70368744177664):Ct Tryz.prog 72 #[.pointer (some ⟨b,o,none⟩),.slice ad m cap] (ChB b o l::L) (fun _:Unit=>.int .i64 (addE l bs)) (fun _=>ChB b o (addA l bs)::L) :=
 Ct.exs fun rs=>Ct.pure fun h=>by
  obtain ⟨hg,rfl⟩:=h
  subst hl
  exact Ct.imp (Bc.add_ct L b o rs hg ad bs.length cap bs hD hmc hm) (fun k s=>s) fun rs'=>⟨(),rfl,fun k s=>by
   obtain ⟨⟨h1,h2⟩,s⟩:=sep_pure s
   exact Ent.sep (.ex rs' (.pure ⟨h1,h2⟩ enn)) k s⟩
theorem chTake (L:List SP) (b o:Nat) (l:List UInt8) (n:Int) (hn:n≤9223372036854775807):Ct Tryz.prog 73 #[.pointer (some ⟨b,o,none⟩),.int .i64 n] (ChB b o l::L) (fun i:Option Addr×Nat=>.slice i.1 (l.take n.toNat).length i.2) (fun i=>own 5 1 i.1 (l.take n.toNat).length i.2 (bsl (l.take n.toNat))::ChB b o (l.drop n.toNat)::L) :=
 Ct.exs fun rs=>Ct.pure fun h=>by
  obtain ⟨hg,rfl⟩:=h
  exact Ct.imp (Bc.take_ct L b o rs hg n hn) (fun k s=>s) fun i=>⟨(i.2.1,i.2.2),rfl,fun k s=>by
   obtain ⟨⟨h1,h2⟩,s⟩:=sep_pure s
   have hg2:Bc.Good i.1:=⟨h2,by rw [h1,List.length_drop];have:=hg.2;omega⟩
   exact Ent.sep (.pick pkk (.ex i.1 (.pure ⟨hg2,h1⟩ enn))) k s⟩
theorem chDrain (L:List SP) (b o:Nat) (l:List UInt8) (n:Int) (hn:n≤9223372036854775807):Ct Tryz.prog 162 #[.pointer (some ⟨b,o,none⟩),.int .i64 n] (ChB b o l::L) (fun _:Unit=>.int .i64 ((l.take n.toNat).length:Int)) (fun _=>ChB b o (l.drop n.toNat)::L) :=
 Ct.exs fun rs=>Ct.pure fun h=>by
  obtain ⟨hg,rfl⟩:=h
  exact Ct.imp (Bc.drain_ct L b o rs hg n hn) (fun k s=>s) fun r=>⟨(),rfl,fun k s=>by
   obtain ⟨⟨h1,h2⟩,s⟩:=sep_pure s
   have hg2:Bc.Good r:=⟨h2,by rw [h1,List.length_drop];have:=hg.2;omega⟩
   exact Ent.sep (.ex r (.pure ⟨hg2,h1⟩ enn)) k s⟩
theorem chCopy (L:List SP) (b o:Nat) (l:List UInt8) (f n:Int) (hf:InK .i64 f) (hn:InK .i64 n):Ct Tryz.prog 161 #[.pointer (some ⟨b,o,none⟩),.int .i64 f,.int .i64 n] (ChB b o l::L) (fun i:Option Addr×Nat=>.slice i.1 (Bc.cpy l f n).length i.2) (fun i=>own 5 1 i.1 (Bc.cpy l f n).length i.2 (bsl (Bc.cpy l f n))::ChB b o l::L) :=
 Ct.exs fun rs=>Ct.pure fun h=>by
  obtain ⟨hg,rfl⟩:=h
  exact Ct.imp (Bc.copy_ct L b o rs hg f n hf hn) (fun k s=>s) fun i=>⟨i,rfl,fun k s=>Ent.sep (.pick pkk (.ex rs (.pure ⟨hg,rfl⟩ enn))) k s⟩
structure SdA where
 c:List UInt8
 on:Bool
 ended:Bool
 low:Int
 high:Int
 after:Int
 at_:Int
structure BfA where
 s:Nat→SdA
 fd:Int
abbrev encS (s:SdA):List Value:=[.bool s.on,.bool s.ended,.int .i64 s.low,.int .i64 s.high,.int .u64 s.after,.int .u64 s.at_]
abbrev SdL (b k:Nat) (s:SdA) (L:List SP):List SP:=ChB b (2 + k * 8 + 0) s.c::segK b (2 + k * 8) 2 (encS s)::L
abbrev BfH (b wb:Nat) (fd:Int):SP:=seg b 0 [.pointer (some ⟨wb,0,none⟩),.int .i64 fd]
abbrev BfK (b:Nat):SP:=kd b 18 121
abbrev BfL (b wb:Nat) (x:BfA) (k:Nat) (L:List SP):List SP:=BfK b::BfH b wb x.fd::SdL b k (x.s k) (SdL b (1 - k) (x.s (1 - k)) L)
def BufP (b wb:Nat) (x:BfA):SP:=RX.ex fun _:Unit=>BfL b wb x 0 []
theorem Hd.buf {E:World} {n:Nat} {ds:List Deferred} {st:List (Nat×Value)} {L L':List SP} {K:Act→World→Prop} {b wb:Nat} {x:BfA} (p:Pick L (BufP b wb x) L') (h:Hd E n ds st (BfL b wb x 0 L') K):Hd E n ds st L K :=
 Hd.exs (f:=fun _:Unit=>BfL b wb x 0 []) p fun _=>h
def flagA (k:Nat):Int:=if k=0 then 2 else 4
def hasA (mask:Int) (k:Nat):Bool:=decide (bits .and .i64 mask (flagA k)≠0)
def sidesA (mask:Int):List Nat:=[0,1].filter (hasA mask)
theorem flag_ct (L:List SP) (k:Nat):Ct Tryz.prog 79 #[.int .i64 (k:Int)] (L) (fun _:Unit=>.int .i64 (flagA k)) (fun _:Unit=>L):=by
 refine Ct.o1 Tryz.func79 ?_;intro E
 show Hd E 5 _ _ _ _
 refine sr fun _ K1=>?_
 refine yv y_as<|fk [(0,_)] K1 ?_;refine Hd.seq fun _ K2=>?_
 refine sr fun _ K3=>?_
 refine yv y_mv<|yv (y_eql rfl rfl) ?_;refine fk [(4,_)] K3 ?_;refine qz ?_ ?_<;>intro hc0<;>try simp only [hyZ] at hc0
 ·refine sr fun _ K4=>?_
  refine yv y_as<|fk [(2,_)] K4 ?_;refine Hd.ret<|Hd.thenRet ?_
  obtain rfl:k=0:=by omega
  exact Hd.ret1 rfl () rfl sq
 refine qv K2<|sr fun _ K5=>?_
 refine yv y_as<|fk [(2,_)] K5 ?_;refine Hd.ret ?_
 have:k≠0:=by omega
 exact Hd.ret1 rfl () (by unfold flagA;rw [if_neg this];rfl) sq
theorem bnone_ct (L:List SP) (b wb:Nat) (fd:Int):Ct Tryz.prog 71 #[.pointer (some ⟨b,0,none⟩)] (BfH b wb fd::L) (fun _:Unit=>.bool false) (fun _:Unit=>BfH b wb fd::L):=by
 refine Ct.o1 Tryz.func71 ?_;intro E
 show Hd E 12 _ _ _ _
 refine sr fun _ K1=>?_
 refine yv y_as<|fk [(0,_)] K1 ?_;refine sr fun _ K2=>?_
 refine yv y_mv<|yv (y_eql_pointer Tryz.underlying33 rfl rfl) ?_;refine yv y_mv<|y2 y_mv<|y2 y_np<|y2 (y_f 0 37 Tryz.underlying121 sz37)<|y2 (y_load1 ag37 rfl (Rd.seg1 pkk (by rfl))) ?_;refine y2 (y_eql_pointer Tryz.underlying37 rfl rfl) ?_;refine yv (y_pickF rfl rfl) ?_;refine yv y_as<|fk [(2,_)] K2 ?_;refine Hd.ret ?_;exact Hd.ret1 rfl () (by rfl) sq
theorem may_ct (L:List SP) (b wb:Nat) (fd:Int) (s:Int):Ct Tryz.prog 64 #[.pointer (some ⟨b,0,none⟩),.int .i64 s] (BfH b wb fd::L) (fun _:Unit=>.int .i64 (if bits .andNot .i64 s 6=0 then 0 else 2)) (fun _:Unit=>BfH b wb fd::L):=by
 refine Ct.o2 Tryz.func64 ?_;intro E
 show Hd E 12 _ _ _ _
 refine sr fun _ K1=>?_
 refine yv y_as<|fk [(0,_),(1,_)] K1 ?_;refine Hd.seq fun _ K2=>?_
 refine Hd.block<|sr fun _ K3=>?_
 refine yv y_mv<|callE rfl fk71 (bnone_ct _ b wb fd) sq ?_;intro _;refine yv y_as<|fk [(1,_),(5,_)] K3 ?_;refine Hd.condF rfl ?_;refine sr fun _ K4=>?_
 refine yv y_mv<|yv (y_andNot rfl rfl) ?_;refine yv (y_neq rfl rfl) ?_;refine yv y_as<|fk [(8,_)] K4 ?_;refine qz ?_ ?_<;>intro hc1<;>try simp only [hyZ] at hc1
 ·refine sr fun _ K5=>?_
  refine yv y_as<|fk [(4,_)] K5 ?_;refine Hd.ret<|Hd.inBret<|Hd.thenRet ?_;exact Hd.ret1 rfl () (by rw [if_neg hc1];rfl) sq
 refine Hd.skip<|Hd.inB<|Hd.toK K2 ?_;refine sr fun _ K6=>?_
 refine yv y_as<|fk [(4,_)] K6 ?_;refine Hd.ret ?_;exact Hd.ret1 rfl () (by rw [if_pos hc1];rfl) sq
theorem some_ct (L:List SP) (p:Option Addr) (mask:Int):Ct Tryz.prog 65 #[.pointer p,.int .i64 mask] (L) (fun q_:Nat×Nat=>.func (.func 152) #[] #[.pointer (some ⟨q_.2,0,none⟩),.pointer (some ⟨q_.1,0,none⟩)]) (fun q_:Nat×Nat=>pt q_.1 [.pointer p] 33::pt q_.2 [.int .i64 mask] 3::L):=by
 refine Ct.o2 Tryz.func65 ?_;intro E
 show Hd E 6 _ _ _ _
 refine sr fun _ K1=>?_
 refine Hd.box rfl rfl (fun b2=>?_);refine Hd.box rfl rfl (fun b3=>?_);refine yv y_as<|fk [(2,_),(3,_)] K1 ?_;refine sr fun _ K2=>?_
 refine yv (y_mkf (fv:=[]) (cv:=[_,_]) rfl rfl) ?_;refine yv y_as<|fk [(4,_)] K2 ?_;refine Hd.ret ?_;exact Hd.ret1 rfl (b2,b3) rfl sq
abbrev encK (b:Nat) (k:Nat):List Value:=[.int .i64 (k:Int),.pointer (some ⟨b,2 + k * 8,none⟩)]
theorem range_pre (f:Nat→Bool) {i:Nat} (h:i≤2):(List.range i).filter f <+: [0,1].filter f:=by
 have:=range_prefix f (m:=2) h
 exact this
theorem some_it (b bb bm:Nat) (mask:Int):RX.It Tryz.prog 152 [.pointer (some ⟨bm,0,none⟩),.pointer (some ⟨bb,0,none⟩)] (encK b) (fun ys=>ys=sidesA mask) (fun ys=>ys <+: sidesA mask)
  [pt bb [.pointer (some ⟨b,0,none⟩)] 33,pt bm [.int .i64 mask] 3] []:=by
 intro l J X hy;refine Ct.of (vs:=[.func (.yield l) #[] #[],.pointer (some ⟨bm,0,none⟩),.pointer (some ⟨bb,0,none⟩)]) Tryz.func152 rfl rfl [(0,.func (.yield l) #[] #[]),(1,.pointer (some ⟨bm,0,none⟩)),(2,.pointer (some ⟨bb,0,none⟩))] ⟨rfl,rfl,rfl,trivial⟩ ?_;intro E
 show Hd E 23 _ _ _ _
 refine Hd.heap (pt bb [.pointer (some ⟨b,0,none⟩)] 33::pt bm [.int .i64 mask] 3::J []) (fun k h=>by have:=sep_app h;exact this) ?_;refine Hd.scope ?_;refine Hd.seq fun _ K1=>?_
 refine Hd.label ?_;refine Hd.toK K1 ?_;refine sr fun _ K2=>?_
 refine yv y_mv<|fk [(0,_),(1,_),(2,_),(5,_)] K2 ?_;refine Hd.block<|Hd.loopK (ι:=Nat) [(0,_),(1,_),(2,_)] (fun i=>[(5,.int .i64 (i:Int))]) (fun i=>pu (i≤2)::pt bb [.pointer (some ⟨b,0,none⟩)] 33::pt bm [.int .i64 mask] 3::J ((List.range i).filter (hasA mask))) (fun i=>2 - i) 0 sbq sbq (Ent.sep (.pure (by omega) enn)) ?_;intro i
 try dsimp only
 refine Hd.pure (fun hp0=>?_)
 try dsimp only at hp0
 refine sr fun _ K3=>?_
 refine yv (y_lss rfl rfl) ?_;refine fk [(0,_),(1,_),(2,_),(5,_),(6,_)] K3 ?_;refine Hd.seq fun _ K4=>?_
 refine qz ?_ ?_<;>intro hc0<;>try simp only [hyZ] at hc0
 ·have hi:i < 2:=by omega
  have hsf:=range_succ_filter (hasA mask) i
  refine qv K4<|Hd.seq fun _ K5=>?_
  refine Hd.block<|sr fun _ K6=>?_
  refine yv y_mv<|yv y_as<|fk [(0,_),(1,_),(2,_),(4,_),(5,_)] K6 ?_;refine Hd.seq fun _ K7=>?_
  refine Hd.seq fun _ K8=>?_
  refine Hd.drawsH ([pt bm [.int .i64 mask] 3]) (fun _=>true) mixed ?_;simp only [List.length,Nat.zero_add,Nat.reduceAdd];refine tH 0 rfl (y_l1 ag3 rfl)<|tH 1 rfl y_mv<|qo 2 ?_;refine callE rfl fk79 (flag_ct _ i) sq ?_;intro _;refine qk<|tH 3 rfl (y_and rfl rfl) ?_;refine tH 4 rfl (y_eql rfl rfl) ?_;refine endH kq ?_;refine sk [(0,_),(1,_),(2,_),(4,_),(5,_),(12,_)] K8 ?_;refine qz ?_ ?_<;>intro hc1<;>try simp only [hyZ] at hc1
  ·rw [if_neg (by unfold hasA;rw [hc1];simp)] at hsf
   refine Hd.exit<|Hd.thenExit<|Hd.inBexit<|Hd.toK K5 ?_;refine Hd.region<|yv (y_addn rfl rfl (by simp only [InK];omega)) ?_;refine yv y_mv<|Hd.nil<|slots [(0,_),(1,_),(2,_),(5,_)] sbq ?_;refine thenN ?_;rw [←hsf];exact Hd.again (i + 1) (by omega) sbq (Ent.sep (.pure (by omega) enn))
  rw [if_pos (by unfold hasA;simpa using hc1)] at hsf
  have hpr:(List.range i).filter (hasA mask)++[i] <+: sidesA mask:=by rw [←hsf];exact range_pre _ (by omega)
  refine qv K7<|sr fun _ K9=>?_
  refine yv y_mv<|yv y_mv<|yv (y_l1 ag33 rfl)<|yv y_mv<|yv y_np<|yv (y_f 2 119 Tryz.underlying121 sz119)<|yv (y_idxA Tryz.underlying119 sz118 rfl rfl (by omega)) ?_;refine Hd.yield (pre:=(List.range i).filter (hasA mask)) (c:=i) (M:=[pt bb [.pointer (some ⟨b,0,none⟩)] 33,pt bm [.int .i64 mask] 3]) hy rfl rfl hpr (fun k' h=>sep_app (show sep ([pt bb [.pointer (some ⟨b,0,none⟩)] 33,pt bm [.int .i64 mask] 3]++J ((List.range i).filter (hasA mask))) k' from h)) ?_;intro yb;refine yv (y_not rfl)<|fk [(0,_),(1,_),(2,_),(5,_),(21,_)] K9 ?_;refine qz ?_ ?_<;>intro hc2<;>try simp only [hyZ] at hc2
  ·subst hc2
   simp only [cond_false];refine Hd.ret<|Hd.inBret<|Hd.thenRet<|Hd.thenRet<|Hd.inBret<|Hd.scRet ?_;exact Hd.ret0 rfl ((List.range i).filter (hasA mask)++[i],false) rfl (fun k' h=>Ent.sep (.pure hpr .same) k' (sep_right (fun k s=>Ent.sep Ent.nil k s) h))
  subst hc2;simp only [cond_true];refine Hd.heap (pt bb [.pointer (some ⟨b,0,none⟩)] 33::pt bm [.int .i64 mask] 3::J ((List.range i).filter (hasA mask)++[i])) (fun k' h=>sep_app h) ?_;rw [←hsf];refine Hd.skip<|Hd.inB<|Hd.toK K5 ?_;refine Hd.region<|yv (y_addn rfl rfl (by simp only [InK];omega)) ?_;refine yv y_mv<|Hd.nil<|slots [(0,_),(1,_),(2,_),(5,_)] sbq ?_;refine thenN ?_;exact Hd.again (i + 1) (by omega) sbq (Ent.sep (.pure (by omega) enn))
 refine Hd.exit<|Hd.thenExit<|Hd.thenExit<|Hd.inBexit<|Hd.scNorm ?_
 obtain rfl:i=2:=by omega
 exact Hd.end0 rfl (sidesA mask,true) rfl (fun k' h=>Ent.sep (.pure rfl .same) k' (sep_app (M:=[]) (N:=J (sidesA mask)) (Ent.sep enn k' h)))
abbrev NV:Int:=18446744073709551615
def dl (now after:Int):Int:=if 18446744073709551615 - now < after then 18446744073709551615 else now + after
theorem dl_ct (L:List SP) (now after:Int) (hn:InK .u64 now) (ha:InK .u64 after):Ct Tryz.prog 153 #[.int .u64 now,.int .u64 after] (L) (fun _:Unit=>.int .u64 (dl now after)) (fun _:Unit=>L):=by
 refine Ct.o2 Tryz.func153 ?_;intro E
 show Hd E 12 _ _ _ _
 simp only [InK] at hn ha;refine sr fun _ K1=>?_
 refine yv y_as<|fk [(0,_),(1,_)] K1 ?_;refine Hd.seq fun _ K2=>?_
 refine sr fun _ K3=>?_
 refine yv y_mv<|yv y_mv<|yv (y_subn rfl rfl (by simp only [InK];omega)) ?_;refine yv (y_gtr rfl rfl) ?_;refine fk [(0,_),(1,_),(8,_)] K3 ?_;refine qz ?_ ?_<;>intro hc0<;>try simp only [hyZ] at hc0
 ·refine sr fun _ K4=>?_
  refine yv y_as<|fk [(4,_)] K4 ?_;refine Hd.ret<|Hd.thenRet ?_;exact Hd.ret1 rfl () (by unfold dl;rw [if_pos (by omega)];rfl) sq
 refine qv K2<|sr fun _ K5=>?_
 refine yv y_mv<|yv y_mv<|yv (y_addn rfl rfl (by simp only [InK];omega)) ?_;refine yv y_as<|fk [(4,_)] K5 ?_;refine Hd.ret ?_;exact Hd.ret1 rfl () (by unfold dl;rw [if_neg (by omega)];rfl) sq
def BfA.up (x:BfA) (k:Nat) (f:SdA→SdA):BfA:={ x with s:=fun j=>if j=k then f (x.s j) else x.s j }
theorem bup_at (x:BfA) (k:Nat) (f:SdA→SdA):(x.up k f).s k=f (x.s k):=if_pos rfl
theorem bup_ne (x:BfA) {k j:Nat} (f:SdA→SdA) (h:j≠k):(x.up k f).s j=x.s j:=if_neg h
def atV (s:SdA) (k:Nat) (now:Int):Int:=if ((s.on && decide (s.after≠0)) && (decide ((k:Int)=0) || decide ((s.c.length:Int) > 0)))=true then dl now s.after else NV
abbrev setA (k:Nat) (now:Int) (s:SdA):SdA:={ s with at_:=atV s k now }
theorem set_ct (L:List SP) (b k:Nat) (hk:k < 2) (s:SdA) (now:Int) (hn:InK .u64 now) (ha:InK .u64 s.after):Ct Tryz.prog 66 #[.pointer (some ⟨b,0,none⟩),.int .i64 (k:Int),.int .u64 now] (SdL b k s L) (fun _:Unit=>.tuple #[]) (fun _:Unit=>SdL b k (setA k now s) L):=by
 refine Ct.o3 Tryz.func66 ?_;intro E
 show Hd E 46 _ _ _ _
 refine sr fun _ K1=>?_
 refine yv y_mv<|yv y_mv<|yv y_np<|yv (y_f 2 119 Tryz.underlying121 sz119)<|yv (y_idxA Tryz.underlying119 sz118 rfl rfl (by omega)) ?_;refine yv y_as<|fk [(1,_),(2,_),(6,_)] K1 ?_;refine sr fun _ K2=>?_
 refine yv y_mv<|yv y_np<|yv (y_f 7 29 Tryz.underlying118 sz29)<|Hd.storeK1 sz29 rfl rfl rfl pkk (by decide) (by simp;done) ?_
 try simp only [hyS]
 refine fk [(1,_),(2,_),(6,_)] K2 ?_;refine sr fun _ K3=>?_
 refine yv y_mv<|yv y_np<|yv (y_f 2 4 Tryz.underlying118 sz4)<|yv (y_load1 ag4 rfl (Rd.segK1 pkk (by decide) (by rfl))) ?_;refine yv y_mv ?_;apply Hd.andg 6 19 25 [(1,_),(2,_),(6,_)] rfl sbq
 ·intro hg2_19
  try simp only [hyZ] at hg2_19
  simp only [List.take];refine y2 y_mv<|y2 y_np<|y2 (y_f 6 29 Tryz.underlying118 sz29)<|y2 (y_load1 ag29 rfl (Rd.segK1 pkk (by decide) (by rfl))) ?_;refine y2 (y_neq rfl rfl) ?_;refine yv (y_pickT rfl rfl) ?_;exact Hd.mn
 ·intro hg2_19
  try simp only [hyZ] at hg2_19
  simp only [List.take];refine n1<|n1<|n1<|n1<|n1<|yv (y_pickF rfl rfl) ?_;exact Hd.mn
 simp only [List.drop];refine yv y_mv ?_;apply Hd.andg (q:=(decide ((k:Int)=0) || decide ((s.c.length:Int) > 0))) 10 26 36 [(2,_),(6,_)] rfl sbq
 ·intro hg2_26
  try simp only [hyZ] at hg2_26
  simp only [List.take];refine y2 y_mv<|y2 (y_eql rfl rfl) ?_;refine y2 y_mv ?_;apply Hd.org 6 29 35 [(2,_),(6,_),(26,_)] rfl sbq
  ·intro hg2_29
   try simp only [hyZ] at hg2_29
   simp only [List.take];refine n1<|n1<|n1<|n1<|n1<|y2 (y_pickT rfl rfl) ?_;exact Hd.mn
  ·intro hg2_29
   try simp only [hyZ] at hg2_29
   simp only [List.take];refine y2 y_mv<|y2 y_np<|y2 (y_f 0 116 Tryz.underlying118 sz116)<|Hd.unguard rfl rfl ?_;refine callE rfl fk78 (chLen _ b (2 + k * 8 + 0) s.c) sq ?_;intro _;refine y2 (y_gtr rfl rfl) ?_;refine y2 (y_pickF rfl rfl) ?_;exact Hd.mn
  simp only [List.drop];refine yv (y_pickT rfl rfl) ?_;exact Hd.mn
 ·intro hg2_26
  try simp only [hyZ] at hg2_26
  simp only [List.take];refine n1<|n1<|n1<|n1<|n1<|n1<|n1<|n1<|n1<|yv (y_pickF rfl rfl) ?_;exact Hd.mn
 simp only [List.drop];refine fk [(2,_),(6,_),(36,_)] K3 ?_;refine qz ?_ ?_<;>intro hc0<;>try simp only [hyZ] at hc0
 ·refine Hd.region ?_
  refine yv y_mv<|yv y_mv<|yv y_mv<|yv y_np<|yv (y_f 6 29 Tryz.underlying118 sz29)<|yv (y_load1 ag29 rfl (Rd.segK1 pkk (by decide) (by rfl))) ?_;refine callE rfl fk153 (dl_ct _ now s.after hn ha) sq ?_;intro _;refine yv y_np<|yv (y_f 7 29 Tryz.underlying118 sz29)<|Hd.storeK1 sz29 rfl rfl rfl pkk (by decide) (by simp;done) ?_
  try simp only [hyS]
  refine Hd.nil<|slots [] sbq ?_
  have hv:atV s k now=dl now s.after:=by unfold atV;rw [if_pos (by simpa [Bool.and_eq_true,Bool.or_eq_true] using hc0)]
  exact Hd.end0 rfl () rfl (Ent.sep (.pick pkk (.eq pkk (segK_eq (show [Value.bool s.on,.bool s.ended,.int .i64 s.low,.int .i64 s.high,.int .u64 s.after,.int .u64 (dl now s.after)]=encS (setA k now s) by rw [←hv])) enn)))
 refine Hd.skip ?_
 have hv:atV s k now=NV:=by
  unfold atV;rw [if_neg];intro h;simp only [Bool.and_eq_true,Bool.or_eq_true,decide_eq_true_eq] at h
  obtain ⟨⟨h1,h2⟩,h3⟩:=h
  rcases hc0 with (h | h) | h
  ·rw [h1] at h;cases h
  ·exact h2 h
  ·omega
 exact Hd.end0 rfl () rfl (Ent.sep (.pick pkk (.eq pkk (segK_eq (show [Value.bool s.on,.bool s.ended,.int .i64 s.low,.int .i64 s.high,.int .u64 s.after,.int .u64 18446744073709551615]=encS (setA k now s) by show _=[Value.bool s.on,.bool s.ended,.int .i64 s.low,.int .i64 s.high,.int .u64 s.after,Value.int .u64 (atV s k now)];rw [hv])) enn)))
def s0 (on:Bool):SdA:=⟨[],on,false,0,0,0,NV⟩
def newB (fd:Int):BfA:=⟨fun k=>s0 (decide (k=1)),fd⟩
theorem mkSd_sep {b o:Nat} {on:Bool} {vs:List Value} {L:List SP} {k:PH} (s:sep (seg b o ([.slice none 0 0,.int .i64 0]++(encS (s0 on)++vs))::L) k) :
  sep (ChB b (o + 0) []::segK b o 2 (encS (s0 on))::seg b (o + 8) vs::L) k:=by
 have s2:sep (seg b o [.slice none 0 0,.int .i64 0]::seg b (o + 2) (encS (s0 on)++vs)::L) k:=seg_split s
 have s3:sep (seg b o [.slice none 0 0,.int .i64 0]::seg b (o + 2) (encS (s0 on))::seg b (o + 8) vs::L) k:=Ent.imp' .here (fun _ x=>x) (fun _ s=>seg_split (us:=encS (s0 on)) s) s2
 have s5:=Bc.rows_nil s3
 exact Ent.sep (.ex [] (.pure ⟨⟨fun r h=>(by cases h),by decide⟩,rfl⟩ (.ex (none,0) (.pick (.there .here) (.ownNil (.pick .here (.eq .here rfl .same))))))) k s5
theorem Hd.mkBuf {E:World} {n:Nat} {ds:List Deferred} {st:List (Nat×Value)} {L L':List SP} {K:Act→World→Prop} {b wb:Nat} {fd:Int}
  (p:Pick L (pt b ([.pointer (some ⟨wb,0,none⟩),.int .i64 fd]++([.slice none 0 0,.int .i64 0]++(encS (s0 false)++([.slice none 0 0,.int .i64 0]++(encS (s0 true)++[]))))) 121) L') (h:Hd E n ds st (BufP b wb (newB fd)::L') K):Hd E n ds st L K:=by
 refine Hd.heap _ (fun k s=>?_) h
 have s1:sep (seg b 0 [.pointer (some ⟨wb,0,none⟩),.int .i64 fd]::seg b 2 ([.slice none 0 0,.int .i64 0]++(encS (s0 false)++([.slice none 0 0,.int .i64 0]++(encS (s0 true)++[]))))::kd b 18 121::L') k:=seg_split (pt_open (p.sep s))
 have s2:sep (seg b 0 [.pointer (some ⟨wb,0,none⟩),.int .i64 fd]::ChB b (2 + 0) []::segK b 2 2 (encS (s0 false))::seg b (2 + 8) ([.slice none 0 0,.int .i64 0]++(encS (s0 true)++[]))::kd b 18 121::L') k:=Ent.imp' .here (fun _ x=>x) (fun _ s=>mkSd_sep s) s1
 have s3:sep (seg b 0 [.pointer (some ⟨wb,0,none⟩),.int .i64 fd]::ChB b (2 + 0) []::segK b 2 2 (encS (s0 false))::ChB b (10 + 0) []::segK b 10 2 (encS (s0 true))::seg b (10 + 8) []::kd b 18 121::L') k :=
  Ent.imp' .here (fun _ x=>x) (fun _ s=>Ent.imp' .here (fun _ x=>x) (fun _ s=>Ent.imp' .here (fun _ x=>x) (fun _ s=>mkSd_sep s) s) s) s2
 exact Ent.sep (.ex () (.pick (.there (.there (.there (.there (.there (.there .here)))))) (.pick .here (.eq .here rfl (.eq .here rfl (.eq .here rfl (.eq .here rfl (.skip .same)))))))) k s3
theorem bnew_ct (L:List SP) (wb:Nat) (w:WA) (fd:Int) (h:(readyR w fd).op=true):Ct Tryz.prog 9 #[.pointer (some ⟨wb,0,none⟩),.int .i64 fd] (WorldP wb w::L) (fun b:Nat=>.tuple #[.pointer (some ⟨b,0,none⟩),.int .i64 0]) (fun b:Nat=>BufP b wb (newB fd)::WorldP wb w::L):=by
 refine Ct.o2 Tryz.func9 ?_;intro E
 show Hd E 36 _ _ _ _
 refine sr fun _ K1=>?_
 refine yv y_as<|yv y_as<|fk [(0,_),(1,_)] K1 ?_;refine Hd.seq fun _ K2=>?_
 refine Hd.block<|sr fun _ K3=>?_
 refine yv y_mv<|yv (y_eql_pointer Tryz.underlying37 rfl rfl) ?_;refine yv y_as<|fk [(0,_),(1,_),(7,_)] K3 ?_;refine Hd.condF rfl ?_;refine sr fun _ K4=>?_
 refine yv y_mv<|yv y_mv<|callE rfl fk62 (wready_ct _ wb w fd) sq ?_;intro _;refine yv (y_to (v':=.bool true) (y_fieldv1 (q:=0) (ft:=4) (cs:=encR (readyR w fd)) Tryz.underlying112 rfl ag4 rfl rfl) (by rw [h])) ?_;refine yv (y_not rfl)<|yv y_as<|fk [(0,_),(1,_),(10,_)] K4 ?_;refine Hd.condF rfl ?_;refine Hd.skip<|Hd.inB<|Hd.toK K2 ?_;refine sr fun _ K5=>?_
 refine yv y_mv<|yv y_mv<|yv (y_build (vs:=[(0,_),(1,_)]) rfl (by exact bd9_18 ..)) ?_;refine Hd.box rfl rfl (fun b19=>?_);refine yv y_as<|fk [(6,_)] K5 ?_;refine Hd.seq fun _ K6=>?_
 refine Hd.drawsH ([]) (fun j=>!(([1000]:List Nat).contains j)) mixed ?_;simp only [List.length,Nat.zero_add,Nat.reduceAdd];refine tH 0 rfl y_mv<|tH 1 rfl y_mv<|tH 2 rfl y_np<|tH 3 rfl (y_f 2 119 Tryz.underlying121 sz119)<|tH 4 rfl (y_idxA Tryz.underlying119 sz118 rfl rfl (by decide)) ?_;refine tH 5 rfl (y_f 7 29 Tryz.underlying118 sz29)<|tH 7 rfl y_np<|tH 8 rfl (y_f 2 119 Tryz.underlying121 sz119)<|qo 6 ?_;refine Hd.store1 sz29 rfl rfl rfl pkk (by simp;done) ?_
 try simp only [hyS]
 refine qk<|tH 9 rfl (y_idxA Tryz.underlying119 sz118 rfl rfl (by decide)) ?_;refine tH 10 rfl (y_f 7 29 Tryz.underlying118 sz29)<|qo 11 ?_;refine Hd.store1 sz29 rfl rfl rfl pkk (by simp;done) ?_
 try simp only [hyS]
 refine qk<|endH kq ?_;refine sk [(6,_)] K6 ?_;refine sr fun _ K7=>?_
 refine yv y_mv<|yv y_np<|yv (y_f 2 119 Tryz.underlying121 sz119)<|yv (y_idxA Tryz.underlying119 sz118 rfl rfl (by decide)) ?_;refine yv (y_f 2 4 Tryz.underlying118 sz4)<|Hd.store1 sz4 rfl rfl rfl pkk (by simp;done) ?_
 try simp only [hyS]
 refine fk [(6,_)] K7 ?_;refine sr fun _ K8=>?_
 refine yv y_mv<|yv y_as<|yv y_as<|fk [(4,_),(5,_)] K8 ?_;refine Hd.ret<|Hd.mkBuf (b:=b19) (wb:=wb) (fd:=fd) (by exact Pick.here) ?_;exact Hd.ret2 rfl b19 rfl rfl rfl sq
end Bu
end Go.Proofs.YtmpemhbfgbochaaGreatDoor
