/-
  The document's world: at, rise, shut, close, outer.
-/
import Derived.Test.YtmpemhbfgbochaaGreatDoorZBufevPlaysF
set_option linter.unusedSimpArgs false
set_option linter.unusedVariables false
set_option linter.unnecessarySimpa false
set_option maxRecDepth 8000
set_option maxHeartbeats 2000000
open Go.RX.Hd (yv y2 n1 fk sk sr tH callE heldK qo qk qn qt qz qv endH thenN slots)
namespace Go.Proofs.YtmpemhbfgbochaaGreatDoor
open Go.RX Fx
namespace Rf
open Wo
theorem rw_head {b n:Nat} {w:WA} {i:Rows_} {x x':WireA} {j:RwI} {L:List SP} (hi:i.1.map Prod.fst=w.ws) (hn:i.1[n]?=some (x,j)) (hb:∀ k,k < 2→(x'.e k).b=(x.e k).b) (hw:x'.wt=x.wt) :
  ∀ h,sep (RwH b w i.1.length i.2.1 i.2.2::own 204 20 i.2.1 i.1.length i.2.2 ((i.1.set n (x',j)).flatMap encRW)::Bag Sd i.1::L) h→sep (RwP b (w.setW n x')::L) h:=fun h s=>by
 have e1:Bag Sd i.1=Bag Sd (i.1.set n (x',j)):=(bag_set hn (sd_same (p:=(x,j)) (p':=(x',j)) hb hw rfl)).symm
 have hl:(i.1.set n (x',j)).length=i.1.length:=List.length_set ..
 refine rw_fold (i:=(i.1.set n (x',j),i.2)) (by show (i.1.set n (x',j)).map Prod.fst=w.ws.set n x';rw [List.map_set,hi]) h (Ent.sep ?_ h s);exact .eq pkk (pt_eq (by show _=RwC (w.setW n x') (i.1.set n (x',j)).length i.2.1 i.2.2;rw [hl];rfl)) (.eq pkk (own_eq3 hl.symm rfl rfl) (.eq pkk e1 enn))
theorem rw_put {b n:Nat} {w:WA} {i:Rows_} {x':WireA} {j':RwI} {L:List SP} (hi:i.1.map Prod.fst=w.ws) (hn:n < i.1.length) :
  ∀ h,sep (Sd (x',j')::RwH b w i.1.length i.2.1 i.2.2::own 204 20 i.2.1 i.1.length i.2.2 ((i.1.set n (x',j')).flatMap encRW)::Bag Sd (i.1.take n)::Bag Sd (i.1.drop (n + 1))::L) h→sep (RwP b (w.setW n x')::L) h:=fun h s=>by
 have hl:(i.1.set n (x',j')).length=i.1.length:=List.length_set ..
 have h1:sep (Sd (x',j')::Bag Sd (i.1.take n)::Bag Sd (i.1.drop (n + 1))::RwH b w i.1.length i.2.1 i.2.2::own 204 20 i.2.1 i.1.length i.2.2 ((i.1.set n (x',j')).flatMap encRW)::L) h:=Ent.sep enn h s
 have h2:=bag_in hn h1
 refine rw_fold (i:=(i.1.set n (x',j'),i.2)) (by show (i.1.set n (x',j')).map Prod.fst=w.ws.set n x';rw [List.map_set,hi]) h (Ent.sep ?_ h h2);exact .eq pkk (pt_eq (by show _=RwC (w.setW n x') (i.1.set n (x',j')).length i.2.1 i.2.2;rw [hl];rfl)) (.eq pkk (own_eq3 hl.symm rfl rfl) enn)
def atN:Option (Nat×Nat)→Int
 | none=>-1
 | some p=>(p.1:Int)
def atK:Option (Nat×Nat)→Int
 | none=>-1
 | some p=>(p.2:Int)
theorem rat_ct (L:List SP) (b:Nat) (w:WA) (hw:WOk w) (fd:Int):Ct Tryz.prog 117 #[.pointer (some ⟨b,0,none⟩),.int .i64 fd] (RwP b w::L) (fun _:Unit=>.tuple #[.int .i64 (atN (w.at fd)),.int .i64 (atK (w.at fd))]) (fun _:Unit=>RwP b w::L):=by
 refine Ct.o2 Tryz.func117 ?_;intro E
 show Hd E 50 _ _ _ _
 refine Hd.rw .here (fun i hi=>?_)
 have hrl:=rows_n hi
 have hwl:=hw.len
 refine sr fun _ K1=>?_
 refine yv y_as<|yv y_as<|fk [(0,_),(1,_)] K1 ?_;refine Hd.seq fun _ K2=>?_
 refine sr fun _ K3=>?_
 refine yv y_as<|fk [(0,_),(1,_),(6,_)] K3 ?_;refine Hd.block<|Hd.loopK (ι:=Nat) [(0,_),(1,_)] (fun n=>[(6,.int .i64 (n:Int))]) (fun n=>pu (n≤w.ws.length∧∀ m y,m < n→w.ws[m]?=some y→atE y fd=none)::RwL b w i L) (fun n=>w.ws.length - n) 0 sbq sbq (Ent.sep (.pure ⟨Nat.zero_le _,fun _ _ h=>absurd h (Nat.not_lt_zero _)⟩ enn)) ?_;intro n
 try dsimp only
 refine Hd.pure (fun hp0=>?_)
 try dsimp only at hp0
 refine Hd.seq fun _ K4=>?_
 refine sr fun _ K5=>?_
 refine yv y_mv<|yv y_mv<|yv y_np<|yv (y_f 0 98 Tryz.underlying102 sz98)<|yv (y_l1 ag98 rfl)<|yv (y_len Tryz.underlying98 rfl) ?_;refine yv (y_lss rfl rfl) ?_;refine fk [(0,_),(1,_),(6,_),(14,_)] K5 ?_;refine qz ?_ ?_<;>intro hc0<;>try simp only [hyZ] at hc0
 ·have hn:n < w.ws.length:=by omega
  obtain ⟨x,hx⟩:∃ x,w.ws[n]?=some x:=⟨_,List.getElem?_eq_getElem hn⟩
  obtain ⟨j,hrow⟩:=row_at hi hx
  refine qv K4<|Hd.seq fun _ K6=>?_
  refine Hd.block<|sr fun _ K7=>?_
  refine yv y_as<|fk [(0,_),(1,_),(6,_),(7,_)] K7 ?_;refine Hd.block<|Hd.loopK (ι:=Nat) [(0,_),(1,_),(6,_)] (fun k=>[(7,.int .i64 (k:Int))]) (fun k=>pu (k≤2∧∀ q,q < k→¬ ((x.e q).what=1∧(x.e q).fd=fd))::RwL b w i L) (fun k=>2 - k) 0 sbq sbq (Ent.sep (.pure ⟨Nat.zero_le _,fun _ h=>absurd h (Nat.not_lt_zero _)⟩ enn)) ?_;intro k
  try dsimp only
  refine Hd.pure (fun hp1=>?_)
  try dsimp only at hp1
  refine Hd.seq fun _ K8=>?_
  refine sr fun _ K9=>?_
  refine yv y_mv<|yv (y_lss rfl rfl) ?_;refine fk [(0,_),(1,_),(6,_),(7,_),(18,_)] K9 ?_;refine qz ?_ ?_<;>intro hc1<;>try simp only [hyZ] at hc1
  ·have hk:k < 2:=by omega
   refine qv K8<|Hd.seq fun _ K10=>?_
   refine Hd.block<|sr fun _ K11=>?_
   refine yv y_mv<|yv y_np<|yv (y_f 0 98 Tryz.underlying102 sz98)<|yv (y_l1 ag98 rfl)<|yv y_mv<|yv y_mv<|yv (y_idxR Tryz.underlying98 sz204 rfl rfl (by omega) (by exact RdS.own pkk)) ?_;refine yv (y_fR 0 202 Tryz.underlying204 sz202) ?_;refine yv (y_idxAR Tryz.underlying202 sz201 rfl rfl (by omega)) ?_;refine yv (y_fR 0 3 Tryz.underlying201 sz3) ?_;refine yv (y_rc ag3 rfl hrow hk 0 rfl) ?_;refine yv (y_eql rfl rfl) ?_;refine yv y_mv ?_;apply Hd.andg 14 33 47 [(0,_),(1,_),(6,_),(7,_)] rfl sbq
   ·intro hg7_33
    try simp only [hyZ] at hg7_33
    simp only [List.take];refine y2 y_mv<|y2 y_np<|y2 (y_f 0 98 Tryz.underlying102 sz98)<|y2 (y_l1 ag98 rfl)<|y2 y_mv<|y2 y_mv<|y2 (y_idxR Tryz.underlying98 sz204 rfl rfl (by omega) (by exact RdS.own pkk)) ?_;refine y2 (y_fR 0 202 Tryz.underlying204 sz202) ?_;refine y2 (y_idxAR Tryz.underlying202 sz201 rfl rfl (by omega)) ?_;refine y2 (y_fR 1 3 Tryz.underlying201 sz3) ?_;refine y2 (y_rc ag3 rfl hrow hk 1 rfl) ?_;refine y2 y_mv<|y2 (y_eql rfl rfl) ?_;refine yv (y_pickT rfl rfl) ?_;exact Hd.mn
   ·intro hg7_33
    try simp only [hyZ] at hg7_33
    simp only [List.take];refine n1<|n1<|n1<|n1<|n1<|n1<|n1<|n1<|n1<|n1<|n1<|n1<|n1<|yv (y_pickF rfl rfl) ?_;exact Hd.mn
   simp only [List.drop];refine fk [(0,_),(1,_),(6,_),(7,_),(47,_)] K11 ?_;refine qz ?_ ?_<;>intro hc2<;>try simp only [hyZ] at hc2
   ·refine sr fun _ K12=>?_
    refine yv y_mv<|yv y_mv<|yv y_as<|yv y_as<|fk [(4,_),(5,_)] K12 ?_;refine Hd.ret<|Hd.inBret<|Hd.thenRet<|Hd.thenRet<|Hd.inBret<|Hd.inBret<|Hd.thenRet<|Hd.thenRet<|Hd.inBret<|Hd.thenRet ?_
    have e:w.at fd=some (n,k):=(atW_iff hw.uq).2 ⟨hk,x,hx,hc2⟩
    rw [e];exact Hd.ret2 rfl () rfl rfl rfl (rw_fold hi)
   refine Hd.skip<|Hd.inB<|Hd.toK K10 ?_;refine Hd.region<|yv y_mv<|yv (y_addn rfl rfl (by simp only [InK];omega)) ?_;refine yv y_as<|Hd.nil<|slots [(0,_),(1,_),(6,_),(7,_)] sbq ?_;refine thenN ?_
   have hne:∀ q,q < k + 1→¬ ((x.e q).what=1∧(x.e q).fd=fd):=by
    intro q hq
    rcases (show q < k∨q=k by omega) with h | rfl
    ·exact hp1.2 q h
    ·rintro ⟨h1,h2⟩
     rcases hc2 with h | h
     ·exact h h1
     ·exact h h2
   exact Hd.again (k + 1) (by omega) sbq (Ent.sep (.pure ⟨hk,hne⟩ enn))
  have hk2:k=2:=by omega
  refine Hd.exit<|Hd.thenExit<|Hd.thenExit<|Hd.inBexit<|Hd.inB<|Hd.toK K6 ?_;refine Hd.region<|yv y_mv<|yv (y_addn rfl rfl (by simp only [InK];omega)) ?_;refine yv y_as<|Hd.nil<|slots [(0,_),(1,_),(6,_)] sbq ?_;refine thenN ?_
  have hne:∀ m y,m < n + 1→w.ws[m]?=some y→atE y fd=none:=by
   intro m y hm hy
   rcases (show m < n∨m=n by omega) with h | rfl
   ·exact hp0.2 m y h hy
   ·rw [hx] at hy;obtain rfl:=Option.some.inj hy
    exact atE_no fun q hq=>hp1.2 q (by omega)
  exact Hd.again (n + 1) (by omega) sbq (Ent.sep (.pure ⟨hn,hne⟩ enn))
 refine Hd.exit<|Hd.thenExit<|Hd.thenExit<|Hd.inBexit<|Hd.toK K2 ?_;refine sr fun _ K13=>?_
 refine yv y_as<|yv y_as<|fk [(4,_),(5,_)] K13 ?_;refine Hd.ret ?_
 have e:w.at fd=none:=atW_none.2 fun y hy=>by
  obtain ⟨m,hm,e⟩:=List.getElem_of_mem hy
  exact hp0.2 m y (by omega) (by rw [List.getElem?_eq_getElem hm,e])
 rw [e];exact Hd.ret2 rfl () rfl rfl rfl (rw_fold hi)
theorem rset_inn {rs:List Row} {n k o:Nat} {x:WireA} {j:RwI} {v:Int} (h:rs[n]?=some (x,j)) (hk:k < 2) (ho:o=n * 20 + k * 8 + 6):(rs.flatMap encRW).set o (.int .u64 v)=(rs.set n (x.up k fun e=>{ e with inn:=v },j)).flatMap encRW :=
 rset h hk (j:=6) (by decide) ho (by rw [up_at];rfl) (by rw [up_ne _ _ (by omega)]) rfl
theorem rset_out {rs:List Row} {n k o:Nat} {x:WireA} {j:RwI} {v:Int} (h:rs[n]?=some (x,j)) (hk:k < 2) (ho:o=n * 20 + k * 8 + 7):(rs.flatMap encRW).set o (.int .u64 v)=(rs.set n (x.up k fun e=>{ e with out:=v },j)).flatMap encRW :=
 rset h hk (j:=7) (by decide) ho (by rw [up_at];rfl) (by rw [up_ne _ _ (by omega)]) rfl
theorem rset_shut {rs:List Row} {n k o:Nat} {x:WireA} {j:RwI} {v:Bool} (h:rs[n]?=some (x,j)) (hk:k < 2) (ho:o=n * 20 + k * 8 + 5):(rs.flatMap encRW).set o (.bool v)=(rs.set n (x.up k fun e=>{ e with shut:=v },j)).flatMap encRW :=
 rset h hk (j:=5) (by decide) ho (by rw [up_at];rfl) (by rw [up_ne _ _ (by omega)]) rfl
theorem rset_what {rs:List Row} {n k o:Nat} {x:WireA} {j:RwI} {v:Int} (h:rs[n]?=some (x,j)) (hk:k < 2) (ho:o=n * 20 + k * 8 + 0):(rs.flatMap encRW).set o (.int .i64 v)=(rs.set n (x.up k fun e=>{ e with what:=v },j)).flatMap encRW :=
 rset h hk (j:=0) (by decide) ho (by rw [up_at];rfl) (by rw [up_ne _ _ (by omega)]) rfl
theorem row_set {rs:List Row} {n:Nat} {p q:Row} (h:rs[n]?=some p):(rs.set n q)[n]?=some q:=by
 rw [List.getElem?_set_self (List.getElem?_eq_some_iff.1 h).1]
theorem up_b (x:WireA) (k:Nat) {f:EndA→EndA} (hf:∀ e,(f e).b=e.b) (j:Nat):((x.up k f).e j).b=(x.e j).b:=by
 by_cases e:j=k
 ·subst e;rw [up_at];exact hf _
 ·rw [up_ne _ _ e]
abbrev OwS (i:Rows_) (rs:List Row):SP:=own 204 20 i.2.1 i.1.length i.2.2 (rs.flatMap encRW)
theorem rrise_ct (L:List SP) (b:Nat) (w:WA) (n:Nat) (x:WireA) (hx:w.ws[n]?=some x) (k:Nat) (hk:k < 2) (vi vo:Bool):Ct Tryz.prog 199 #[.pointer (some ⟨b,0,none⟩),.int .i64 (n:Int),.int .i64 (k:Int),.bool vi,.bool vo] (RwP b w::L) (fun _:Unit=>.tuple #[]) (fun _:Unit=>RwP b (w.setW n (x.up k (riseE vi vo)))::L):=by
 refine Ct.o5 Tryz.func199 ?_;intro E
 show Hd E 70 _ _ _ _
 refine Hd.rw .here (fun i hi=>?_)
 have hrl:=rows_n hi
 obtain ⟨j,hrow⟩:=row_at hi hx
 have hn:n < i.1.length:=(List.getElem?_eq_some_iff.1 hrow).1
 have hrow2:(i.1.set n (x.up k (riseE vi false),j))[n]?=some (x.up k (riseE vi false),j):=row_set hrow
 refine Hd.cutK (ι:=Unit) [(0,_),(1,_),(2,_),(4,_)] (fun _=>[]) (fun _=>RwH b w i.1.length i.2.1 i.2.2::OwS i (i.1.set n (x.up k (riseE vi false),j))::Bag Sd i.1::L) ?_ ?_ ⟨rfl,rfl,rfl,rfl,trivial⟩
 ·refine sr fun _ K1=>?_
  refine yv y_mv<|yv y_mv ?_;apply Hd.andg 12 11 23 [(0,_),(1,_),(2,_),(4,_)] rfl sbq
  ·intro hg0_11
   try simp only [hyZ] at hg0_11
   simp only [List.take];refine y2 y_mv<|y2 y_np<|y2 (y_f 0 98 Tryz.underlying102 sz98)<|y2 (y_l1 ag98 rfl)<|y2 y_mv<|y2 y_mv<|y2 (y_idxR Tryz.underlying98 sz204 rfl rfl (by omega) (by exact RdS.own pkk)) ?_;refine y2 (y_fR 0 202 Tryz.underlying204 sz202) ?_;refine y2 (y_idxAR Tryz.underlying202 sz201 rfl rfl (by omega)) ?_;refine y2 (y_fR 2 4 Tryz.underlying201 sz4) ?_;refine y2 (y_rc ag4 rfl hrow hk 2 rfl) ?_;refine yv (y_pickT rfl rfl) ?_;exact Hd.mn
  ·intro hg0_11
   try simp only [hyZ] at hg0_11
   simp only [List.take];refine n1<|n1<|n1<|n1<|n1<|n1<|n1<|n1<|n1<|n1<|n1<|yv (y_pickF rfl rfl) ?_;exact Hd.mn
  simp only [List.drop];refine fk [(0,_),(1,_),(2,_),(4,_),(23,_)] K1 ?_;refine qz ?_ ?_<;>intro hc0<;>try simp only [hyZ] at hc0
  ·have h2:x.up k (fun e=>{ e with inn:=IntKind.u64.wrap ((x.e k).inn + 1) })=x.up k (riseE vi false):=up_eq (by simp [riseE,hc0.1,hc0.2])
   refine Hd.drawsH ([RwH b w i.1.length i.2.1 i.2.2,OwR i]) (fun j=>!([16].contains j)) mixed ?_;simp only [List.length,Nat.zero_add,Nat.reduceAdd];refine tH 0 rfl y_mv<|tH 1 rfl y_np<|tH 2 rfl (y_f 0 98 Tryz.underlying102 sz98)<|tH 3 rfl (y_l1 ag98 rfl)<|tH 4 rfl y_mv<|tH 5 rfl y_mv<|tH 6 rfl (y_idxR Tryz.underlying98 sz204 rfl rfl (by omega) (by exact RdS.own pkk)) ?_;refine tH 7 rfl (y_fR 0 202 Tryz.underlying204 sz202) ?_;refine tH 8 rfl (y_idxAR Tryz.underlying202 sz201 rfl rfl (by omega)) ?_;refine tH 9 rfl (y_fR 6 29 Tryz.underlying201 sz29) ?_;refine tH 10 rfl (y_rc ag29 rfl hrow hk 6 rfl) ?_;refine tH 11 rfl (y_add rfl rfl) ?_;refine qo 12 ?_;refine yv (y_idxR Tryz.underlying98 sz204 rfl rfl (by omega) (by exact RdS.own pkk)) ?_;refine qk<|qo 13 ?_;refine yv (y_fR 0 202 Tryz.underlying204 sz202) ?_
   refine qk<|qo 14 ?_;refine yv (y_idxAR Tryz.underlying202 sz201 rfl rfl (by omega)) ?_;refine qk<|tH 15 rfl (y_fR 6 29 Tryz.underlying201 sz29) ?_;refine qo 16 ?_;refine Hd.storeO1 sz29 rfl rfl rfl pkk (by rw [rows_len encRW_len];omega) ?_
   try simp only [hyS]
   refine qn<|endH kq ?_;rw [rset_inn hrow hk (by omega)];refine slots [(0,_),(1,_),(2,_),(4,_)] sbq ?_;refine thenN ?_;exact Hd.meet () sbq (Ent.sep (.pick pkk (.eq pkk (own_eq3 rfl rfl (by rw [h2])) enn)))
  have h2:x.up k (riseE vi false)=x:=up_id (by
   have h:(vi && (x.e k).rd)=false:=by rcases hc0 with h | h<;>simp [h]
   unfold riseE;rw [if_neg (by rw [h];simp),if_neg (by simp)])
  have h3:i.1.set n (x,j)=i.1:=by
   obtain ⟨hl,e⟩:=List.getElem?_eq_some_iff.1 hrow
   rw [←e,List.set_getElem_self]
  refine Hd.skip<|thenN ?_;exact Hd.meet () sbq (Ent.sep (.pick pkk (.eq pkk (own_eq3 rfl rfl (by rw [h2,h3])) enn)))
 intro _;refine sr fun _ K2=>?_
 refine yv y_mv<|yv y_mv ?_;apply Hd.andg 12 41 53 [(0,_),(1,_),(2,_)] rfl sbq
 ·intro hg2_41
  try simp only [hyZ] at hg2_41
  simp only [List.take];refine y2 y_mv<|y2 y_np<|y2 (y_f 0 98 Tryz.underlying102 sz98)<|y2 (y_l1 ag98 rfl)<|y2 y_mv<|y2 y_mv<|y2 (y_idxR Tryz.underlying98 sz204 rfl rfl (by omega) (by exact RdS.own pkk)) ?_;refine y2 (y_fR 0 202 Tryz.underlying204 sz202) ?_;refine y2 (y_idxAR Tryz.underlying202 sz201 rfl rfl (by omega)) ?_;refine y2 (y_fR 3 4 Tryz.underlying201 sz4) ?_;refine y2 (y_to (v':=.bool (x.e k).wr) (y_rc ag4 rfl hrow2 hk 3 rfl) (by (rw [up_at];rfl))) ?_;refine yv (y_pickT rfl rfl) ?_;exact Hd.mn
 ·intro hg2_41
  try simp only [hyZ] at hg2_41
  simp only [List.take];refine n1<|n1<|n1<|n1<|n1<|n1<|n1<|n1<|n1<|n1<|n1<|yv (y_pickF rfl rfl) ?_;exact Hd.mn
 simp only [List.drop];refine fk [(0,_),(1,_),(2,_),(53,_)] K2 ?_;refine qz ?_ ?_<;>intro hc1<;>try simp only [hyZ] at hc1
 ·refine Hd.drawsH ([RwH b w i.1.length i.2.1 i.2.2,OwS i (i.1.set n (x.up k (riseE vi false),j))]) (fun j=>!([16].contains j)) mixed ?_
  simp only [List.length,Nat.zero_add,Nat.reduceAdd];refine tH 0 rfl y_mv<|tH 1 rfl y_np<|tH 2 rfl (y_f 0 98 Tryz.underlying102 sz98)<|tH 3 rfl (y_l1 ag98 rfl)<|tH 4 rfl y_mv<|tH 5 rfl y_mv<|tH 6 rfl (y_idxR Tryz.underlying98 sz204 rfl rfl (by omega) (by exact RdS.own pkk)) ?_;refine tH 7 rfl (y_fR 0 202 Tryz.underlying204 sz202) ?_;refine tH 8 rfl (y_idxAR Tryz.underlying202 sz201 rfl rfl (by omega)) ?_;refine tH 9 rfl (y_fR 7 29 Tryz.underlying201 sz29) ?_;refine tH 10 rfl (y_to (v':=.int .u64 (x.e k).out) (y_rc ag29 rfl hrow2 hk 7 rfl) (by (rw [up_at];simp [riseE]))) ?_;refine tH 11 rfl (y_add rfl rfl) ?_;refine qo 12 ?_;refine yv (y_idxR Tryz.underlying98 sz204 rfl rfl (by omega) (by exact RdS.own pkk)) ?_;refine qk<|qo 13 ?_;refine yv (y_fR 0 202 Tryz.underlying204 sz202) ?_;refine qk<|qo 14 ?_
  refine yv (y_idxAR Tryz.underlying202 sz201 rfl rfl (by omega)) ?_;refine qk<|tH 15 rfl (y_fR 7 29 Tryz.underlying201 sz29) ?_;refine qo 16 ?_;refine Hd.storeO1 sz29 rfl rfl rfl pkk (by rw [rows_len encRW_len,List.length_set];omega) ?_
  try simp only [hyS]
  refine qn<|endH kq ?_;rw [rset_out hrow2 hk (by omega),List.set_set,up_up];refine slots [] sbq ?_
  have h2:(x.up k fun e=>{ riseE vi false e with out:=IntKind.u64.wrap ((x.e k).out + 1) })=x.up k (riseE vi vo):=up_eq (by simp [riseE,hc1.1,hc1.2])
  rw [h2];exact Hd.end0 rfl () rfl (fun q s=>rw_head (x':=x.up k (riseE vi vo)) hi hrow (fun j _=>up_b x k (f:=riseE vi vo) (fun _=>rfl) j) rfl q (Ent.sep enn q s))
 refine Hd.skip ?_
 have h2:x.up k (riseE vi false)=x.up k (riseE vi vo):=up_eq (by
  have h:(vo && (x.e k).wr)=false:=by rcases hc1 with h | h<;>simp [h]
  unfold riseE;congr 1;rw [if_neg (by simp),if_neg (by rw [h];simp)])
 rw [h2];exact Hd.end0 rfl () rfl (fun q s=>rw_head (x':=x.up k (riseE vi vo)) hi hrow (fun j _=>up_b x k (f:=riseE vi vo) (fun _=>rfl) j) rfl q (Ent.sep enn q s))
theorem setW_setW {w:WA} {n:Nat} {x y:WireA}:(w.setW n x).setW n y=w.setW n y:=by
 show ({ w with ws:=_ }:WA)={ w with ws:=_ }
 congr 1
 show (w.ws.set n x).set n y=_
 rw [List.set_set]
theorem rshut_ct (L:List SP) (b:Nat) (w:WA) (n:Nat) (x:WireA) (hx:w.ws[n]?=some x) (k:Nat) (hk:k < 2):Ct Tryz.prog 123 #[.pointer (some ⟨b,0,none⟩),.int .i64 (n:Int),.int .i64 (k:Int)] (RwP b w::L) (fun _:Unit=>.tuple #[]) (fun _:Unit=>RwP b (w.setW n (shutW x k))::L):=by
 refine Ct.o3 Tryz.func123 ?_;intro E
 show Hd E 33 _ _ _ _
 refine Hd.rw .here (fun i hi=>?_)
 have hrl:=rows_n hi
 obtain ⟨j,hrow⟩:=row_at hi hx
 have hn:n < i.1.length:=(List.getElem?_eq_some_iff.1 hrow).1
 have hk1:1 - k < 2:=by omega
 refine sr fun _ K1=>?_
 refine yv y_mv<|yv y_np<|yv (y_f 0 98 Tryz.underlying102 sz98)<|yv (y_l1 ag98 rfl)<|yv y_mv<|yv y_mv<|yv (y_idxR Tryz.underlying98 sz204 rfl rfl (by omega) (by exact RdS.own pkk)) ?_;refine yv (y_fR 0 202 Tryz.underlying204 sz202) ?_;refine yv (y_idxAR Tryz.underlying202 sz201 rfl rfl (by omega)) ?_;refine yv (y_fR 5 4 Tryz.underlying201 sz4) ?_;refine yv (y_rc ag4 rfl hrow hk 5 rfl) ?_;refine yv (y_not rfl)<|fk [(0,_),(1,_),(2,_),(17,_)] K1 ?_;refine qz ?_ ?_<;>intro hc0<;>try simp only [hyZ] at hc0
 ·refine sr fun _ K2=>?_
  refine yv y_mv<|yv y_np<|yv (y_f 0 98 Tryz.underlying102 sz98)<|yv (y_l1 ag98 rfl)<|yv y_mv<|yv y_mv<|yv (y_idxR Tryz.underlying98 sz204 rfl rfl (by omega) (by exact RdS.own pkk)) ?_;refine yv (y_fR 0 202 Tryz.underlying204 sz202) ?_;refine yv (y_idxAR Tryz.underlying202 sz201 rfl rfl (by omega)) ?_;refine yv (y_fR 5 4 Tryz.underlying201 sz4) ?_;refine Hd.storeO1 sz4 rfl rfl rfl pkk (by rw [rows_len encRW_len];omega) ?_
  try simp only [hyS]
  refine Hd.nil ?_;rw [rset_shut hrow hk (by omega)];refine Hd.heap (RwP b (w.setW n (x.up k fun e=>{ e with shut:=true }))::L) (fun q s=>rw_head (x':=x.up k fun e=>{ e with shut:=true }) hi hrow (fun j _=>up_b x k (f:=fun e=>{ e with shut:=true }) (fun _=>rfl) j) rfl q (Ent.sep enn q s)) ?_;refine sk [(0,_),(1,_),(2,_)] K2 ?_;refine Hd.region<|yv y_mv<|yv y_mv<|yv y_mv<|yv (y_to (v':=.int .i64 ((1 - k:Nat):Int)) (y_subn rfl rfl (by simp only [InK];omega)) (by (congr 1;omega))) ?_;refine callE rfl fk199 (rrise_ct _ b _ n _ (setW_self hx) (1 - k) hk1 true false) sq ?_;intro _;rw [setW_setW];refine Hd.nil<|slots [] sbq ?_;rw [show shutW x k=(x.up k fun e=>{ e with shut:=true }).up (1 - k) (riseE true false) from if_neg (by simpa using hc0)];exact Hd.end0 rfl () rfl sq
 refine Hd.skip ?_;rw [show shutW x k=x from if_pos (by simpa using hc0),setW_same hx];exact Hd.end0 rfl () rfl (rw_fold hi)
theorem rclose_ct (L:List SP) (b:Nat) (w:WA) (n:Nat) (x:WireA) (hx:w.ws[n]?=some x) (k:Nat) (hk:k < 2):Ct Tryz.prog 125 #[.pointer (some ⟨b,0,none⟩),.int .i64 (n:Int),.int .i64 (k:Int)] (RwP b w::L) (fun _:Unit=>.tuple #[]) (fun _:Unit=>RwP b (w.setW n (closeW x k))::L):=by
 refine Ct.o3 Tryz.func125 ?_;intro E
 show Hd E 33 _ _ _ _
 refine Hd.rw .here (fun i hi=>?_)
 have hrl:=rows_n hi
 obtain ⟨j,hrow⟩:=row_at hi hx
 have hn:n < i.1.length:=(List.getElem?_eq_some_iff.1 hrow).1
 have hk1:1 - k < 2:=by omega
 refine sr fun _ K1=>?_
 refine yv y_mv<|yv y_mv<|yv y_mv<|yv (y_to (v':=.int .i64 ((1 - k:Nat):Int)) (y_subn rfl rfl (by simp only [InK];omega)) (by (congr 1;omega))) ?_;refine yv y_mv<|yv y_np<|yv (y_f 0 98 Tryz.underlying102 sz98)<|yv (y_l1 ag98 rfl)<|yv y_mv<|yv y_mv<|yv (y_idxR Tryz.underlying98 sz204 rfl rfl (by omega) (by exact RdS.own pkk)) ?_;refine yv (y_fR 0 202 Tryz.underlying204 sz202) ?_;refine yv (y_idxAR Tryz.underlying202 sz201 rfl rfl (by omega)) ?_;refine yv (y_fR 5 4 Tryz.underlying201 sz4) ?_;refine yv (y_rc ag4 rfl hrow hk 5 rfl) ?_;refine yv (y_not rfl)<|Hd.heap (RwP b w::L) (rw_fold hi) ?_;refine callE rfl fk199 (rrise_ct _ b w n x hx (1 - k) hk1 (!(x.e k).shut) true) sq ?_;intro _;refine fk [(0,_),(1,_),(2,_)] K1 ?_;refine Hd.rw .here (fun i' hi'=>?_)
 have hx1:(w.setW n (x.up (1 - k) (riseE (!(x.e k).shut) true))).ws[n]?=some (x.up (1 - k) (riseE (!(x.e k).shut) true)):=setW_self hx
 have hrl':=rows_n hi'
 obtain ⟨j',hrow'⟩:=row_at hi' hx1
 have hn':n < i'.1.length:=(List.getElem?_eq_some_iff.1 hrow').1
 refine Hd.region<|yv y_mv<|yv y_np<|yv (y_f 0 98 Tryz.underlying102 sz98)<|yv (y_l1 ag98 rfl)<|yv y_mv<|yv y_mv<|yv (y_idxR Tryz.underlying98 sz204 rfl rfl (by omega) (by exact RdS.own pkk)) ?_;refine yv (y_fR 0 202 Tryz.underlying204 sz202) ?_;refine yv (y_idxAR Tryz.underlying202 sz201 rfl rfl (by omega)) ?_;refine yv (y_fR 0 3 Tryz.underlying201 sz3) ?_;refine Hd.storeO1 sz3 rfl rfl rfl pkk (by rw [rows_len encRW_len];omega) ?_
 try simp only [hyS]
 refine Hd.nil<|slots [] sbq ?_;rw [rset_what hrow' hk (by omega)]
 have e:w.setW n (closeW x k)=(w.setW n (x.up (1 - k) (riseE (!(x.e k).shut) true))).setW n ((x.up (1 - k) (riseE (!(x.e k).shut) true)).up k fun e=>{ e with what:=3 }):=by rw [setW_setW];rfl
 rw [e];exact Hd.end0 rfl () rfl (fun q s=>rw_head (x':=(x.up (1 - k) (riseE (!(x.e k).shut) true)).up k fun e=>{ e with what:=3 }) hi' hrow' (fun j _=>up_b _ k (f:=fun e=>{ e with what:=3 }) (fun _=>rfl) j) rfl q (Ent.sep enn q s))
theorem router1_ct (L:List SP) (b:Nat) (w:WA) (n:Nat) (x:WireA) (hx:w.ws[n]?=some x):Ct Tryz.prog 201 #[.pointer (some ⟨b,0,none⟩),.int .i64 (n:Int)] (RwP b w::L) (fun _:Unit=>.bool (decide ((x.e 1).what=2))) (fun _:Unit=>RwP b w::L):=by
 refine Ct.o2 Tryz.func201 ?_;intro E
 show Hd E 29 _ _ _ _
 refine Hd.rw .here (fun i hi=>?_)
 have hrl:=rows_n hi
 obtain ⟨j,hrow⟩:=row_at hi hx
 have hn:n < i.1.length:=(List.getElem?_eq_some_iff.1 hrow).1
 refine sr fun _ K1=>?_
 refine yv y_as<|fk [(0,_),(1,_)] K1 ?_;refine sr fun _ K2=>?_
 refine yv y_mv<|yv (y_geq rfl rfl) ?_;refine yv y_mv ?_;apply Hd.andg 8 7 15 [(0,_),(1,_)] rfl sbq
 ·intro hg1_7
  try simp only [hyZ] at hg1_7
  simp only [List.take];refine y2 y_mv<|y2 y_mv<|y2 y_np<|y2 (y_f 0 98 Tryz.underlying102 sz98)<|y2 (y_l1 ag98 rfl)<|y2 (y_len Tryz.underlying98 rfl) ?_;refine y2 (y_lss rfl rfl) ?_;refine yv (y_pickT rfl rfl) ?_;exact Hd.mn
 ·intro hg1_7
  try simp only [hyZ] at hg1_7
  simp only [List.take];refine n1<|n1<|n1<|n1<|n1<|n1<|n1<|yv (y_pickF rfl rfl) ?_;exact Hd.mn
 simp only [List.drop];refine yv y_mv ?_;apply Hd.andg (q:=decide ((x.e 1).what=2)) 12 16 28 [] rfl sbq
 ·intro hg1_16
  try simp only [hyZ] at hg1_16
  simp only [List.take];refine y2 y_mv<|y2 y_np<|y2 (y_f 0 98 Tryz.underlying102 sz98)<|y2 (y_l1 ag98 rfl)<|y2 y_mv<|y2 (y_idxR Tryz.underlying98 sz204 rfl rfl (by omega) (by exact RdS.own pkk)) ?_;refine y2 (y_fR 0 202 Tryz.underlying204 sz202) ?_;refine y2 (y_idxAR Tryz.underlying202 sz201 rfl rfl (by decide)) ?_;refine y2 (y_f 0 3 Tryz.underlying201 sz3)<|y2 (y_rc (o:=n * 20 + 0 + 1 * 8 + 0) ag3 rfl hrow (show 1 < 2 from Nat.lt_succ_self 1) 0 rfl) ?_;refine y2 (y_eql rfl rfl) ?_;refine yv (y_pickT rfl rfl) ?_;exact Hd.mn
 ·intro hg1_16
  try simp only [hyZ] at hg1_16
  simp only [List.take];refine n1<|n1<|n1<|n1<|n1<|n1<|n1<|n1<|n1<|n1<|n1<|yv (y_pickF rfl rfl) ?_;exact Hd.mn
 simp only [List.drop];refine yv (y_to (v':=.bool (decide ((x.e 1).what=2))) y_as (by (congr 1;simp;omega))) ?_;refine fk [(4,_)] K2 ?_;refine Hd.ret ?_;exact Hd.ret1 rfl () rfl (rw_fold hi)
theorem router0_ct (L:List SP) (b:Nat) (w:WA) (n:Int) (hn:n < 0∨(w.ws.length:Int)≤n):Ct Tryz.prog 201 #[.pointer (some ⟨b,0,none⟩),.int .i64 n] (RwP b w::L) (fun _:Unit=>.bool false) (fun _:Unit=>RwP b w::L):=by
 refine Ct.o2 Tryz.func201 ?_;intro E
 show Hd E 29 _ _ _ _
 refine Hd.rw .here (fun i hi=>?_)
 have hrl:=rows_n hi
 refine sr fun _ K1=>?_
 refine yv y_as<|fk [(0,_),(1,_)] K1 ?_;refine sr fun _ K2=>?_
 refine yv y_mv<|yv (y_geq rfl rfl) ?_;refine yv y_mv<|Hd.part (gd:=7) rfl (fun hg1_7=>?_) (fun hg1_7=>?_)
 ·try simp only [hyZ] at hg1_7
  refine y2 y_mv<|y2 y_mv<|y2 y_np<|y2 (y_f 0 98 Tryz.underlying102 sz98)<|y2 (y_l1 ag98 rfl)<|y2 (y_len Tryz.underlying98 rfl) ?_;refine y2 (y_lss rfl rfl) ?_;refine yv (y_pickT rfl rfl) ?_;refine yv y_mv<|Hd.part (gd:=16) rfl (fun hg1_16=>?_) (fun hg1_16=>?_)
  ·try simp only [hyZ] at hg1_16
   exfalso;omega
  try simp only [hyZ] at hg1_16
  refine n1<|n1<|n1<|n1<|n1<|n1<|n1<|n1<|n1<|n1<|n1<|yv (y_pickF rfl rfl) ?_;refine yv y_as<|fk [(4,_)] K2 ?_;refine Hd.ret ?_;exact Hd.ret1 rfl () rfl (rw_fold hi)
 try simp only [hyZ] at hg1_7
 refine n1<|n1<|n1<|n1<|n1<|n1<|n1<|yv (y_pickF rfl rfl) ?_;refine yv y_mv<|Hd.part (gd:=16) rfl (fun hg1_16=>?_) (fun hg1_16=>?_)
 ·try simp only [hyZ] at hg1_16
  exfalso;simp at hg1_16;done
 try simp only [hyZ] at hg1_16
 refine n1<|n1<|n1<|n1<|n1<|n1<|n1<|n1<|n1<|n1<|n1<|yv (y_pickF rfl rfl) ?_;refine yv y_as<|fk [(4,_)] K2 ?_;refine Hd.ret ?_;exact Hd.ret1 rfl () rfl (rw_fold hi)
theorem router_ct (L:List SP) (b:Nat) (w:WA) (n:Int) :
  Ct Tryz.prog 201 #[.pointer (some ⟨b,0,none⟩),.int .i64 n] (RwP b w::L) (fun _:Unit=>.bool (outW w n).isSome) (fun _=>RwP b w::L):=by
 by_cases h:n < 0∨(w.ws.length:Int)≤n
 ·rw [outW_off h]
  exact router0_ct L b w n h
 ·obtain ⟨k,rfl⟩:∃ k:Nat,n=(k:Int):=⟨n.toNat,by omega⟩
  have hx:w.ws[k]?=some w.ws[k]:=List.getElem?_eq_getElem (by omega)
  have:=router1_ct L b w k _ hx
  rw [outW_nat hx]
  by_cases h2:(w.ws[k].e 1).what=2
  ·rw [if_pos h2];rw [decide_eq_true h2] at this;exact this
  ·rw [if_neg h2];rw [decide_eq_false h2] at this;exact this
def RwI.upB (j:RwI) (k:Nat) (a:Option Addr) (c:Nat):RwI:={ j with a:=fun q=>if q=k then a else j.a q,c:=fun q=>if q=k then c else j.c q }
theorem upB_a (j:RwI) (k:Nat) (a:Option Addr) (c:Nat):(j.upB k a c).a k=a∧(j.upB k a c).c k=c:=⟨if_pos rfl,if_pos rfl⟩
theorem upB_ne (j:RwI) {k q:Nat} (a:Option Addr) (c:Nat) (h:q≠k):(j.upB k a c).a q=j.a q∧(j.upB k a c).c q=j.c q:=⟨if_neg h,if_neg h⟩
theorem rset_b {rs:List Row} {n k o m c:Nat} {x:WireA} {j:RwI} {l:List UInt8} {a:Option Addr} (h:rs[n]?=some (x,j)) (hk:k < 2) (ho:o=n * 20 + k * 8 + 4) (hl:l.length=m):(rs.flatMap encRW).set o (.slice a m c)=(rs.set n (x.up k fun e=>{ e with b:=l },j.upB k a c)).flatMap encRW:=by
 refine rset h hk (j:=4) (by decide) ho ?_ ?_ rfl
 ·rw [up_at,(upB_a j k a c).1,(upB_a j k a c).2,←hl];rfl
 ·rw [up_ne _ _ (by omega),(upB_ne j a c (by omega:1 - k≠k)).1,(upB_ne j a c (by omega:1 - k≠k)).2]
theorem sd_b {k c:Nat} {x:WireA} {j:RwI} {l:List UInt8} {a:Option Addr} {L:List SP} (hk:k < 2):∀ h,sep (own 5 1 a l.length c (bsl l)::SdB (x,j) (1 - k)::SdW (x,j)::L) h→sep (Sd (x.up k fun e=>{ e with b:=l },j.upB k a c)::L) h:=fun h s=>by
 refine sd_fold hk h ?_;unfold SdL SdB;dsimp only;rw [up_at,up_ne _ _ (by omega:1 - k≠k),(upB_a j k a c).1,(upB_a j k a c).2,(upB_ne j a c (by omega:1 - k≠k)).1,(upB_ne j a c (by omega:1 - k≠k)).2];exact s
theorem rget_ct (L:List SP) (b:Nat) (w:WA) (n:Nat) (x:WireA) (hx:w.ws[n]?=some x) (k:Nat) (hk:k < 2) (many:Int) (hm:0≤many):Ct Tryz.prog 120 #[.pointer (some ⟨b,0,none⟩),.int .i64 (n:Int),.int .i64 (k:Int),.int .i64 many] (RwP b w::L) (fun q_:Option Addr×Nat=>.slice q_.1 ((x.e k).b.take many.toNat).length q_.2) (fun q_:Option Addr×Nat=>own 5 1 q_.1 ((x.e k).b.take many.toNat).length ((x.e k).b.take many.toNat).length (bsl ((x.e k).b.take many.toNat))::RwP b (w.setW n (takeW x k many.toNat))::L):=by
 refine Ct.o4 Tryz.func120 ?_;intro E
 show Hd E 50 _ _ _ _
 refine Hd.rw .here (fun i hi=>?_)
 have hrl:=rows_n hi
 obtain ⟨j,hrow⟩:=row_at hi hx
 have hn:n < i.1.length:=(List.getElem?_eq_some_iff.1 hrow).1
 have hk1:1 - k < 2:=by omega
 refine Hd.bagOut pkk hrow ?_;refine Hd.sd .here k hk ?_
 obtain ⟨bs,hbs⟩:∃ bs,bs=(x.e k).b:=⟨_,rfl⟩
 obtain ⟨kn,hkn⟩:∃ q,q=min many.toNat bs.length:=⟨_,rfl⟩
 have htk:bs.take many.toNat=bs.take kn:=by
  rw [hkn]
  rcases Nat.le_total many.toNat bs.length with h | h
  ·rw [Nat.min_eq_left h]
  ·rw [Nat.min_eq_right h,List.take_length,List.take_of_length_le h]
 have hdk:bs.drop many.toNat=bs.drop kn:=by
  rw [hkn]
  rcases Nat.le_total many.toNat bs.length with h | h
  ·rw [Nat.min_eq_left h]
  ·rw [Nat.min_eq_right h,List.drop_length,List.drop_of_length_le h]
 have hkl:kn≤bs.length:=by omega
 have htl:(bs.take kn).length=kn:=by rw [List.length_take];omega
 refine Hd.ownCap (e:=5) (ad:=j.a k) (m:=(x.e k).b.length) (cap:=j.c k) pkk (fun hcap=>?_);rw [←hbs] at hcap
 have hkc:kn≤j.c k:=by omega
 have ex:takeW x k many.toNat=(x.up k fun e=>{ e with b:=bs.drop kn }).up (1 - k) (riseE false (decide (0 < kn))):=by
  unfold takeW;rw [←hbs,htk,htl,show (x.up k fun e=>{ e with b:=e.b.drop many.toNat })=x.up k fun e=>{ e with b:=bs.drop kn } from up_eq (by rw [←hbs,hdk])]
 rw [←hbs,htk,htl,ex];refine sr fun _ K1=>?_
 refine yv y_as<|fk [(0,_),(1,_),(2,_),(3,_)] K1 ?_;refine sr fun _ K2=>?_
 refine yv y_mv<|yv y_np<|yv (y_f 0 98 Tryz.underlying102 sz98)<|yv (y_l1 ag98 rfl)<|yv y_mv<|yv y_mv<|yv (y_idxR Tryz.underlying98 sz204 rfl rfl (by omega) (by exact RdS.own pkk)) ?_;refine yv (y_fR 0 202 Tryz.underlying204 sz202) ?_;refine yv (y_idxAR Tryz.underlying202 sz201 rfl rfl (by omega)) ?_;refine yv (y_fR 4 30 Tryz.underlying201 sz30) ?_;refine yv (y_to (v':=.slice (j.a k) bs.length (j.c k)) (y_rc ag30 rfl hrow hk 4 rfl) (by (rw [hbs]))) ?_;refine yv y_as<|fk [(0,_),(1,_),(2,_),(3,_),(9,_)] K2 ?_;refine Hd.cutK (ι:=Unit) [(0,_),(1,_),(2,_),(9,_)] (fun _=>[(3,.int .i64 (kn:Int))]) (fun _=>SdL (x,j) k (Bag Sd (i.1.take n)::Bag Sd (i.1.drop (n + 1))::RwH b w i.1.length i.2.1 i.2.2::OwR i::L)) ?_ ?_ ⟨rfl,rfl,rfl,rfl,trivial⟩
 ·refine sr fun _ K3=>?_
  refine yv y_mv<|yv y_mv<|yv (y_len Tryz.underlying30 rfl) ?_;refine yv (y_gtr rfl rfl) ?_;refine fk [(0,_),(1,_),(2,_),(3,_),(9,_),(24,_)] K3 ?_;refine qz ?_ ?_<;>intro hc0<;>try simp only [hyZ] at hc0
  ·refine Hd.region ?_
   refine yv y_mv<|yv (y_len Tryz.underlying30 rfl) ?_;refine yv y_as<|Hd.nil<|slots [(0,_),(1,_),(2,_),(3,_),(9,_)] sbq ?_;refine thenN ?_;exact Hd.meet () ⟨congrArg (fun z=>some (Value.int .i64 z)) (by omega),by repeat (first | exact trivial | refine ⟨rfl,?_⟩)⟩ sq
  refine Hd.skip<|thenN ?_;exact Hd.meet () ⟨congrArg (fun z=>some (Value.int .i64 z)) (by omega),by repeat (first | exact trivial | refine ⟨rfl,?_⟩)⟩ sq
 intro _;refine Hd.seq fun _ K4=>?_
 refine Hd.drawsH ([RwH b w i.1.length i.2.1 i.2.2,OwR i]) (fun j=>!([13].contains j)) mixed ?_;simp only [List.length,Nat.zero_add,Nat.reduceAdd];refine tH 0 rfl y_mv<|tH 1 rfl y_np<|tH 2 rfl (y_f 0 98 Tryz.underlying102 sz98)<|tH 3 rfl (y_l1 ag98 rfl)<|tH 4 rfl y_mv<|tH 5 rfl y_mv<|tH 6 rfl y_mv<|tH 7 rfl y_mv<|tH 8 rfl (y_slo_oxxN Tryz.underlying30 sz5 rfl rfl (by omega)) ?_;refine qo 9 ?_;refine yv (y_idxR Tryz.underlying98 sz204 rfl rfl (by omega) (by exact RdS.own pkk)) ?_;refine qk<|qo 10 ?_;refine yv (y_fR 0 202 Tryz.underlying204 sz202) ?_;refine qk<|qo 11 ?_;refine yv (y_idxAR Tryz.underlying202 sz201 rfl rfl (by omega)) ?_;refine qk<|tH 12 rfl (y_fR 4 30 Tryz.underlying201 sz30) ?_;refine qo 13 ?_;refine Hd.storeO1 sz30 rfl rfl rfl pkk (by rw [rows_len encRW_len];omega) ?_
 try simp only [hyS]
 refine qn<|endH kq ?_;rw [rset_b (l:=bs.drop kn) hrow hk (by omega) (by rw [List.length_drop])];refine Hd.ownSplit (e:=5) (ad:=j.a k) (m:=(x.e k).b.length) (cap:=j.c k) (us:=bsl (x.e k).b) pkk kn (bsl (bs.take kn)) (bsl (bs.drop kn)) (by rw [←hbs];exact hkl) (by rw [←hbs];unfold bsl;rw [←List.map_append,List.take_append_drop]) (by unfold bsl;rw [List.length_map,htl,Nat.mul_one]) ?_;refine Hd.heap (RwP b (w.setW n (x.up k fun e=>{ e with b:=bs.drop kn }))::own 5 1 (j.a k) kn kn (bsl (bs.take kn))::L) (sep_trans (sep_trans (Ent.sep (.eq pkk (own_eq3 (by rw [List.length_drop,←hbs]) rfl rfl) enn)) (sd_b (l:=bs.drop kn) (a:=cutA (j.a k) 1 kn (j.c k)) (c:=j.c k - kn) hk)) (sep_trans sq (rw_put hi hn))) ?_;refine sk [(0,_),(1,_),(2,_),(3,_),(9,_)] K4 ?_;refine sr fun _ K5=>?_
 refine yv y_mv<|yv y_mv<|yv y_mv<|yv (y_to (v':=.int .i64 ((1 - k:Nat):Int)) (y_subn rfl rfl (by simp only [InK];omega)) (by (congr 1;omega))) ?_;refine yv y_mv<|yv (y_to (v':=.bool (decide (0 < kn))) (y_gtr rfl rfl) (by (congr 1;simp only [decide_eq_decide];omega))) ?_;refine callE rfl fk199 (rrise_ct _ b _ n _ (setW_self hx) (1 - k) hk1 false (decide (0 < kn))) sq ?_;intro _;rw [setW_setW];refine fk [(3,_),(9,_)] K5 ?_;refine sr fun _ K6=>?_
 refine yv y_mv<|yv y_mv<|yv (y_slo_xoxN Tryz.underlying30 sz5 rfl rfl (by omega)) ?_;refine yv y_as<|fk [(8,_)] K6 ?_;refine Hd.ret ?_;exact Hd.ret1 rfl (j.a k,j.c k) rfl sq
theorem rfill_ct (L:List SP) (b:Nat) (w:WA) (n:Nat) (x:WireA) (hx:w.ws[n]?=some x) (hwf:WfW x) (k:Nat) (hk:k < 2) (ad:Option Addr) (m c:Nat) (bs:List UInt8) (hm:bs.length=m) (hR:RdS L 1 ad m (bsl bs)) (hml:m≤70368744177664) (hmc:m≤c):Ct Tryz.prog 121 #[.pointer (some ⟨b,0,none⟩),.int .i64 (n:Int),.int .i64 (k:Int),.slice ad m c] (RwP b w::L) (fun _:Unit=>.int .i64 (putN x k bs:Nat)) (fun _:Unit=>RwP b (w.setW n (putW x k bs))::L):=by
 refine Ct.o4 Tryz.func121 ?_;intro E
 show Hd E 78 _ _ _ _
 refine Hd.rw .here (fun i hi=>?_)
 have hrl:=rows_n hi
 obtain ⟨j,hrow⟩:=row_at hi hx
 have hn:n < i.1.length:=(List.getElem?_eq_some_iff.1 hrow).1
 have hk1:1 - k < 2:=by omega
 have hle:=hwf.le (1 - k) hk1
 have hcp:=hwf.cap
 refine Hd.bagOut pkk hrow ?_;refine Hd.sd .here (1 - k) hk1 ?_
 obtain ⟨kn,hkn⟩:∃ q,q=putN x k bs:=⟨_,rfl⟩
 have hkn2:kn=min m (x.cap - (x.e (1 - k)).b.length):=by rw [hkn,←hm];rfl
 have htl:(bs.take kn).length=kn:=by rw [List.length_take,hm];omega
 have hRk:RdS L 1 ad kn (bsl (bs.take kn)):=by
  have:=RdS.head (l:=kn) hR (by omega)
  rwa [Nat.mul_one,bsl_take] at this
 have ex:putW x k bs=(x.up (1 - k) fun e=>{ e with b:=(x.e (1 - k)).b++bs.take kn }).up (1 - k) (riseE (decide (0 < kn)) false):=by
  unfold putW;rw [←hkn,show (x.up (1 - k) fun e=>{ e with b:=e.b++bs.take kn })=x.up (1 - k) fun e=>{ e with b:=(x.e (1 - k)).b++bs.take kn } from up_eq rfl]
 rw [←hkn,ex];refine sr fun _ K1=>?_
 refine yv y_as<|fk [(0,_),(1,_),(2,_),(3,_)] K1 ?_;refine Hd.seq fun _ K2=>?_
 refine Hd.quiet mixed kq ?_;refine Hq.yv y_mv ?_;refine Hq.yv y_np ?_;refine Hq.yv (y_f 0 98 Tryz.underlying102 sz98) ?_;refine Hq.yv (y_l1 ag98 rfl) ?_;refine Hq.yv y_mv ?_;refine Hq.yv (y_idxR Tryz.underlying98 sz204 rfl rfl (by omega) (by exact RdS.own pkk)) ?_;refine Hq.yv (y_fR 16 3 Tryz.underlying204 sz3) ?_;refine Hq.yv (y_to (v':=.int .i64 (x.cap:Int)) (y_rw ag3 rfl hrow 16 rfl) (by rfl)) ?_;refine Hq.yv y_mv ?_;refine Hq.yv y_np ?_;refine Hq.yv (y_f 0 98 Tryz.underlying102 sz98) ?_;refine Hq.yv (y_l1 ag98 rfl) ?_;refine Hq.yv y_mv ?_;refine Hq.yv y_mv ?_;refine Hq.yv (y_to (v':=.int .i64 ((1 - k:Nat):Int)) (y_subn rfl rfl (by simp only [InK];omega)) (by (congr 1;omega))) ?_;refine Hq.yv (y_idxR Tryz.underlying98 sz204 rfl rfl (by omega) (by exact RdS.own pkk)) ?_;refine Hq.yv (y_fR 0 202 Tryz.underlying204 sz202) ?_;refine Hq.yv (y_idxAR Tryz.underlying202 sz201 rfl rfl (by omega)) ?_
 refine Hq.yv (y_fR 4 30 Tryz.underlying201 sz30) ?_;refine Hq.yv (y_rc ag30 rfl hrow hk1 4 rfl) ?_;refine Hq.yv (y_len Tryz.underlying30 rfl) ?_;refine Hq.yv (y_to (v':=.int .i64 ((x.cap - (x.e (1 - k)).b.length:Nat):Int)) (y_subn rfl rfl (by simp only [InK];omega)) (by (congr 1;omega))) ?_;refine Hq.yv y_as ?_;refine Hq.nil ?_;refine sk [(0,_),(1,_),(2,_),(3,_),(9,_)] K2 ?_;refine sr fun _ K3=>?_
 refine yv y_mv<|yv (y_len Tryz.underlying30 rfl) ?_;refine yv y_as<|fk [(0,_),(1,_),(2,_),(3,_),(9,_),(10,_)] K3 ?_;refine Hd.cutK (ι:=Unit) [(0,_),(1,_),(2,_),(3,_)] (fun _=>[(10,.int .i64 (kn:Int))]) (fun _=>SdL (x,j) (1 - k) (Bag Sd (i.1.take n)::Bag Sd (i.1.drop (n + 1))::RwH b w i.1.length i.2.1 i.2.2::OwR i::L)) ?_ ?_ ⟨rfl,rfl,rfl,rfl,trivial⟩
 ·refine sr fun _ K4=>?_
  refine yv y_mv<|yv y_mv<|yv (y_gtr rfl rfl) ?_;refine fk [(0,_),(1,_),(2,_),(3,_),(9,_),(10,_),(38,_)] K4 ?_;refine qz ?_ ?_<;>intro hc0<;>try simp only [hyZ] at hc0
  ·refine Hd.region ?_
   refine yv y_mv<|yv y_as<|Hd.nil<|slots [(0,_),(1,_),(2,_),(3,_),(10,_)] sbq ?_;refine thenN ?_;exact Hd.meet () ⟨congrArg (fun z=>some (Value.int .i64 z)) (by omega),by repeat (first | exact trivial | refine ⟨rfl,?_⟩)⟩ sq
  refine Hd.skip<|thenN ?_;exact Hd.meet () ⟨congrArg (fun z=>some (Value.int .i64 z)) (by omega),by repeat (first | exact trivial | refine ⟨rfl,?_⟩)⟩ sq
 intro _;refine sr fun _ K5=>?_
 refine yv y_as<|fk [(0,_),(1,_),(2,_),(3,_),(10,_),(11,_)] K5 ?_;refine Hd.seq fun _ K6=>?_
 refine Hd.ownNil 5 1 none ?_;refine Hd.region<|yv y_mv<|yv y_mv<|yv y_np<|yv (y_f 0 98 Tryz.underlying102 sz98)<|yv (y_l1 ag98 rfl)<|yv y_mv<|yv y_mv<|yv (y_to (v':=.int .i64 ((1 - k:Nat):Int)) (y_subn rfl rfl (by simp only [InK];omega)) (by (congr 1;omega))) ?_;refine yv (y_idxR Tryz.underlying98 sz204 rfl rfl (by omega) (by exact RdS.own pkk)) ?_;refine yv (y_fR 0 202 Tryz.underlying204 sz202) ?_;refine yv (y_idxAR Tryz.underlying202 sz201 rfl rfl (by omega)) ?_;refine yv (y_fR 4 30 Tryz.underlying201 sz30) ?_;refine yv (y_rc ag30 rfl hrow hk1 4 rfl) ?_;refine Hd.append Tryz.underlying30 ty5 rfl rfl rfl pkk (by first | exact RdS.rd (Rd.pt pkk (fun j v e=>by simpa using e)) rfl | (exact RdS.own pkk)) (by simp [Value.oneCell'];done) (by simp only [maxLen];omega) (by omega) (fun ad53 cap53=>?_)
 refine yv y_as<|fk [(0,_),(1,_),(2,_),(3,_),(10,_),(11,_)] K6 ?_;refine Hd.seq fun _ K7=>?_
 refine Hd.drawsH ([RwH b w i.1.length i.2.1 i.2.2,OwR i]) (fun j=>!([16].contains j)) mixed ?_;simp only [List.length,Nat.zero_add,Nat.reduceAdd];refine tH 0 rfl y_mv<|tH 1 rfl y_np<|tH 2 rfl (y_f 0 98 Tryz.underlying102 sz98)<|tH 3 rfl (y_l1 ag98 rfl)<|tH 4 rfl y_mv<|tH 5 rfl y_mv<|tH 6 rfl (y_to (v':=.int .i64 ((1 - k:Nat):Int)) (y_subn rfl rfl (by simp only [InK];omega)) (by (congr 1;omega))) ?_;refine tH 7 rfl y_mv<|tH 8 rfl y_mv<|tH 9 rfl y_mv<|tH 10 rfl (y_slo_xoxN Tryz.underlying30 sz5 rfl rfl (by omega)) ?_;refine Hd.eitherH 11 12 rfl rfl kq ?_ ?_
 ·refine Hd.append Tryz.underlying30 ty5 rfl rfl rfl pkk (by exact RdS.mono hRk sq) (by exact B_one) (by simp only [maxLen];omega) (by omega) (fun ad65 cap65=>?_)
  refine qk<|qo 12 ?_;refine yv (y_idxR Tryz.underlying98 sz204 rfl rfl (by omega) (by exact RdS.own pkk)) ?_;refine qk<|qo 13 ?_;refine yv (y_fR 0 202 Tryz.underlying204 sz202) ?_;refine qk<|qo 14 ?_;refine yv (y_idxAR Tryz.underlying202 sz201 rfl rfl (by omega)) ?_;refine qk<|tH 15 rfl (y_fR 4 30 Tryz.underlying201 sz30) ?_;refine qo 16 ?_;refine Hd.storeO1 sz30 rfl rfl rfl pkk (by rw [rows_len encRW_len];omega) ?_
  try simp only [hyS]
  refine qn<|endH kq ?_;rw [rset_b (l:=(x.e (1 - k)).b++bs.take kn) hrow hk1 (by omega) (by rw [List.length_append,htl])];refine Hd.heap (RwP b (w.setW n (x.up (1 - k) fun e=>{ e with b:=(x.e (1 - k)).b++bs.take kn }))::L) (sep_trans (sep_trans (Ent.sep (.eq pkk (own_eq3 (by rw [List.length_append,htl]) rfl (by unfold bsl;simp)) (.pick pkk (.pick pkk .same)))) (sd_b (l:=(x.e (1 - k)).b++bs.take kn) (a:=ad65) (c:=cap65) hk1)) (sep_trans sq (rw_put hi hn))) ?_;refine sk [(0,_),(1,_),(2,_),(10,_)] K7 ?_;refine sr fun _ K8=>?_
  refine yv y_mv<|yv y_mv<|yv y_mv<|yv (y_to (v':=.int .i64 ((1 - k:Nat):Int)) (y_subn rfl rfl (by simp only [InK];omega)) (by (congr 1;omega))) ?_;refine yv y_mv<|yv (y_to (v':=.bool (decide (0 < kn))) (y_gtr rfl rfl) (by (congr 1;simp only [decide_eq_decide];omega))) ?_;refine callE rfl fk199 (rrise_ct _ b _ n _ (setW_self hx) (1 - k) hk1 (decide (0 < kn)) false) sq ?_;intro _;rw [setW_setW];refine fk [(10,_)] K8 ?_;refine sr fun _ K9=>?_
  refine yv y_mv<|yv y_as<|fk [(8,_)] K9 ?_;refine Hd.ret ?_;exact Hd.ret1 rfl () rfl sq
 refine yv (y_idxR Tryz.underlying98 sz204 rfl rfl (by omega) (by exact RdS.own pkk)) ?_;refine qk<|Hd.eitherH 11 13 rfl rfl kq ?_ ?_
 ·refine Hd.append Tryz.underlying30 ty5 rfl rfl rfl pkk (by exact RdS.mono hRk sq) (by exact B_one) (by simp only [maxLen];omega) (by omega) (fun ad65 cap65=>?_)
  refine qk<|qo 13 ?_;refine yv (y_fR 0 202 Tryz.underlying204 sz202) ?_;refine qk<|qo 14 ?_;refine yv (y_idxAR Tryz.underlying202 sz201 rfl rfl (by omega)) ?_;refine qk<|tH 15 rfl (y_fR 4 30 Tryz.underlying201 sz30) ?_;refine qo 16 ?_;refine Hd.storeO1 sz30 rfl rfl rfl pkk (by rw [rows_len encRW_len];omega) ?_
  try simp only [hyS]
  refine qn<|endH kq ?_;rw [rset_b (l:=(x.e (1 - k)).b++bs.take kn) hrow hk1 (by omega) (by rw [List.length_append,htl])];refine Hd.heap (RwP b (w.setW n (x.up (1 - k) fun e=>{ e with b:=(x.e (1 - k)).b++bs.take kn }))::L) (sep_trans (sep_trans (Ent.sep (.eq pkk (own_eq3 (by rw [List.length_append,htl]) rfl (by unfold bsl;simp)) (.pick pkk (.pick pkk .same)))) (sd_b (l:=(x.e (1 - k)).b++bs.take kn) (a:=ad65) (c:=cap65) hk1)) (sep_trans sq (rw_put hi hn))) ?_;refine sk [(0,_),(1,_),(2,_),(10,_)] K7 ?_;refine sr fun _ K10=>?_
  refine yv y_mv<|yv y_mv<|yv y_mv<|yv (y_to (v':=.int .i64 ((1 - k:Nat):Int)) (y_subn rfl rfl (by simp only [InK];omega)) (by (congr 1;omega))) ?_;refine yv y_mv<|yv (y_to (v':=.bool (decide (0 < kn))) (y_gtr rfl rfl) (by (congr 1;simp only [decide_eq_decide];omega))) ?_;refine callE rfl fk199 (rrise_ct _ b _ n _ (setW_self hx) (1 - k) hk1 (decide (0 < kn)) false) sq ?_;intro _;rw [setW_setW];refine fk [(10,_)] K10 ?_;refine sr fun _ K11=>?_
  refine yv y_mv<|yv y_as<|fk [(8,_)] K11 ?_;refine Hd.ret ?_;exact Hd.ret1 rfl () rfl sq
 refine yv (y_fR 0 202 Tryz.underlying204 sz202) ?_;refine qk<|qo 11 ?_;refine Hd.append Tryz.underlying30 ty5 rfl rfl rfl pkk (by exact RdS.mono hRk sq) (by exact B_one) (by simp only [maxLen];omega) (by omega) (fun ad65 cap65=>?_);refine qk<|qo 14 ?_;refine yv (y_idxAR Tryz.underlying202 sz201 rfl rfl (by omega)) ?_;refine qk<|tH 15 rfl (y_fR 4 30 Tryz.underlying201 sz30) ?_;refine qo 16 ?_;refine Hd.storeO1 sz30 rfl rfl rfl pkk (by rw [rows_len encRW_len];omega) ?_
 try simp only [hyS]
 refine qn<|endH kq ?_;rw [rset_b (l:=(x.e (1 - k)).b++bs.take kn) hrow hk1 (by omega) (by rw [List.length_append,htl])];refine Hd.heap (RwP b (w.setW n (x.up (1 - k) fun e=>{ e with b:=(x.e (1 - k)).b++bs.take kn }))::L) (sep_trans (sep_trans (Ent.sep (.eq pkk (own_eq3 (by rw [List.length_append,htl]) rfl (by unfold bsl;simp)) (.pick pkk (.pick pkk .same)))) (sd_b (l:=(x.e (1 - k)).b++bs.take kn) (a:=ad65) (c:=cap65) hk1)) (sep_trans sq (rw_put hi hn))) ?_;refine sk [(0,_),(1,_),(2,_),(10,_)] K7 ?_;refine sr fun _ K12=>?_
 refine yv y_mv<|yv y_mv<|yv y_mv<|yv (y_to (v':=.int .i64 ((1 - k:Nat):Int)) (y_subn rfl rfl (by simp only [InK];omega)) (by (congr 1;omega))) ?_;refine yv y_mv<|yv (y_to (v':=.bool (decide (0 < kn))) (y_gtr rfl rfl) (by (congr 1;simp only [decide_eq_decide];omega))) ?_;refine callE rfl fk199 (rrise_ct _ b _ n _ (setW_self hx) (1 - k) hk1 (decide (0 < kn)) false) sq ?_;intro _;rw [setW_setW];refine fk [(10,_)] K12 ?_;refine sr fun _ K13=>?_
 refine yv y_mv<|yv y_as<|fk [(8,_)] K13 ?_;refine Hd.ret ?_;exact Hd.ret1 rfl () rfl sq
end Rf
end Go.Proofs.YtmpemhbfgbochaaGreatDoor
namespace Go.Proofs.YtmpemhbfgbochaaGreatDoor
open Go.RX Fx
namespace Wo
def wireN:Option (Nat×Nat)→Int
 | none=>0
 | some (n,_)=>(n:Int)
theorem plc1 (o:Option (Nat×Nat)):(plc o)[1]?=some (.int .i64 (wireN o)):=by
 cases o with
 | none=>rfl
 | some p=>obtain ⟨n,k⟩:=p;rfl
theorem wwire_ct (L:List SP) (wb:Nat) (w:WA) (fd:Int):Ct Tryz.prog 148 #[.pointer (some ⟨wb,0,none⟩),.int .i64 fd] (WorldP wb w::L) (fun _:Unit=>.tuple #[.int .i64 (wireN (w.at fd)),.int .i64 (fdErr (w.at fd))]) (fun _:Unit=>WorldP wb w::L):=by
 refine Ct.o2 Tryz.func148 ?_;intro E
 show Hd E 19 _ _ _ _
 refine Hd.world .here (fun i hw hrs=>?_);refine sr fun _ K1=>?_
 refine yv y_as<|yv y_as<|fk [(0,_),(1,_)] K1 ?_;refine sr fun _ K2=>?_
 refine yv y_mv<|yv y_mv<|callE rfl fk112 (find_ct _ wb w i hw hrs fd) sq ?_;intro _;refine yv y_mv<|yv y_ex<|yv y_ex<|yv y_ex<|Hd.alloc zr182 (fun b6=>?_);refine Hd.storeA (us:=plc (w.at fd)) (by rw [plc_len];exact sz182) rfl rfl rfl (plc_one _) pkk (by rw [plc_len];rfl) ?_;refine yv y_as<|yv y_as<|fk [(6,_),(8,_)] K2 ?_;refine sr fun _ K3=>?_
 refine yv (y_f 1 3 Tryz.underlying182 sz3)<|yv (y_load1 ag3 rfl (Rd.pt1 pkk (by exact plc1 _))) ?_;refine yv y_mv<|yv y_as<|yv y_as<|fk [(4,_),(5,_)] K3 ?_;refine Hd.ret ?_;exact Hd.ret2 rfl () rfl rfl rfl (Ent.sep (.ex i (.pure ⟨hw,hrs⟩ enn)))
end Wo
end Go.Proofs.YtmpemhbfgbochaaGreatDoor
namespace Go.Proofs.YtmpemhbfgbochaaGreatDoor
open Go.RX Fx
namespace Rf
open Wo
theorem atN_no {o:Option (Nat×Nat)} (h:atN o < 0):o=none:=by
 cases o with
 | none=>rfl
 | some p=>simp only [atN] at h;omega
theorem atN_yes {o:Option (Nat×Nat)} (h:0≤atN o):∃ n k,o=some (n,k):=by
 cases o with
 | none=>simp only [atN] at h;omega
 | some p=>exact ⟨p.1,p.2,rfl⟩
theorem rShut_ct (L:List SP) (b:Nat) (w:WA) (hw:WOk w) (fd:Int):Ct Tryz.prog 58 #[.pointer (some ⟨b,0,none⟩),.int .i64 fd] (RwP b w::L) (fun _:Unit=>.int .i64 (shutR w fd).1) (fun _:Unit=>RwP b (shutR w fd).2::L):=by
 refine Ct.o2 Tryz.func58 ?_;intro E
 show Hd E 45 _ _ _ _
 refine sr fun _ K1=>?_
 refine yv y_as<|fk [(0,_),(1,_)] K1 ?_;refine sr fun _ K2=>?_
 refine yv y_mv<|yv y_mv<|callE rfl fk117 (rat_ct _ b w hw fd) sq ?_;intro _;refine yv y_mv<|yv y_ex<|yv y_ex<|yv y_as<|yv y_as<|fk [(0,_),(5,_),(6,_)] K2 ?_;refine Hd.seq fun _ K3=>?_
 refine sr fun _ K4=>?_
 refine yv y_mv<|yv (y_lss rfl rfl) ?_;refine fk [(0,_),(5,_),(6,_),(14,_)] K4 ?_;refine qz ?_ ?_<;>intro hc0<;>try simp only [hyZ] at hc0
 ·have hno:=atN_no hc0
  refine sr fun _ K5=>?_
  refine yv y_as<|fk [(4,_)] K5 ?_;refine Hd.ret<|Hd.thenRet ?_;rw [show shutR w fd=(110,w) by unfold shutR;rw [hno]];exact Hd.ret1 rfl () rfl sq
 obtain ⟨n,k,hnk⟩:=atN_yes (by omega)
 obtain ⟨_,_,hk,_,x,hx,_,_⟩:=hw.at_lt hnk
 rw [show atN (w.at fd)=(n:Int) by rw [hnk];rfl,show atK (w.at fd)=(k:Int) by rw [hnk];rfl];refine Hd.rw .here (fun i hi=>?_)
 have hrl:=rows_n hi
 obtain ⟨j,hrow⟩:=row_at hi hx
 have hn:n < i.1.length:=(List.getElem?_eq_some_iff.1 hrow).1
 refine qv K3<|Hd.seq fun _ K6=>?_
 refine sr fun _ K7=>?_
 refine yv y_mv<|yv y_np<|yv (y_f 0 98 Tryz.underlying102 sz98)<|yv (y_l1 ag98 rfl)<|yv y_mv<|yv y_mv<|yv (y_idxR Tryz.underlying98 sz204 rfl rfl (by omega) (by exact RdS.own pkk)) ?_;refine yv (y_fR 0 202 Tryz.underlying204 sz202) ?_;refine yv (y_idxAR Tryz.underlying202 sz201 rfl rfl (by omega)) ?_;refine yv (y_fR 2 4 Tryz.underlying201 sz4) ?_;refine yv (y_rc ag4 rfl hrow hk 2 rfl) ?_;refine yv (y_not rfl)<|yv y_mv ?_;apply Hd.org 13 27 40 [(0,_),(5,_),(6,_)] rfl sbq
 ·intro hg4_27
  try simp only [hyZ] at hg4_27
  simp only [List.take];refine n1<|n1<|n1<|n1<|n1<|n1<|n1<|n1<|n1<|n1<|n1<|n1<|yv (y_pickT rfl rfl) ?_;exact Hd.mn
 ·intro hg4_27
  try simp only [hyZ] at hg4_27
  simp only [List.take];refine y2 y_mv<|y2 y_np<|y2 (y_f 0 98 Tryz.underlying102 sz98)<|y2 (y_l1 ag98 rfl)<|y2 y_mv<|y2 y_mv<|y2 (y_idxR Tryz.underlying98 sz204 rfl rfl (by omega) (by exact RdS.own pkk)) ?_;refine y2 (y_fR 0 202 Tryz.underlying204 sz202) ?_;refine y2 (y_idxAR Tryz.underlying202 sz201 rfl rfl (by omega)) ?_;refine y2 (y_fR 3 4 Tryz.underlying201 sz4) ?_;refine y2 (y_rc ag4 rfl hrow hk 3 rfl) ?_;refine y2 (y_not rfl)<|yv (y_pickF rfl rfl) ?_;exact Hd.mn
 simp only [List.drop];refine fk [(0,_),(5,_),(6,_),(40,_)] K7 ?_;refine qz ?_ ?_<;>intro hc1<;>try simp only [hyZ] at hc1
 ·have h1:(x.e k).rd=false∨(x.e k).wr=false:=by simpa using hc1
  refine sr fun _ K8=>?_
  refine yv y_as<|fk [(4,_)] K8 ?_;refine Hd.ret<|Hd.thenRet ?_;rw [show shutR w fd=(111,w) by unfold shutR;rw [hnk];dsimp only;rw [hx];exact if_pos h1];exact Hd.ret1 rfl () rfl (rw_fold hi)
 have h1:¬ ((x.e k).rd=false∨(x.e k).wr=false):=by
  rintro (h | h)<;>simp [h] at hc1
 refine qv K6<|sr fun _ K9=>?_
 refine yv y_mv<|yv y_mv<|yv y_mv<|Hd.heap (RwP b w::L) (rw_fold hi) ?_;refine callE rfl fk123 (rshut_ct _ b w n x hx k hk) sq ?_;intro _;refine fk [] K9 ?_;refine sr fun _ K10=>?_
 refine yv y_as<|fk [(4,_)] K10 ?_;refine Hd.ret ?_;rw [show shutR w fd=(0,w.setW n (shutW x k)) by unfold shutR;rw [hnk];dsimp only;rw [hx];exact if_neg h1];exact Hd.ret1 rfl () rfl sq
theorem rPshut_ct (L:List SP) (b:Nat) (w:WA) (n:Int):Ct Tryz.prog 131 #[.pointer (some ⟨b,0,none⟩),.int .i64 n] (RwP b w::L) (fun _:Unit=>.int .i64 (pshutR w n).1) (fun _:Unit=>RwP b (pshutR w n).2::L):=by
 refine Ct.o2 Tryz.func131 ?_;intro E
 show Hd E 14 _ _ _ _
 refine sr fun _ K1=>?_
 refine yv y_as<|fk [(0,_),(1,_)] K1 ?_;refine sr fun _ K2=>?_
 refine yv y_mv<|yv y_mv<|callE rfl fk201 (router_ct _ b w n) sq ?_;intro _;refine yv y_as<|fk [(0,_),(1,_),(5,_)] K2 ?_;refine Hd.seq fun _ K3=>?_
 refine sr fun _ K4=>?_
 refine yv y_mv<|yv (y_not rfl)<|fk [(0,_),(1,_),(10,_)] K4 ?_;refine qz ?_ ?_<;>intro hc0<;>try simp only [hyZ] at hc0
 ·refine sr fun _ K5=>?_
  refine yv y_as<|fk [(4,_)] K5 ?_;refine Hd.ret<|Hd.thenRet ?_
  have hno:outW w n=none:=by cases h:outW w n with | none=>rfl | some y=>rw [h] at hc0;simp at hc0
  rw [show pshutR w n=(116,w) by unfold pshutR;rw [hno]];exact Hd.ret1 rfl () rfl sq
 obtain ⟨x,ho⟩:∃ x,outW w n=some x:=by cases h:outW w n with | none=>rw [h] at hc0;simp at hc0 | some y=>exact ⟨y,rfl⟩
 obtain ⟨h0,hx,_⟩:=outW_some ho
 obtain ⟨k,rfl⟩:∃ k:Nat,n=(k:Int):=⟨n.toNat,by omega⟩
 rw [Int.toNat_natCast] at hx;refine qv K3<|sr fun _ K6=>?_
 refine yv y_mv<|yv y_mv<|callE rfl fk123 (rshut_ct _ b w k x hx 1 (by decide)) sq ?_;intro _;refine fk [] K6 ?_;refine sr fun _ K7=>?_
 refine yv y_as<|fk [(4,_)] K7 ?_;refine Hd.ret ?_;rw [show pshutR w (k:Int)=(0,w.setW k (shutW x 1)) by unfold pshutR;rw [ho];rfl];exact Hd.ret1 rfl () rfl sq
theorem rPclose_ct (L:List SP) (b:Nat) (w:WA) (n:Int):Ct Tryz.prog 133 #[.pointer (some ⟨b,0,none⟩),.int .i64 n] (RwP b w::L) (fun _:Unit=>.int .i64 (pcloseR w n).1) (fun _:Unit=>RwP b (pcloseR w n).2::L):=by
 refine Ct.o2 Tryz.func133 ?_;intro E
 show Hd E 14 _ _ _ _
 refine sr fun _ K1=>?_
 refine yv y_as<|fk [(0,_),(1,_)] K1 ?_;refine sr fun _ K2=>?_
 refine yv y_mv<|yv y_mv<|callE rfl fk201 (router_ct _ b w n) sq ?_;intro _;refine yv y_as<|fk [(0,_),(1,_),(5,_)] K2 ?_;refine Hd.seq fun _ K3=>?_
 refine sr fun _ K4=>?_
 refine yv y_mv<|yv (y_not rfl)<|fk [(0,_),(1,_),(10,_)] K4 ?_;refine qz ?_ ?_<;>intro hc0<;>try simp only [hyZ] at hc0
 ·refine sr fun _ K5=>?_
  refine yv y_as<|fk [(4,_)] K5 ?_;refine Hd.ret<|Hd.thenRet ?_
  have hno:outW w n=none:=by cases h:outW w n with | none=>rfl | some y=>rw [h] at hc0;simp at hc0
  rw [show pcloseR w n=(116,w) by unfold pcloseR;rw [hno]];exact Hd.ret1 rfl () rfl sq
 obtain ⟨x,ho⟩:∃ x,outW w n=some x:=by cases h:outW w n with | none=>rw [h] at hc0;simp at hc0 | some y=>exact ⟨y,rfl⟩
 obtain ⟨h0,hx,_⟩:=outW_some ho
 obtain ⟨k,rfl⟩:∃ k:Nat,n=(k:Int):=⟨n.toNat,by omega⟩
 rw [Int.toNat_natCast] at hx;refine qv K3<|sr fun _ K6=>?_
 refine yv y_mv<|yv y_mv<|callE rfl fk125 (rclose_ct _ b w k x hx 1 (by decide)) sq ?_;intro _;refine fk [] K6 ?_;refine sr fun _ K7=>?_
 refine yv y_as<|fk [(4,_)] K7 ?_;refine Hd.ret ?_;rw [show pcloseR w (k:Int)=(0,w.setW k (closeW x 1)) by unfold pcloseR;rw [ho];rfl];exact Hd.ret1 rfl () rfl sq
theorem rWire_ct (L:List SP) (b:Nat) (w:WA) (hw:WOk w) (fd:Int):Ct Tryz.prog 149 #[.pointer (some ⟨b,0,none⟩),.int .i64 fd] (RwP b w::L) (fun _:Unit=>.tuple #[.int .i64 (wireN (w.at fd)),.int .i64 (fdErr (w.at fd))]) (fun _:Unit=>RwP b w::L):=by
 refine Ct.o2 Tryz.func149 ?_;intro E
 show Hd E 17 _ _ _ _
 refine sr fun _ K1=>?_
 refine yv y_as<|yv y_as<|fk [(0,_),(1,_)] K1 ?_;refine sr fun _ K2=>?_
 refine yv y_mv<|yv y_mv<|callE rfl fk117 (rat_ct _ b w hw fd) sq ?_;intro _;refine yv y_mv<|yv y_ex<|yv y_ex<|yv y_as<|yv y_as<|fk [(6,_)] K2 ?_;refine Hd.seq fun _ K3=>?_
 refine sr fun _ K4=>?_
 refine yv y_mv<|yv (y_lss rfl rfl) ?_;refine fk [(6,_),(15,_)] K4 ?_;refine qz ?_ ?_<;>intro hc0<;>try simp only [hyZ] at hc0
 ·refine sr fun _ K5=>?_
  refine yv y_as<|yv y_as<|fk [(4,_),(5,_)] K5 ?_;refine Hd.ret<|Hd.thenRet ?_
  have hno:=atN_no hc0
  rw [hno];exact Hd.ret2 rfl () rfl rfl rfl sq
 refine qv K3<|sr fun _ K6=>?_
 refine yv y_mv<|yv y_as<|yv y_as<|fk [(4,_),(5,_)] K6 ?_;refine Hd.ret ?_
 obtain ⟨n,k,hnk⟩:=atN_yes (by omega)
 rw [hnk];exact Hd.ret2 rfl () rfl rfl rfl sq
theorem rPut_ct (L:List SP) (b:Nat) (w:WA) (hw:WOk w) (n:Int) (ad:Option Addr) (m c:Nat) (bs:List UInt8) (hm:bs.length=m) (hR:RdS L 1 ad m (bsl bs)) (hml:m≤70368744177664) (hmc:m≤c):Ct Tryz.prog 127 #[.pointer (some ⟨b,0,none⟩),.int .i64 n,.slice ad m c] (RwP b w::L) (fun _:Unit=>.tuple #[.int .i64 (putR w n bs).1.1,.int .i64 (putR w n bs).1.2]) (fun _:Unit=>RwP b (putR w n bs).2::L):=by
 refine Ct.o3 Tryz.func127 ?_;intro E
 show Hd E 49 _ _ _ _
 refine sr fun _ K1=>?_
 refine yv y_as<|yv y_as<|fk [(0,_),(1,_),(2,_)] K1 ?_;refine sr fun _ K2=>?_
 refine yv y_mv<|yv y_mv<|callE rfl fk201 (router_ct _ b w n) sq ?_;intro _;refine yv y_as<|fk [(0,_),(1,_),(2,_),(8,_)] K2 ?_;refine Hd.seq fun _ K3=>?_
 refine sr fun _ K4=>?_
 refine yv y_mv<|yv (y_not rfl)<|fk [(0,_),(1,_),(2,_),(13,_)] K4 ?_;refine qz ?_ ?_<;>intro hc0<;>try simp only [hyZ] at hc0
 ·refine sr fun _ K5=>?_
  refine yv y_as<|yv y_as<|fk [(6,_),(7,_)] K5 ?_;refine Hd.ret<|Hd.thenRet ?_
  have hno:outW w n=none:=by cases h:outW w n with | none=>rfl | some y=>rw [h] at hc0;simp at hc0
  rw [show putR w n bs=((0,116),w) by unfold putR;rw [hno]];exact Hd.ret2 rfl () rfl rfl rfl sq
 obtain ⟨x,ho⟩:∃ x,outW w n=some x:=by cases h:outW w n with | none=>rw [h] at hc0;simp at hc0 | some y=>exact ⟨y,rfl⟩
 obtain ⟨h0,hx,_⟩:=outW_some ho
 obtain ⟨k,rfl⟩:∃ k:Nat,n=(k:Int):=⟨n.toNat,by omega⟩
 rw [Int.toNat_natCast] at hx
 have hwf:=hw.wf x (List.mem_of_getElem? hx)
 refine Hd.rw .here (fun i hi=>?_)
 have hrl:=rows_n hi
 obtain ⟨j,hrow⟩:=row_at hi hx
 have hn:k < i.1.length:=(List.getElem?_eq_some_iff.1 hrow).1
 refine qv K3<|Hd.seq fun _ K6=>?_
 refine sr fun _ K7=>?_
 refine yv y_mv<|yv y_np<|yv (y_f 0 98 Tryz.underlying102 sz98)<|yv (y_l1 ag98 rfl)<|yv y_mv<|yv (y_idxR Tryz.underlying98 sz204 rfl rfl (by omega) (by exact RdS.own pkk)) ?_;refine yv (y_fR 17 4 Tryz.underlying204 sz4) ?_;refine yv (y_rw ag4 rfl hrow 17 rfl) ?_;refine fk [(0,_),(1,_),(2,_),(21,_)] K7 ?_;refine qz ?_ ?_<;>intro hc1<;>try simp only [hyZ] at hc1
 ·refine sr fun _ K8=>?_
  refine yv y_as<|yv y_as<|fk [(6,_),(7,_)] K8 ?_;refine Hd.ret<|Hd.thenRet ?_;rw [show putR w (k:Int) bs=((0,115),w) by unfold putR;rw [ho];exact if_pos hc1];exact Hd.ret2 rfl () rfl rfl rfl (rw_fold hi)
 refine qv K6<|Hd.seq fun _ K9=>?_
 refine sr fun _ K10=>?_
 refine yv y_mv<|yv y_np<|yv (y_f 0 98 Tryz.underlying102 sz98)<|yv (y_l1 ag98 rfl)<|yv y_mv<|yv (y_idxR Tryz.underlying98 sz204 rfl rfl (by omega) (by exact RdS.own pkk)) ?_;refine yv (y_fR 0 202 Tryz.underlying204 sz202) ?_;refine yv (y_idxAR Tryz.underlying202 sz201 rfl rfl (by decide)) ?_;refine yv (y_f 5 4 Tryz.underlying201 sz4)<|yv (y_rc (o:=k * 20 + 0 + 1 * 8 + 5) ag4 rfl hrow (show 1 < 2 from Nat.lt_succ_self 1) 5 rfl) ?_;refine yv y_mv ?_;apply Hd.org 12 32 44 [(0,_),(1,_),(2,_)] rfl sbq
 ·intro hg6_32
  try simp only [hyZ] at hg6_32
  simp only [List.take];refine n1<|n1<|n1<|n1<|n1<|n1<|n1<|n1<|n1<|n1<|n1<|yv (y_pickT rfl rfl) ?_;exact Hd.mn
 ·intro hg6_32
  try simp only [hyZ] at hg6_32
  simp only [List.take];refine y2 y_mv<|y2 y_np<|y2 (y_f 0 98 Tryz.underlying102 sz98)<|y2 (y_l1 ag98 rfl)<|y2 y_mv<|y2 (y_idxR Tryz.underlying98 sz204 rfl rfl (by omega) (by exact RdS.own pkk)) ?_;refine y2 (y_fR 0 202 Tryz.underlying204 sz202) ?_;refine y2 (y_idxAR Tryz.underlying202 sz201 rfl rfl (by decide)) ?_;refine y2 (y_fR 0 3 Tryz.underlying201 sz3) ?_;refine y2 (y_rc (o:=k * 20 + 0 + 0 * 8 + 0) ag3 rfl hrow (show 0 < 2 from Nat.succ_pos 1) 0 rfl) ?_;refine y2 (y_eql rfl rfl) ?_;refine yv (y_pickF rfl rfl) ?_;exact Hd.mn
 simp only [List.drop];refine fk [(0,_),(1,_),(2,_),(44,_)] K10 ?_;refine qz ?_ ?_<;>intro hc2<;>try simp only [hyZ] at hc2
 ·have h2:(x.e 1).shut=true∨(x.e 0).what=3:=by simpa using hc2
  refine sr fun _ K11=>?_
  refine yv y_as<|yv y_as<|fk [(6,_),(7,_)] K11 ?_;refine Hd.ret<|Hd.thenRet ?_;rw [show putR w (k:Int) bs=((0,114),w) by unfold putR;rw [ho];dsimp only;rw [if_neg (by rw [hc1];decide),if_pos h2]];exact Hd.ret2 rfl () rfl rfl rfl (rw_fold hi)
 have h2:¬ ((x.e 1).shut=true∨(x.e 0).what=3):=by
  rintro (h | h)<;>simp [h] at hc2
 refine qv K9<|sr fun _ K12=>?_
 refine yv y_mv<|yv y_mv<|yv y_mv<|Hd.heap (RwP b w::L) (rw_fold hi) ?_;refine callE rfl fk121 (rfill_ct L b w k x hx hwf 1 (by decide) ad m c bs hm hR hml hmc) sq ?_;intro _;refine yv y_as<|yv y_as<|fk [(6,_),(7,_)] K12 ?_;refine Hd.ret ?_;rw [show putR w (k:Int) bs=((((putN x 1 bs:Nat):Int),0),w.setW k (putW x 1 bs)) by unfold putR;rw [ho];dsimp only;rw [if_neg (by rw [hc1];decide),if_neg h2];rfl];exact Hd.ret2 rfl () rfl rfl rfl sq
theorem rTake_ct (L:List SP) (b:Nat) (w:WA) (n many:Int):Ct Tryz.prog 129 #[.pointer (some ⟨b,0,none⟩),.int .i64 n,.int .i64 many] (RwP b w::L) (fun q_:Option Addr×Nat=>.tuple #[.slice q_.1 (takR w n many).1.1.length q_.2,.int .i64 (takR w n many).1.2]) (fun q_:Option Addr×Nat=>own 5 1 q_.1 (takR w n many).1.1.length (takR w n many).1.1.length (bsl (takR w n many).1.1)::RwP b (takR w n many).2::L):=by
 refine Ct.o3 Tryz.func129 ?_;intro E
 show Hd E 28 _ _ _ _
 refine sr fun _ K1=>?_
 refine yv y_as<|yv y_as<|fk [(0,_),(1,_),(2,_)] K1 ?_;refine sr fun _ K2=>?_
 refine yv y_mv<|yv y_mv<|callE rfl fk201 (router_ct _ b w n) sq ?_;intro _;refine yv y_as<|fk [(0,_),(1,_),(2,_),(8,_)] K2 ?_;refine Hd.seq fun _ K3=>?_
 refine sr fun _ K4=>?_
 refine yv y_mv<|yv (y_not rfl)<|fk [(0,_),(1,_),(2,_),(13,_)] K4 ?_;refine qz ?_ ?_<;>intro hc0<;>try simp only [hyZ] at hc0
 ·refine sr fun _ K5=>?_
  refine yv y_as<|yv y_as<|fk [(6,_),(7,_)] K5 ?_;refine Hd.ret<|Hd.thenRet ?_
  have hno:outW w n=none:=by cases h:outW w n with | none=>rfl | some y=>rw [h] at hc0;simp at hc0
  rw [show takR w n many=(([],116),w) by unfold takR;rw [hno]];exact Hd.ret2 rfl (none,0) rfl rfl rfl (Ent.sep (.ownNil .same))
 obtain ⟨x,ho⟩:∃ x,outW w n=some x:=by cases h:outW w n with | none=>rw [h] at hc0;simp at hc0 | some y=>exact ⟨y,rfl⟩
 obtain ⟨h0,hx,_⟩:=outW_some ho
 obtain ⟨k,rfl⟩:∃ k:Nat,n=(k:Int):=⟨n.toNat,by omega⟩
 rw [Int.toNat_natCast] at hx;refine qv K3<|Hd.seq fun _ K6=>?_
 refine sr fun _ K7=>?_
 refine yv y_mv<|yv (y_lss rfl rfl) ?_;refine fk [(0,_),(1,_),(2,_),(15,_)] K7 ?_;refine qz ?_ ?_<;>intro hc1<;>try simp only [hyZ] at hc1
 ·refine sr fun _ K8=>?_
  refine yv y_as<|yv y_as<|fk [(6,_),(7,_)] K8 ?_;refine Hd.ret<|Hd.thenRet ?_;rw [show takR w (k:Int) many=(([],2),w) by unfold takR;rw [ho];exact if_pos hc1];exact Hd.ret2 rfl (none,0) rfl rfl rfl (Ent.sep (.ownNil .same))
 refine Hd.rw .here (fun i hi=>?_)
 have hrl:=rows_n hi
 obtain ⟨j,hrow⟩:=row_at hi hx
 have hn:k < i.1.length:=(List.getElem?_eq_some_iff.1 hrow).1
 refine qv K6<|Hd.seq fun _ K9=>?_
 refine sr fun _ K10=>?_
 refine yv y_mv<|yv y_np<|yv (y_f 0 98 Tryz.underlying102 sz98)<|yv (y_l1 ag98 rfl)<|yv y_mv<|yv (y_idxR Tryz.underlying98 sz204 rfl rfl (by omega) (by exact RdS.own pkk)) ?_;refine yv (y_fR 17 4 Tryz.underlying204 sz4) ?_;refine yv (y_rw ag4 rfl hrow 17 rfl) ?_;refine fk [(0,_),(1,_),(2,_),(23,_)] K10 ?_;refine qz ?_ ?_<;>intro hc2<;>try simp only [hyZ] at hc2
 ·refine sr fun _ K11=>?_
  refine yv y_as<|yv y_as<|fk [(6,_),(7,_)] K11 ?_;refine Hd.ret<|Hd.thenRet ?_;rw [show takR w (k:Int) many=(([],115),w) by unfold takR;rw [ho];dsimp only;rw [if_neg (by omega),if_pos hc2]];exact Hd.ret2 rfl (none,0) rfl rfl rfl (fun q s=>Ent.sep (.ownNil .same) q (rw_fold hi q s))
 refine qv K9<|sr fun _ K12=>?_
 refine yv y_mv<|yv y_mv<|yv y_mv<|Hd.heap (RwP b w::L) (rw_fold hi) ?_;refine callE rfl fk120 (rget_ct _ b w k x hx 1 (by decide) many (by omega)) sq ?_;rintro ⟨ad,c⟩;dsimp only;refine yv y_as<|yv y_as<|fk [(6,_),(7,_)] K12 ?_;refine Hd.ret ?_;rw [show takR w (k:Int) many=(((x.e 1).b.take many.toNat,0),w.setW k (takeW x 1 many.toNat)) by unfold takR;rw [ho];dsimp only;rw [if_neg (by omega),if_neg (by rw [hc2];decide)];rfl];exact Hd.ret2 rfl (ad,c) rfl rfl rfl sq
theorem rRead_ct (L:List SP) (b:Nat) (w:WA) (hw:WOk w) (fd many:Int):Ct Tryz.prog 55 #[.pointer (some ⟨b,0,none⟩),.int .i64 fd,.int .i64 many] (RwP b w::L) (fun q_:Option Addr×Nat=>.tuple #[.slice q_.1 (readR w fd many).1.1.length q_.2,.bool (readR w fd many).1.2.1,.int .i64 (readR w fd many).1.2.2]) (fun q_:Option Addr×Nat=>own 5 1 q_.1 (readR w fd many).1.1.length (readR w fd many).1.1.length (bsl (readR w fd many).1.1)::RwP b (readR w fd many).2::L):=by
 refine Ct.o3 Tryz.func55 ?_;intro E
 show Hd E 86 _ _ _ _
 refine sr fun _ K1=>?_
 refine yv y_as<|yv y_as<|yv y_as<|fk [(0,_),(1,_),(2,_)] K1 ?_;refine sr fun _ K2=>?_
 refine yv y_mv<|yv y_mv<|callE rfl fk117 (rat_ct _ b w hw fd) sq ?_;intro _;refine yv y_mv<|yv y_ex<|yv y_ex<|yv y_as<|yv y_as<|fk [(0,_),(2,_),(9,_),(10,_)] K2 ?_;refine Hd.seq fun _ K3=>?_
 refine sr fun _ K4=>?_
 refine yv y_mv<|yv (y_lss rfl rfl) ?_;refine fk [(0,_),(2,_),(9,_),(10,_),(18,_)] K4 ?_;refine qz ?_ ?_<;>intro hc0<;>try simp only [hyZ] at hc0
 ·have hno:=atN_no hc0
  refine sr fun _ K5=>?_
  refine yv y_as<|yv y_as<|yv y_as<|fk [(6,_),(7,_),(8,_)] K5 ?_;refine Hd.ret<|Hd.thenRet ?_;rw [show readR w fd many=(([],false,110),w) by unfold readR;rw [hno]];exact Hd.ret3 rfl (none,0) rfl rfl rfl rfl (Ent.sep (.ownNil .same))
 obtain ⟨n,k,hnk⟩:=atN_yes (by omega)
 obtain ⟨_,_,hk,_,x,hx,_,_⟩:=hw.at_lt hnk
 rw [show atN (w.at fd)=(n:Int) by rw [hnk];rfl,show atK (w.at fd)=(k:Int) by rw [hnk];rfl]
 have hk1:1 - k < 2:=by omega
 refine Hd.rw .here (fun i hi=>?_)
 have hrl:=rows_n hi
 obtain ⟨j,hrow⟩:=row_at hi hx
 have hn:n < i.1.length:=(List.getElem?_eq_some_iff.1 hrow).1
 have hr:readR w fd many=(if (x.e k).rd=false then (([],false,111),w) else if many < 1 then (([],false,2),w) else if x.rs=true then (([],false,115),w)
   else if (x.e k).b≠[] then (((x.e k).b.take many.toNat,false,0),w.setW n (takeW x k many.toNat))
   else if silentW x k=true then (([],true,0),w) else (([],false,113),w)):=by unfold readR;rw [hnk];dsimp only;rw [hx]
 refine qv K3<|Hd.seq fun _ K6=>?_
 refine sr fun _ K7=>?_
 refine yv y_mv<|yv y_np<|yv (y_f 0 98 Tryz.underlying102 sz98)<|yv (y_l1 ag98 rfl)<|yv y_mv<|yv y_mv<|yv (y_idxR Tryz.underlying98 sz204 rfl rfl (by omega) (by exact RdS.own pkk)) ?_;refine yv (y_fR 0 202 Tryz.underlying204 sz202) ?_;refine yv (y_idxAR Tryz.underlying202 sz201 rfl rfl (by omega)) ?_;refine yv (y_fR 2 4 Tryz.underlying201 sz4) ?_;refine yv (y_rc ag4 rfl hrow hk 2 rfl) ?_;refine yv (y_not rfl)<|fk [(0,_),(2,_),(9,_),(10,_),(30,_)] K7 ?_;refine qz ?_ ?_<;>intro hc1<;>try simp only [hyZ] at hc1
 ·have h1:(x.e k).rd=false:=by simpa using hc1
  refine sr fun _ K8=>?_
  refine yv y_as<|yv y_as<|yv y_as<|fk [(6,_),(7,_),(8,_)] K8 ?_;refine Hd.ret<|Hd.thenRet ?_;rw [hr,if_pos h1];exact Hd.ret3 rfl (none,0) rfl rfl rfl rfl (fun q s=>Ent.sep (.ownNil .same) q (rw_fold hi q s))
 have h1:¬ ((x.e k).rd=false):=by simpa using hc1
 refine qv K6<|Hd.seq fun _ K9=>?_
 refine sr fun _ K10=>?_
 refine yv y_mv<|yv (y_lss rfl rfl) ?_;refine fk [(0,_),(2,_),(9,_),(10,_),(32,_)] K10 ?_;refine qz ?_ ?_<;>intro hc2<;>try simp only [hyZ] at hc2
 ·refine sr fun _ K11=>?_
  refine yv y_as<|yv y_as<|yv y_as<|fk [(6,_),(7,_),(8,_)] K11 ?_;refine Hd.ret<|Hd.thenRet ?_;rw [hr,if_neg h1,if_pos hc2];exact Hd.ret3 rfl (none,0) rfl rfl rfl rfl (fun q s=>Ent.sep (.ownNil .same) q (rw_fold hi q s))
 have h2:¬ (many < 1):=by omega
 refine qv K9<|Hd.seq fun _ K12=>?_
 refine sr fun _ K13=>?_
 refine yv y_mv<|yv y_np<|yv (y_f 0 98 Tryz.underlying102 sz98)<|yv (y_l1 ag98 rfl)<|yv y_mv<|yv (y_idxR Tryz.underlying98 sz204 rfl rfl (by omega) (by exact RdS.own pkk)) ?_;refine yv (y_fR 17 4 Tryz.underlying204 sz4) ?_;refine yv (y_rw ag4 rfl hrow 17 rfl) ?_;refine fk [(0,_),(2,_),(9,_),(10,_),(40,_)] K13 ?_;refine qz ?_ ?_<;>intro hc3<;>try simp only [hyZ] at hc3
 ·refine sr fun _ K14=>?_
  refine yv y_as<|yv y_as<|yv y_as<|fk [(6,_),(7,_),(8,_)] K14 ?_;refine Hd.ret<|Hd.thenRet ?_;rw [hr,if_neg h1,if_neg h2,if_pos hc3];exact Hd.ret3 rfl (none,0) rfl rfl rfl rfl (fun q s=>Ent.sep (.ownNil .same) q (rw_fold hi q s))
 have h3:¬ (x.rs=true):=by rw [hc3];decide
 refine qv K12<|Hd.seq fun _ K15=>?_
 refine sr fun _ K16=>?_
 refine yv y_mv<|yv y_np<|yv (y_f 0 98 Tryz.underlying102 sz98)<|yv (y_l1 ag98 rfl)<|yv y_mv<|yv y_mv<|yv (y_idxR Tryz.underlying98 sz204 rfl rfl (by omega) (by exact RdS.own pkk)) ?_;refine yv (y_fR 0 202 Tryz.underlying204 sz202) ?_;refine yv (y_idxAR Tryz.underlying202 sz201 rfl rfl (by omega)) ?_;refine yv (y_fR 4 30 Tryz.underlying201 sz30) ?_;refine yv (y_rc ag30 rfl hrow hk 4 rfl) ?_;refine yv (y_len Tryz.underlying30 rfl) ?_;refine yv (y_gtr rfl rfl) ?_;refine fk [(0,_),(2,_),(9,_),(10,_),(53,_)] K16 ?_;refine qz ?_ ?_<;>intro hc4<;>try simp only [hyZ] at hc4
 ·have h4:(x.e k).b≠[]:=fun h=>by rw [h] at hc4;simp at hc4
  refine sr fun _ K17=>?_
  refine yv y_mv<|yv y_mv<|yv y_mv<|yv y_mv<|Hd.heap (RwP b w::L) (rw_fold hi) ?_;refine callE rfl fk120 (rget_ct _ b w n x hx k hk many (by omega)) sq ?_;rintro ⟨ad,c⟩;dsimp only;refine yv y_as<|yv y_as<|yv y_as<|fk [(6,_),(7,_),(8,_)] K17 ?_;refine Hd.ret<|Hd.thenRet ?_;rw [hr,if_neg h1,if_neg h2,if_neg h3,if_pos h4];exact Hd.ret3 rfl (ad,c) rfl rfl rfl rfl sq
 have h4:¬ ((x.e k).b≠[]):=fun h=>h (List.eq_nil_of_length_eq_zero (by omega))
 refine qv K15<|Hd.seq fun _ K18=>?_
 refine sr fun _ K19=>?_
 refine yv y_mv<|yv y_np<|yv (y_f 0 98 Tryz.underlying102 sz98)<|yv (y_l1 ag98 rfl)<|yv y_mv<|yv y_mv<|yv (y_to (v':=.int .i64 ((1 - k:Nat):Int)) (y_subn rfl rfl (by simp only [InK];omega)) (by (congr 1;omega))) ?_;refine yv (y_idxR Tryz.underlying98 sz204 rfl rfl (by omega) (by exact RdS.own pkk)) ?_;refine yv (y_fR 0 202 Tryz.underlying204 sz202) ?_;refine yv (y_idxAR Tryz.underlying202 sz201 rfl rfl (by omega)) ?_;refine yv (y_fR 0 3 Tryz.underlying201 sz3) ?_;refine yv (y_rc ag3 rfl hrow hk1 0 rfl) ?_;refine yv (y_eql rfl rfl) ?_;refine yv y_mv ?_;apply Hd.org 13 72 85 [] rfl sbq
 ·intro hg12_72
  try simp only [hyZ] at hg12_72
  simp only [List.take];refine n1<|n1<|n1<|n1<|n1<|n1<|n1<|n1<|n1<|n1<|n1<|n1<|yv (y_pickT rfl rfl) ?_;exact Hd.mn
 ·intro hg12_72
  try simp only [hyZ] at hg12_72
  simp only [List.take];refine y2 y_mv<|y2 y_np<|y2 (y_f 0 98 Tryz.underlying102 sz98)<|y2 (y_l1 ag98 rfl)<|y2 y_mv<|y2 y_mv<|y2 (y_to (v':=.int .i64 ((1 - k:Nat):Int)) (y_subn rfl rfl (by simp only [InK];omega)) (by (congr 1;omega))) ?_;refine y2 (y_idxR Tryz.underlying98 sz204 rfl rfl (by omega) (by exact RdS.own pkk)) ?_;refine y2 (y_fR 0 202 Tryz.underlying204 sz202) ?_;refine y2 (y_idxAR Tryz.underlying202 sz201 rfl rfl (by omega)) ?_;refine y2 (y_fR 5 4 Tryz.underlying201 sz4) ?_;refine y2 (y_rc ag4 rfl hrow hk1 5 rfl) ?_;refine yv (y_pickF rfl rfl) ?_;exact Hd.mn
 simp only [List.drop];refine fk [(85,_)] K19 ?_;refine qz ?_ ?_<;>intro hc5<;>try simp only [hyZ] at hc5
 ·have h5:silentW x k=true:=by unfold silentW;simpa using hc5
  refine sr fun _ K20=>?_
  refine yv y_as<|yv y_as<|yv y_as<|fk [(6,_),(7,_),(8,_)] K20 ?_;refine Hd.ret<|Hd.thenRet ?_;rw [hr,if_neg h1,if_neg h2,if_neg h3,if_neg h4,if_pos h5];exact Hd.ret3 rfl (none,0) rfl rfl rfl rfl (fun q s=>Ent.sep (.ownNil .same) q (rw_fold hi q s))
 have h5:¬ (silentW x k=true):=by unfold silentW;simp [hc5.1,hc5.2]
 refine qv K18<|sr fun _ K21=>?_
 refine yv y_as<|yv y_as<|yv y_as<|fk [(6,_),(7,_),(8,_)] K21 ?_;refine Hd.ret ?_;rw [hr,if_neg h1,if_neg h2,if_neg h3,if_neg h4,if_neg h5];exact Hd.ret3 rfl (none,0) rfl rfl rfl rfl (fun q s=>Ent.sep (.ownNil .same) q (rw_fold hi q s))
theorem rWrite_ct (L:List SP) (b:Nat) (w:WA) (hw:WOk w) (fd:Int) (ad:Option Addr) (m c:Nat) (bs:List UInt8) (hm:bs.length=m) (hR:RdS L 1 ad m (bsl bs)) (hml:m≤70368744177664) (hmc:m≤c):Ct Tryz.prog 56 #[.pointer (some ⟨b,0,none⟩),.int .i64 fd,.slice ad m c] (RwP b w::L) (fun _:Unit=>.tuple #[.int .i64 (writeR w fd bs).1.1,.int .i64 (writeR w fd bs).1.2]) (fun _:Unit=>RwP b (writeR w fd bs).2::L):=by
 refine Ct.o3 Tryz.func56 ?_;intro E
 show Hd E 76 _ _ _ _
 refine sr fun _ K1=>?_
 refine yv y_as<|yv y_as<|fk [(0,_),(1,_),(2,_)] K1 ?_;refine sr fun _ K2=>?_
 refine yv y_mv<|yv y_mv<|callE rfl fk117 (rat_ct _ b w hw fd) sq ?_;intro _;refine yv y_mv<|yv y_ex<|yv y_ex<|yv y_as<|yv y_as<|fk [(0,_),(2,_),(8,_),(9,_)] K2 ?_;refine Hd.seq fun _ K3=>?_
 refine sr fun _ K4=>?_
 refine yv y_mv<|yv (y_lss rfl rfl) ?_;refine fk [(0,_),(2,_),(8,_),(9,_),(18,_)] K4 ?_;refine qz ?_ ?_<;>intro hc0<;>try simp only [hyZ] at hc0
 ·have hno:=atN_no hc0
  refine sr fun _ K5=>?_
  refine yv y_as<|yv y_as<|fk [(6,_),(7,_)] K5 ?_;refine Hd.ret<|Hd.thenRet ?_;rw [show writeR w fd bs=((0,110),w) by unfold writeR;rw [hno]];exact Hd.ret2 rfl () rfl rfl rfl sq
 obtain ⟨n,k,hnk⟩:=atN_yes (by omega)
 obtain ⟨_,_,hk,_,x,hx,_,_⟩:=hw.at_lt hnk
 have hwf:=hw.wf x (List.mem_of_getElem? hx)
 rw [show atN (w.at fd)=(n:Int) by rw [hnk];rfl,show atK (w.at fd)=(k:Int) by rw [hnk];rfl]
 have hk1:1 - k < 2:=by omega
 refine Hd.rw .here (fun i hi=>?_)
 have hrl:=rows_n hi
 obtain ⟨j,hrow⟩:=row_at hi hx
 have hn:n < i.1.length:=(List.getElem?_eq_some_iff.1 hrow).1
 have hr:writeR w fd bs=(if (x.e k).wr=false then ((0,111),w) else if x.rs=true then ((0,115),w) else if (x.e k).shut=true∨(x.e (1 - k)).what=3 then ((0,114),w)
   else if bs.length=0 then ((0,0),w) else if putN x k bs=0 then ((0,113),w) else ((((putN x k bs:Nat):Int),0),w.setW n (putW x k bs))):=by unfold writeR;rw [hnk];dsimp only;rw [hx]
 refine qv K3<|Hd.seq fun _ K6=>?_
 refine sr fun _ K7=>?_
 refine yv y_mv<|yv y_np<|yv (y_f 0 98 Tryz.underlying102 sz98)<|yv (y_l1 ag98 rfl)<|yv y_mv<|yv y_mv<|yv (y_idxR Tryz.underlying98 sz204 rfl rfl (by omega) (by exact RdS.own pkk)) ?_;refine yv (y_fR 0 202 Tryz.underlying204 sz202) ?_;refine yv (y_idxAR Tryz.underlying202 sz201 rfl rfl (by omega)) ?_;refine yv (y_fR 3 4 Tryz.underlying201 sz4) ?_;refine yv (y_rc ag4 rfl hrow hk 3 rfl) ?_;refine yv (y_not rfl)<|fk [(0,_),(2,_),(8,_),(9,_),(30,_)] K7 ?_;refine qz ?_ ?_<;>intro hc1<;>try simp only [hyZ] at hc1
 ·have h1:(x.e k).wr=false:=by simpa using hc1
  refine sr fun _ K8=>?_
  refine yv y_as<|yv y_as<|fk [(6,_),(7,_)] K8 ?_;refine Hd.ret<|Hd.thenRet ?_;rw [hr,if_pos h1];exact Hd.ret2 rfl () rfl rfl rfl (rw_fold hi)
 have h1:¬ ((x.e k).wr=false):=by simpa using hc1
 refine qv K6<|Hd.seq fun _ K9=>?_
 refine sr fun _ K10=>?_
 refine yv y_mv<|yv y_np<|yv (y_f 0 98 Tryz.underlying102 sz98)<|yv (y_l1 ag98 rfl)<|yv y_mv<|yv (y_idxR Tryz.underlying98 sz204 rfl rfl (by omega) (by exact RdS.own pkk)) ?_;refine yv (y_fR 17 4 Tryz.underlying204 sz4) ?_;refine yv (y_rw ag4 rfl hrow 17 rfl) ?_;refine fk [(0,_),(2,_),(8,_),(9,_),(38,_)] K10 ?_;refine qz ?_ ?_<;>intro hc2<;>try simp only [hyZ] at hc2
 ·refine sr fun _ K11=>?_
  refine yv y_as<|yv y_as<|fk [(6,_),(7,_)] K11 ?_;refine Hd.ret<|Hd.thenRet ?_;rw [hr,if_neg h1,if_pos hc2];exact Hd.ret2 rfl () rfl rfl rfl (rw_fold hi)
 have h2:¬ (x.rs=true):=by rw [hc2];decide
 refine qv K9<|Hd.seq fun _ K12=>?_
 refine sr fun _ K13=>?_
 refine yv y_mv<|yv y_np<|yv (y_f 0 98 Tryz.underlying102 sz98)<|yv (y_l1 ag98 rfl)<|yv y_mv<|yv y_mv<|yv (y_idxR Tryz.underlying98 sz204 rfl rfl (by omega) (by exact RdS.own pkk)) ?_;refine yv (y_fR 0 202 Tryz.underlying204 sz202) ?_;refine yv (y_idxAR Tryz.underlying202 sz201 rfl rfl (by omega)) ?_;refine yv (y_fR 5 4 Tryz.underlying201 sz4) ?_;refine yv (y_rc ag4 rfl hrow hk 5 rfl) ?_;refine yv y_mv ?_;apply Hd.org 14 50 64 [(0,_),(2,_),(8,_),(9,_)] rfl sbq
 ·intro hg8_50
  try simp only [hyZ] at hg8_50
  simp only [List.take];refine n1<|n1<|n1<|n1<|n1<|n1<|n1<|n1<|n1<|n1<|n1<|n1<|n1<|yv (y_pickT rfl rfl) ?_;exact Hd.mn
 ·intro hg8_50
  try simp only [hyZ] at hg8_50
  simp only [List.take];refine y2 y_mv<|y2 y_np<|y2 (y_f 0 98 Tryz.underlying102 sz98)<|y2 (y_l1 ag98 rfl)<|y2 y_mv<|y2 y_mv<|y2 (y_to (v':=.int .i64 ((1 - k:Nat):Int)) (y_subn rfl rfl (by simp only [InK];omega)) (by (congr 1;omega))) ?_;refine y2 (y_idxR Tryz.underlying98 sz204 rfl rfl (by omega) (by exact RdS.own pkk)) ?_;refine y2 (y_fR 0 202 Tryz.underlying204 sz202) ?_;refine y2 (y_idxAR Tryz.underlying202 sz201 rfl rfl (by omega)) ?_;refine y2 (y_fR 0 3 Tryz.underlying201 sz3) ?_;refine y2 (y_rc ag3 rfl hrow hk1 0 rfl) ?_;refine y2 (y_eql rfl rfl) ?_;refine yv (y_pickF rfl rfl) ?_;exact Hd.mn
 simp only [List.drop];refine fk [(0,_),(2,_),(8,_),(9,_),(64,_)] K13 ?_;refine qz ?_ ?_<;>intro hc3<;>try simp only [hyZ] at hc3
 ·have h3:(x.e k).shut=true∨(x.e (1 - k)).what=3:=by simpa using hc3
  refine sr fun _ K14=>?_
  refine yv y_as<|yv y_as<|fk [(6,_),(7,_)] K14 ?_;refine Hd.ret<|Hd.thenRet ?_;rw [hr,if_neg h1,if_neg h2,if_pos h3];exact Hd.ret2 rfl () rfl rfl rfl (rw_fold hi)
 have h3:¬ ((x.e k).shut=true∨(x.e (1 - k)).what=3):=by
  rintro (h | h)<;>simp [h] at hc3
 refine qv K12<|Hd.seq fun _ K15=>?_
 refine sr fun _ K16=>?_
 refine yv y_mv<|yv (y_len Tryz.underlying30 rfl) ?_;refine yv (y_eql rfl rfl) ?_;refine fk [(0,_),(2,_),(8,_),(9,_),(67,_)] K16 ?_;refine qz ?_ ?_<;>intro hc4<;>try simp only [hyZ] at hc4
 ·have h4:bs.length=0:=by omega
  refine sr fun _ K17=>?_
  refine yv y_as<|yv y_as<|fk [(6,_),(7,_)] K17 ?_;refine Hd.ret<|Hd.thenRet ?_;rw [hr,if_neg h1,if_neg h2,if_neg h3,if_pos h4];exact Hd.ret2 rfl () rfl rfl rfl (rw_fold hi)
 have h4:¬ (bs.length=0):=by omega
 refine qv K15<|sr fun _ K18=>?_
 refine yv y_mv<|yv y_mv<|yv y_mv<|yv y_mv<|Hd.heap (RwP b w::L) (rw_fold hi) ?_;refine callE rfl fk121 (rfill_ct L b w n x hx hwf k hk ad m c bs hm hR hml hmc) sq ?_;intro _;refine yv y_as<|fk [(10,_)] K18 ?_;refine Hd.seq fun _ K19=>?_
 refine sr fun _ K20=>?_
 refine yv y_mv<|yv (y_eql rfl rfl) ?_;refine fk [(10,_),(74,_)] K20 ?_;refine qz ?_ ?_<;>intro hc5<;>try simp only [hyZ] at hc5
 ·have h5:putN x k bs=0:=by omega
  refine sr fun _ K21=>?_
  refine yv y_as<|yv y_as<|fk [(6,_),(7,_)] K21 ?_;refine Hd.ret<|Hd.thenRet ?_;rw [hr,if_neg h1,if_neg h2,if_neg h3,if_neg h4,if_pos h5];exact Hd.ret2 rfl () rfl rfl rfl (Ent.sep (.eq pkk (by rw [putW_zero h5,setW_same hx]) enn))
 have h5:¬ (putN x k bs=0):=by omega
 refine qv K19<|sr fun _ K22=>?_
 refine yv y_mv<|yv y_as<|yv y_as<|fk [(6,_),(7,_)] K22 ?_;refine Hd.ret ?_;rw [hr,if_neg h1,if_neg h2,if_neg h3,if_neg h4,if_neg h5];exact Hd.ret2 rfl () rfl rfl rfl sq
end Rf
end Go.Proofs.YtmpemhbfgbochaaGreatDoor
namespace Go.Proofs.YtmpemhbfgbochaaGreatDoor
open Go.RX Fx
namespace Wo
def mkN (w:WA) (k:Nat):Int:=if mkE w k=0 then (w.ws.length:Int) else 0
theorem mkW_len {w:WA} {k:Nat} {x:WireA} (h:mkE w k=0):(mkW w k x).ws.length=w.ws.length + 1:=by
 unfold mkE at h;unfold mkW
 by_cases h1:mkOk w k=true
 ·rw [if_pos h1]
  show (w.ws++[_]).length=_
  rw [List.length_append];rfl
 ·rw [if_neg h1] at h;exact absurd h (by decide)
theorem outer_mk (L:List SP) (wb:Nat) (w:WA) (n:Nat) (h1:1≤n) (h2:n≤65536):Ct Tryz.prog 48 #[.pointer (some ⟨wb,0,none⟩),.int .i64 (n:Int)] (WorldP wb w::L) (fun _:Unit=>.tuple #[.int .i64 (mkI w 1 0),.int .i64 (mkN w 1),.int .i64 (mkE w 1)]) (fun _:Unit=>WorldP wb (mkW w 1 (connW n))::L):=by
 refine Ct.o2 Tryz.func48 ?_;intro E
 show Hd E 35 _ _ _ _
 refine sr fun _ K1=>?_
 refine yv y_as<|yv y_as<|yv y_as<|fk [(0,_),(1,_)] K1 ?_;refine sr fun _ K2=>?_
 refine yv y_mv<|callE rfl fk111 (both_ct _ n h1 h2) sq ?_;intro b;refine yv y_as<|fk [(0,_),(1,_),(7,_)] K2 ?_;refine Hd.seq fun _ K3=>?_
 refine Hd.wire pkk 1 (by omega) (fun i hi=>?_);refine Hd.region<|yv y_mv<|yv y_np<|yv (y_f 0 196 Tryz.underlying198 sz196)<|yv (y_idxA Tryz.underlying196 sz195 rfl rfl (by decide)) ?_;refine yv (y_f 0 3 Tryz.underlying195 sz3)<|Hd.store1 sz3 rfl rfl rfl pkk (by simp;done) ?_
 try simp only [hyS]
 refine Hd.nil ?_;rw [show (encW (halfW n 2) i).set (0 + 0 + 1 * 7 + 0) (.int .i64 2)=encW (connW n) i from rfl];refine Hd.heap (WireP b (connW n)::WorldP wb w::L) (fun q s=>wire_close (x:=halfW n 2) (f:=fun e=>{ e with what:=2 }) (k:=1) (k':=1) hi (by omega) (fun _=>rfl) (fun _=>rfl) q (Ent.sep enn q s)) ?_;refine sk [(0,_),(1,_),(7,_)] K3 ?_;refine sr fun _ K4=>?_
 refine yv y_mv<|yv y_mv<|yv y_mv<|callE rfl fk110 (make_ct _ wb b w n h1 h2 1 (by omega) (connW n) (conn_new h2)) sq ?_;rintro ⟨ad,c⟩;dsimp only;refine yv y_mv<|yv (y_to (v':=.slice ad (mkF w 1).length c) y_ex (by rfl)) ?_;refine yv (y_to (v':=.int .i64 (mkE w 1)) y_ex (by rfl)) ?_;refine yv y_as<|yv y_as<|fk [(0,_),(6,_),(8,_)] K4 ?_;refine Hd.seq fun _ K5=>?_
 refine sr fun _ K6=>?_
 refine yv y_mv<|yv (y_neq rfl rfl) ?_;refine fk [(0,_),(6,_),(8,_),(24,_)] K6 ?_;refine qz ?_ ?_<;>intro hc0<;>try simp only [hyZ] at hc0
 ·refine sr fun _ K7=>?_
  refine yv y_mv<|yv y_as<|yv y_as<|yv y_as<|fk [(4,_),(5,_),(6,_)] K7 ?_;refine Hd.ret<|Hd.thenRet ?_
  have h:mkF w 1=[]:=by
   rcases mkF_len (w:=w) (k:=1) with h | h
   ·exact absurd h.1 hc0
   ·exact h.2
  rw [show mkI w 1 0=0 by unfold mkI;rw [h];rfl,show mkN w 1=0 by unfold mkN;rw [if_neg hc0]];exact Hd.ret3 rfl () rfl rfl rfl rfl sq
 have hl:(mkF w 1).length=1:=by
  rcases mkF_len (w:=w) (k:=1) with h | h
  ·exact h.2
  ·rw [h.1] at hc0;exact absurd hc0 (by decide)
 have hg0:(nats (mkF w 1))[0 * 1]?=some (.int .i64 (mkI w 1 0)):=nats_at (by omega)
 have hwl:=mkW_len (x:=connW n) hc0
 refine qv K5<|Hd.seq fun _ K8=>?_
 refine Hd.world pkk (fun i hw hrs=>?_)
 have hrl:i.rs.length=w.ws.length + 1:=by rw [←hwl,←hrs,List.length_map]
 have hln:i.rs.length≤1000:=by rw [hrl,←hwl];exact hw.len
 refine Hd.quiet mixed kq ?_;refine Hq.yv y_mv ?_;refine Hq.yv (y_idxR Tryz.underlying94 sz3 rfl rfl (by exact (show (0:Nat) < _ by omega)) (by exact RdS.own pkk)) ?_;refine Hq.yv (y_loadR1 ag3 rfl (RdS.own (ad:=ad) (us:=nats (mkF w 1)) pkk) hg0) ?_;refine Hq.yv y_mv ?_;refine Hq.yv y_np ?_;refine Hq.yv (y_f 288 184 Tryz.underlying186 sz184) ?_;refine Hq.yv (y_load1 ag184 rfl (Rd.pt1 pkk (by exact woT_at (j:=0) (by omega) rfl))) ?_;refine Hq.yv (y_len Tryz.underlying184 rfl) ?_;refine Hq.yv (y_to (v':=.int .i64 (w.ws.length:Int)) (y_subn rfl rfl (by simp only [InK];omega)) (by (congr 1;omega))) ?_;refine Hq.yv y_as ?_;refine Hq.yv y_as ?_;refine Hq.yv y_as ?_;refine Hq.nil ?_;refine sk [(4,_),(5,_),(6,_)] K8 ?_;refine Hd.ret ?_;rw [show mkN w 1=(w.ws.length:Int) by unfold mkN;rw [if_pos hc0]];exact Hd.ret3 rfl () rfl rfl (by rw [hc0];rfl) rfl (Ent.sep (.ex i (.pure ⟨hw,hrs⟩ enn)))
theorem outer_bad (L:List SP) (wb:Nat) (w:WA) (n:Int) (h:n < 1∨65536 < n):Ct Tryz.prog 48 #[.pointer (some ⟨wb,0,none⟩),.int .i64 n] (WorldP wb w::L) (fun _:Unit=>.tuple #[.int .i64 0,.int .i64 0,.int .i64 2]) (fun _:Unit=>WorldP wb w::L):=by
 refine Ct.o2 Tryz.func48 ?_;intro E
 show Hd E 35 _ _ _ _
 refine sr fun _ K1=>?_
 refine yv y_as<|yv y_as<|yv y_as<|fk [(0,_),(1,_)] K1 ?_;refine sr fun _ K2=>?_
 refine yv y_mv<|callE rfl fk111 (bothbad_ct _ n h) sq ?_;rintro ⟨b,cs⟩;dsimp only;refine Hd.pure (fun hcs=>?_);refine yv y_as<|fk [(0,_),(1,_),(7,_)] K2 ?_;refine sr fun _ K3=>?_
 refine yv y_mv<|yv y_np<|yv (y_f 0 196 Tryz.underlying198 sz196)<|yv (y_idxA Tryz.underlying196 sz195 rfl rfl (by decide)) ?_;refine yv (y_f 0 3 Tryz.underlying195 sz3)<|Hd.store1 sz3 rfl rfl rfl pkk (by rw [hcs];decide) ?_
 try simp only [hyS]
 refine fk [(0,_),(1,_),(7,_)] K3 ?_;refine sr fun _ K4=>?_
 refine yv y_mv<|yv y_mv<|yv y_mv<|callE rfl fk110 (makebad_ct _ wb b w n h 1) sq ?_;intro _;refine yv y_mv<|yv (y_to (v':=.slice none 0 0) y_ex (by rfl)) ?_;refine yv (y_to (v':=.int .i64 2) y_ex (by rfl)) ?_;refine yv y_as<|yv y_as<|fk [(0,_),(6,_),(8,_)] K4 ?_;refine Hd.seq fun _ K5=>?_
 refine sr fun _ K6=>?_
 refine yv y_mv<|yv (y_neq rfl rfl) ?_;refine fk [(0,_),(6,_),(8,_),(24,_)] K6 ?_;refine qz ?_ ?_<;>intro hc0<;>try simp only [hyZ] at hc0
 ·refine sr fun _ K7=>?_
  refine yv y_mv<|yv y_as<|yv y_as<|yv y_as<|fk [(4,_),(5,_),(6,_)] K7 ?_;refine Hd.ret<|Hd.thenRet ?_;exact Hd.ret3 rfl () rfl rfl rfl rfl sq
 exact absurd hc0 (by decide)
def pipeW (n:Nat):WireA:=((halfW n 2).up 0 fun e=>{ e with wr:=false }).up 1 fun e=>{ e with rd:=false }
theorem pipe_new {n l:Nat} (h:n≤65536):NewW (pipeW n) l:=by
 have e:∀ k,k < 2→((pipeW n).e k).b=[]∧((pipeW n).e k).what=0:=fun k hk=>by
  rcases (show k=0∨k=1 by omega) with rfl | rfl<;>exact ⟨rfl,rfl⟩
 refine ⟨⟨fun k hk=>?_,fun k hk=>by rw [(e k hk).1];exact Nat.zero_le _,fun k hk _=>(e k hk).1,h,fun k hk=>by rw [(e k hk).2];decide,⟨Int.le_refl _,by show (0:Int)≤64;decide,by show ((0:Nat):Int)≤0;decide⟩,fun h1=>absurd h1 (by rw [(e 1 (by omega)).2];decide)⟩,fun k hk=>by rw [(e k hk).2];decide,rfl⟩
 rcases (show k=0∨k=1 by omega) with rfl | rfl<;>rfl
abbrev pwi (i:WI):WI:=⟨fun j=>if j=0 then i.p 0 else none,i.wa,i.wc⟩
theorem pipe_wire {b n:Nat} {i:WI} {L:List SP} (hi0:(i.p 0).isSome=true):∀ h,sep (pt b (encW (pipeW n) (pwi i)) 198::RgO (i.p 0) n []::own 3 1 i.wa 0 i.wc []::L) h→sep (WireP b (pipeW n)::L) h:=fun h s=>by
 refine Ent.sep (Ent.ex (pwi i,0) (Ent.pure ⟨⟨fun j hj=>by
  rcases (show j=0∨j=1 by omega) with rfl | rfl
  ·exact hi0
  ·rfl⟩,by omega⟩ ?_)) h s
 show Ent _ (pt b (encW (pipeW n) (pwi i)) 198::RgO (i.p 0) n []::pu True::own 3 1 i.wa 0 i.wc []::L)
 exact .pick pkk (.pick pkk (.pure trivial enn))
theorem pipe_mk (L:List SP) (wb:Nat) (w:WA) (n:Nat) (h1:1≤n) (h2:n≤65536):Ct Tryz.prog 47 #[.pointer (some ⟨wb,0,none⟩),.int .i64 (n:Int)] (WorldP wb w::L) (fun _:Unit=>.tuple #[.int .i64 (mkI w 2 0),.int .i64 (mkI w 2 1),.int .i64 (mkE w 2)]) (fun _:Unit=>WorldP wb (mkW w 2 (pipeW n))::L):=by
 refine Ct.o2 Tryz.func47 ?_;intro E
 show Hd E 37 _ _ _ _
 refine sr fun _ K1=>?_
 refine yv y_as<|yv y_as<|yv y_as<|fk [(0,_),(1,_)] K1 ?_;refine sr fun _ K2=>?_
 refine yv y_mv<|callE rfl fk111 (both_ct _ n h1 h2) sq ?_;intro b;refine yv y_as<|fk [(0,_),(1,_),(7,_)] K2 ?_;refine Hd.seq fun _ K3=>?_
 refine Hd.wire pkk 0 (by omega) (fun i hi=>?_)
 have hi0:(i.p 0).isSome=true:=hi.rd 0 (by omega)
 refine Hd.draws mixed ?_;simp only [List.length,Nat.zero_add,Nat.reduceAdd];refine Hd.take 0 rfl kq kq kq (fun _=>y_move rfl) fq ?_;refine Hd.take 1 rfl kq kq kq (fun _=>y_move rfl) fq ?_;refine Hd.take 2 rfl kq kq kq (fun _=>y_nilp rfl) fq ?_;refine Hd.take 3 rfl kq kq kq (fun _=>y_field' (q:=0) (ft:=196) Tryz.underlying198 rfl sz196 rfl rfl) fq ?_;refine Hd.take 7 rfl kq kq kq (fun _=>y_nilp rfl) fq ?_;refine Hd.take 8 rfl kq kq kq (fun _=>y_field' (q:=0) (ft:=196) Tryz.underlying198 rfl sz196 rfl rfl) fq ?_;refine Hd.tailAt 6 [4,5] [6,9,10,11] rfl rfl rfl kq ?_;simp only [pk,List.getElem?_cons_zero,List.getElem?_cons_succ];refine Ht.yv (y_idxA Tryz.underlying196 sz195 rfl rfl (by decide)) ?_;refine Ht.yv (y_f 3 4 Tryz.underlying195 sz4) ?_;refine Ht.nil ?_;refine Hd.store1 sz4 rfl rfl rfl pkk (by simp;done) ?_
 try simp only [hyS]
 refine yv (y_idxA Tryz.underlying196 sz195 rfl rfl (by decide)) ?_;refine yv (y_f 2 193 Tryz.underlying195 sz193)<|Hd.store1 sz193 rfl rfl rfl pkk (by simp;done) ?_
 try simp only [hyS]
 refine Hd.nil<|Hd.noPn ?_;refine Hd.heap (WireP b (pipeW n)::WorldP wb w::L) (fun q s=>pipe_wire hi0 q (Ent.sep (.eq pkk (pt_eq (by rfl)) (.eq pkk (show RgO (i.p 0) (halfW n 2).cap ((halfW n 2).e 0).b=RgO (i.p 0) n [] from rfl) (.eq pkk (show own 3 1 i.wa (halfW n 2).wt.length i.wc (nats (halfW n 2).wt)=own 3 1 i.wa 0 i.wc [] from rfl) enn))) q s)) ?_;refine sk [(0,_),(1,_),(7,_)] K3 ?_;refine sr fun _ K4=>?_
 refine yv y_mv<|yv y_mv<|yv y_mv<|callE rfl fk110 (make_ct _ wb b w n h1 h2 2 (by omega) (pipeW n) (pipe_new h2)) sq ?_;rintro ⟨ad,c⟩;dsimp only;refine yv y_mv<|yv (y_to (v':=.slice ad (mkF w 2).length c) y_ex (by rfl)) ?_;refine yv (y_to (v':=.int .i64 (mkE w 2)) y_ex (by rfl)) ?_;refine yv y_as<|yv y_as<|fk [(6,_),(8,_)] K4 ?_;refine Hd.seq fun _ K5=>?_
 refine sr fun _ K6=>?_
 refine yv y_mv<|yv (y_neq rfl rfl) ?_;refine fk [(6,_),(8,_),(29,_)] K6 ?_;refine qz ?_ ?_<;>intro hc0<;>try simp only [hyZ] at hc0
 ·refine sr fun _ K7=>?_
  refine yv y_mv<|yv y_as<|yv y_as<|yv y_as<|fk [(4,_),(5,_),(6,_)] K7 ?_;refine Hd.ret<|Hd.thenRet ?_
  have h:mkF w 2=[]:=by
   rcases mkF_len (w:=w) (k:=2) with h | h
   ·exact absurd h.1 hc0
   ·exact h.2
  rw [show mkI w 2 0=0 by unfold mkI;rw [h];rfl,show mkI w 2 1=0 by unfold mkI;rw [h];rfl];exact Hd.ret3 rfl () rfl rfl rfl rfl sq
 have hl:(mkF w 2).length=2:=by
  rcases mkF_len (w:=w) (k:=2) with h | h
  ·exact h.2
  ·rw [h.1] at hc0;exact absurd hc0 (by decide)
 have hg0:(nats (mkF w 2))[0 * 1]?=some (.int .i64 (mkI w 2 0)):=nats_at (by omega)
 have hg1:(nats (mkF w 2))[1 * 1]?=some (.int .i64 (mkI w 2 1)):=nats_at (by omega)
 refine qv K5<|Hd.seq fun _ K8=>?_
 refine Hd.quiet mixed kq ?_;refine Hq.yv y_mv ?_;refine Hq.yv (y_idxR Tryz.underlying94 sz3 rfl rfl (by exact (show (0:Nat) < _ by omega)) (by exact RdS.own pkk)) ?_;refine Hq.yv (y_loadR1 ag3 rfl (RdS.own (ad:=ad) (us:=nats (mkF w 2)) pkk) hg0) ?_;refine Hq.yv y_mv ?_;refine Hq.yv (y_idxR Tryz.underlying94 sz3 rfl rfl (by exact (show (1:Nat) < _ by omega)) (by exact RdS.own pkk)) ?_;refine Hq.yv (y_loadR1 ag3 rfl (RdS.own (ad:=ad) (us:=nats (mkF w 2)) pkk) hg1) ?_;refine Hq.yv y_as ?_;refine Hq.yv y_as ?_;refine Hq.yv y_as ?_;refine Hq.nil ?_;refine sk [(4,_),(5,_),(6,_)] K8 ?_;refine Hd.ret ?_;exact Hd.ret3 rfl () rfl rfl (by rw [hc0];rfl) rfl sq
theorem pipe_bad (L:List SP) (wb:Nat) (w:WA) (n:Int) (h:n < 1∨65536 < n):Ct Tryz.prog 47 #[.pointer (some ⟨wb,0,none⟩),.int .i64 n] (WorldP wb w::L) (fun _:Unit=>.tuple #[.int .i64 0,.int .i64 0,.int .i64 2]) (fun _:Unit=>WorldP wb w::L):=by
 refine Ct.o2 Tryz.func47 ?_;intro E
 show Hd E 37 _ _ _ _
 refine sr fun _ K1=>?_
 refine yv y_as<|yv y_as<|yv y_as<|fk [(0,_),(1,_)] K1 ?_;refine sr fun _ K2=>?_
 refine yv y_mv<|callE rfl fk111 (bothbad_ct _ n h) sq ?_;rintro ⟨b,cs⟩;dsimp only;refine Hd.pure (fun hcs=>?_);refine yv y_as<|fk [(0,_),(1,_),(7,_)] K2 ?_;refine Hd.seq fun _ K3=>?_
 refine Hd.draws mixed ?_;simp only [List.length,Nat.zero_add,Nat.reduceAdd];refine Hd.take 0 rfl kq kq kq (fun _=>y_move rfl) fq ?_;refine Hd.take 1 rfl kq kq kq (fun _=>y_move rfl) fq ?_;refine Hd.take 2 rfl kq kq kq (fun _=>y_nilp rfl) fq ?_;refine Hd.take 3 rfl kq kq kq (fun _=>y_field' (q:=0) (ft:=196) Tryz.underlying198 rfl sz196 rfl rfl) fq ?_;refine Hd.take 7 rfl kq kq kq (fun _=>y_nilp rfl) fq ?_;refine Hd.take 8 rfl kq kq kq (fun _=>y_field' (q:=0) (ft:=196) Tryz.underlying198 rfl sz196 rfl rfl) fq ?_;refine Hd.tailAt 6 [4,5] [6,9,10,11] rfl rfl rfl kq ?_;simp only [pk,List.getElem?_cons_zero,List.getElem?_cons_succ];refine Ht.yv (y_idxA Tryz.underlying196 sz195 rfl rfl (by decide)) ?_;refine Ht.yv (y_f 3 4 Tryz.underlying195 sz4) ?_;refine Ht.nil ?_;refine Hd.store1 sz4 rfl rfl rfl pkk (by rw [hcs];decide) ?_
 try simp only [hyS]
 refine yv (y_idxA Tryz.underlying196 sz195 rfl rfl (by decide)) ?_;refine yv (y_f 2 193 Tryz.underlying195 sz193)<|Hd.store1 sz193 rfl rfl rfl pkk (by rw [List.length_set,hcs];decide) ?_
 try simp only [hyS]
 refine Hd.nil<|Hd.noPn ?_;refine sk [(0,_),(1,_),(7,_)] K3 ?_;refine sr fun _ K4=>?_
 refine yv y_mv<|yv y_mv<|yv y_mv<|callE rfl fk110 (makebad_ct _ wb b w n h 2) sq ?_;intro _;refine yv y_mv<|yv (y_to (v':=.slice none 0 0) y_ex (by rfl)) ?_;refine yv (y_to (v':=.int .i64 2) y_ex (by rfl)) ?_;refine yv y_as<|yv y_as<|fk [(6,_),(8,_)] K4 ?_;refine Hd.seq fun _ K5=>?_
 refine sr fun _ K6=>?_
 refine yv y_mv<|yv (y_neq rfl rfl) ?_;refine fk [(6,_),(8,_),(29,_)] K6 ?_;refine qz ?_ ?_<;>intro hc0<;>try simp only [hyZ] at hc0
 ·refine sr fun _ K7=>?_
  refine yv y_mv<|yv y_as<|yv y_as<|yv y_as<|fk [(4,_),(5,_),(6,_)] K7 ?_;refine Hd.ret<|Hd.thenRet ?_;exact Hd.ret3 rfl () rfl rfl rfl rfl sq
 exact absurd hc0 (by decide)
def listW (n:Nat):WireA:={ e:=fun _=>blankE,cap:=n,rs:=false,bl:=(n:Int),wt:=[] }
theorem list_new {n l:Nat} (h:n≤64):NewW (listW n) l :=
 ⟨⟨fun k hk=>rfl,fun k hk=>Nat.zero_le _,fun k hk _=>rfl,by show n≤65536;omega,fun k hk=>by show (0:Int)≤0∧(0:Int)≤3;decide,⟨by show (0:Int)≤(n:Int);omega,by show (n:Int)≤64;omega,by show ((0:Nat):Int)≤(n:Int);omega⟩,fun h1=>absurd (show (0:Int)=2 from h1) (by decide)⟩,fun k hk=>by show (0:Int)≠1;decide,rfl⟩
theorem bd_list (n:Int):Tryz.prog.built 198 [(2,.int .i64 n)]=some ([.int .i64 0,.int .i64 0,.pointer none,.bool false,.bool false,.int .u64 0,.int .u64 0,.int .i64 0,.int .i64 0,.pointer none,.bool false,.bool false,.int .u64 0,.int .u64 0,.bool false,.int .i64 n,.slice none 0 0]:List Value).toArray:=by kernel_rfl
theorem listen_mk (L:List SP) (wb:Nat) (w:WA) (n:Nat) (h1:1≤n) (h2:n≤64):Ct Tryz.prog 49 #[.pointer (some ⟨wb,0,none⟩),.int .i64 (n:Int)] (WorldP wb w::L) (fun _:Unit=>.tuple #[.int .i64 (mkI w 1 0),.int .i64 (mkN w 1),.int .i64 (mkE w 1)]) (fun _:Unit=>WorldP wb (mkW w 1 (listW n))::L):=by
 refine Ct.o2 Tryz.func49 ?_;intro E
 show Hd E 36 _ _ _ _
 refine Hd.world .here (fun i hw hrs=>?_);refine sr fun _ K1=>?_
 refine yv y_as<|yv y_as<|yv y_as<|fk [(0,_),(1,_)] K1 ?_;refine Hd.seq fun _ K2=>?_
 refine sr fun _ K3=>?_
 refine yv y_mv<|callE rfl fk114 (wnone_ct _ wb w.at w i.rs.length i) sq ?_;intro _;refine yv (y_not rfl)<|yv y_mv ?_;apply Hd.andg 3 11 14 [(0,_),(1,_)] rfl sbq
 ·intro hg1_11
  try simp only [hyZ] at hg1_11
  simp only [List.take];refine y2 y_mv<|y2 (y_gtr rfl rfl) ?_;refine yv (y_pickT rfl rfl) ?_;exact Hd.mn
 ·intro hg1_11
  try simp only [hyZ] at hg1_11
  simp only [List.take];refine n1<|n1<|yv (y_pickF rfl rfl) ?_;exact Hd.mn
 simp only [List.drop];refine fk [(0,_),(1,_),(14,_)] K3 ?_;refine qz ?_ ?_<;>intro hc0<;>try simp only [hyZ] at hc0
 ·exfalso
  omega
 refine qv K2<|sr fun _ K4=>?_
 refine yv y_mv<|yv y_mv<|yv y_mv<|yv (y_build (vs:=[(2,_)]) rfl (bd_list (n:Int))) ?_;refine Hd.box (us:=[.int .i64 0,.int .i64 0,.pointer none,.bool false,.bool false,.int .u64 0,.int .u64 0,.int .i64 0,.int .i64 0,.pointer none,.bool false,.bool false,.int .u64 0,.int .u64 0,.bool false,.int .i64 (n:Int),.slice none 0 0]) rfl rfl (fun b20=>?_);refine Hd.heap (WorldP wb w::WireP b20 (listW n)::L) (fun q s=>Ent.sep (.ex i (.pure ⟨hw,hrs⟩ (.pick pkk (.pick pkk (.pick pkk (.pick pkk (.ex (⟨fun _=>none,none,0⟩,0) (.pure ⟨⟨fun j _=>rfl⟩,by omega⟩ (.eq pkk (pt_eq (by rfl)) (.pure trivial (.pure trivial (.ownNil enn)))))))))))) q s) ?_;refine callE rfl fk110 (make_ct _ wb b20 w n h1 (by omega) 1 (by omega) (listW n) (list_new h2)) sq ?_;rintro ⟨ad,c⟩;dsimp only;refine yv y_mv<|yv (y_to (v':=.slice ad (mkF w 1).length c) y_ex (by rfl)) ?_
 refine yv (y_to (v':=.int .i64 (mkE w 1)) y_ex (by rfl)) ?_;refine yv y_as<|yv y_as<|fk [(0,_),(6,_),(7,_)] K4 ?_;refine Hd.seq fun _ K5=>?_
 refine sr fun _ K6=>?_
 refine yv y_mv<|yv (y_neq rfl rfl) ?_;refine fk [(0,_),(6,_),(7,_),(25,_)] K6 ?_;refine qz ?_ ?_<;>intro hc1<;>try simp only [hyZ] at hc1
 ·refine sr fun _ K7=>?_
  refine yv y_mv<|yv y_as<|yv y_as<|yv y_as<|fk [(4,_),(5,_),(6,_)] K7 ?_;refine Hd.ret<|Hd.thenRet ?_
  have h:mkF w 1=[]:=by
   rcases mkF_len (w:=w) (k:=1) with h | h
   ·exact absurd h.1 hc1
   ·exact h.2
  rw [show mkI w 1 0=0 by unfold mkI;rw [h];rfl,show mkN w 1=0 by unfold mkN;rw [if_neg hc1]];exact Hd.ret3 rfl () rfl rfl rfl rfl sq
 have hl:(mkF w 1).length=1:=by
  rcases mkF_len (w:=w) (k:=1) with h | h
  ·exact h.2
  ·rw [h.1] at hc1;exact absurd hc1 (by decide)
 have hg0:(nats (mkF w 1))[0 * 1]?=some (.int .i64 (mkI w 1 0)):=nats_at (by omega)
 have hwl:=mkW_len (x:=listW n) hc1
 refine qv K5<|Hd.seq fun _ K8=>?_
 refine Hd.world pkk (fun i hw hrs=>?_)
 have hrl:i.rs.length=w.ws.length + 1:=by rw [←hwl,←hrs,List.length_map]
 have hln:i.rs.length≤1000:=by rw [hrl,←hwl];exact hw.len
 refine Hd.quiet mixed kq ?_;refine Hq.yv y_mv ?_;refine Hq.yv (y_idxR Tryz.underlying94 sz3 rfl rfl (by exact (show (0:Nat) < _ by omega)) (by exact RdS.own pkk)) ?_;refine Hq.yv (y_loadR1 ag3 rfl (RdS.own (ad:=ad) (us:=nats (mkF w 1)) pkk) hg0) ?_;refine Hq.yv y_mv ?_;refine Hq.yv y_np ?_;refine Hq.yv (y_f 288 184 Tryz.underlying186 sz184) ?_;refine Hq.yv (y_load1 ag184 rfl (Rd.pt1 pkk (by exact woT_at (j:=0) (by omega) rfl))) ?_;refine Hq.yv (y_len Tryz.underlying184 rfl) ?_;refine Hq.yv (y_to (v':=.int .i64 (w.ws.length:Int)) (y_subn rfl rfl (by simp only [InK];omega)) (by (congr 1;omega))) ?_;refine Hq.yv y_as ?_;refine Hq.yv y_as ?_;refine Hq.yv y_as ?_;refine Hq.nil ?_;refine sk [(4,_),(5,_),(6,_)] K8 ?_;refine Hd.ret ?_;rw [show mkN w 1=(w.ws.length:Int) by unfold mkN;rw [if_pos hc1]];exact Hd.ret3 rfl () rfl rfl (by rw [hc1];rfl) rfl (Ent.sep (.ex i (.pure ⟨hw,hrs⟩ enn)))
theorem listen_bad (L:List SP) (wb:Nat) (w:WA) (n:Int) (h:n < 1∨64 < n):Ct Tryz.prog 49 #[.pointer (some ⟨wb,0,none⟩),.int .i64 n] (WorldP wb w::L) (fun _:Unit=>.tuple #[.int .i64 0,.int .i64 0,.int .i64 2]) (fun _:Unit=>WorldP wb w::L):=by
 refine Ct.o2 Tryz.func49 ?_;intro E
 show Hd E 36 _ _ _ _
 refine Hd.world .here (fun i hw hrs=>?_);refine sr fun _ K1=>?_
 refine yv y_as<|yv y_as<|yv y_as<|fk [(0,_),(1,_)] K1 ?_;refine Hd.seq fun _ K2=>?_
 refine sr fun _ K3=>?_
 refine yv y_mv<|callE rfl fk114 (wnone_ct _ wb w.at w i.rs.length i) sq ?_;intro _;refine yv (y_not rfl)<|yv y_mv ?_;apply Hd.andg 3 11 14 [(0,_),(1,_)] rfl sbq
 ·intro hg1_11
  try simp only [hyZ] at hg1_11
  simp only [List.take];refine y2 y_mv<|y2 (y_gtr rfl rfl) ?_;refine yv (y_pickT rfl rfl) ?_;exact Hd.mn
 ·intro hg1_11
  try simp only [hyZ] at hg1_11
  simp only [List.take];refine n1<|n1<|yv (y_pickF rfl rfl) ?_;exact Hd.mn
 simp only [List.drop];refine fk [(0,_),(1,_),(14,_)] K3 ?_;refine qz ?_ ?_<;>intro hc0<;>try simp only [hyZ] at hc0
 ·refine sr fun _ K4=>?_
  refine yv y_as<|yv y_as<|yv y_as<|fk [(4,_),(5,_),(6,_)] K4 ?_;refine Hd.ret<|Hd.thenRet ?_;exact Hd.ret3 rfl () rfl rfl rfl rfl (Ent.sep (.ex i (.pure ⟨hw,hrs⟩ enn)))
 have hn:n < 1:=by simp at hc0;omega
 refine Hd.heap (WorldP wb w::L) (Ent.sep (.ex i (.pure ⟨hw,hrs⟩ enn))) ?_;refine qv K2<|sr fun _ K5=>?_
 refine yv y_mv<|yv y_mv<|yv y_mv<|yv (y_build (vs:=[(2,_)]) rfl (bd_list n)) ?_;refine Hd.box (us:=[.int .i64 0,.int .i64 0,.pointer none,.bool false,.bool false,.int .u64 0,.int .u64 0,.int .i64 0,.int .i64 0,.pointer none,.bool false,.bool false,.int .u64 0,.int .u64 0,.bool false,.int .i64 n,.slice none 0 0]) rfl rfl (fun b20=>?_);refine callE rfl fk110 (makebad_ct _ wb b20 w n (.inl hn) 1) sq ?_;intro _;refine yv y_mv<|yv (y_to (v':=.slice none 0 0) y_ex (by rfl)) ?_;refine yv (y_to (v':=.int .i64 2) y_ex (by rfl)) ?_;refine yv y_as<|yv y_as<|fk [(0,_),(6,_),(7,_)] K5 ?_;refine Hd.seq fun _ K6=>?_
 refine sr fun _ K7=>?_
 refine yv y_mv<|yv (y_neq rfl rfl) ?_;refine fk [(0,_),(6,_),(7,_),(25,_)] K7 ?_;refine qz ?_ ?_<;>intro hc1<;>try simp only [hyZ] at hc1
 ·refine sr fun _ K8=>?_
  refine yv y_mv<|yv y_as<|yv y_as<|yv y_as<|fk [(4,_),(5,_),(6,_)] K8 ?_;refine Hd.ret<|Hd.thenRet ?_;exact Hd.ret3 rfl () rfl rfl rfl rfl sq
 exact absurd hc1 (by decide)
theorem pass_ct (L:List SP) (wb:Nat) (w:WA) (n:Int) (hn:0≤n∧n≤18446744073709551615) (h0:0≤w.now∧w.now≤18446744073709551615):Ct Tryz.prog 138 #[.pointer (some ⟨wb,0,none⟩),.int .u64 n] (WorldP wb w::L) (fun _:Unit=>.tuple #[]) (fun _:Unit=>WorldP wb (passR w n)::L):=by
 refine Ct.o2 Tryz.func138 ?_;intro E
 show Hd E 21 _ _ _ _
 refine Hd.world .here (fun i hw hrs=>?_);refine sr fun _ K1=>?_
 refine yv y_mv<|callE rfl fk114 (wnone_ct _ wb w.at w i.rs.length i) sq ?_;intro _;refine yv (y_not rfl)<|fk [(0,_),(1,_),(6,_)] K1 ?_;refine Hd.condT rfl ?_;refine Hd.tail 14 mixed kq ?_;simp only [List.take,List.drop];refine Ht.yv y_mv ?_;refine Ht.yv y_np ?_;refine Ht.yv (y_f 290 29 Tryz.underlying186 sz29) ?_;refine Ht.yv (y_load1 ag29 rfl (Rd.pt1 pkk (by exact woT_at (j:=2) (by omega) rfl))) ?_;refine Ht.yv y_mv ?_;refine Ht.yv y_mv ?_;refine Ht.yv y_np ?_;refine Ht.yv (y_f 290 29 Tryz.underlying186 sz29) ?_;refine Ht.yv (y_load1 ag29 rfl (Rd.pt1 pkk (by exact woT_at (j:=2) (by omega) rfl))) ?_;refine Ht.yv (y_subn rfl rfl (by simp only [InK];omega)) ?_;refine Ht.yv (y_min rfl rfl) ?_;refine Ht.yv (y_to (v':=.int .u64 (w.now + min n (18446744073709551615 - w.now))) (y_addn rfl rfl (by simp only [InK];omega)) (by (congr 1))) ?_;refine Ht.yv y_np ?_
 refine Ht.yv (y_f 290 29 Tryz.underlying186 sz29) ?_;refine Ht.nil ?_;refine Hd.store1 sz29 rfl rfl rfl pkk (by rw [List.length_append,fdC_len];simp;omega) ?_
 try simp only [hyS]
 refine Hd.nil<|slots [] sbq ?_
 have e:(fdC w.at++woT w i.rs.length i).set (0 + 290) (.int .u64 (w.now + min n (18446744073709551615 - w.now)))=fdC (passR w n).at++woT (passR w n) i.rs.length i:=by
  rw [List.set_append_right _ _ (by rw [fdC_len];decide),fdC_len];rfl
 exact Hd.end0 rfl () rfl (fun q s=>Ent.sep (.ex i (.pure ⟨(pass_ok hw n hn.1).1,hrs⟩ (.eq pkk (pt_eq e) enn))) q s)
def rstW (x:WireA) (k:Nat):WireA:={ x with rs:=true,e:=fun j=>if j < k then riseE true true { x.e j with b:=[] } else x.e j }
theorem rst_same (x:WireA) (k j:Nat):((rstW x k).e j).rd=(x.e j).rd:=by
 show (if j < k then riseE true true { x.e j with b:=[] } else x.e j).rd=_
 split<;>rfl
theorem rst_up {x:WireA} {k:Nat}:((rstW x k).up k fun e=>{ e with b:=[] }).up k (riseE true true)=rstW x (k + 1):=by
 rw [up_up];unfold rstW WireA.up;dsimp only
 congr 1
 funext j
 by_cases h:j=k
 ·subst h
  rw [if_pos rfl,if_neg (Nat.lt_irrefl j),if_pos (Nat.lt_succ_self j)]
 ·rw [if_neg h]
  by_cases h2:j < k
  ·rw [if_pos h2,if_pos (by omega)]
  ·rw [if_neg h2,if_neg (by omega)]
theorem wreset_ct (L:List SP) (wb:Nat) (w:WA) (n:Int):Ct Tryz.prog 134 #[.pointer (some ⟨wb,0,none⟩),.int .i64 n] (WorldP wb w::L) (fun _:Unit=>.int .i64 (resetR w n).1) (fun _:Unit=>WorldP wb (resetR w n).2::L):=by
 refine Ct.o2 Tryz.func134 ?_;intro E
 show Hd E 41 _ _ _ _
 refine Hd.world .here (fun i hw hrs=>?_);refine sr fun _ K1=>?_
 refine yv y_as<|fk [(0,_),(1,_)] K1 ?_;refine sr fun _ K2=>?_
 refine yv y_mv<|yv y_mv<|callE rfl fk200 (outer_ct _ wb w i hw hrs n) sq ?_;intro _;refine yv y_mv<|yv (y_to (v':=ptr (outB i w n)) y_ex (by rfl)) ?_;refine yv (y_to (v':=.int .i64 (outE w n)) y_ex (by rfl)) ?_;refine yv y_as<|yv y_as<|fk [(5,_),(6,_)] K2 ?_;refine Hd.seq fun _ K3=>?_
 refine sr fun _ K4=>?_
 refine yv y_mv<|yv (y_neq rfl rfl) ?_;refine yv y_mv<|Hd.part (gd:=16) rfl (fun hg2_16=>?_) (fun hg2_16=>?_)
 ·try simp only [hyZ] at hg2_16
  have e:=outE_no hg2_16
  refine n1<|n1<|n1<|n1<|yv (y_pickT rfl rfl) ?_;refine fk [(5,_),(6,_),(21,_)] K4 ?_;refine Hd.condT rfl ?_;refine sr fun _ K5=>?_
  refine yv y_mv<|yv y_as<|fk [(4,_)] K5 ?_;refine Hd.ret<|Hd.thenRet ?_;rw [show resetR w n=(116,w) by unfold resetR;rw [e]];exact Hd.ret1 rfl () (by unfold outE;rw [e];rfl) (Ent.sep (.ex i (.pure ⟨hw,hrs⟩ enn)))
 try simp only [hyZ] at hg2_16
 obtain ⟨k,b,x,rfl,hox,hx,hb,h2,hob⟩:=outE_yes hrs hg2_16
 have hwf:=hw.wf x (List.mem_of_getElem? hx)
 have hrd:resetR w k=(0,if x.rs=true then w else w.setW k (resetW x)):=by unfold resetR;rw [hox];rfl
 rw [hob];refine Hd.wOut pkk hb ?_;refine Hd.wire .here 0 (by omega) (fun i2 hi=>?_);refine y2 y_mv<|y2 y_np<|y2 (y_f 14 4 Tryz.underlying198 sz4)<|y2 (y_l1 ag4 rfl)<|yv (y_pickF rfl rfl) ?_;refine fk [(5,_),(6,_),(21,_)] K4 ?_;refine qz ?_ ?_<;>intro hc0<;>try simp only [hyZ] at hc0
 ·refine sr fun _ K6=>?_
  refine yv y_mv<|yv y_as<|fk [(4,_)] K6 ?_;refine Hd.ret<|Hd.thenRet ?_;rw [hrd,if_pos hc0];exact Hd.ret1 rfl () (by rw [hg2_16];rfl) (fun q s=>world_back (k:=0) hw hrs hb hi (by omega) q (Ent.sep enn q s))
 rw [if_neg (by rw [hc0];simp)] at hrd;refine qv K3<|sr fun _ K7=>?_
 refine yv y_mv<|yv y_np<|yv (y_f 14 4 Tryz.underlying198 sz4)<|Hd.store1 sz4 rfl rfl rfl pkk (by simp;done) ?_
 try simp only [hyS]
 refine Hd.nil<|Hd.heap (WireP b (rstW x 0)::WoR wb k w i L) (fun q s=>Ent.sep (.ex (i2,0) (.pure ⟨⟨fun j hj=>by rw [rst_same];exact hi.rd j hj⟩,by omega⟩ (.eq pkk (pt_eq (by rfl)) (.eq pkk (show RgO (i2.p 0) x.cap (x.e 0).b=RgO (i2.p 0) (rstW x 0).cap ((rstW x 0).e 0).b from rfl) (.eq pkk (show RgO (i2.p (1 - 0)) x.cap (x.e (1 - 0)).b=RgO (i2.p (1 - 0)) (rstW x 0).cap ((rstW x 0).e (1 - 0)).b from rfl) (.eq pkk (show own 3 1 i2.wa x.wt.length i2.wc (nats x.wt)=own 3 1 i2.wa (rstW x 0).wt.length i2.wc (nats (rstW x 0).wt) from rfl) enn)))))) q s) ?_;refine sk [(5,_)] K7 ?_;refine Hd.seq fun _ K8=>?_
 refine sr fun _ K9=>?_
 refine yv y_mv<|fk [(5,_),(26,_)] K9 ?_;refine Hd.block<|Hd.loopK (ι:=Nat) [(5,_)] (fun j=>[(26,.int .i64 (j:Int))]) (fun j=>pu (j≤2)::WireP b (rstW x j)::WoR wb k w i L) (fun j=>2 - j) 0 sbq sbq (Ent.sep (.pure (by omega) enn)) ?_;intro j
 try dsimp only
 refine Hd.pure (fun hp0=>?_)
 try dsimp only at hp0
 refine sr fun _ K10=>?_
 refine yv (y_lss rfl rfl) ?_;refine fk [(5,_),(26,_),(27,_)] K10 ?_;refine Hd.seq fun _ K11=>?_
 refine qz ?_ ?_<;>intro hc1<;>try simp only [hyZ] at hc1
 ·have hj:j < 2:=by omega
  have hrj:((rstW x j).e j).rd=true:=by
   rw [rst_same]
   rcases (show j=0∨j=1 by omega) with rfl | rfl
   ·exact (hwf.ou h2).1
   ·exact (hwf.ou h2).2
  refine qv K11<|Hd.seq fun _ K12=>?_
  refine Hd.block<|sr fun _ K13=>?_
  refine yv y_mv<|yv y_as<|fk [(5,_),(7,_),(26,_)] K13 ?_;refine Hd.seq fun _ K14=>?_
  refine Hd.wireR .here j hj hrj (fun i3 rb hi3 hrb=>?_);refine Hd.region<|yv y_mv<|yv y_mv<|yv y_np<|yv (y_f 0 196 Tryz.underlying198 sz196)<|yv (y_idxA Tryz.underlying196 sz195 rfl rfl (by omega)) ?_;refine yv (y_f 2 193 Tryz.underlying195 sz193)<|yv (y_to (v':=.pointer (some ⟨rb,0,none⟩)) (y_load1 ag193 rfl (Rd.pt1 pkk (by exact enc_at 2 hj (by omega) (by omega) rfl))) (by (show ptr (i3.p j)=_;rw [hrb];rfl))) ?_;refine callE rfl fk202 (rclear_ct _ rb (rstW x j).cap ((rstW x j).e j).b) sq ?_;intro _;refine Hd.heap (WireP b ((rstW x j).up j fun e=>{ e with b:=[] })::WoR wb k w i L) (fun q s=>wire_ring (l':=[]) hi3 hj hrb q (Ent.sep enn q s)) ?_;refine fk [(5,_),(7,_),(26,_)] K14 ?_;refine Hd.region<|yv y_mv<|yv y_mv<|callE rfl fk196 (came_ct _ b ((rstW x j).up j fun e=>{ e with b:=[] }) j hj true true) sq ?_
  intro _;rw [rst_up];refine Hd.nil<|slots [(5,_),(26,_)] sbq ?_;refine Hd.inB<|Hd.toK K12 ?_;refine Hd.region<|yv (y_addn rfl rfl (by simp only [InK];omega)) ?_;refine yv y_mv<|Hd.nil<|slots [(5,_),(26,_)] sbq ?_;refine thenN ?_;exact Hd.again (j + 1) (by omega) sbq (Ent.sep (.pure (by omega) enn))
 obtain rfl:j=2:=by omega
 refine Hd.exit<|Hd.thenExit<|Hd.thenExit<|Hd.inBexit<|Hd.toK K8 ?_;refine sr fun _ K15=>?_
 refine yv y_as<|fk [(4,_)] K15 ?_;refine Hd.ret ?_;rw [hrd];exact Hd.ret1 rfl () rfl (fun q s=>world_fold' hw hrs hb (smW_reset x) q (Ent.sep enn q s))
end Wo
end Go.Proofs.YtmpemhbfgbochaaGreatDoor
namespace Go.Proofs.YtmpemhbfgbochaaGreatDoor
open Go.RX Fx
namespace Rf
open Wo
theorem rPass_ct (L:List SP) (b:Nat) (w:WA) (n:Int) (hn:0≤n∧n≤18446744073709551615) (h0:0≤w.now∧w.now≤18446744073709551615):Ct Tryz.prog 139 #[.pointer (some ⟨b,0,none⟩),.int .u64 n] (RwP b w::L) (fun _:Unit=>.tuple #[]) (fun _:Unit=>RwP b (passR w n)::L):=by
 refine Ct.o2 Tryz.func139 ?_;intro E
 show Hd E 23 _ _ _ _
 refine Hd.rw .here (fun i hi=>?_);refine Hd.seq fun _ K1=>?_
 refine sr fun _ K2=>?_
 refine yv y_mv<|yv y_mv<|yv y_np<|yv (y_f 1 29 Tryz.underlying102 sz29)<|yv (y_l1 ag29 rfl)<|yv (y_subn rfl rfl (by simp only [InK];omega)) ?_;refine yv (y_gtr rfl rfl) ?_;refine fk [(0,_),(1,_),(10,_)] K2 ?_;refine qz ?_ ?_<;>intro hc0<;>try simp only [hyZ] at hc0
 ·refine sr fun _ K3=>?_
  refine yv y_mv<|yv y_np<|yv (y_f 1 29 Tryz.underlying102 sz29)<|Hd.store1 sz29 rfl rfl rfl pkk (by simp;done) ?_
  try simp only [hyS]
  refine fk [] K3 ?_;refine Hd.ret<|Hd.thenRet ?_
  have e:(18446744073709551615:Int)=w.now + min n (18446744073709551615 - w.now):=by omega
  exact Hd.ret0 rfl () rfl (fun q s=>rw_fold (w:=passR w n) hi q (Ent.sep (.eq pkk (pt_eq (by show _=RwC (passR w n) i.1.length i.2.1 i.2.2;unfold passR;rw [←e];rfl)) enn) q s))
 refine qv K1<|Hd.region<|yv y_mv<|yv y_mv<|yv y_np<|yv (y_f 1 29 Tryz.underlying102 sz29)<|yv (y_l1 ag29 rfl)<|yv y_mv<|yv (y_addn rfl rfl (by simp only [InK];omega)) ?_;refine yv y_np<|yv (y_f 1 29 Tryz.underlying102 sz29)<|Hd.store1 sz29 rfl rfl rfl pkk (by simp;done) ?_
 try simp only [hyS]
 refine Hd.nil<|slots [] sbq ?_
 have e:w.now + n=w.now + min n (18446744073709551615 - w.now):=by omega
 exact Hd.end0 rfl () rfl (fun q s=>rw_fold (w:=passR w n) hi q (Ent.sep (.eq pkk (pt_eq (by show _=RwC (passR w n) i.1.length i.2.1 i.2.2;unfold passR;rw [←e];rfl)) enn) q s))
theorem rst0_e (x:WireA) (k:Nat):(rstW x 0).e k=x.e k:=by unfold rstW;simp
theorem rset_rs {rs:List Row} {n o:Nat} {x:WireA} {j:RwI} (h:rs[n]?=some (x,j)) (ho:o=n * 20 + 17):(rs.flatMap encRW).set o (.bool true)=(rs.set n (rstW x 0,j)).flatMap encRW:=by
 subst ho;refine rows_set (j:=17) encRW_len (by omega) ?_ h (by omega)
 rfl
theorem rReset_ct (L:List SP) (b:Nat) (w:WA) (n:Int):Ct Tryz.prog 135 #[.pointer (some ⟨b,0,none⟩),.int .i64 n] (RwP b w::L) (fun _:Unit=>.int .i64 (resetR w n).1) (fun _:Unit=>RwP b (resetR w n).2::L):=by
 refine Ct.o2 Tryz.func135 ?_;intro E
 show Hd E 45 _ _ _ _
 refine sr fun _ K1=>?_
 refine yv y_as<|fk [(0,_),(1,_)] K1 ?_;refine sr fun _ K2=>?_
 refine yv y_mv<|yv y_mv<|callE rfl fk201 (router_ct _ b w n) sq ?_;intro _;refine yv y_as<|fk [(0,_),(1,_),(5,_)] K2 ?_;refine Hd.seq fun _ K3=>?_
 refine sr fun _ K4=>?_
 refine yv y_mv<|yv (y_not rfl)<|fk [(0,_),(1,_),(11,_)] K4 ?_;refine qz ?_ ?_<;>intro hc0<;>try simp only [hyZ] at hc0
 ·refine sr fun _ K5=>?_
  refine yv y_as<|fk [(4,_)] K5 ?_;refine Hd.ret<|Hd.thenRet ?_
  have hno:outW w n=none:=by cases h:outW w n with | none=>rfl | some y=>rw [h] at hc0;simp at hc0
  rw [show resetR w n=(116,w) by unfold resetR;rw [hno]];exact Hd.ret1 rfl () rfl sq
 obtain ⟨x,ho⟩:∃ x,outW w n=some x:=by cases h:outW w n with | none=>rw [h] at hc0;simp at hc0 | some y=>exact ⟨y,rfl⟩
 obtain ⟨h0,hx,_⟩:=outW_some ho
 obtain ⟨q,rfl⟩:∃ q:Nat,n=(q:Int):=⟨n.toNat,by omega⟩
 rw [Int.toNat_natCast] at hx;refine Hd.rw .here (fun i hi=>?_)
 have hrl:=rows_n hi
 obtain ⟨j,hrow⟩:=row_at hi hx
 have hn:q < i.1.length:=(List.getElem?_eq_some_iff.1 hrow).1
 refine qv K3<|Hd.seq fun _ K6=>?_
 refine sr fun _ K7=>?_
 refine yv y_mv<|yv y_np<|yv (y_f 0 98 Tryz.underlying102 sz98)<|yv (y_l1 ag98 rfl)<|yv y_mv<|yv (y_idxR Tryz.underlying98 sz204 rfl rfl (by omega) (by exact RdS.own pkk)) ?_;refine yv (y_fR 17 4 Tryz.underlying204 sz4) ?_;refine yv (y_rw ag4 rfl hrow 17 rfl) ?_;refine fk [(0,_),(1,_),(19,_)] K7 ?_;refine qz ?_ ?_<;>intro hc1<;>try simp only [hyZ] at hc1
 ·refine sr fun _ K8=>?_
  refine yv y_as<|fk [(4,_)] K8 ?_;refine Hd.ret<|Hd.thenRet ?_;rw [show resetR w (q:Int)=(0,w) by unfold resetR;rw [ho];show (0,if x.rs=true then w else _)=_;rw [if_pos hc1]];exact Hd.ret1 rfl () rfl (rw_fold hi)
 refine qv K6<|sr fun _ K9=>?_
 refine yv y_mv<|yv y_np<|yv (y_f 0 98 Tryz.underlying102 sz98)<|yv (y_l1 ag98 rfl)<|yv y_mv<|yv (y_idxR Tryz.underlying98 sz204 rfl rfl (by omega) (by exact RdS.own pkk)) ?_;refine yv (y_fR 17 4 Tryz.underlying204 sz4) ?_;refine Hd.storeO1 sz4 rfl rfl rfl pkk (by rw [rows_len encRW_len];omega) ?_
 try simp only [hyS]
 refine Hd.nil ?_;rw [rset_rs hrow (by omega)];refine Hd.heap (RwP b (w.setW q (rstW x 0))::L) (fun p s=>rw_head (x':=rstW x 0) hi hrow (fun k _=>by rw [rst0_e]) rfl p (Ent.sep enn p s)) ?_;refine sk [(0,_),(1,_)] K9 ?_;refine Hd.seq fun _ K10=>?_
 refine sr fun _ K11=>?_
 refine yv y_as<|fk [(0,_),(1,_),(6,_)] K11 ?_;refine Hd.block<|Hd.loopK (ι:=Nat) [(0,_),(1,_)] (fun k=>[(6,.int .i64 (k:Int))]) (fun k=>pu (k≤2)::RwP b (w.setW q (rstW x k))::L) (fun k=>2 - k) 0 sbq sbq (Ent.sep (.pure (by omega) enn)) ?_;intro k
 try dsimp only
 refine Hd.pure (fun hp0=>?_)
 try dsimp only at hp0
 refine Hd.seq fun _ K12=>?_
 refine sr fun _ K13=>?_
 refine yv y_mv<|yv (y_lss rfl rfl) ?_;refine fk [(0,_),(1,_),(6,_),(28,_)] K13 ?_;refine qz ?_ ?_<;>intro hc2<;>try simp only [hyZ] at hc2
 ·have hk:k < 2:=by omega
  have hx2:(w.setW q (rstW x k)).ws[q]?=some (rstW x k):=setW_self hx
  refine Hd.rw .here (fun i' hi'=>?_)
  have hrl':=rows_n hi'
  obtain ⟨j',hrow'⟩:=row_at hi' hx2
  have hn':q < i'.1.length:=(List.getElem?_eq_some_iff.1 hrow').1
  refine Hd.bagOut pkk hrow' ?_;refine Hd.sd .here k hk ?_;refine qv K12<|Hd.seq fun _ K14=>?_
  refine Hd.block<|sr fun _ K15=>?_
  refine yv y_mv<|yv y_np<|yv (y_f 0 98 Tryz.underlying102 sz98)<|yv (y_l1 ag98 rfl)<|yv y_mv<|yv y_mv<|yv (y_idxR Tryz.underlying98 sz204 rfl rfl (by omega) (by exact RdS.own pkk)) ?_;refine yv (y_fR 0 202 Tryz.underlying204 sz202) ?_;refine yv (y_idxAR Tryz.underlying202 sz201 rfl rfl (by omega)) ?_;refine yv (y_fR 4 30 Tryz.underlying201 sz30) ?_;refine Hd.storeO1 sz30 rfl rfl rfl pkk (by rw [rows_len encRW_len];omega) ?_
  try simp only [hyS]
  refine Hd.nil ?_;rw [rset_b (l:=[]) (m:=0) (o:=q * 20 + 0 + k * 8 + 4) hrow' hk (by omega) rfl];refine Hd.heap (RwP b ((w.setW q (rstW x k)).setW q ((rstW x k).up k fun e=>{ e with b:=[] }))::L) (sep_trans (sep_trans (Ent.sep (.ownNil (.pick pkk (.pick pkk .same)))) (sd_b (l:=[]) (a:=none) (c:=0) hk)) (sep_trans sq (rw_put hi' hn'))) ?_;rw [setW_setW];refine sk [(0,_),(1,_),(6,_)] K15 ?_;refine Hd.region<|yv y_mv<|yv y_mv<|yv y_mv<|callE rfl fk199 (rrise_ct _ b _ q _ (setW_self hx) k hk true true) sq ?_;intro _;rw [setW_setW,rst_up];refine Hd.nil<|slots [(0,_),(1,_),(6,_)] sbq ?_;refine Hd.inB<|Hd.toK K14 ?_;refine Hd.region<|yv y_mv<|yv (y_addn rfl rfl (by simp only [InK];omega)) ?_;refine yv y_as<|Hd.nil<|slots [(0,_),(1,_),(6,_)] sbq ?_;refine thenN ?_;exact Hd.again (k + 1) (by omega) sbq (Ent.sep (.pure (by omega) enn))
 obtain rfl:k=2:=by omega
 refine Hd.exit<|Hd.thenExit<|Hd.thenExit<|Hd.inBexit<|Hd.toK K10 ?_;refine sr fun _ K16=>?_
 refine yv y_as<|fk [(4,_)] K16 ?_;refine Hd.ret ?_
 have e:rstW x 2=resetW x:=rfl
 rw [show resetR w (q:Int)=(0,w.setW q (resetW x)) by unfold resetR;rw [ho];show (0,if x.rs=true then w else _)=_;rw [if_neg (by rw [hc1];decide)];rfl,←e];exact Hd.ret1 rfl () rfl sq
end Rf
end Go.Proofs.YtmpemhbfgbochaaGreatDoor
namespace Go.Proofs.YtmpemhbfgbochaaGreatDoor
open Go.RX Fx
namespace Wo
def mayE (s:Int):Int:=if 1≤s∧s≤31 then 0 else 100
theorem mayE_0 {s:Int}:mayE s=0↔1≤s∧s≤31:=by unfold mayE;split<;>simp_all
theorem is_ct (L:List SP) (s:Int):Ct Tryz.prog 237 #[.int .i64 s] (L) (fun _:Unit=>.bool (decide (s ≥ 1) && decide (s≤31))) (fun _:Unit=>L):=by
 refine Ct.o1 Tryz.func237 ?_;intro E
 show Hd E 9 _ _ _ _
 refine sr fun _ K1=>?_
 refine yv y_as<|fk [(0,_)] K1 ?_;refine sr fun _ K2=>?_
 refine yv y_mv<|yv (y_geq rfl rfl) ?_;refine yv y_mv ?_;apply Hd.andg 3 5 8 [] rfl sbq
 ·intro hg1_5
  try simp only [hyZ] at hg1_5
  simp only [List.take];refine y2 y_mv<|y2 (y_leq rfl rfl) ?_;refine yv (y_pickT rfl rfl) ?_;exact Hd.mn
 ·intro hg1_5
  try simp only [hyZ] at hg1_5
  simp only [List.take];refine n1<|n1<|yv (y_pickF rfl rfl) ?_;exact Hd.mn
 simp only [List.drop];refine yv y_as<|fk [(2,_)] K2 ?_;refine Hd.ret ?_;exact Hd.ret1 rfl () (by rfl) sq
theorem may_ct (L:List SP) (sb:Nat) (s:Int):Ct Tryz.prog 215 #[.pointer (some ⟨sb,0,none⟩),.int .i64 s] (L) (fun _:Unit=>.int .i64 (mayE s)) (fun _:Unit=>L):=by
 refine Ct.o2 Tryz.func215 ?_;intro E
 show Hd E 12 _ _ _ _
 refine sr fun _ K1=>?_
 refine yv y_as<|fk [(0,_),(1,_)] K1 ?_;refine Hd.seq fun _ K2=>?_
 refine Hd.block<|sr fun _ K3=>?_
 refine yv y_mv<|yv (y_eql_pointer Tryz.underlying179 rfl rfl) ?_;refine yv y_as<|fk [(1,_),(5,_)] K3 ?_;refine Hd.condF rfl ?_;refine sr fun _ K4=>?_
 refine yv y_mv<|callE rfl fk237 (is_ct _ s) sq ?_;intro _;refine yv (y_not rfl)<|yv y_as<|fk [(8,_)] K4 ?_;refine qz ?_ ?_<;>intro hc1<;>try simp only [hyZ] at hc1
 ·refine sr fun _ K5=>?_
  refine yv y_as<|fk [(4,_)] K5 ?_;refine Hd.ret<|Hd.inBret<|Hd.thenRet ?_;rw [show mayE s=100 from if_neg (by omega)];exact Hd.ret1 rfl () rfl sq
 refine Hd.skip<|Hd.inB<|Hd.toK K2 ?_;refine sr fun _ K6=>?_
 refine yv y_as<|fk [(4,_)] K6 ?_;refine Hd.ret ?_;rw [show mayE s=0 from if_pos (by omega)];exact Hd.ret1 rfl () rfl sq
abbrev SgV (hd:List Bool) (ct:List Int):List Value:=hd.map .bool++ct.map (Value.int .i64)
theorem sg_hd {hd:List Bool} {ct:List Int} {s o:Nat} (hl:hd.length=32) (hs:s < 32) (ho:o=s):(SgV hd ct)[o]?=some (.bool (hd.getD s false)):=by
 subst ho;rw [List.getElem?_append_left (by rw [List.length_map];omega),List.getElem?_map,List.getD_eq_getElem?_getD,List.getElem?_eq_getElem (by omega)];rfl
theorem sg_ct {hd:List Bool} {ct:List Int} {s o:Nat} (hl:hd.length=32) (hc:ct.length=32) (hs:s < 32) (ho:o=32 + s):(SgV hd ct)[o]?=some (.int .i64 (ct.getD s 0)):=by
 subst ho;rw [List.getElem?_append_right (by rw [List.length_map];omega),List.length_map,hl,Nat.add_sub_cancel_left,List.getElem?_map,List.getD_eq_getElem?_getD,List.getElem?_eq_getElem (by omega)];rfl
theorem sg_set_hd {hd:List Bool} {ct:List Int} {s o:Nat} {v:Bool} (hl:hd.length=32) (hs:s < 32) (ho:o=s):(SgV hd ct).set o (.bool v)=SgV (hd.set s v) ct:=by
 subst ho;rw [List.set_append_left _ _ (by rw [List.length_map];omega)]
 show _=(hd.set o v).map Value.bool++_
 rw [List.map_set]
theorem sg_set_ct {hd:List Bool} {ct:List Int} {s o:Nat} {v:Int} (hl:hd.length=32) (hs:s < 32) (ho:o=32 + s):(SgV hd ct).set o (.int .i64 v)=SgV hd (ct.set s v):=by
 subst ho;rw [List.set_append_right _ _ (by rw [List.length_map];omega),List.length_map,hl,Nat.add_sub_cancel_left]
 show _=_++(ct.set s v).map (Value.int .i64)
 rw [List.map_set]
theorem sg_len {hd:List Bool} {ct:List Int} (hl:hd.length=32) (hc:ct.length=32):(SgV hd ct).length=64:=by
 rw [List.length_append,List.length_map,List.length_map,hl,hc]
def cntS (ct:List Int) (s:Int):Int:=if 1≤s∧s≤31 then ct.getD s.toNat 0 else 0
theorem count_ct (L:List SP) (sb:Nat) (hd:List Bool) (ct:List Int) (hl:hd.length=32) (hcl:ct.length=32) (s:Int):Ct Tryz.prog 164 #[.pointer (some ⟨sb,0,none⟩),.int .i64 s] (SigP sb hd ct::L) (fun _:Unit=>.int .i64 (cntS ct s)) (fun _:Unit=>SigP sb hd ct::L):=by
 refine Ct.o2 Tryz.func164 ?_;intro E
 show Hd E 15 _ _ _ _
 refine sr fun _ K1=>?_
 refine yv y_as<|fk [(0,_),(1,_)] K1 ?_;refine Hd.seq fun _ K2=>?_
 refine sr fun _ K3=>?_
 refine yv y_mv<|yv y_mv<|callE rfl fk215 (may_ct _ sb s) sq ?_;intro _;refine yv (y_neq rfl rfl) ?_;refine fk [(0,_),(1,_),(8,_)] K3 ?_;refine qz ?_ ?_<;>intro hc0<;>try simp only [hyZ] at hc0
 ·refine sr fun _ K4=>?_
  refine yv y_as<|fk [(4,_)] K4 ?_;refine Hd.ret<|Hd.thenRet ?_;rw [show cntS ct s=0 from if_neg (fun h=>hc0 (mayE_0.2 h))];exact Hd.ret1 rfl () rfl sq
 have hs:=mayE_0.1 hc0
 obtain ⟨k,rfl⟩:∃ k:Nat,s=(k:Int):=⟨s.toNat,by omega⟩
 have hk:k < 32:=by omega
 refine qv K2<|sr fun _ K5=>?_
 refine yv y_mv<|yv y_mv<|yv y_np<|yv (y_f 32 100 Tryz.underlying270 sz100)<|yv (y_idxA Tryz.underlying100 sz3 rfl rfl (by omega)) ?_;refine yv (y_load1 ag3 rfl (Rd.pt1 pkk (by exact sg_ct hl hcl hk (by omega)))) ?_;refine yv y_as<|fk [(4,_)] K5 ?_;refine Hd.ret ?_;rw [show cntS ct (k:Int)=ct.getD k 0 from if_pos hs];exact Hd.ret1 rfl () rfl sq
theorem cntF_app:∀ (a b:List Int) (i:Nat),cntF i (a++b)=cntF i a++cntF (i + a.length) b
 | [],b,i=>rfl
 | c::t,b,i=>by
  show (if i=0∨c=0 then cntF (i + 1) (t++b) else ((i:Int),c)::cntF (i + 1) (t++b))=(if i=0∨c=0 then cntF (i + 1) t else ((i:Int),c)::cntF (i + 1) t)++cntF (i + (t.length + 1)) b
  rw [cntF_app t b (i + 1),show i + 1 + t.length=i + (t.length + 1) by omega]
  split<;>rfl
theorem cntF_succ {ct:List Int} {i:Nat} (h:i < ct.length):cntF 0 (ct.take (i + 1))=cntF 0 (ct.take i)++(if i=0∨ct.getD i 0=0 then [] else [((i:Int),ct.getD i 0)]):=by
 rw [List.take_add_one,List.getElem?_eq_getElem h,Option.toList_some,cntF_app,List.length_take,Nat.min_eq_left (by omega),Nat.zero_add,List.getD_eq_getElem?_getD,List.getElem?_eq_getElem h]
 show _++(if i=0∨ct[i]=0 then cntF (i + 1) [] else ((i:Int),ct[i])::cntF (i + 1) [])=_
 rfl
theorem cntF_pre (ct:List Int) (i:Nat):cntF 0 (ct.take i) <+: cntF 0 ct:=by
 conv=>rhs;rw [←List.take_append_drop i ct]
 rw [cntF_app];exact List.prefix_append _ _
theorem cntF_le:∀ (l:List Int) (i:Nat),(cntF i l).length≤l.length
 | [],_=>Nat.le_refl _
 | c::t,i=>by
  have:=cntF_le t (i + 1)
  show (if i=0∨c=0 then cntF (i + 1) t else ((i:Int),c)::cntF (i + 1) t).length≤_
  split<;>simp only [List.length_cons]<;>omega
abbrev encCn (p:Int×Int):List Value:=[.int .i64 p.1,.int .i64 p.2]
abbrev encCA (p:Int×Int):List Value:=[.agg (encCn p).toArray]
abbrev SgX (bx sb:Nat) (hd:List Bool) (ct:List Int) (L:List SP):List SP:=pt bx [.pointer (some ⟨sb,0,none⟩)] 179::SigP sb hd ct::L
theorem counts_ct (L:List SP) (sb:Nat):Ct Tryz.prog 214 #[.pointer (some ⟨sb,0,none⟩)] (L) (fun bx:Nat=>.func (.func 236) #[] #[.pointer (some ⟨bx,0,none⟩)]) (fun bx:Nat=>pt bx [.pointer (some ⟨sb,0,none⟩)] 179::L):=by
 refine Ct.o1 Tryz.func214 ?_;intro E
 show Hd E 4 _ _ _ _
 refine sr fun _ K1=>?_
 refine Hd.box rfl rfl (fun b1=>?_);refine yv y_as<|fk [(1,_)] K1 ?_;refine sr fun _ K2=>?_
 refine yv (y_mkf (fv:=[]) (cv:=[_]) rfl rfl) ?_;refine yv y_as<|fk [(2,_)] K2 ?_;refine Hd.ret ?_;exact Hd.ret1 rfl b1 rfl sq
theorem counts_it (bx sb:Nat) (hd:List Bool) (ct:List Int) (hl:hd.length=32) (hcl:ct.length=32):RX.It Tryz.prog 236 [.pointer (some ⟨bx,0,none⟩)] encCA (fun ys=>ys=cntF 0 ct) (fun ys=>ys <+: cntF 0 ct)
  (SgX bx sb hd ct []) (SgX bx sb hd ct []):=by
 intro l J X hy;refine Ct.of (vs:=[.func (.yield l) #[] #[],.pointer (some ⟨bx,0,none⟩)]) Tryz.func236 rfl rfl [(0,.func (.yield l) #[] #[]),(1,.pointer (some ⟨bx,0,none⟩))] ⟨rfl,rfl,trivial⟩ ?_;intro E
 show Hd E 20 _ _ _ _
 refine Hd.heap (SgX bx sb hd ct (J [])) (fun k h=>by have:=sep_app h;exact this) ?_;refine Hd.scope ?_;refine Hd.seq fun _ K1=>?_
 refine Hd.label ?_;refine Hd.toK K1 ?_;refine sr fun _ K2=>?_
 refine yv y_mv<|fk [(0,_),(1,_),(5,_)] K2 ?_;refine Hd.block<|Hd.loopK (ι:=Nat) [(0,_),(1,_)] (fun i=>[(5,.int .i64 (i:Int))]) (fun i=>pu (i≤32)::SgX bx sb hd ct (J (cntF 0 (ct.take i)))) (fun i=>32 - i) 0 sbq sbq (Ent.sep (.pure (by omega) enn)) ?_;intro i
 try dsimp only
 refine Hd.pure (fun hp0=>?_)
 try dsimp only at hp0
 refine sr fun _ K3=>?_
 refine yv (y_lss rfl rfl) ?_;refine fk [(0,_),(1,_),(5,_),(6,_)] K3 ?_;refine Hd.seq fun _ K4=>?_
 refine qz ?_ ?_<;>intro hc0<;>try simp only [hyZ] at hc0
 ·have hi:i < 32:=by omega
  have hsc:=cntF_succ (ct:=ct) (i:=i) (by omega)
  have hpr:=cntF_pre ct (i + 1)
  refine qv K4<|Hd.seq fun _ K5=>?_
  refine Hd.block<|sr fun _ K6=>?_
  refine yv y_mv<|yv y_as<|fk [(0,_),(1,_),(3,_),(5,_)] K6 ?_;refine sr fun _ K7=>?_
  refine yv (y_l1 ag179 rfl)<|yv y_mv<|callE rfl fk164 (count_ct _ sb hd ct hl hcl (i:Int)) sq ?_;intro _;refine yv y_as<|fk [(0,_),(1,_),(3,_),(4,_),(5,_)] K7 ?_;refine Hd.seq fun _ K8=>?_
  refine sr fun _ K9=>?_
  refine yv y_mv<|yv (y_eql rfl rfl) ?_;refine fk [(0,_),(1,_),(3,_),(4,_),(5,_),(12,_)] K9 ?_;refine qz ?_ ?_<;>intro hc1<;>try simp only [hyZ] at hc1
  ·refine Hd.exit ?_
   refine Hd.thenExit<|Hd.inBexit<|Hd.toK K5 ?_;refine Hd.region<|yv (y_addn rfl rfl (by simp only [InK];omega)) ?_;refine yv y_mv<|Hd.nil<|slots [(0,_),(1,_),(5,_)] sbq ?_;refine thenN ?_
   rw [if_pos (by
    unfold cntS at hc1
    by_cases h0:i=0
    ·exact .inl h0
    ·rw [if_pos (by omega),Int.toNat_natCast] at hc1;exact .inr hc1),List.append_nil] at hsc
   rw [←hsc];exact Hd.again (i + 1) (by omega) sbq (Ent.sep (.pure (by omega) enn))
  have hi0:i≠0:=fun h=>by subst h;exact hc1 rfl
  have hcv:cntS ct (i:Int)=ct.getD i 0:=by unfold cntS;rw [if_pos (by omega),Int.toNat_natCast]
  rw [hcv] at hc1;rw [if_neg (by rintro (h | h);exact hi0 h;exact hc1 h)] at hsc;rw [hsc] at hpr;rw [hcv];refine qv K8<|sr fun _ K10=>?_
  refine yv y_mv<|yv y_mv<|yv y_mv<|yv (y_build (vs:=[(0,_),(1,_)]) rfl (by exact bd236_16 ..)) ?_;refine Hd.yield (pre:=cntF 0 (ct.take i)) (c:=((i:Int),ct.getD i 0)) (M:=SgX bx sb hd ct []) hy rfl rfl hpr (fun k' h=>sep_app (show sep ((SgX bx sb hd ct [])++J (cntF 0 (ct.take i))) k' from Ent.sep enn k' h)) ?_;intro yb;refine yv (y_not rfl)<|fk [(0,_),(1,_),(5,_),(18,_)] K10 ?_;refine qz ?_ ?_<;>intro hc2<;>try simp only [hyZ] at hc2
  ·subst hc2
   simp only [cond_false];refine Hd.ret<|Hd.inBret<|Hd.thenRet<|Hd.thenRet<|Hd.inBret<|Hd.scRet ?_;exact Hd.ret0 rfl (cntF 0 (ct.take i)++[((i:Int),ct.getD i 0)],false) rfl (fun k' h=>Ent.sep (.pure hpr .same) k' h)
  subst hc2;simp only [cond_true];refine Hd.heap (SgX bx sb hd ct (J (cntF 0 (ct.take i)++[((i:Int),ct.getD i 0)]))) (fun k' h=>sep_app h) ?_;rw [←hsc];refine Hd.skip<|Hd.inB<|Hd.toK K5 ?_;refine Hd.region<|yv (y_addn rfl rfl (by simp only [InK];omega)) ?_;refine yv y_mv<|Hd.nil<|slots [(0,_),(1,_),(5,_)] sbq ?_;refine thenN ?_;exact Hd.again (i + 1) (by omega) sbq (Ent.sep (.pure (by omega) enn))
 refine Hd.exit<|Hd.thenExit<|Hd.thenExit<|Hd.inBexit<|Hd.scNorm ?_
 obtain rfl:i=32:=by omega
 rw [show ct.take 32=ct from List.take_of_length_le (by omega)];exact Hd.end0 rfl (cntF 0 ct,true) rfl (fun k' h=>Ent.sep (.pure rfl .same) k' (sep_app (M:=SgX bx sb hd ct []) (N:=J (cntF 0 ct)) (Ent.sep enn k' h)))
theorem cntF_mem:∀ (l:List Int) (i:Nat) (p:Int×Int),p∈cntF i l→∃ j:Nat,l[j]?=some p.2∧p.1=((i + j:Nat):Int)∧0 < i + j
 | [],_,_,h=>by cases h
 | c::t,i,p,h=>by
  have h':p∈(if i=0∨c=0 then cntF (i + 1) t else ((i:Int),c)::cntF (i + 1) t):=h
  have rec_:p∈cntF (i + 1) t→∃ j:Nat,(c::t)[j]?=some p.2∧p.1=((i + j:Nat):Int)∧0 < i + j:=fun h=>by
   obtain ⟨j,h1,h2,h3⟩:=cntF_mem t (i + 1) p h
   exact ⟨j + 1,by simpa using h1,by rw [h2];congr 1;omega,by omega⟩
  split at h'
  ·exact rec_ h'
  ·rename_i hn
   rcases List.mem_cons.1 h' with rfl | h'
   ·exact ⟨0,rfl,rfl,by omega⟩
   ·exact rec_ h'
theorem cntF_sum:∀ (l:List Int) (i:Nat),0 < i→((cntF i l).map Prod.snd).sum=l.sum
 | [],_,_=>rfl
 | c::t,i,h=>by
  show ((if i=0∨c=0 then cntF (i + 1) t else ((i:Int),c)::cntF (i + 1) t).map Prod.snd).sum=c + t.sum
  have ih:=cntF_sum t (i + 1) (by omega)
  split
  ·rename_i h1
   rw [ih];omega
  ·show c + ((cntF (i + 1) t).map Prod.snd).sum=_
   rw [ih]
theorem cntF_sum0 (ct:List Int):((cntF 0 ct).map Prod.snd).sum=(ct.drop 1).sum:=by
 cases ct with
 | nil=>rfl
 | cons c t =>
  show ((if 0=0∨c=0 then cntF 1 t else (((0:Nat):Int),c)::cntF 1 t).map Prod.snd).sum=t.sum
  rw [if_pos (.inl rfl)];exact cntF_sum t 1 (by omega)
theorem sum_bd {l:List (Int×Int)} {K:Int} (h:∀ p∈l,0≤p.2∧p.2≤K):0≤(l.map Prod.snd).sum∧(l.map Prod.snd).sum≤l.length * K:=by
 induction l with
 | nil=>simp
 | cons p t ih =>
  have h1:=h p List.mem_cons_self
  have h2:=ih fun q hq=>h q (List.mem_cons_of_mem _ hq)
  simp only [List.map_cons,List.sum_cons,List.length_cons]
  have:((t.length + 1:Nat):Int) * K=(t.length:Int) * K + K:=by
   rw [Int.natCast_add,Int.add_mul];simp
  omega
theorem pending_ct (L:List SP) (sb:Nat) (hd:List Bool) (ct:List Int) (hl:hd.length=32) (hcl:ct.length=32) (hb:∀ c∈ct,0≤c∧c≤2000000000):Ct Tryz.prog 163 #[.pointer (some ⟨sb,0,none⟩)] (SigP sb hd ct::L) (fun _:Unit=>.int .i64 (ct.drop 1).sum) (fun _:Unit=>SigP sb hd ct::L):=by
 refine Ct.o1M Tryz.func163 ?_;intro E
 show Hd E 13 _ _ _ _
 have hmb:∀ p∈cntF 0 ct,0≤p.2∧p.2≤2000000000:=fun p hp=>by
  obtain ⟨j,hj,_,_⟩:=cntF_mem ct 0 p hp
  exact hb _ (List.mem_of_getElem? hj)
 have hcle:=cntF_le ct 0
 refine sr fun _ K1=>?_
 refine yv y_as<|fk [(0,_)] K1 ?_;refine sr fun _ K2=>?_
 refine Hd.alloc zr3 (fun b3=>?_);refine Hd.store1 sz3 rfl rfl rfl pkk (by decide) ?_
 try simp only [hyS]
 refine fk [(0,_),(3,_)] K2 ?_;refine Hd.seq fun _ K3=>?_
 refine sr fun _ K4=>?_
 refine yv y_mv<|callE rfl fk214 (counts_ct _ sb) sq ?_;intro bx;refine fk [(3,_),(6,_)] K4 ?_;refine Hd.block<|Hd.rangeF (enc:=encCA) (S:=fun ys=>ys=cntF 0 ct) (Sp:=fun ys=>ys <+: cntF 0 ct)
  (fun pre=>pt b3 [.int .i64 (pre.map Prod.snd).sum] 3::L) (fun _ _=>[pu False])
  rfl kq (fun _=>rfl) rfl (counts_it bx sb hd ct hl hcl) (by refine Ent.sep ?_;refine Ent.eq pkk (pt_eq (by rfl)) ?_;exact Ent.swap (L:=[_,_])) ?_ ?_ ?_
 ·intro E l' R pre c N hR hG
  have hpl:=hG.length_le
  have hs1:=sum_bd (l:=pre) (K:=2000000000) fun p hp=>hmb p (hG.subset (List.mem_append_left _ hp))
  have hc1:=hmb c (hG.subset (by simp))
  rw [List.length_append] at hpl
  have hpl2:pre.length≤32:=by simp at hpl;omega
  unfold Rnd;simp only [List.cons_append,List.nil_append,pz,encCA];refine Hd.region<|Hd.alloc zr225 (fun b4=>?_);refine Hd.storeA (us:=encCn c) sz225 rfl rfl rfl (by simp [Value.oneCell']) pkk (by exact rfl) ?_;refine Hd.nil<|slots [(3,_),(4,_)] sbq ?_;refine thenN<|Hd.begin hR pkk ?_;refine Hd.block<|Hd.region<|yv (y_l1 ag3 rfl)<|yv (y_f 1 3 Tryz.underlying225 sz3)<|yv (y_l1 ag3 rfl)<|yv (y_addn rfl rfl (by simp only [InK];omega)) ?_;refine Hd.store1 sz3 rfl rfl rfl pkk (by simp;done) ?_
  try simp only [hyS]
  refine Hd.nil<|slots [(3,_)] sbq ?_;refine Hd.inB<|Hd.reN ?_;simp only [List.cons_append,List.nil_append];exact Ent.sep (.pick pkk (.eq pkk (pt_eq (by simp)) enn))
 ·intro r0 ys hys
  obtain rfl:ys=cntF 0 ct:=hys
  try simp only [List.cons_append,List.nil_append]
  refine Hd.inB<|Hd.toK K3 ?_;refine sr fun _ K5=>?_
  refine yv (y_l1 ag3 rfl)<|yv y_as<|fk [(2,_)] K5 ?_;refine Hd.ret ?_;rw [←cntF_sum0];exact Hd.retM (fun a fr=>Lv.mark pkk (Lv.end1 fr rfl () rfl sq))
 rintro r0_0 (_ | id0) pre0 hG0
 ·exact Hd.absurd (by exact id)
 exact Hd.absurd (by exact id)
theorem sig_open {s:Int} (h:mayE s=0):∃ k:Nat,s=(k:Int)∧1≤k∧k < 32:=by
 have:=mayE_0.1 h
 exact ⟨s.toNat,by omega,by omega,by omega⟩
theorem shandle_ct (L:List SP) (sb:Nat) (hd:List Bool) (ct:List Int) (hl:hd.length=32) (hcl:ct.length=32) (s:Int) (on:Bool):Ct Tryz.prog 204 #[.pointer (some ⟨sb,0,none⟩),.int .i64 s,.bool on] (SigP sb hd ct::L) (fun _:Unit=>.int .i64 (mayE s)) (fun _:Unit=>SigP sb (if mayE s=0 then hd.set s.toNat on else hd) (if mayE s=0∧on=false then ct.set s.toNat 0 else ct)::L):=by
 refine Ct.o3 Tryz.func204 ?_;intro E
 show Hd E 27 _ _ _ _
 refine sr fun _ K1=>?_
 refine yv y_as<|fk [(0,_),(1,_),(2,_)] K1 ?_;refine Hd.seq fun _ K2=>?_
 refine sr fun _ K3=>?_
 refine yv y_mv<|yv y_mv<|callE rfl fk215 (may_ct _ sb s) sq ?_;intro _;refine yv y_as<|fk [(0,_),(1,_),(2,_),(7,_)] K3 ?_;refine sr fun _ K4=>?_
 refine yv y_mv<|yv (y_neq rfl rfl) ?_;refine fk [(0,_),(1,_),(2,_),(7,_),(12,_)] K4 ?_;refine qz ?_ ?_<;>intro hc0<;>try simp only [hyZ] at hc0
 ·refine sr fun _ K5=>?_
  refine yv y_mv<|yv y_as<|fk [(6,_)] K5 ?_;refine Hd.ret<|Hd.thenRet ?_;rw [if_neg hc0,if_neg (fun h=>hc0 h.1)];exact Hd.ret1 rfl () rfl sq
 obtain ⟨k,rfl,hk1,hk⟩:=sig_open hc0
 refine qv K2<|Hd.seq fun _ K6=>?_
 refine sr fun _ K7=>?_
 refine yv y_mv<|yv y_mv<|yv y_mv<|yv y_np<|yv (y_f 0 99 Tryz.underlying270 sz99)<|yv (y_idxA Tryz.underlying99 sz4 rfl rfl (by omega)) ?_;refine Hd.store1 sz4 rfl rfl rfl pkk (by rw [sg_len hl hcl];omega) ?_
 try simp only [hyS]
 refine Hd.nil ?_;rw [show (hd.map Value.bool++ct.map (Value.int .i64)).set (0 + 0 + k * 1) (.bool on)=SgV (hd.set k on) ct from sg_set_hd hl hk (by omega)];refine sk [(0,_),(1,_),(2,_)] K7 ?_;refine sr fun _ K8=>?_
 refine yv y_mv<|yv (y_not rfl)<|fk [(0,_),(1,_),(21,_)] K8 ?_;refine qz ?_ ?_<;>intro hc1<;>try simp only [hyZ] at hc1
 ·refine Hd.region ?_
  refine yv y_mv<|yv y_mv<|yv y_np<|yv (y_f 32 100 Tryz.underlying270 sz100)<|yv (y_idxA Tryz.underlying100 sz3 rfl rfl (by omega)) ?_;refine Hd.store1 sz3 rfl rfl rfl pkk (by rw [sg_len (by rw [List.length_set];exact hl) hcl];omega) ?_
  try simp only [hyS]
  refine Hd.nil ?_;rw [show (SgV (hd.set k on) ct).set (0 + 32 + k * 1) (.int .i64 0)=SgV (hd.set k on) (ct.set k 0) from sg_set_ct (by rw [List.length_set];exact hl) hk (by omega)];refine sk [] K6 ?_;refine sr fun _ K9=>?_
  refine yv y_as<|fk [(6,_)] K9 ?_;refine Hd.ret ?_;rw [if_pos hc0,if_pos ⟨hc0,by simpa using hc1⟩];exact Hd.ret1 rfl () (by rw [hc0];rfl) sq
 refine qv K6<|sr fun _ K10=>?_
 refine yv y_as<|fk [(6,_)] K10 ?_;refine Hd.ret ?_;rw [if_pos hc0,if_neg (fun h=>by rw [h.2] at hc1;simp at hc1)];exact Hd.ret1 rfl () (by rw [hc0];rfl) sq
theorem sraise_ct (L:List SP) (sb:Nat) (hd:List Bool) (ct:List Int) (hl:hd.length=32) (hcl:ct.length=32) (hb:∀ c∈ct,0≤c∧c≤2000000000) (s:Int):Ct Tryz.prog 207 #[.pointer (some ⟨sb,0,none⟩),.int .i64 s] (SigP sb hd ct::L) (fun _:Unit=>.int .i64 (mayE s)) (fun _:Unit=>SigP sb hd (if mayE s=0∧hd.getD s.toNat false=true then ct.set s.toNat (ct.getD s.toNat 0 + 1) else ct)::L):=by
 refine Ct.o2 Tryz.func207 ?_;intro E
 show Hd E 36 _ _ _ _
 refine sr fun _ K1=>?_
 refine yv y_as<|fk [(0,_),(1,_)] K1 ?_;refine Hd.seq fun _ K2=>?_
 refine sr fun _ K3=>?_
 refine yv y_mv<|yv y_mv<|callE rfl fk215 (may_ct _ sb s) sq ?_;intro _;refine yv y_as<|fk [(0,_),(1,_),(5,_)] K3 ?_;refine sr fun _ K4=>?_
 refine yv y_mv<|yv (y_neq rfl rfl) ?_;refine fk [(0,_),(1,_),(5,_),(10,_)] K4 ?_;refine qz ?_ ?_<;>intro hc0<;>try simp only [hyZ] at hc0
 ·refine sr fun _ K5=>?_
  refine yv y_mv<|yv y_as<|fk [(4,_)] K5 ?_;refine Hd.ret<|Hd.thenRet ?_;rw [if_neg (fun h=>hc0 h.1)];exact Hd.ret1 rfl () rfl sq
 obtain ⟨k,rfl,hk1,hk⟩:=sig_open hc0
 have hcb:0≤ct.getD k 0∧ct.getD k 0≤2000000000:=by
  rw [List.getD_eq_getElem?_getD,List.getElem?_eq_getElem (by omega)];exact hb _ (List.getElem_mem _)
 refine qv K2<|Hd.seq fun _ K6=>?_
 refine sr fun _ K7=>?_
 refine yv y_mv<|yv y_mv<|yv y_np<|yv (y_f 0 99 Tryz.underlying270 sz99)<|yv (y_idxA Tryz.underlying99 sz4 rfl rfl (by omega)) ?_;refine yv (y_load1 ag4 rfl (Rd.pt1 pkk (by exact sg_hd hl hk (by omega)))) ?_;refine fk [(0,_),(1,_),(17,_)] K7 ?_;refine qz ?_ ?_<;>intro hc1<;>try simp only [hyZ] at hc1
 ·refine Hd.tail 18 mixed kq ?_
  simp only [List.take,List.drop];refine Ht.yv y_mv ?_;refine Ht.yv y_mv ?_;refine Ht.yv y_np ?_;refine Ht.yv (y_f 32 100 Tryz.underlying270 sz100) ?_;refine Ht.yv (y_idxA Tryz.underlying100 sz3 rfl rfl (by omega)) ?_;refine Ht.yv (y_load1 ag3 rfl (Rd.pt1 pkk (by exact sg_ct hl hcl hk (by omega)))) ?_;refine Ht.yv y_mv ?_;refine Ht.yv y_mv ?_;refine Ht.yv y_np ?_;refine Ht.yv (y_f 32 100 Tryz.underlying270 sz100) ?_;refine Ht.yv (y_idxA Tryz.underlying100 sz3 rfl rfl (by omega)) ?_;refine Ht.yv (y_load1 ag3 rfl (Rd.pt1 pkk (by exact sg_ct hl hcl hk (by omega)))) ?_;refine Ht.yv (y_subn rfl rfl (by simp only [InK];omega)) ?_;refine Ht.yv (y_min rfl rfl) ?_;refine Ht.yv (y_to (v':=.int .i64 (ct.getD k 0 + 1)) (y_addn rfl rfl (by simp only [InK];omega)) (by (congr 1;omega))) ?_;refine Ht.yv y_np ?_;refine Ht.yv (y_f 32 100 Tryz.underlying270 sz100) ?_;refine Ht.yv (y_idxA Tryz.underlying100 sz3 rfl rfl (by omega)) ?_
  refine Ht.nil ?_;refine Hd.store1 sz3 rfl rfl rfl pkk (by rw [sg_len hl hcl];omega) ?_
  try simp only [hyS]
  refine Hd.nil ?_;rw [show (hd.map Value.bool++ct.map (Value.int .i64)).set (0 + 32 + k * 1) (.int .i64 (ct.getD k 0 + 1))=SgV hd (ct.set k (ct.getD k 0 + 1)) from sg_set_ct hl hk (by omega)];refine sk [] K6 ?_;refine sr fun _ K8=>?_
  refine yv y_as<|fk [(4,_)] K8 ?_;refine Hd.ret ?_;rw [if_pos ⟨hc0,hc1⟩];exact Hd.ret1 rfl () (by rw [hc0];rfl) sq
 refine qv K6<|sr fun _ K9=>?_
 refine yv y_as<|fk [(4,_)] K9 ?_;refine Hd.ret ?_;rw [if_neg (fun h=>by rw [show ((k:Int)).toNat=k from Int.toNat_natCast k] at h;rw [h.2] at hc1;cases hc1)];exact Hd.ret1 rfl () (by rw [hc0];rfl) sq
abbrev OutCn (b:Nat) (l:List (Int×Int)):SP:=RX.ex fun i:Option Addr×Nat=>[pt b [.slice i.1 l.length i.2] 222,own 225 2 i.1 l.length i.2 (l.flatMap encCn)]
def zerF (ct:List Int) (l:List (Int×Int)):List Int:=l.foldl (fun ct p=>ct.set p.1.toNat 0) ct
theorem zerF_len (l:List (Int×Int)) (ct:List Int):(zerF ct l).length=ct.length:=by
 induction l generalizing ct with
 | nil=>rfl
 | cons p t ih=>show (zerF (ct.set p.1.toNat 0) t).length=_;rw [ih,List.length_set]
theorem zerF_snoc (ct:List Int) (l:List (Int×Int)) (p:Int×Int):zerF ct (l++[p])=(zerF ct l).set p.1.toNat 0:=by unfold zerF;rw [List.foldl_append];rfl
theorem zerF_at:∀ (l:List (Int×Int)) (ct:List Int) (j:Nat),j < ct.length→(zerF ct l)[j]?=if ∃ p∈l,p.1.toNat=j then some 0 else ct[j]?
 | [],ct,j,_=>by simp [zerF]
 | p::t,ct,j,h=>by
  show (zerF (ct.set p.1.toNat 0) t)[j]?=_
  rw [zerF_at t _ j (by rw [List.length_set];exact h)]
  by_cases h1:∃ q∈t,q.1.toNat=j
  ·rw [if_pos h1,if_pos]
   obtain ⟨q,hq,e⟩:=h1
   exact ⟨q,List.mem_cons_of_mem _ hq,e⟩
  ·rw [if_neg h1]
   by_cases h2:p.1.toNat=j
   ·rw [if_pos ⟨p,List.mem_cons_self,h2⟩,h2,List.getElem?_set_self h]
   ·rw [List.getElem?_set_ne h2,if_neg]
    rintro ⟨q,hq,e⟩
    rcases List.mem_cons.1 hq with rfl | hq
    ·exact h2 e
    ·exact h1 ⟨q,hq,e⟩
theorem cntF_has:∀ (l:List Int) (i j:Nat) (c:Int),l[j]?=some c→c≠0→0 < i + j→(((i + j:Nat):Int),c)∈cntF i l
 | [],_,_,_,h,_,_=>by simp at h
 | a::t,i,0,c,h,hc,hi=>by
  obtain rfl:a=c:=by simpa using h
  show _∈(if i=0∨a=0 then cntF (i + 1) t else ((i:Int),a)::cntF (i + 1) t)
  rw [if_neg (by rintro (h | h);omega;exact hc h)];exact List.mem_cons_self
 | a::t,i,j + 1,c,h,hc,hi=>by
  have:=cntF_has t (i + 1) j c (by simpa using h) hc (by omega)
  rw [show i + 1 + j=i + (j + 1) by omega] at this
  show _∈(if i=0∨a=0 then cntF (i + 1) t else ((i:Int),a)::cntF (i + 1) t)
  split
  ·exact this
  ·exact List.mem_cons_of_mem _ this
def zer1:List Int→List Int
 | []=>[]
 | c::t=>c::t.map fun _=>0
theorem zerF_all (ct:List Int):zerF ct (cntF 0 ct)=zer1 ct:=by
 apply List.ext_getElem?;intro j
 by_cases hj:j < ct.length
 ·rw [zerF_at _ _ _ hj]
  cases ct with
  | nil=>simp at hj
  | cons c t =>
   cases j with
   | zero =>
    rw [if_neg]
    ·rfl
    ·rintro ⟨p,hp,e⟩
     obtain ⟨k,_,h2,h3⟩:=cntF_mem _ _ _ hp
     omega
   | succ j =>
    have hjt:j < t.length:=by simpa using hj
    show _=(t.map fun _=>(0:Int))[j]?
    rw [List.getElem?_map,List.getElem?_eq_getElem hjt]
    by_cases hz:t[j]=0
    ·have e:(c::t)[j + 1]?=some 0:=by rw [List.getElem?_cons_succ,List.getElem?_eq_getElem hjt,hz]
     rw [e];split<;>rfl
    ·rw [if_pos]
     ·rfl
     ·refine ⟨_,cntF_has (c::t) 0 (j + 1) t[j] (by rw [List.getElem?_cons_succ,List.getElem?_eq_getElem hjt]) hz (by omega),?_⟩
      show ((0 + (j + 1):Nat):Int).toNat=j + 1
      omega
 ·rw [List.getElem?_eq_none (by rw [zerF_len];omega),List.getElem?_eq_none]
  cases ct with
  | nil=>exact Nat.zero_le _
  | cons c t=>simp [zer1] at hj ⊢;omega
theorem stake_ct (L:List SP) (sb:Nat) (hd:List Bool) (ct:List Int) (hl:hd.length=32) (hcl:ct.length=32):Ct Tryz.prog 208 #[.pointer (some ⟨sb,0,none⟩)] (SigP sb hd ct::L) (fun q_:Option Addr×Nat=>.slice q_.1 (cntF 0 ct).length q_.2) (fun q_:Option Addr×Nat=>own 225 2 q_.1 (cntF 0 ct).length q_.2 ((cntF 0 ct).flatMap encCn)::SigP sb hd (zer1 ct)::L):=by
 refine Ct.o1M Tryz.func208 ?_;intro E
 show Hd E 28 _ _ _ _
 have hcle:=cntF_le ct 0
 refine sr fun _ K1=>?_
 refine yv y_as<|fk [(0,_)] K1 ?_;refine sr fun _ K2=>?_
 refine Hd.alloc zr222 (fun b3=>?_);refine fk [(0,_),(3,_)] K2 ?_;refine Hd.seq fun _ K3=>?_
 refine sr fun _ K4=>?_
 refine yv y_mv<|callE rfl fk214 (counts_ct _ sb) sq ?_;intro bx;refine fk [(0,_),(3,_),(8,_)] K4 ?_;refine Hd.block<|Hd.rangeF (enc:=encCA) (S:=fun ys=>ys=cntF 0 ct) (Sp:=fun ys=>ys <+: cntF 0 ct)
  (fun pre=>OutCn b3 pre::L) (fun _ _=>[pu False])
  rfl kq (fun _=>rfl) rfl (counts_it bx sb hd ct hl hcl) (by refine Ent.sep ?_;refine Ent.ex (none,0) ?_;refine Ent.eq pkk (pt_eq (by rfl)) ?_;refine Ent.ownNil ?_;exact Ent.swap (L:=[_,_])) ?_ ?_ ?_
 ·intro E l' R pre c N hR hG
  have hpl:pre.length + 1≤32:=by have h1:=hG.length_le;simp at h1;omega
  unfold Rnd;simp only [List.cons_append,List.nil_append,pz,encCA];refine Hd.region<|Hd.alloc zr225 (fun b4=>?_);refine Hd.storeA (us:=encCn c) sz225 rfl rfl rfl (by simp [Value.oneCell']) pkk (by exact rfl) ?_;refine Hd.nil<|slots [(0,_),(3,_),(4,_)] sbq ?_;refine thenN<|Hd.begin hR pkk ?_;refine Hd.block<|Hd.exs pkk ?_;rintro ⟨a3,c3⟩;simp only [List.cons_append,List.nil_append];refine Hd.region<|yv (y_l1 ag222 rfl)<|yv (y_loadn (us:=encCn c) ag225 rfl (Rd.pt pkk (fun j v e=>by rw [Nat.zero_add];exact e)) (by exact sz225)) ?_;refine Hd.bslice (vs:=[(0,_)]) rfl (by exact bs208_12 ..) (fun b12=>?_);refine Hd.append Tryz.underlying222 ty225 rfl rfl rfl pkk (by exact RdS.rd (Rd.pt pkk (fun j v e=>by simpa using e)) rfl) (by simp [Value.oneCell'];done) (by simp only [maxLen];omega) (by omega) (fun ad13 cap13=>?_)
  refine Hd.store1 sz222 rfl rfl rfl pkk (by simp;done) ?_
  try simp only [hyS]
  refine Hd.nil<|slots [(0,_),(3,_)] sbq ?_;refine Hd.inB<|Hd.reN ?_;simp only [List.cons_append,List.nil_append];exact Ent.sep (.pick pkk (.ex (ad13,cap13) (.eq pkk (pt_eq (by simp)) (.eq pkk (own_eq (by simp) (by simp)) enn))))
 ·intro r0 ys hys
  obtain rfl:ys=cntF 0 ct:=hys
  try simp only [List.cons_append,List.nil_append]
  refine Hd.inB<|Hd.toK K3 ?_;refine Hd.seq fun _ K5=>?_
  refine Hd.seq fun _ K6=>?_
  refine Hd.exs pkk ?_;rintro ⟨a3,c3⟩;simp only [List.cons_append,List.nil_append];refine Hd.region<|yv (y_l1 ag222 rfl)<|yv (y_len Tryz.underlying222 rfl) ?_;refine yv y_mv<|fk [(0,_),(3,_),(14,_),(15,_),(16,_)] K6 ?_;refine Hd.block<|Hd.loopK (ι:=Nat) [(0,_),(3,_),(14,_),(15,_)] (fun j=>[(16,.int .i64 (j:Int))]) (fun j=>pu (j≤(cntF 0 ct).length)::ob r0 (Obj.deferred (some []))::pt b3 [.slice a3 (cntF 0 ct).length c3] 222::own 225 2 a3 (cntF 0 ct).length c3 ((cntF 0 ct).flatMap encCn)::SigP sb hd (zerF ct ((cntF 0 ct).take j))::L) (fun j=>(cntF 0 ct).length - j) 0 sbq sbq (Ent.sep (.pure (Nat.zero_le _) (.pick pkk (.pick pkk (.pick pkk (.eq pkk (show SigP sb hd ct=SigP sb hd (zerF ct ((cntF 0 ct).take 0)) from rfl) enn)))))) ?_;intro j
  try dsimp only
  refine Hd.pure (fun hp0=>?_)
  try dsimp only at hp0
  refine sr fun _ K7=>?_
  refine yv (y_lss rfl rfl) ?_;refine fk [(0,_),(3,_),(14,_),(15,_),(16,_),(17,_)] K7 ?_;refine Hd.seq fun _ K8=>?_
  refine qz ?_ ?_<;>intro hc0<;>try simp only [hyZ] at hc0
  ·have hj:j < (cntF 0 ct).length:=by omega
   have hgj:(cntF 0 ct)[j]?=some (cntF 0 ct)[j]:=List.getElem?_eq_getElem hj
   obtain ⟨s,hs1,hs2,hs3⟩:=cntF_mem ct 0 _ (List.getElem_mem hj)
   have hsl:s < 32:=by rw [←hcl];exact (List.getElem?_eq_some_iff.1 hs1).1
   have hsc:(cntF 0 ct).take (j + 1)=(cntF 0 ct).take j++[(cntF 0 ct)[j]]:=by rw [List.take_add_one,hgj];rfl
   rw [Nat.zero_add] at hs2;refine qv K8<|Hd.seq fun _ K9=>?_
   refine Hd.block<|sr fun _ K10=>?_
   refine yv (y_idxR Tryz.underlying222 sz225 rfl rfl (by omega) (by exact RdS.own pkk)) ?_;refine yv (y_loadRn (vs:=encCn (cntF 0 ct)[j]) ag225 rfl (RdS.own (ad:=a3) (us:=(cntF 0 ct).flatMap encCn) pkk) (flat_cells encCn 2 (fun _=>rfl) hgj) (by exact sz225) (by simp)) ?_;refine Hd.alloc zr225 (fun b6=>?_);refine Hd.storeA (us:=encCn (cntF 0 ct)[j]) sz225 rfl rfl rfl (by simp [Value.oneCell']) pkk (by exact rfl) ?_;refine fk [(0,_),(3,_),(6,_),(14,_),(15,_),(16,_)] K10 ?_;refine Hd.tail 6 mixed kq ?_;simp only [List.take,List.drop];refine Ht.yv y_mv ?_;refine Ht.yv (y_f 0 3 Tryz.underlying225 sz3) ?_;refine Ht.yv (y_to (v':=.int .i64 (s:Int)) (y_l1 ag3 rfl) (by rw [hs2])) ?_;refine Ht.yv y_np ?_;refine Ht.yv (y_f 32 100 Tryz.underlying270 sz100) ?_;refine Ht.yv (y_idxA Tryz.underlying100 sz3 rfl rfl (by omega)) ?_;refine Ht.nil ?_;refine Hd.store1 sz3 rfl rfl rfl pkk (by rw [sg_len hl (by rw [zerF_len];exact hcl)];omega) ?_
   try simp only [hyS]
   refine Hd.nil ?_
   rw [show (hd.map Value.bool++(zerF ct ((cntF 0 ct).take j)).map (Value.int .i64)).set (0 + 32 + s * 1) (.int .i64 0)=SgV hd (zerF ct ((cntF 0 ct).take (j + 1))) from by
    rw [hsc,zerF_snoc,show (cntF 0 ct)[j].1.toNat=s by rw [hs2];exact Int.toNat_natCast s]
    exact sg_set_ct hl hsl (by omega)]
   refine slots [(0,_),(3,_),(14,_),(15,_),(16,_)] sbq ?_;refine Hd.inB<|Hd.toK K9 ?_;refine Hd.region<|yv (y_addn rfl rfl (by simp only [InK];omega)) ?_;refine yv y_mv<|Hd.nil<|slots [(0,_),(3,_),(14,_),(15,_),(16,_)] sbq ?_;refine thenN ?_;exact Hd.again (j + 1) (by omega) sbq (Ent.sep (.pure (by omega) enn))
  obtain rfl:j=(cntF 0 ct).length:=by omega
  rw [List.take_length,zerF_all];refine Hd.exit<|Hd.thenExit<|Hd.thenExit<|Hd.inBexit<|Hd.toK K5 ?_;refine sr fun _ K11=>?_
  refine yv (y_l1 ag222 rfl)<|yv y_as<|fk [(2,_)] K11 ?_;refine Hd.ret ?_;exact Hd.retM (fun a fr=>Lv.mark pkk (Lv.end1 fr rfl (a3,c3) rfl sq))
 rintro r0_0 (_ | id0) pre0 hG0
 ·exact Hd.absurd (by exact id)
 exact Hd.absurd (by exact id)
theorem plc_o {o:Option (Nat×Nat)}:plc o=[.bool o.isSome,.int .i64 (match o with | none=>0 | some p=>(p.1:Int)),.int .i64 (match o with | none=>0 | some p=>(p.2:Int))]:=by
 cases o with
 | none=>rfl
 | some p=>rfl
theorem woT_nt {t:Int→Option (Nat×Nat)} {w:WA} {n j o:Nat} {i:WoI} {v:Value} (ho:o=291 + j) (hv:(plc w.nt)[j]?=some v):(fdC t++woT w n i)[o]?=some v:=by
 refine woT_at (j:=3 + j) (by omega) ?_
 show ([.slice i.wa n i.wc,ptr (some i.sb),.int .u64 w.now]++plc w.nt)[3 + j]?=_
 rw [List.getElem?_append_right (by simp),show 3 + j - List.length ([.slice i.wa n i.wc,ptr (some i.sb),.int .u64 w.now]:List Value)=j by simp];exact hv
theorem wire_ring_same {b:Nat} {x:WireA} {i:WI} {k rb:Nat} {L:List SP} (hi:WIOk x i) (hk:k < 2) (hrb:i.p k=some rb):∀ h,sep (WireH b x i::Rg rb x.cap (x.e k).b::RgO (i.p (1 - k)) x.cap (x.e (1 - k)).b::own 3 1 i.wa x.wt.length i.wc (nats x.wt)::L) h→sep (WireP b x::L) h:=fun h s=>by
 have:=wire_ring (l':=(x.e k).b) hi hk hrb h s
 rwa [show (x.up k fun e=>{ e with b:=(x.e k).b })=x from up_id rfl] at this
theorem noticed_ct (L:List SP) (wb:Nat) (w:WA) (hb:∀ c∈w.ct,0≤c∧c≤2000000000):Ct Tryz.prog 205 #[.pointer (some ⟨wb,0,none⟩)] (WorldP wb w::L) (fun _:Unit=>.tuple #[]) (fun _:Unit=>WorldP wb (ntcR w)::L):=by
 refine Ct.o1 Tryz.func205 ?_;intro E
 show Hd E 57 _ _ _ _
 refine Hd.world .here (fun i hw hrs=>?_);refine Hd.seq fun _ K1=>?_
 refine sr fun _ K2=>?_
 refine yv y_mv<|yv y_np<|yv (y_f 291 182 Tryz.underlying186 sz182)<|yv (y_f 0 4 Tryz.underlying182 sz4)<|yv (y_load1 (v:=.bool w.nt.isSome) ag4 rfl (Rd.pt1 pkk (woT_nt (j:=0) (by omega) (by rw [plc_o];rfl)))) ?_;refine yv (y_not rfl)<|fk [(0,_),(10,_)] K2 ?_;refine qz ?_ ?_<;>intro hc0<;>try simp only [hyZ] at hc0
 ·refine Hd.ret ?_
  refine Hd.thenRet ?_
  have hn:w.nt=none:=by cases h:w.nt with | none=>rfl | some p=>rw [h] at hc0;cases hc0
  rw [show ntcR w=w by unfold ntcR;rw [hn]];exact Hd.ret0 rfl () rfl (Ent.sep (.ex i (.pure ⟨hw,hrs⟩ enn)))
 obtain ⟨n,k,hnt⟩:∃ n k,w.nt=some (n,k):=by cases h:w.nt with | none=>rw [h] at hc0;cases hc0 | some p=>exact ⟨p.1,p.2,rfl⟩
 obtain ⟨hk,x,hx,z0,z1⟩:=hw.nt n k hnt
 obtain ⟨b,hb'⟩:=rs_at hrs hx
 have hwf:=hw.wf x (List.mem_of_getElem? hx)
 have hnl:n < i.rs.length:=(List.getElem?_eq_some_iff.1 hb').1
 have hk1:1 - k < 2:=by omega
 have hrd:∀ j,j < 2→(x.e j).rd=true:=fun j hj=>by
  rcases (show j=0∨j=1 by omega) with rfl | rfl
  ·exact z0
  ·exact z1
 have hsum:(w.ct.drop 1).sum=pendN w:=rfl
 have hR:ntcR w=if pendN w=0 then w.setW n (takeW x k (x.e k).b.length) else if (x.e k).b=[] then w.setW n (putW x (1 - k) [1]) else w:=by
  unfold ntcR;rw [hnt];dsimp only;rw [hx]
 refine qv K1<|Hd.seq fun _ K3=>?_
 refine Hd.quiet mixed kq ?_;refine Hq.yv y_mv ?_;refine Hq.yv y_np ?_;refine Hq.yv (y_f 288 184 Tryz.underlying186 sz184) ?_;refine Hq.yv (y_load1 ag184 rfl (Rd.pt1 pkk (by exact woT_at (j:=0) (by omega) rfl))) ?_;refine Hq.yv y_mv ?_;refine Hq.yv y_np ?_;refine Hq.yv (y_f 291 182 Tryz.underlying186 sz182) ?_;refine Hq.yv (y_f 1 3 Tryz.underlying182 sz3) ?_;refine Hq.yv (y_load1 ag3 rfl (Rd.pt1 pkk (by exact woT_nt (j:=1) (by omega) (by rw [hnt];rfl)))) ?_;refine Hq.yv (y_idxR Tryz.underlying184 sz189 rfl rfl (by omega) (by exact RdS.own pkk)) ?_;refine Hq.yv (y_loadR1 ag189 rfl (by exact RdS.own pkk) (by exact pws_at hb')) ?_;refine Hq.yv y_mv ?_;refine Hq.yv y_np ?_;refine Hq.yv (y_f 291 182 Tryz.underlying186 sz182) ?_;refine Hq.yv (y_f 2 3 Tryz.underlying182 sz3) ?_;refine Hq.yv (y_load1 ag3 rfl (Rd.pt1 pkk (by exact woT_nt (j:=2) (by omega) (by rw [hnt];rfl)))) ?_
 refine Hq.yv y_as ?_;refine Hq.yv y_as ?_;refine Hq.nil ?_;refine sk [(0,_),(2,_),(3,_)] K3 ?_;refine Hd.seq fun _ K4=>?_
 refine Hd.wOut pkk hb' ?_;refine Hd.wireR .here k hk (hrd k hk) (fun i2 rb hi hrb=>?_);refine Hd.region<|yv y_mv<|yv y_mv<|yv y_np<|yv (y_f 0 196 Tryz.underlying198 sz196)<|yv (y_idxA Tryz.underlying196 sz195 rfl rfl (by omega)) ?_;refine yv (y_f 2 193 Tryz.underlying195 sz193)<|yv (y_to (v':=.pointer (some ⟨rb,0,none⟩)) (y_load1 ag193 rfl (Rd.pt1 pkk (by exact enc_at 2 hk (by omega) (by omega) rfl))) (by (show ptr (i2.p k)=_;rw [hrb];rfl))) ?_;refine yv y_as<|fk [(0,_),(2,_),(3,_),(4,_)] K4 ?_;refine Hd.block<|sr fun _ K5=>?_
 refine yv y_mv<|yv y_np<|yv (y_f 289 179 Tryz.underlying186 sz179)<|yv (y_load1 ag179 rfl (Rd.pt1 pkk (by exact woT_at (j:=1) (by omega) rfl))) ?_;refine callE rfl fk163 (pending_ct _ i.sb w.hd w.ct hw.hdl hw.ctl hb) sq ?_;intro _;refine yv (y_eql rfl rfl) ?_;refine yv y_as<|fk [(2,_),(3,_),(4,_),(34,_)] K5 ?_;refine qz ?_ ?_<;>intro hc1<;>try simp only [hyZ] at hc1
 ·rw [if_pos (show pendN w=0 from hc1)] at hR
  refine Hd.region<|yv y_mv<|yv y_mv<|yv (y_to (v':=.int .i64 ((1 - k:Nat):Int)) (y_subn rfl rfl (by simp only [InK];omega)) (by (congr 1;omega))) ?_;refine yv y_mv<|callE rfl fk202 (rclear_ct _ rb x.cap (x.e k).b) sq ?_;intro _;refine Hd.heap (WireP b (x.up k fun e=>{ e with b:=[] })::WoR wb n w i L) (fun q s=>wire_ring (l':=[]) hi hk hrb q (Ent.sep enn q s)) ?_;refine yv (y_to (v':=.bool (decide (0 < ((x.e k).b.take (x.e k).b.length).length))) (y_gtr rfl rfl) (by (congr 1;rw [List.take_length];simp only [decide_eq_decide];omega))) ?_;refine callE rfl fk196 (came_ct _ b (x.up k fun e=>{ e with b:=[] }) (1 - k) hk1 false (decide (0 < ((x.e k).b.take (x.e k).b.length).length))) sq ?_;intro _;refine Hd.nil<|slots [] sbq ?_;refine Hd.inB ?_
  have e:(x.up k fun e=>{ e with b:=[] }).up (1 - k) (riseE false (decide (0 < ((x.e k).b.take (x.e k).b.length).length)))=takeW x k (x.e k).b.length:=by
   unfold takeW
   congr 1
   exact up_eq (by rw [List.drop_length])
  rw [hR,e];exact Hd.end0 rfl () rfl (fun q s=>world_fold' hw hrs hb' (smW_take hwf hk (hrd k hk)) q (Ent.sep enn q s))
 rw [if_neg (show ¬ pendN w=0 from hc1)] at hR;refine sr fun _ K6=>?_
 refine yv y_mv<|callE rfl fk150 (rlen_ct _ rb x.cap (x.e k).b) sq ?_;intro _;refine yv (y_eql rfl rfl) ?_;refine yv y_as<|fk [(2,_),(3,_),(48,_)] K6 ?_;refine qz ?_ ?_<;>intro hc2<;>try simp only [hyZ] at hc2
 ·have hnil:(x.e k).b=[]:=List.eq_nil_of_length_eq_zero (by omega)
  rw [if_pos hnil] at hR;refine Hd.region<|yv y_mv<|yv y_mv<|yv (y_to (v':=.int .i64 ((1 - k:Nat):Int)) (y_subn rfl rfl (by simp only [InK];omega)) (by (congr 1;omega))) ?_;refine Hd.bslice (vs:=[(0,_)]) rfl (by exact bs205_55 ..) (fun b55=>?_);refine Hd.heap (WireP b x::pt b55 [.int .u8 1] 5::WoR wb n w i L) (fun q s=>wire_ring_same hi hk hrb q (Ent.sep enn q s)) ?_;refine callE rfl fk113 (put_ct _ b x (1 - k) hk1 (hrd (1 - (1 - k)) (by omega)) (some ⟨b55,0,none⟩) 1 1 [1] rfl ?hD (by omega) (by omega)) sq ?_
  case hD=>exact RdS.rd (Rd.pt pkk (fun j v e=>by rw [Nat.zero_add];exact e)) rfl
  intro _;refine Hd.nil<|slots [] sbq ?_;refine Hd.inB ?_;rw [hR];exact Hd.end0 rfl () rfl (fun q s=>world_fold' hw hrs hb' (smW_put hwf hk1 [1] (hrd (1 - (1 - k)) (by omega))) q (Ent.sep enn q s))
 rw [if_neg (fun h=>hc2 (by rw [h];rfl))] at hR;refine Hd.skip<|Hd.inB ?_;rw [hR];exact Hd.end0 rfl () rfl (fun q s=>world_same hw hrs hb' q (wire_ring_same hi hk hrb q (Ent.sep enn q s)))
end Wo
end Go.Proofs.YtmpemhbfgbochaaGreatDoor
