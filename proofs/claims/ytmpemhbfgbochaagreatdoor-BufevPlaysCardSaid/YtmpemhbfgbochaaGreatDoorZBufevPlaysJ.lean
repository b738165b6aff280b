/-
  The world and the document's, side by side: what comes in; Fresh; more.
-/
import Derived.Lib.ItoaNum
import Derived.Lib.Join
import Derived.Test.YtmpemhbfgbochaaGreatDoorZBufevPlaysI
set_option linter.unusedSimpArgs false
set_option linter.unusedVariables false
set_option linter.unnecessarySimpa false
set_option maxRecDepth 8000
set_option maxHeartbeats 2000000
open Go.RX.Hd (yv y2 n1 fk sk sr tH callE heldK qo qk qn qt qz qv endH thenN slots)
namespace Go.Proofs.YtmpemhbfgbochaaGreatDoor
open Go.RX Fx
namespace Wo
abbrev encO (o:Ov):List Value:=[.int .i64 o.k,.int .i64 o.a,.int .i64 o.n,.int .u64 o.t,.slice o.ad o.d.length o.c]
structure OvOk (L:List SP) (o:Ov):Prop where
 rd:RdS L 1 o.ad o.d.length (bsl o.d)
 c:o.d.length≤o.c
 k:InK .i64 o.k
 a:InK .i64 o.a
 n:InK .i64 o.n
 t:InK .u64 o.t
def gO (xs:List Ov):Int:=if 200 < xs.length then 1 else if ∀ o∈xs,o.d.length≤300 then 0 else 1
theorem gO_ok {xs:List Ov} (h:¬ 0 < gO xs):xs.length≤200∧∀ o∈xs,o.d.length≤300:=by
 unfold gO at h
 split at h
 ·exact absurd (by decide) h
 ·split at h
  ·rename_i h1 h2;exact ⟨by omega,h2⟩
  ·exact absurd (by decide) h
theorem great11_ct (L:List SP) (ad:Option Addr) (c:Nat) (xs:List Ov) (hR:RdS L 5 ad xs.length (xs.flatMap encO)):Ct Tryz.prog 45 #[.slice ad xs.length c] (L) (fun _:Unit=>.int .i64 (gO xs)) (fun _:Unit=>L):=by
 refine Ct.o1 Tryz.func45 ?_;intro E
 show Hd E 20 _ _ _ _
 refine sr fun _ K1=>?_
 refine yv y_as<|fk [(0,_)] K1 ?_;refine Hd.seq fun _ K2=>?_
 refine sr fun _ K3=>?_
 refine yv y_mv<|yv (y_len Tryz.underlying22 rfl) ?_;refine yv (y_gtr rfl rfl) ?_;refine fk [(0,_),(6,_)] K3 ?_;refine qz ?_ ?_<;>intro hc0<;>try simp only [hyZ] at hc0
 ·refine sr fun _ K4=>?_
  refine yv y_as<|fk [(2,_)] K4 ?_;refine Hd.ret<|Hd.thenRet ?_;exact Hd.ret1 rfl () (by unfold gO;rw [if_pos (by omega)];rfl) sq
 have hx:xs.length≤200:=by omega
 refine qv K2<|Hd.seq fun _ K5=>?_
 refine sr fun _ K6=>?_
 refine yv y_mv<|yv (y_len Tryz.underlying22 rfl) ?_;refine yv y_mv<|fk [(0,_),(8,_),(9,_)] K6 ?_;refine Hd.block<|Hd.loopK (ι:=Nat) [(0,_),(8,_)] (fun i=>[(9,.int .i64 (i:Int))]) (fun i=>pu (i≤xs.length∧∀ o∈xs.take i,o.d.length≤300)::L) (fun i=>xs.length - i) 0 sbq sbq (Ent.sep (.pure ⟨Nat.zero_le _,fun o ho=>by simp at ho⟩ enn)) ?_;intro i
 try dsimp only
 refine Hd.pure (fun hp0=>?_)
 try dsimp only at hp0
 refine sr fun _ K7=>?_
 refine yv (y_lss rfl rfl) ?_;refine fk [(0,_),(8,_),(9,_),(10,_)] K7 ?_;refine Hd.seq fun _ K8=>?_
 refine qz ?_ ?_<;>intro hc1<;>try simp only [hyZ] at hc1
 ·have hi:i < xs.length:=by omega
  obtain ⟨o,ho⟩:∃ o,xs[i]?=some o:=⟨_,List.getElem?_eq_getElem hi⟩
  refine qv K8<|Hd.seq fun _ K9=>?_
  refine Hd.block<|sr fun _ K10=>?_
  refine yv y_mv<|yv y_as<|fk [(0,_),(3,_),(8,_),(9,_)] K10 ?_;refine sr fun _ K11=>?_
  refine yv y_mv<|yv y_mv<|yv (y_idxR Tryz.underlying22 sz32 rfl rfl (by omega) (by exact RdS.mono hR sq)) ?_;refine yv (y_fR 4 30 Tryz.underlying32 sz30) ?_;refine yv (y_loadR1 ag30 rfl (by exact RdS.mono hR sq) (by exact flat_cells encO 5 (fun _=>rfl) ho 4 _ rfl)) ?_;refine yv (y_len Tryz.underlying30 rfl) ?_;refine yv (y_gtr rfl rfl) ?_;refine fk [(0,_),(8,_),(9,_),(18,_)] K11 ?_;refine qz ?_ ?_<;>intro hc2<;>try simp only [hyZ] at hc2
  ·refine sr fun _ K12=>?_
   refine yv y_as<|fk [(2,_)] K12 ?_;refine Hd.ret<|Hd.inBret<|Hd.thenRet<|Hd.thenRet<|Hd.inBret<|Hd.thenRet ?_;exact Hd.ret1 rfl () (by unfold gO;rw [if_neg (by omega),if_neg (fun h=>by have:=h o (List.mem_of_getElem? ho);omega)];rfl) sq
  refine Hd.skip<|Hd.inB<|Hd.toK K9 ?_;refine Hd.region<|yv (y_addn rfl rfl (by simp only [InK];omega)) ?_;refine yv y_mv<|Hd.nil<|slots [(0,_),(8,_),(9,_)] sbq ?_;refine thenN ?_
  have hnew:∀ q∈xs.take (i + 1),q.d.length≤300:=by
   intro q hq;rw [List.take_add_one,ho] at hq
   rcases List.mem_append.1 hq with h | h
   ·exact hp0.2 q h
   ·obtain rfl:q=o:=by simpa using h
    omega
  exact Hd.again (i + 1) (by omega) sbq (Ent.sep (.pure ⟨hi,hnew⟩ enn))
 refine Hd.exit<|Hd.thenExit<|Hd.thenExit<|Hd.inBexit<|Hd.toK K5 ?_;refine sr fun _ K13=>?_
 refine yv y_as<|fk [(2,_)] K13 ?_;refine Hd.ret ?_;exact Hd.ret1 rfl () (by unfold gO;rw [if_neg (by omega),if_pos (by rw [List.take_of_length_le (by omega)] at hp0;exact hp0.2)];rfl) sq
theorem Hd.wokW {E:World} {n:Nat} {ds:List Deferred} {st:List (Nat×Value)} {L L':List SP} {K:Act→World→Prop} {wb:Nat} {w:WA} (p:Pick L (WorldP wb w) L') (h:WOk w→Hd E n ds st L K):Hd E n ds st L K:=fun a v f s=>by
 refine h ?_ a v f s
 obtain ⟨h1,s1,i,x⟩:=sep.one p s.2.2.2
 obtain ⟨_,_,_,_,_,hq,_⟩:=x
 exact hq.1
abbrev BoP (pb wb rb:Nat):SP:=pt pb [.pointer (some ⟨wb,0,none⟩),.pointer (some ⟨rb,0,none⟩)] 40
theorem fresh_ct (L:List SP):Ct Tryz.prog 7 #[] (L) (fun q_:Nat×Nat×Nat=>.pointer (some ⟨q_.1,0,none⟩)) (fun q_:Nat×Nat×Nat=>BoP q_.1 q_.2.1 q_.2.2::WorldP q_.2.1 newA::Rf.RwP q_.2.2 newA::L):=by
 refine Ct.o0 Tryz.func7 ?_;intro E
 show Hd E 5 _ _ _ _
 refine sr fun _ K1=>?_
 refine yv y_as<|fk [] K1 ?_;refine sr fun _ K2=>?_
 refine callE rfl fk42 (wnew_ct _) sq ?_;intro wb;refine callE rfl fk46 (Rf.rNew_ct _) sq ?_;intro rb;refine yv (y_build (vs:=[(0,_),(1,_)]) rfl (by exact bd7_3 ..)) ?_;refine Hd.box rfl rfl (fun b4=>?_);refine yv y_as<|fk [(0,_)] K2 ?_;refine Hd.ret ?_;exact Hd.ret1 rfl (b4,wb,rb) rfl sq
theorem more_ct (L:List SP) (pb wb rb:Nat) (w:WA) (K:Nat) (hK:K≤100000000) (hl:Lo K w) (o:Ov) (hk:o.k < 0∨8 < o.k) (ht:InK .u64 o.t) (hd:o.d.length≤300) (hR:RdS L 1 o.ad o.d.length (bsl o.d)) (hc:o.d.length≤o.c) (ad:Option Addr) (c:Nat) (hR2:RdS L 1 ad o.d.length (bsl o.d)) (hc2:o.d.length≤c):Ct Tryz.prog 61 #[.pointer (some ⟨pb,0,none⟩),.agg (encO o).toArray,.slice ad o.d.length c] (BoP pb wb rb::WorldP wb w::Rf.RwP rb w::L) (fun _:Unit=>.bool true) (fun _:Unit=>BoP pb wb rb::WorldP wb (doA w o)::Rf.RwP rb (doA w o)::L):=by
 refine Ct.o3 Tryz.func61 ?_;intro E
 show Hd E 333 _ _ _ _
 simp only [InK] at ht
 have hnow:=hl.now
 have hb2:=hl.bd (B:=2000000000) (by omega)
 have hb1:=hl.bd (B:=1000000000) (by omega)
 refine Hd.wokW (.there .here) (fun hw=>?_);refine sr fun _ K1=>?_
 refine Hd.box rfl rfl (fun b4=>?_);refine yv y_as<|fk [(0,_),(2,_),(4,_)] K1 ?_;refine Hd.seq fun _ K2=>?_
 refine sr fun _ K3=>?_
 refine yv (y_f 0 3 Tryz.underlying32 sz3)<|yv (y_l1 ag3 rfl)<|fk [(0,_),(2,_),(4,_),(33,_)] K3 ?_;refine Hd.block<|sr fun _ K4=>?_
 refine yv (y_eql rfl rfl) ?_;refine yv y_as<|fk [(0,_),(2,_),(4,_),(33,_),(34,_)] K4 ?_;refine qz ?_ ?_<;>intro hc0<;>try simp only [hyZ] at hc0
 ·refine Hd.seq fun _ K5=>?_
  refine Hd.drawsH ([BoP pb wb rb,pt b4 (encO o) 32]) (fun _=>true) mixed ?_;simp only [List.length,Nat.zero_add,Nat.reduceAdd];refine tH 0 rfl y_mv<|tH 1 rfl y_np<|tH 2 rfl (y_f 0 37 Tryz.underlying40 sz37)<|tH 3 rfl (y_l1 ag37 rfl)<|tH 4 rfl (y_f 1 3 Tryz.underlying32 sz3)<|tH 5 rfl (y_l1 ag3 rfl)<|tH 6 rfl y_mv<|qo 7 ?_;refine callE rfl fk126 (wput_ct _ wb w o.a ad o.d.length c o.d rfl ?hD (by omega) hc2) sq ?_
  case hD=>exact RdS.mono hR2 sq
  intro _;refine qk<|tH 8 rfl y_mv<|tH 9 rfl y_ex<|tH 10 rfl y_ex<|tH 11 rfl y_as<|tH 12 rfl y_as<|endH kq ?_;refine sk [(0,_),(4,_),(7,_),(8,_)] K5 ?_;refine Hd.seq fun _ K6=>?_
  refine Hd.drawsH ([BoP pb wb rb,pt b4 (encO o) 32]) (fun _=>true) mixed ?_;simp only [List.length,Nat.zero_add,Nat.reduceAdd];refine tH 0 rfl y_mv<|tH 1 rfl y_np<|tH 2 rfl (y_f 1 38 Tryz.underlying40 sz38)<|tH 3 rfl (y_l1 ag38 rfl)<|tH 4 rfl (y_f 1 3 Tryz.underlying32 sz3)<|tH 5 rfl (y_l1 ag3 rfl)<|tH 6 rfl (y_f 4 30 Tryz.underlying32 sz30)<|tH 7 rfl (y_l1 ag30 rfl)<|qo 8 ?_;refine callE rfl fk127 (Rf.rPut_ct _ rb w hw o.a o.ad o.d.length o.c o.d rfl ?hD (by omega) hc) sq ?_
  case hD=>exact RdS.mono hR sq
  intro _;refine qk<|tH 9 rfl y_mv<|tH 10 rfl y_ex<|tH 11 rfl y_ex<|tH 12 rfl y_as<|tH 13 rfl y_as<|endH kq ?_;refine sk [(7,_),(8,_),(9,_),(10,_)] K6 ?_;refine sr fun _ K7=>?_
  refine yv y_mv<|yv y_mv<|yv (y_eqlT rfl rfl) ?_;refine yv y_mv ?_;apply Hd.andg 4 62 66 [] rfl sbq
  ·intro hg5_62
   try simp only [hyZ] at hg5_62
   simp only [List.take];refine y2 y_mv<|y2 y_mv<|y2 (y_eqlT rfl rfl) ?_;refine yv (y_pickT rfl rfl) ?_;exact Hd.mn
  ·intro hg5_62
   try simp only [hyZ] at hg5_62
   simp only [List.take];refine n1<|n1<|n1<|yv (y_pickF rfl rfl) ?_;exact Hd.mn
  simp only [List.drop];refine yv y_as<|fk [(6,_)] K7 ?_;refine Hd.ret<|Hd.inBret<|Hd.thenRet ?_;rw [do_9 hc0];exact Hd.ret1 rfl () (by rfl) sq
 refine sr fun _ K8=>?_
 refine yv (y_eql rfl rfl) ?_;refine yv y_as<|fk [(0,_),(4,_),(33,_),(67,_)] K8 ?_;refine qz ?_ ?_<;>intro hc1<;>try simp only [hyZ] at hc1
 ·refine Hd.seq fun _ K9=>?_
  refine Hd.drawsH ([BoP pb wb rb,pt b4 (encO o) 32]) (fun _=>true) mixed ?_;simp only [List.length,Nat.zero_add,Nat.reduceAdd];refine tH 0 rfl y_mv<|tH 1 rfl y_np<|tH 2 rfl (y_f 0 37 Tryz.underlying40 sz37)<|tH 3 rfl (y_l1 ag37 rfl)<|tH 4 rfl (y_f 1 3 Tryz.underlying32 sz3)<|tH 5 rfl (y_l1 ag3 rfl)<|tH 6 rfl (y_f 2 3 Tryz.underlying32 sz3)<|tH 7 rfl (y_l1 ag3 rfl)<|qo 8 ?_;refine callE rfl fk128 (wtake_ct _ wb w o.a o.n) sq ?_;rintro ⟨ta,tc⟩;dsimp only;refine qk<|tH 9 rfl y_mv<|tH 10 rfl y_ex<|tH 11 rfl y_ex<|tH 12 rfl y_as<|tH 13 rfl y_as<|endH kq ?_;refine sk [(0,_),(4,_),(11,_),(12,_)] K9 ?_;refine Hd.seq fun _ K10=>?_
  refine Hd.drawsH ([BoP pb wb rb,pt b4 (encO o) 32]) (fun _=>true) mixed ?_;simp only [List.length,Nat.zero_add,Nat.reduceAdd];refine tH 0 rfl y_mv<|tH 1 rfl y_np<|tH 2 rfl (y_f 1 38 Tryz.underlying40 sz38)<|tH 3 rfl (y_l1 ag38 rfl)<|tH 4 rfl (y_f 1 3 Tryz.underlying32 sz3)<|tH 5 rfl (y_l1 ag3 rfl)<|tH 6 rfl (y_f 2 3 Tryz.underlying32 sz3)<|tH 7 rfl (y_l1 ag3 rfl)<|qo 8 ?_;refine callE rfl fk129 (Rf.rTake_ct _ rb w o.a o.n) sq ?_;rintro ⟨ua,uc⟩;dsimp only;refine qk<|tH 9 rfl y_mv<|tH 10 rfl y_ex<|tH 11 rfl y_ex<|tH 12 rfl y_as<|tH 13 rfl y_as<|endH kq ?_;refine sk [(11,_),(12,_),(13,_),(14,_)] K10 ?_;refine sr fun _ K11=>?_
  refine yv y_mv<|yv (y_strOf (l:=_) kq Tryz.underlying9 rfl (by exact RdS.own pkk)) ?_;refine yv y_mv<|yv (y_strOf (l:=_) kq Tryz.underlying9 rfl (by exact RdS.own pkk)) ?_;refine yv (y_eqlstr rfl rfl) ?_;refine yv y_mv ?_;apply Hd.andg 4 98 102 [] rfl sbq
  ·intro hg9_98
   try simp only [hyZ] at hg9_98
   simp only [List.take];refine y2 y_mv<|y2 y_mv<|y2 (y_eqlT rfl rfl) ?_;refine yv (y_pickT rfl rfl) ?_;exact Hd.mn
  ·intro hg9_98
   try simp only [hyZ] at hg9_98
   simp only [List.take];refine n1<|n1<|n1<|yv (y_pickF rfl rfl) ?_;exact Hd.mn
  simp only [List.drop];refine yv y_as<|fk [(6,_)] K11 ?_;refine Hd.ret<|Hd.inBret<|Hd.thenRet ?_;rw [do_10 hc1];exact Hd.ret1 rfl () (by rfl) sq
 refine sr fun _ K12=>?_
 refine yv (y_eql rfl rfl) ?_;refine yv y_as<|fk [(0,_),(4,_),(33,_),(103,_)] K12 ?_;refine qz ?_ ?_<;>intro hc2<;>try simp only [hyZ] at hc2
 ·refine Hd.seq fun _ K13=>?_
  refine Hd.drawsH ([BoP pb wb rb,pt b4 (encO o) 32]) (fun _=>true) mixed ?_;simp only [List.length,Nat.zero_add,Nat.reduceAdd];refine tH 0 rfl y_mv<|tH 1 rfl y_np<|tH 2 rfl (y_f 0 37 Tryz.underlying40 sz37)<|tH 3 rfl (y_l1 ag37 rfl)<|tH 4 rfl (y_f 1 3 Tryz.underlying32 sz3)<|tH 5 rfl (y_l1 ag3 rfl)<|qo 6 ?_;refine callE rfl fk130 (pshut_ct _ wb w o.a) sq ?_;intro _;refine qk<|tH 7 rfl y_as<|endH kq ?_;refine sk [(0,_),(4,_),(15,_)] K13 ?_;refine Hd.seq fun _ K14=>?_
  refine Hd.drawsH ([BoP pb wb rb,pt b4 (encO o) 32]) (fun _=>true) mixed ?_;simp only [List.length,Nat.zero_add,Nat.reduceAdd];refine tH 0 rfl y_mv<|tH 1 rfl y_mv<|tH 2 rfl y_np<|tH 3 rfl (y_f 1 38 Tryz.underlying40 sz38)<|tH 4 rfl (y_l1 ag38 rfl)<|tH 5 rfl (y_f 1 3 Tryz.underlying32 sz3)<|tH 6 rfl (y_l1 ag3 rfl)<|qo 7 ?_;refine callE rfl fk131 (Rf.rPshut_ct _ rb w o.a) sq ?_;intro _;refine qk<|tH 8 rfl (y_eqlT rfl rfl) ?_;refine tH 9 rfl y_as<|endH kq ?_;refine sk [(6,_)] K14 ?_;refine Hd.ret<|Hd.inBret<|Hd.thenRet ?_;rw [do_11 hc2];exact Hd.ret1 rfl () (by rfl) sq
 refine sr fun _ K15=>?_
 refine yv (y_eql rfl rfl) ?_;refine yv y_as<|fk [(0,_),(4,_),(33,_),(121,_)] K15 ?_;refine qz ?_ ?_<;>intro hc3<;>try simp only [hyZ] at hc3
 ·refine Hd.seq fun _ K16=>?_
  refine Hd.drawsH ([BoP pb wb rb,pt b4 (encO o) 32]) (fun _=>true) mixed ?_;simp only [List.length,Nat.zero_add,Nat.reduceAdd];refine tH 0 rfl y_mv<|tH 1 rfl y_np<|tH 2 rfl (y_f 0 37 Tryz.underlying40 sz37)<|tH 3 rfl (y_l1 ag37 rfl)<|tH 4 rfl (y_f 1 3 Tryz.underlying32 sz3)<|tH 5 rfl (y_l1 ag3 rfl)<|qo 6 ?_;refine callE rfl fk132 (pclose_ct _ wb w o.a) sq ?_;intro _;refine qk<|tH 7 rfl y_as<|endH kq ?_;refine sk [(0,_),(4,_),(16,_)] K16 ?_;refine Hd.seq fun _ K17=>?_
  refine Hd.drawsH ([BoP pb wb rb,pt b4 (encO o) 32]) (fun _=>true) mixed ?_;simp only [List.length,Nat.zero_add,Nat.reduceAdd];refine tH 0 rfl y_mv<|tH 1 rfl y_mv<|tH 2 rfl y_np<|tH 3 rfl (y_f 1 38 Tryz.underlying40 sz38)<|tH 4 rfl (y_l1 ag38 rfl)<|tH 5 rfl (y_f 1 3 Tryz.underlying32 sz3)<|tH 6 rfl (y_l1 ag3 rfl)<|qo 7 ?_;refine callE rfl fk133 (Rf.rPclose_ct _ rb w o.a) sq ?_;intro _;refine qk<|tH 8 rfl (y_eqlT rfl rfl) ?_;refine tH 9 rfl y_as<|endH kq ?_;refine sk [(6,_)] K17 ?_;refine Hd.ret<|Hd.inBret<|Hd.thenRet ?_;rw [do_12 hc3];exact Hd.ret1 rfl () (by rfl) sq
 refine sr fun _ K18=>?_
 refine yv (y_eql rfl rfl) ?_;refine yv y_as<|fk [(0,_),(4,_),(33,_),(139,_)] K18 ?_;refine qz ?_ ?_<;>intro hc4<;>try simp only [hyZ] at hc4
 ·refine Hd.seq fun _ K19=>?_
  refine Hd.drawsH ([BoP pb wb rb,pt b4 (encO o) 32]) (fun _=>true) mixed ?_;simp only [List.length,Nat.zero_add,Nat.reduceAdd];refine tH 0 rfl y_mv<|tH 1 rfl y_np<|tH 2 rfl (y_f 0 37 Tryz.underlying40 sz37)<|tH 3 rfl (y_l1 ag37 rfl)<|tH 4 rfl (y_f 1 3 Tryz.underlying32 sz3)<|tH 5 rfl (y_l1 ag3 rfl)<|qo 6 ?_;refine callE rfl fk134 (wreset_ct _ wb w o.a) sq ?_;intro _;refine qk<|tH 7 rfl y_as<|endH kq ?_;refine sk [(0,_),(4,_),(17,_)] K19 ?_;refine Hd.seq fun _ K20=>?_
  refine Hd.drawsH ([BoP pb wb rb,pt b4 (encO o) 32]) (fun _=>true) mixed ?_;simp only [List.length,Nat.zero_add,Nat.reduceAdd];refine tH 0 rfl y_mv<|tH 1 rfl y_mv<|tH 2 rfl y_np<|tH 3 rfl (y_f 1 38 Tryz.underlying40 sz38)<|tH 4 rfl (y_l1 ag38 rfl)<|tH 5 rfl (y_f 1 3 Tryz.underlying32 sz3)<|tH 6 rfl (y_l1 ag3 rfl)<|qo 7 ?_;refine callE rfl fk135 (Rf.rReset_ct _ rb w o.a) sq ?_;intro _;refine qk<|tH 8 rfl (y_eqlT rfl rfl) ?_;refine tH 9 rfl y_as<|endH kq ?_;refine sk [(6,_)] K20 ?_;refine Hd.ret<|Hd.inBret<|Hd.thenRet ?_;rw [do_13 hc4];exact Hd.ret1 rfl () (by rfl) sq
 refine sr fun _ K21=>?_
 refine yv (y_eql rfl rfl) ?_;refine yv y_as<|fk [(0,_),(4,_),(33,_),(157,_)] K21 ?_;refine qz ?_ ?_<;>intro hc5<;>try simp only [hyZ] at hc5
 ·refine Hd.seq fun _ K22=>?_
  refine Hd.drawsH ([BoP pb wb rb,pt b4 (encO o) 32]) (fun _=>true) mixed ?_;simp only [List.length,Nat.zero_add,Nat.reduceAdd];refine tH 0 rfl y_mv<|tH 1 rfl y_np<|tH 2 rfl (y_f 0 37 Tryz.underlying40 sz37)<|tH 3 rfl (y_l1 ag37 rfl)<|tH 4 rfl (y_f 1 3 Tryz.underlying32 sz3)<|tH 5 rfl (y_l1 ag3 rfl)<|tH 6 rfl (y_f 2 3 Tryz.underlying32 sz3)<|tH 7 rfl (y_l1 ag3 rfl)<|qo 8 ?_;refine callE rfl fk136 (wconn_ct _ wb w o.a o.n) sq ?_;intro _;refine qk<|tH 9 rfl y_mv<|tH 10 rfl y_ex<|tH 11 rfl y_ex<|tH 12 rfl y_as<|tH 13 rfl y_as<|endH kq ?_;refine sk [(0,_),(4,_),(18,_),(19,_)] K22 ?_;refine Hd.seq fun _ K23=>?_
  refine Hd.drawsH ([BoP pb wb rb,pt b4 (encO o) 32]) (fun _=>true) mixed ?_;simp only [List.length,Nat.zero_add,Nat.reduceAdd];refine tH 0 rfl y_mv<|tH 1 rfl y_np<|tH 2 rfl (y_f 1 38 Tryz.underlying40 sz38)<|tH 3 rfl (y_l1 ag38 rfl)<|tH 4 rfl (y_f 1 3 Tryz.underlying32 sz3)<|tH 5 rfl (y_l1 ag3 rfl)<|tH 6 rfl (y_f 2 3 Tryz.underlying32 sz3)<|tH 7 rfl (y_l1 ag3 rfl)<|qo 8 ?_;refine callE rfl fk137 (Rf.rConnect_ct _ rb w hw o.a o.n) sq ?_;intro _;refine qk<|tH 9 rfl y_mv<|tH 10 rfl y_ex<|tH 11 rfl y_ex<|tH 12 rfl y_as<|tH 13 rfl y_as<|endH kq ?_;refine sk [(18,_),(19,_),(20,_),(21,_)] K23 ?_;refine sr fun _ K24=>?_
  refine yv y_mv<|yv y_mv<|yv (y_eqlT rfl rfl) ?_;refine yv y_mv ?_;apply Hd.andg 4 186 190 [] rfl sbq
  ·intro hg22_186
   try simp only [hyZ] at hg22_186
   simp only [List.take];refine y2 y_mv<|y2 y_mv<|y2 (y_eqlT rfl rfl) ?_;refine yv (y_pickT rfl rfl) ?_;exact Hd.mn
  ·intro hg22_186
   try simp only [hyZ] at hg22_186
   simp only [List.take];refine n1<|n1<|n1<|yv (y_pickF rfl rfl) ?_;exact Hd.mn
  simp only [List.drop];refine yv y_as<|fk [(6,_)] K24 ?_;refine Hd.ret<|Hd.inBret<|Hd.thenRet ?_;rw [do_14 hc5];exact Hd.ret1 rfl () (by rfl) sq
 refine sr fun _ K25=>?_
 refine yv (y_eql rfl rfl) ?_;refine yv y_as<|fk [(0,_),(4,_),(33,_),(191,_)] K25 ?_;refine qz ?_ ?_<;>intro hc6<;>try simp only [hyZ] at hc6
 ·refine Hd.seq fun _ K26=>?_
  refine Hd.drawsH ([BoP pb wb rb,pt b4 (encO o) 32]) (fun _=>true) mixed ?_;simp only [List.length,Nat.zero_add,Nat.reduceAdd];refine tH 0 rfl y_mv<|tH 1 rfl y_np<|tH 2 rfl (y_f 0 37 Tryz.underlying40 sz37)<|tH 3 rfl (y_l1 ag37 rfl)<|tH 4 rfl (y_f 3 29 Tryz.underlying32 sz29)<|tH 5 rfl (y_l1 ag29 rfl)<|qo 6 ?_;refine callE rfl fk138 (pass_ct _ wb w o.t ht hnow) sq ?_;intro _;refine qk<|endH kq ?_;refine sk [(0,_),(4,_)] K26 ?_;refine Hd.drawsH ([BoP pb wb rb,pt b4 (encO o) 32]) (fun _=>true) mixed ?_;simp only [List.length,Nat.zero_add,Nat.reduceAdd];refine tH 0 rfl y_mv<|tH 1 rfl y_np<|tH 2 rfl (y_f 1 38 Tryz.underlying40 sz38)<|tH 3 rfl (y_l1 ag38 rfl)<|tH 4 rfl (y_f 3 29 Tryz.underlying32 sz29)<|tH 5 rfl (y_l1 ag29 rfl)<|qo 6 ?_;refine callE rfl fk139 (Rf.rPass_ct _ rb w o.t ht hnow) sq ?_
  intro _;refine qk<|endH kq ?_;refine slots [] sbq ?_;refine Hd.inB<|Hd.toK K2 ?_;refine sr fun _ K27=>?_
  refine yv y_as<|fk [(6,_)] K27 ?_;refine Hd.ret ?_;rw [do_15 hc6];exact Hd.ret1 rfl () (by rfl) sq
 refine sr fun _ K28=>?_
 refine yv (y_eql rfl rfl) ?_;refine yv y_as<|fk [(0,_),(4,_),(33,_),(207,_)] K28 ?_;refine qz ?_ ?_<;>intro hc7<;>try simp only [hyZ] at hc7
 ·refine Hd.seq fun _ K29=>?_
  refine Hd.drawsH ([BoP pb wb rb,pt b4 (encO o) 32]) (fun _=>true) mixed ?_;simp only [List.length,Nat.zero_add,Nat.reduceAdd];refine tH 0 rfl y_mv<|tH 1 rfl y_np<|tH 2 rfl (y_f 0 37 Tryz.underlying40 sz37)<|tH 3 rfl (y_l1 ag37 rfl)<|tH 4 rfl (y_f 1 3 Tryz.underlying32 sz3)<|tH 5 rfl (y_l1 ag3 rfl)<|tH 6 rfl (y_f 2 3 Tryz.underlying32 sz3)<|tH 7 rfl (y_l1 ag3 rfl)<|tH 8 rfl (y_gtr rfl rfl) ?_;refine qo 9 ?_;refine callE rfl fk140 (whandle_ct _ wb w hb2 o.a (decide (o.n > 0))) sq ?_;intro _;refine qk<|tH 10 rfl y_as<|endH kq ?_;refine sk [(0,_),(4,_),(22,_)] K29 ?_;refine Hd.seq fun _ K30=>?_
  refine Hd.drawsH ([BoP pb wb rb,pt b4 (encO o) 32]) (fun _=>true) mixed ?_;simp only [List.length,Nat.zero_add,Nat.reduceAdd];refine tH 0 rfl y_mv<|tH 1 rfl y_mv<|tH 2 rfl y_np<|tH 3 rfl (y_f 1 38 Tryz.underlying40 sz38)<|tH 4 rfl (y_l1 ag38 rfl)<|tH 5 rfl (y_f 1 3 Tryz.underlying32 sz3)<|tH 6 rfl (y_l1 ag3 rfl)<|tH 7 rfl (y_f 2 3 Tryz.underlying32 sz3)<|tH 8 rfl (y_l1 ag3 rfl)<|tH 9 rfl (y_gtr rfl rfl) ?_;refine qo 10 ?_;refine callE rfl fk141 (Rf.rHandle_ct _ rb w hw hb2 o.a (decide (o.n > 0))) sq ?_;intro _;refine qk<|tH 11 rfl (y_eqlT rfl rfl) ?_;refine tH 12 rfl y_as<|endH kq ?_;refine sk [(6,_)] K30 ?_;refine Hd.ret<|Hd.inBret<|Hd.thenRet ?_;rw [do_16 hc7];exact Hd.ret1 rfl () (by rfl) sq
 refine sr fun _ K31=>?_
 refine yv (y_eql rfl rfl) ?_;refine yv y_as<|fk [(0,_),(4,_),(33,_),(231,_)] K31 ?_;refine qz ?_ ?_<;>intro hc8<;>try simp only [hyZ] at hc8
 ·refine Hd.seq fun _ K32=>?_
  refine Hd.drawsH ([BoP pb wb rb,pt b4 (encO o) 32]) (fun _=>true) mixed ?_;simp only [List.length,Nat.zero_add,Nat.reduceAdd];refine tH 0 rfl y_mv<|tH 1 rfl y_np<|tH 2 rfl (y_f 0 37 Tryz.underlying40 sz37)<|tH 3 rfl (y_l1 ag37 rfl)<|tH 4 rfl (y_f 1 3 Tryz.underlying32 sz3)<|tH 5 rfl (y_l1 ag3 rfl)<|qo 6 ?_;refine callE rfl fk142 (wraise_ct _ wb w hb1 o.a) sq ?_;intro _;refine qk<|tH 7 rfl y_as<|endH kq ?_;refine sk [(0,_),(4,_),(23,_)] K32 ?_;refine Hd.seq fun _ K33=>?_
  refine Hd.drawsH ([BoP pb wb rb,pt b4 (encO o) 32]) (fun _=>true) mixed ?_;simp only [List.length,Nat.zero_add,Nat.reduceAdd];refine tH 0 rfl y_mv<|tH 1 rfl y_mv<|tH 2 rfl y_np<|tH 3 rfl (y_f 1 38 Tryz.underlying40 sz38)<|tH 4 rfl (y_l1 ag38 rfl)<|tH 5 rfl (y_f 1 3 Tryz.underlying32 sz3)<|tH 6 rfl (y_l1 ag3 rfl)<|qo 7 ?_;refine callE rfl fk143 (Rf.rRaise_ct _ rb w hw hb1 o.a) sq ?_;intro _;refine qk<|tH 8 rfl (y_eqlT rfl rfl) ?_;refine tH 9 rfl y_as<|endH kq ?_;refine sk [(6,_)] K33 ?_;refine Hd.ret<|Hd.inBret<|Hd.thenRet ?_;rw [do_17 hc8];exact Hd.ret1 rfl () (by rfl) sq
 refine sr fun _ K34=>?_
 refine yv (y_eql rfl rfl) ?_;refine yv y_as<|fk [(0,_),(4,_),(33,_),(249,_)] K34 ?_;refine qz ?_ ?_<;>intro hc9<;>try simp only [hyZ] at hc9
 ·have hgl:(sigR w).1.length≤32:=by have:=cntF_le w.ct 0;rw [hw.ctl] at this;exact this
  refine sr fun _ K35=>?_
  refine yv y_mv<|yv y_np<|yv (y_f 0 37 Tryz.underlying40 sz37)<|yv (y_l1 ag37 rfl)<|callE rfl fk144 (wsignals_ct _ wb w hb2) sq ?_;rintro ⟨sa,sc⟩;dsimp only;refine yv y_as<|fk [(0,_),(24,_)] K35 ?_;refine sr fun _ K36=>?_
  refine yv y_mv<|yv y_np<|yv (y_f 1 38 Tryz.underlying40 sz38)<|yv (y_l1 ag38 rfl)<|callE rfl fk145 (Rf.rSignals_ct _ rb w hw hb2) sq ?_;rintro ⟨va,vc⟩;dsimp only;refine yv y_as<|fk [(24,_),(25,_)] K36 ?_;refine Hd.seq fun _ K37=>?_
  refine sr fun _ K38=>?_
  refine yv y_mv<|yv (y_len Tryz.underlying222 rfl) ?_;refine yv y_mv<|yv (y_len Tryz.underlying222 rfl) ?_;refine yv (y_neq rfl rfl) ?_;refine fk [(24,_),(25,_),(265,_)] K38 ?_;refine qz ?_ ?_<;>intro hc10<;>try simp only [hyZ] at hc10
  ·exact absurd trivial hc10
  refine qv K37<|sr fun _ K39=>?_
  refine yv y_mv<|yv (y_len Tryz.underlying222 rfl) ?_;refine yv y_mv<|fk [(24,_),(25,_),(267,_),(268,_)] K39 ?_;refine Hd.block<|Hd.loopK (ι:=Nat) [(24,_),(25,_),(267,_)] (fun i=>[(268,.int .i64 (i:Int))]) (fun i=>pu (i≤(sigR w).1.length)::own 225 2 va (sigR w).1.length vc ((sigR w).1.flatMap encCn)::own 225 2 sa (sigR w).1.length sc ((sigR w).1.flatMap encCn)::BoP pb wb rb::WorldP wb (sigR w).2::Rf.RwP rb (sigR w).2::L) (fun i=>(sigR w).1.length - i) 0 sbq sbq (Ent.sep (.pure (by omega) enn)) ?_;intro i
  try dsimp only
  refine Hd.pure (fun hp0=>?_)
  try dsimp only at hp0
  refine sr fun _ K40=>?_
  refine yv (y_lss rfl rfl) ?_;refine fk [(24,_),(25,_),(267,_),(268,_),(269,_)] K40 ?_;refine Hd.seq fun _ K41=>?_
  refine qz ?_ ?_<;>intro hc11<;>try simp only [hyZ] at hc11
  ·have hi:i < (sigR w).1.length:=by omega
   obtain ⟨q,hq⟩:∃ q,(sigR w).1[i]?=some q:=⟨_,List.getElem?_eq_getElem hi⟩
   refine qv K41<|Hd.seq fun _ K42=>?_
   refine Hd.block<|sr fun _ K43=>?_
   refine yv y_mv<|yv y_as<|fk [(24,_),(25,_),(26,_),(267,_),(268,_)] K43 ?_;refine Hd.seq fun _ K44=>?_
   refine Hd.quiet mixed kq ?_;refine Hq.yv y_mv ?_;refine Hq.yv y_mv ?_;refine Hq.yv (y_idxR Tryz.underlying222 sz225 rfl rfl (by omega) (by exact RdS.own pkk)) ?_;refine Hq.yv (y_loadRn (vs:=encCn q) ag225 rfl (RdS.own (ad:=sa) (us:=(sigR w).1.flatMap encCn) pkk) (flat_cells encCn 2 (fun _=>rfl) hq) sz225 (by simp)) ?_;refine Hq.yv y_mv ?_;refine Hq.yv y_mv ?_;refine Hq.yv (y_idxR Tryz.underlying222 sz225 rfl rfl (by omega) (by exact RdS.own pkk)) ?_;refine Hq.yv (y_loadRn (vs:=encCn q) ag225 rfl (RdS.own (ad:=va) (us:=(sigR w).1.flatMap encCn) pkk) (flat_cells encCn 2 (fun _=>rfl) hq) sz225 (by simp)) ?_;refine Hq.yv (y_neq_agg rfl rfl eqt225 rfl ⟨rfl,rfl⟩) ?_;refine Hq.nil ?_;refine sk [(24,_),(25,_),(267,_),(268,_),(279,_)] K44 ?_;refine qz ?_ ?_<;>intro hc12<;>try simp only [hyZ] at hc12
   ·simp [allEq,eqv] at hc12
   refine Hd.skip<|Hd.inB<|Hd.toK K42 ?_;refine Hd.region<|yv (y_addn rfl rfl (by simp only [InK];omega)) ?_;refine yv y_mv<|Hd.nil<|slots [(24,_),(25,_),(267,_),(268,_)] sbq ?_;refine thenN ?_;exact Hd.again (i + 1) (by omega) sbq (Ent.sep (.pure (by omega) enn))
  refine Hd.exit<|Hd.thenExit<|Hd.thenExit<|Hd.inBexit<|Hd.inB<|Hd.toK K2 ?_;refine sr fun _ K45=>?_
  refine yv y_as<|fk [(6,_)] K45 ?_;refine Hd.ret ?_;rw [do_18 hc9];exact Hd.ret1 rfl () rfl sq
 refine sr fun _ K46=>?_
 refine yv (y_eql rfl rfl) ?_;refine yv y_as<|fk [(0,_),(4,_),(33,_),(281,_)] K46 ?_;refine qz ?_ ?_<;>intro hc13<;>try simp only [hyZ] at hc13
 ·refine Hd.seq fun _ K47=>?_
  refine Hd.drawsH ([BoP pb wb rb,pt b4 (encO o) 32]) (fun _=>true) mixed ?_;simp only [List.length,Nat.zero_add,Nat.reduceAdd];refine tH 0 rfl y_mv<|tH 1 rfl y_np<|tH 2 rfl (y_f 0 37 Tryz.underlying40 sz37)<|tH 3 rfl (y_l1 ag37 rfl)<|tH 4 rfl (y_f 1 3 Tryz.underlying32 sz3)<|tH 5 rfl (y_l1 ag3 rfl)<|tH 6 rfl (y_f 2 3 Tryz.underlying32 sz3)<|tH 7 rfl (y_l1 ag3 rfl)<|qo 8 ?_;refine callE rfl fk146 (wnotice_ct _ wb w hb2 o.a o.n) sq ?_;intro _;refine qk<|tH 9 rfl y_as<|endH kq ?_;refine sk [(0,_),(4,_),(27,_)] K47 ?_;refine Hd.seq fun _ K48=>?_
  refine Hd.drawsH ([BoP pb wb rb,pt b4 (encO o) 32]) (fun _=>true) mixed ?_;simp only [List.length,Nat.zero_add,Nat.reduceAdd];refine tH 0 rfl y_mv<|tH 1 rfl y_mv<|tH 2 rfl y_np<|tH 3 rfl (y_f 1 38 Tryz.underlying40 sz38)<|tH 4 rfl (y_l1 ag38 rfl)<|tH 5 rfl (y_f 1 3 Tryz.underlying32 sz3)<|tH 6 rfl (y_l1 ag3 rfl)<|tH 7 rfl (y_f 2 3 Tryz.underlying32 sz3)<|tH 8 rfl (y_l1 ag3 rfl)<|qo 9 ?_;refine callE rfl fk147 (Rf.rNotice_ct _ rb w hw hb2 o.a o.n) sq ?_;intro _;refine qk<|tH 10 rfl (y_eqlT rfl rfl) ?_;refine tH 11 rfl y_as<|endH kq ?_;refine sk [(6,_)] K48 ?_;refine Hd.ret<|Hd.inBret<|Hd.thenRet ?_;rw [do_19 hc13];exact Hd.ret1 rfl () (by rfl) sq
 refine sr fun _ K49=>?_
 refine yv (y_eql rfl rfl) ?_;refine yv y_as<|fk [(0,_),(4,_),(303,_)] K49 ?_;refine qz ?_ ?_<;>intro hc14<;>try simp only [hyZ] at hc14
 ·refine Hd.seq fun _ K50=>?_
  refine Hd.quiet mixed kq ?_;refine Hq.yv y_mv ?_;refine Hq.yv y_np ?_;refine Hq.yv (y_f 0 37 Tryz.underlying40 sz37) ?_;refine Hq.yv (y_l1 ag37 rfl) ?_;refine Hq.yv (y_f 1 3 Tryz.underlying32 sz3) ?_;refine Hq.yv (y_l1 ag3 rfl) ?_;refine Hq.call rfl fk148 ((wwire_ct _ wb w o.a).swap sq sq) ?_;refine Hq.yv y_mv ?_;refine Hq.yv y_ex ?_;refine Hq.yv y_ex ?_;refine Hq.yv y_as ?_;refine Hq.yv y_as ?_;refine Hq.nil ?_;refine sk [(0,_),(4,_),(28,_),(29,_)] K50 ?_;refine Hd.seq fun _ K51=>?_
  refine Hd.quiet mixed kq ?_;refine Hq.yv y_mv ?_;refine Hq.yv y_np ?_;refine Hq.yv (y_f 1 38 Tryz.underlying40 sz38) ?_;refine Hq.yv (y_l1 ag38 rfl) ?_;refine Hq.yv (y_f 1 3 Tryz.underlying32 sz3) ?_;refine Hq.yv (y_l1 ag3 rfl) ?_;refine Hq.call rfl fk149 ((Rf.rWire_ct _ rb w hw o.a).swap sq sq) ?_;refine Hq.yv y_mv ?_;refine Hq.yv y_ex ?_;refine Hq.yv y_ex ?_;refine Hq.yv y_as ?_;refine Hq.yv y_as ?_;refine Hq.nil ?_;refine sk [(28,_),(29,_),(30,_),(31,_)] K51 ?_;refine sr fun _ K52=>?_
  refine yv y_mv<|yv y_mv<|yv (y_eqlT rfl rfl) ?_;refine yv y_mv ?_;apply Hd.andg 4 328 332 [] rfl sbq
  ·intro hg49_328
   try simp only [hyZ] at hg49_328
   simp only [List.take];refine y2 y_mv<|y2 y_mv<|y2 (y_eqlT rfl rfl) ?_;refine yv (y_pickT rfl rfl) ?_;exact Hd.mn
  ·intro hg49_328
   try simp only [hyZ] at hg49_328
   simp only [List.take];refine n1<|n1<|n1<|yv (y_pickF rfl rfl) ?_;exact Hd.mn
  simp only [List.drop];refine yv y_as<|fk [(6,_)] K52 ?_;refine Hd.ret<|Hd.inBret<|Hd.thenRet ?_;rw [do_oth (by omega)];exact Hd.ret1 rfl () (by rfl) sq
 refine Hd.skip<|Hd.inB<|Hd.toK K2 ?_;refine sr fun _ K53=>?_
 refine yv y_as<|fk [(6,_)] K53 ?_;refine Hd.ret ?_;rw [do_oth (by omega)];exact Hd.ret1 rfl () rfl sq
end Wo
end Go.Proofs.YtmpemhbfgbochaaGreatDoor
namespace Go.Proofs.YtmpemhbfgbochaaGreatDoor
open Go.RX Fx
namespace Wo
open Rf (badK mkErr mkLst mk_bad mk_no mk_yes)
def mkA (w:WA) (k n:Int):Int:=if badK k n then 0 else mkI w (mkKE k) 0
def mkB (w:WA) (k n:Int):Int:=if badK k n then 0 else if k≤1 then mkI w 2 1 else mkN w 1
theorem bad_of {k n:Int} (hk:k≠3):badK k n↔(n < 1∨65536 < n):=by unfold badK;omega
theorem wmk0_ct (L:List SP) (wb:Nat) (w:WA) (k n:Int) (hk:k=0):Ct Tryz.prog 47 #[.pointer (some ⟨wb,0,none⟩),.int .i64 n] (WorldP wb w::L) (fun _:Unit=>.tuple #[.int .i64 (mkA w k n),.int .i64 (mkB w k n),.int .i64 (mkErr w k n)]) (fun _=>WorldP wb (makeR w k n)::L):=by
 subst hk
 by_cases h:badK 0 n
 ·obtain ⟨e1,_,e3⟩:=mk_bad (w:=w) h
  rw [show mkA w 0 n=0 from if_pos h,show mkB w 0 n=0 from if_pos h,e1,e3];exact pipe_bad L wb w n ((bad_of (by decide)).1 h)
 ·rw [show mkA w 0 n=mkI w 2 0 from if_neg h,show mkB w 0 n=mkI w 2 1 from if_neg h,show mkErr w 0 n=mkE w 2 from if_neg h,show makeR w 0 n=mkW w 2 (pipeW n.toNat) from if_neg h]
  rw [bad_of (by decide)] at h
  obtain ⟨m,rfl⟩:∃ m:Nat,n=(m:Int):=⟨n.toNat,by omega⟩
  exact pipe_mk L wb w m (by omega) (by omega)
theorem wmk1_ct (L:List SP) (wb:Nat) (w:WA) (k n:Int) (hk:k=1):Ct Tryz.prog 43 #[.pointer (some ⟨wb,0,none⟩),.int .i64 n] (WorldP wb w::L) (fun _:Unit=>.tuple #[.int .i64 (mkA w k n),.int .i64 (mkB w k n),.int .i64 (mkErr w k n)]) (fun _=>WorldP wb (makeR w k n)::L):=by
 subst hk
 by_cases h:badK 1 n
 ·obtain ⟨e1,_,e3⟩:=mk_bad (w:=w) h
  rw [show mkA w 1 n=0 from if_pos h,show mkB w 1 n=0 from if_pos h,e1,e3];exact pairbad_ct L wb w n ((bad_of (by decide)).1 h)
 ·rw [show mkA w 1 n=mkI w 2 0 from if_neg h,show mkB w 1 n=mkI w 2 1 from if_neg h,show mkErr w 1 n=mkE w 2 from if_neg h,show makeR w 1 n=mkW w 2 (halfW n.toNat 2) from if_neg h]
  rw [bad_of (by decide)] at h
  obtain ⟨m,rfl⟩:∃ m:Nat,n=(m:Int):=⟨n.toNat,by omega⟩
  exact pair_ct L wb w m (by omega) (by omega)
theorem wmk2_ct (L:List SP) (wb:Nat) (w:WA) (k n:Int) (hk:k=2):Ct Tryz.prog 48 #[.pointer (some ⟨wb,0,none⟩),.int .i64 n] (WorldP wb w::L) (fun _:Unit=>.tuple #[.int .i64 (mkA w k n),.int .i64 (mkB w k n),.int .i64 (mkErr w k n)]) (fun _=>WorldP wb (makeR w k n)::L):=by
 subst hk
 by_cases h:badK 2 n
 ·obtain ⟨e1,_,e3⟩:=mk_bad (w:=w) h
  rw [show mkA w 2 n=0 from if_pos h,show mkB w 2 n=0 from if_pos h,e1,e3];exact outer_bad L wb w n ((bad_of (by decide)).1 h)
 ·rw [show mkA w 2 n=mkI w 1 0 from if_neg h,show mkB w 2 n=mkN w 1 from if_neg h,show mkErr w 2 n=mkE w 1 from if_neg h,show makeR w 2 n=mkW w 1 (connW n.toNat) from if_neg h]
  rw [bad_of (by decide)] at h
  obtain ⟨m,rfl⟩:∃ m:Nat,n=(m:Int):=⟨n.toNat,by omega⟩
  exact outer_mk L wb w m (by omega) (by omega)
theorem wmk3_ct (L:List SP) (wb:Nat) (w:WA) (k n:Int) (hk:k=3):Ct Tryz.prog 49 #[.pointer (some ⟨wb,0,none⟩),.int .i64 n] (WorldP wb w::L) (fun _:Unit=>.tuple #[.int .i64 (mkA w k n),.int .i64 (mkB w k n),.int .i64 (mkErr w k n)]) (fun _=>WorldP wb (makeR w k n)::L):=by
 subst hk
 by_cases h:badK 3 n
 ·obtain ⟨e1,_,e3⟩:=mk_bad (w:=w) h
  rw [show mkA w 3 n=0 from if_pos h,show mkB w 3 n=0 from if_pos h,e1,e3];exact listen_bad L wb w n (by unfold badK at h;omega)
 ·rw [show mkA w 3 n=mkI w 1 0 from if_neg h,show mkB w 3 n=mkN w 1 from if_neg h,show mkErr w 3 n=mkE w 1 from if_neg h,show makeR w 3 n=mkW w 1 (listW n.toNat) from if_neg h]
  unfold badK at h
  obtain ⟨m,rfl⟩:∃ m:Nat,n=(m:Int):=⟨n.toNat,by omega⟩
  exact listen_mk L wb w m (by omega) (by omega)
structure MadeOk (a b e wire:Int) (l:List Nat):Prop where
 no:e≠0→a=0∧b=0
 yes:e=0→∃ f t,l=f::t∧a=((f:Nat):Int)∧((t=[]∧b=wire)∨∃ g,t=[g]∧b=((g:Nat):Int))
theorem made_ok (w:WA) {k:Int} (hk:0≤k∧k≤3) (n:Int):MadeOk (mkA w k n) (mkB w k n) (mkErr w k n) (((makeR w k n).ws.length:Nat) - 1) (mkLst w k n):=by
 by_cases h:badK k n
 ·obtain ⟨e1,e2,e3⟩:=mk_bad (w:=w) h
  exact ⟨fun _=>⟨if_pos h,if_pos h⟩,fun e=>by rw [e1] at e;exact absurd e (by decide)⟩
 have hA:mkA w k n=mkI w (mkKE k) 0:=if_neg h
 have hB:mkB w k n=if k≤1 then mkI w 2 1 else mkN w 1:=if_neg h
 cases ho:mkOk w (mkKE k) with
 | false =>
  obtain ⟨e1,e2,e3⟩:=mk_no (w:=w) h ho
  have hF:mkF w (mkKE k)=[]:=by unfold mkF;rw [ho];rfl
  refine ⟨fun _=>⟨by rw [hA];unfold mkI;rw [hF];rfl,?_⟩,fun e=>by rw [e1] at e;exact absurd e (by decide)⟩;rw [hB]
  by_cases h1:k≤1
  ·rw [if_pos h1]
   have:mkKE k=2:=if_pos (by omega)
   rw [this] at hF;unfold mkI;rw [hF];rfl
  ·rw [if_neg h1]
   have:mkKE k=1:=if_neg (by omega)
   rw [this] at ho;unfold mkN mkE;rw [ho];rfl
 | true =>
  obtain ⟨e1,e2,e3⟩:=mk_yes (w:=w) h ho
  have hF:mkF w (mkKE k)=(frees w.at).take (mkKE k):=by unfold mkF;rw [ho];rfl
  have hl:((frees w.at).take (mkKE k)).length=mkKE k:=by unfold mkOk at ho;simp only [Bool.and_eq_true,decide_eq_true_eq] at ho;omega
  refine ⟨fun e=>absurd e1 e,fun _=>?_⟩;rw [e2,hA,hB];unfold mkI;rw [hF]
  by_cases h1:k≤1
  ·have h2:mkKE k=2:=if_pos (by omega)
   rw [h2] at hl hF ⊢;rw [if_pos h1,hF]
   obtain ⟨f,g,hfg⟩:∃ f g,(frees w.at).take 2=[f,g]:=by
    match hm:(frees w.at).take 2,hl with
    | [f,g],_=>exact ⟨f,g,rfl⟩
   rw [hfg];exact ⟨f,[g],rfl,rfl,.inr ⟨g,rfl,rfl⟩⟩
  ·have h2:mkKE k=1:=if_neg (by omega)
   rw [h2] at hl ho ⊢;rw [if_neg h1]
   obtain ⟨f,hf⟩:∃ f,(frees w.at).take 1=[f]:=by
    match hm:(frees w.at).take 1,hl with
    | [f],_=>exact ⟨f,rfl⟩
   rw [hf];refine ⟨f,[],rfl,rfl,.inl ⟨rfl,?_⟩⟩
   have he:mkE w 1=0:=by unfold mkE;rw [ho];rfl
   rw [show mkN w 1=(w.ws.length:Int) from if_pos he]
   have:makeR w k n=mkW w 1 (mkKW k n):=by
    rw [←h2];exact if_neg h
   rw [this,mkW_len he];omega
theorem made_ct (L:List SP) (a b e wire:Int) (l:List Nat) (ad:Option Addr) (c:Nat) (hR:RdS L 1 ad l.length (nats l)) (h:MadeOk a b e wire l):Ct Tryz.prog 51 #[.int .i64 a,.int .i64 b,.int .i64 e,.slice ad l.length c,.int .i64 wire,.int .i64 e] (L) (fun _:Unit=>.bool true) (fun _:Unit=>L):=by
 refine Ct.o6 Tryz.func51 ?_;intro E
 show Hd E 55 _ _ _ _
 refine sr fun _ K1=>?_
 refine yv y_as<|fk [(0,_),(1,_),(2,_),(3,_),(4,_),(5,_)] K1 ?_;refine Hd.seq fun _ K2=>?_
 refine sr fun _ K3=>?_
 refine yv y_mv<|yv (y_neq rfl rfl) ?_;refine yv y_mv ?_;apply Hd.org 3 15 18 [(0,_),(1,_),(2,_),(3,_),(4,_),(5,_)] rfl sbq
 ·intro hg1_15
  try simp only [hyZ] at hg1_15
  simp only [List.take];refine n1<|n1<|yv (y_pickT rfl rfl) ?_;exact Hd.mn
 ·intro hg1_15
  try simp only [hyZ] at hg1_15
  simp only [List.take];refine y2 y_mv<|y2 (y_neq rfl rfl) ?_;refine yv (y_pickF rfl rfl) ?_;exact Hd.mn
 simp only [List.drop];refine fk [(0,_),(1,_),(2,_),(3,_),(4,_),(5,_),(18,_)] K3 ?_;refine qz ?_ ?_<;>intro hc0<;>try simp only [hyZ] at hc0
 ·refine sr fun _ K4=>?_
  refine yv y_mv<|yv y_mv<|yv (y_eqlT rfl rfl) ?_;refine yv y_mv ?_;apply Hd.andg 3 22 25 [(1,_)] rfl sbq
  ·intro hg2_22
   try simp only [hyZ] at hg2_22
   simp only [List.take];refine y2 y_mv<|y2 (y_eql rfl rfl) ?_;refine yv (y_pickT rfl rfl) ?_;exact Hd.mn
  ·intro hg2_22
   try simp only [hyZ] at hg2_22
   simp only [List.take];refine n1<|n1<|yv (y_pickF rfl rfl) ?_;exact Hd.mn
  simp only [List.drop];refine yv y_mv ?_;apply Hd.andg 3 26 29 [] rfl sbq
  ·intro hg2_26
   try simp only [hyZ] at hg2_26
   simp only [List.take];refine y2 y_mv<|y2 (y_eql rfl rfl) ?_;refine yv (y_pickT rfl rfl) ?_;exact Hd.mn
  ·intro hg2_26
   try simp only [hyZ] at hg2_26
   simp only [List.take];refine n1<|n1<|yv (y_pickF rfl rfl) ?_;exact Hd.mn
  simp only [List.drop];refine yv y_as<|fk [(12,_)] K4 ?_;refine Hd.ret<|Hd.thenRet ?_
  obtain ⟨rfl,rfl⟩:=h.no (by omega)
  exact Hd.ret1 rfl () rfl sq
 obtain ⟨f,t,rfl,rfl,ht⟩:=h.yes (by omega)
 have hln:0 < (f::t).length:=Nat.succ_pos _
 refine qv K2<|Hd.seq fun _ K5=>?_
 refine sr fun _ K6=>?_
 refine yv y_mv<|yv (y_len Tryz.underlying94 rfl) ?_;refine yv (y_eql rfl rfl) ?_;refine fk [(0,_),(1,_),(3,_),(4,_),(32,_)] K6 ?_;refine qz ?_ ?_<;>intro hc1<;>try simp only [hyZ] at hc1
 ·obtain ⟨g,rfl,rfl⟩:∃ g,t=[g]∧b=((g:Nat):Int):=by
   rcases ht with ⟨rfl,_⟩ | h1
   ·simp at hc1
   ·exact h1
  refine sr fun _ K7=>?_
  refine yv y_mv<|yv y_mv<|yv (y_idxR Tryz.underlying94 sz3 rfl rfl (by exact (show (0:Nat) < _ by omega)) (by exact hR)) ?_;refine yv (y_loadR1 ag3 rfl (by exact hR) (by rfl)) ?_;refine yv (y_eqlT rfl rfl) ?_;refine yv y_mv ?_;apply Hd.andg 6 38 44 [] rfl sbq
  ·intro hg4_38
   try simp only [hyZ] at hg4_38
   simp only [List.take];refine y2 y_mv<|y2 y_mv<|y2 (y_idxR Tryz.underlying94 sz3 rfl rfl (by exact (show (1:Nat) < _ by omega)) (by exact hR)) ?_;refine y2 (y_loadR1 ag3 rfl (by exact hR) (by rfl)) ?_;refine y2 (y_eqlT rfl rfl) ?_;refine yv (y_pickT rfl rfl) ?_;exact Hd.mn
  ·intro hg4_38
   try simp only [hyZ] at hg4_38
   simp only [List.take];refine n1<|n1<|n1<|n1<|n1<|yv (y_pickF rfl rfl) ?_;exact Hd.mn
  simp only [List.drop];refine yv y_as<|fk [(12,_)] K7 ?_;refine Hd.ret<|Hd.thenRet ?_;exact Hd.ret1 rfl () (by rfl) sq
 obtain ⟨rfl,rfl⟩:t=[]∧b=wire:=by
  rcases ht with h1 | ⟨g,rfl,_⟩
  ·exact h1
  ·exact absurd rfl hc1
 refine qv K5<|sr fun _ K8=>?_
 refine yv y_mv<|yv y_mv<|yv (y_idxR Tryz.underlying94 sz3 rfl rfl (by exact (show (0:Nat) < _ by omega)) (by exact hR)) ?_;refine yv (y_loadR1 ag3 rfl (by exact hR) (by rfl)) ?_;refine yv (y_eqlT rfl rfl) ?_;refine yv y_mv ?_;apply Hd.andg 4 50 54 [] rfl sbq
 ·intro hg5_50
  try simp only [hyZ] at hg5_50
  simp only [List.take];refine y2 y_mv<|y2 y_mv<|y2 (y_eqlT rfl rfl) ?_;refine yv (y_pickT rfl rfl) ?_;exact Hd.mn
 ·intro hg5_50
  try simp only [hyZ] at hg5_50
  simp only [List.take];refine n1<|n1<|n1<|yv (y_pickF rfl rfl) ?_;exact Hd.mn
 simp only [List.drop];refine yv y_as<|fk [(12,_)] K8 ?_;refine Hd.ret ?_;exact Hd.ret1 rfl () (by rfl) sq
theorem do_ct (L:List SP) (pb wb rb:Nat) (w:WA) (K:Nat) (hK:K≤100000000) (hl:Lo K w) (o:Ov) (ht:InK .u64 o.t) (hd:o.d.length≤300) (hR:RdS L 1 o.ad o.d.length (bsl o.d)) (hc:o.d.length≤o.c):Ct Tryz.prog 8 #[.pointer (some ⟨pb,0,none⟩),.agg (encO o).toArray] (BoP pb wb rb::WorldP wb w::Rf.RwP rb w::L) (fun _:Unit=>.bool true) (fun _:Unit=>BoP pb wb rb::WorldP wb (doA w o)::Rf.RwP rb (doA w o)::L):=by
 refine Ct.o2 Tryz.func8 ?_;intro E
 show Hd E 289 _ _ _ _
 have ht0:=ht
 simp only [InK] at ht
 have hnow:=hl.now
 refine Hd.wokW (.there .here) (fun hw=>?_);refine sr fun _ K1=>?_
 refine Hd.box rfl rfl (fun b3=>?_);refine yv y_as<|fk [(0,_),(3,_)] K1 ?_;refine sr fun _ K2=>?_
 refine Hd.bslice (vs:=[]) rfl (by exact bs8_31 ..) (fun b31=>?_);refine Hd.ownNil 5 1 (some ⟨b31,0,none⟩) ?_;refine yv (y_f 4 30 Tryz.underlying32 sz30)<|yv (y_l1 ag30 rfl)<|Hd.append Tryz.underlying30 ty5 rfl rfl rfl pkk (by exact RdS.mono hR sq) (by simp [Value.oneCell'];done) (by simp only [maxLen];omega) (by omega) (fun ad34 cap34=>?_);refine yv y_as<|Hd.nil ?_;rw [Nat.zero_add,List.nil_append];refine sk [(0,_),(3,_),(5,_)] K2 ?_;refine Hd.seq fun _ K3=>?_
 refine Hd.ownCap (ad:=ad34) (us:=bsl o.d) pkk (fun hcap=>?_);refine Hd.region<|yv y_as<|fk [(0,_),(3,_),(5,_)] K3 ?_;refine Hd.cutK (ι:=Unit) [(5,_)] (fun _=>[(6,.bool true)]) (fun _=>own 5 1 ad34 o.d.length cap34 (bsl o.d)::BoP pb wb rb::WorldP wb (doA w o)::Rf.RwP rb (doA w o)::L) ?_ ?_ ⟨rfl,trivial⟩
 ·refine sr fun _ K4=>?_
  refine yv (y_f 0 3 Tryz.underlying32 sz3)<|yv (y_l1 ag3 rfl)<|fk [(0,_),(3,_),(5,_),(36,_)] K4 ?_;refine Hd.block<|Hd.seq fun _ K5=>?_
  refine sr fun _ K6=>?_
  refine yv (y_eql rfl rfl) ?_;refine yv y_as<|fk [(0,_),(3,_),(5,_),(36,_),(41,_)] K6 ?_;refine qz ?_ ?_<;>intro hc0<;>try simp only [hyZ] at hc0
  ·rw [decide_eq_true hc0]
   refine qv K5<|Hd.condT rfl ?_;refine sr fun _ K7=>?_
   refine yv y_as<|yv y_as<|fk [(0,_),(3,_),(5,_)] K7 ?_;refine sr fun _ K8=>?_
   refine yv y_as<|fk [(0,_),(3,_),(5,_)] K8 ?_;refine Hd.seq fun _ K9=>?_
   refine sr fun _ K10=>?_
   refine yv (y_f 0 3 Tryz.underlying32 sz3)<|yv (y_l1 ag3 rfl)<|fk [(0,_),(3,_),(5,_),(47,_)] K10 ?_;refine Hd.block<|sr fun _ K11=>?_
   refine yv (y_eql rfl rfl) ?_;refine yv y_as<|fk [(0,_),(3,_),(5,_),(47,_),(59,_)] K11 ?_;refine qz ?_ ?_<;>intro hc4<;>try simp only [hyZ] at hc4
   ·refine Hd.drawsH ([BoP pb wb rb,pt b3 (encO o) 32]) (fun _=>true) mixed ?_
    simp only [List.length,Nat.zero_add,Nat.reduceAdd];refine tH 0 rfl y_mv<|tH 1 rfl y_np<|tH 2 rfl (y_f 0 37 Tryz.underlying40 sz37)<|tH 3 rfl (y_l1 ag37 rfl)<|tH 4 rfl (y_f 2 3 Tryz.underlying32 sz3)<|tH 5 rfl (y_l1 ag3 rfl)<|qo 6 ?_;refine callE rfl fk47 (wmk0_ct _ wb w o.k o.n (by omega)) sq ?_;intro _;refine qk<|tH 7 rfl y_mv<|tH 8 rfl y_ex<|tH 9 rfl y_ex<|tH 10 rfl y_ex<|tH 11 rfl y_as<|tH 12 rfl y_as<|tH 13 rfl y_as<|endH kq ?_;refine slots [(0,_),(3,_),(5,_),(7,_),(8,_),(9,_)] sbq ?_;refine Hd.inB<|Hd.toK K9 ?_;refine Hd.seq fun _ K12=>?_
    refine Hd.drawsH ([BoP pb wb rb,pt b3 (encO o) 32]) (fun _=>true) mixed ?_;simp only [List.length,Nat.zero_add,Nat.reduceAdd];refine tH 0 rfl y_mv<|tH 1 rfl y_np<|tH 2 rfl (y_f 1 38 Tryz.underlying40 sz38)<|tH 3 rfl (y_l1 ag38 rfl)<|tH 4 rfl (y_f 0 3 Tryz.underlying32 sz3)<|tH 5 rfl (y_l1 ag3 rfl)<|tH 6 rfl (y_f 2 3 Tryz.underlying32 sz3)<|tH 7 rfl (y_l1 ag3 rfl)<|qo 8 ?_;refine callE rfl fk50 (Rf.rMake_ct _ rb w hw o.k o.n (by omega)) sq ?_;rintro ⟨ma,mc⟩;dsimp only;refine qk<|tH 9 rfl y_mv<|tH 10 rfl y_ex<|tH 11 rfl y_ex<|tH 12 rfl y_as<|tH 13 rfl y_as<|endH kq ?_;refine sk [(0,_),(5,_),(7,_),(8,_),(9,_),(10,_),(11,_)] K12 ?_;refine Hd.wokW (wb:=wb) (w:=makeR w o.k o.n) pkk (fun hw2=>?_);refine Rf.Hd.rw (b:=rb) (w:=makeR w o.k o.n) pkk (fun i hi=>?_)
    have hrl:=Rf.rows_n hi
    have hlen:=hw2.len
    refine Hd.region<|yv y_mv<|yv y_mv<|yv y_mv<|yv y_mv<|yv y_mv<|yv y_np<|yv (y_f 1 38 Tryz.underlying40 sz38)<|yv (y_l1 ag38 rfl)<|yv y_np<|yv (y_f 0 98 Tryz.underlying102 sz98)<|yv (y_l1 ag98 rfl)<|yv (y_len Tryz.underlying98 rfl) ?_;refine yv (y_to (v':=.int .i64 (((makeR w o.k o.n).ws.length:Nat) - 1)) (y_subn rfl rfl (by simp only [InK];omega)) (by (congr 1;omega))) ?_;refine yv y_mv<|callE rfl fk51 (made_ct _ _ _ _ _ _ ma mc ?hD (made_ok w (k:=o.k) (by omega) o.n)) sq ?_
    case hD=>exact RdS.own pkk
    intro _;refine yv y_as<|Hd.nil<|slots [(5,_),(6,_)] sbq ?_;refine Hd.inB<|thenN ?_;rw [do_mk ⟨by omega,by omega⟩];exact Hd.meet () sbq (Ent.sep (.pick pkk (.pick pkk (.pick pkk (.ex i (.pure hi enn))))))
   exact absurd hc0 hc4
  refine sr fun _ K13=>?_
  refine yv (y_eql rfl rfl) ?_;refine yv y_as<|fk [(0,_),(3,_),(5,_),(36,_),(41,_)] K13 ?_;refine qz ?_ ?_<;>intro hc1<;>try simp only [hyZ] at hc1
  ·rw [decide_eq_true hc1]
   refine qv K5<|Hd.condT rfl ?_;refine sr fun _ K14=>?_
   refine yv y_as<|yv y_as<|fk [(0,_),(3,_),(5,_)] K14 ?_;refine sr fun _ K15=>?_
   refine yv y_as<|fk [(0,_),(3,_),(5,_)] K15 ?_;refine Hd.seq fun _ K16=>?_
   refine sr fun _ K17=>?_
   refine yv (y_f 0 3 Tryz.underlying32 sz3)<|yv (y_l1 ag3 rfl)<|fk [(0,_),(3,_),(5,_),(47,_)] K17 ?_;refine Hd.block<|sr fun _ K18=>?_
   refine yv (y_eql rfl rfl) ?_;refine yv y_as<|fk [(0,_),(3,_),(5,_),(47,_),(59,_)] K18 ?_;refine qz ?_ ?_<;>intro hc4<;>try simp only [hyZ] at hc4
   ·exact absurd (hc4.symm.trans hc1) (by decide)
   refine sr fun _ K19=>?_
   refine yv (y_eql rfl rfl) ?_;refine yv y_as<|fk [(0,_),(3,_),(5,_),(47,_),(72,_)] K19 ?_;refine qz ?_ ?_<;>intro hc5<;>try simp only [hyZ] at hc5
   ·refine Hd.drawsH ([BoP pb wb rb,pt b3 (encO o) 32]) (fun _=>true) mixed ?_
    simp only [List.length,Nat.zero_add,Nat.reduceAdd];refine tH 0 rfl y_mv<|tH 1 rfl y_np<|tH 2 rfl (y_f 0 37 Tryz.underlying40 sz37)<|tH 3 rfl (y_l1 ag37 rfl)<|tH 4 rfl (y_f 2 3 Tryz.underlying32 sz3)<|tH 5 rfl (y_l1 ag3 rfl)<|qo 6 ?_;refine callE rfl fk43 (wmk1_ct _ wb w o.k o.n (by omega)) sq ?_;intro _;refine qk<|tH 7 rfl y_mv<|tH 8 rfl y_ex<|tH 9 rfl y_ex<|tH 10 rfl y_ex<|tH 11 rfl y_as<|tH 12 rfl y_as<|tH 13 rfl y_as<|endH kq ?_;refine slots [(0,_),(3,_),(5,_),(7,_),(8,_),(9,_)] sbq ?_;refine Hd.inB<|Hd.toK K16 ?_;refine Hd.seq fun _ K20=>?_
    refine Hd.drawsH ([BoP pb wb rb,pt b3 (encO o) 32]) (fun _=>true) mixed ?_;simp only [List.length,Nat.zero_add,Nat.reduceAdd];refine tH 0 rfl y_mv<|tH 1 rfl y_np<|tH 2 rfl (y_f 1 38 Tryz.underlying40 sz38)<|tH 3 rfl (y_l1 ag38 rfl)<|tH 4 rfl (y_f 0 3 Tryz.underlying32 sz3)<|tH 5 rfl (y_l1 ag3 rfl)<|tH 6 rfl (y_f 2 3 Tryz.underlying32 sz3)<|tH 7 rfl (y_l1 ag3 rfl)<|qo 8 ?_;refine callE rfl fk50 (Rf.rMake_ct _ rb w hw o.k o.n (by omega)) sq ?_;rintro ⟨ma,mc⟩;dsimp only;refine qk<|tH 9 rfl y_mv<|tH 10 rfl y_ex<|tH 11 rfl y_ex<|tH 12 rfl y_as<|tH 13 rfl y_as<|endH kq ?_;refine sk [(0,_),(5,_),(7,_),(8,_),(9,_),(10,_),(11,_)] K20 ?_;refine Hd.wokW (wb:=wb) (w:=makeR w o.k o.n) pkk (fun hw2=>?_);refine Rf.Hd.rw (b:=rb) (w:=makeR w o.k o.n) pkk (fun i hi=>?_)
    have hrl:=Rf.rows_n hi
    have hlen:=hw2.len
    refine Hd.region<|yv y_mv<|yv y_mv<|yv y_mv<|yv y_mv<|yv y_mv<|yv y_np<|yv (y_f 1 38 Tryz.underlying40 sz38)<|yv (y_l1 ag38 rfl)<|yv y_np<|yv (y_f 0 98 Tryz.underlying102 sz98)<|yv (y_l1 ag98 rfl)<|yv (y_len Tryz.underlying98 rfl) ?_;refine yv (y_to (v':=.int .i64 (((makeR w o.k o.n).ws.length:Nat) - 1)) (y_subn rfl rfl (by simp only [InK];omega)) (by (congr 1;omega))) ?_;refine yv y_mv<|callE rfl fk51 (made_ct _ _ _ _ _ _ ma mc ?hD (made_ok w (k:=o.k) (by omega) o.n)) sq ?_
    case hD=>exact RdS.own pkk
    intro _;refine yv y_as<|Hd.nil<|slots [(5,_),(6,_)] sbq ?_;refine Hd.inB<|thenN ?_;rw [do_mk ⟨by omega,by omega⟩];exact Hd.meet () sbq (Ent.sep (.pick pkk (.pick pkk (.pick pkk (.ex i (.pure hi enn))))))
   exact absurd hc1 hc5
  refine sr fun _ K21=>?_
  refine yv (y_eql rfl rfl) ?_;refine yv y_as<|fk [(0,_),(3,_),(5,_),(36,_),(41,_)] K21 ?_;refine qz ?_ ?_<;>intro hc2<;>try simp only [hyZ] at hc2
  ·rw [decide_eq_true hc2]
   refine qv K5<|Hd.condT rfl ?_;refine sr fun _ K22=>?_
   refine yv y_as<|yv y_as<|fk [(0,_),(3,_),(5,_)] K22 ?_;refine sr fun _ K23=>?_
   refine yv y_as<|fk [(0,_),(3,_),(5,_)] K23 ?_;refine Hd.seq fun _ K24=>?_
   refine sr fun _ K25=>?_
   refine yv (y_f 0 3 Tryz.underlying32 sz3)<|yv (y_l1 ag3 rfl)<|fk [(0,_),(3,_),(5,_),(47,_)] K25 ?_;refine Hd.block<|sr fun _ K26=>?_
   refine yv (y_eql rfl rfl) ?_;refine yv y_as<|fk [(0,_),(3,_),(5,_),(47,_),(59,_)] K26 ?_;refine qz ?_ ?_<;>intro hc4<;>try simp only [hyZ] at hc4
   ·exact absurd (hc4.symm.trans hc2) (by decide)
   refine sr fun _ K27=>?_
   refine yv (y_eql rfl rfl) ?_;refine yv y_as<|fk [(0,_),(3,_),(5,_),(47,_),(72,_)] K27 ?_;refine qz ?_ ?_<;>intro hc5<;>try simp only [hyZ] at hc5
   ·exact absurd (hc5.symm.trans hc2) (by decide)
   refine sr fun _ K28=>?_
   refine yv (y_eql rfl rfl) ?_;refine yv y_as<|fk [(0,_),(3,_),(5,_),(85,_)] K28 ?_;refine qz ?_ ?_<;>intro hc6<;>try simp only [hyZ] at hc6
   ·refine Hd.drawsH ([BoP pb wb rb,pt b3 (encO o) 32]) (fun _=>true) mixed ?_
    simp only [List.length,Nat.zero_add,Nat.reduceAdd];refine tH 0 rfl y_mv<|tH 1 rfl y_np<|tH 2 rfl (y_f 0 37 Tryz.underlying40 sz37)<|tH 3 rfl (y_l1 ag37 rfl)<|tH 4 rfl (y_f 2 3 Tryz.underlying32 sz3)<|tH 5 rfl (y_l1 ag3 rfl)<|qo 6 ?_;refine callE rfl fk48 (wmk2_ct _ wb w o.k o.n (by omega)) sq ?_;intro _;refine qk<|tH 7 rfl y_mv<|tH 8 rfl y_ex<|tH 9 rfl y_ex<|tH 10 rfl y_ex<|tH 11 rfl y_as<|tH 12 rfl y_as<|tH 13 rfl y_as<|endH kq ?_;refine slots [(0,_),(3,_),(5,_),(7,_),(8,_),(9,_)] sbq ?_;refine Hd.inB<|Hd.toK K24 ?_;refine Hd.seq fun _ K29=>?_
    refine Hd.drawsH ([BoP pb wb rb,pt b3 (encO o) 32]) (fun _=>true) mixed ?_;simp only [List.length,Nat.zero_add,Nat.reduceAdd];refine tH 0 rfl y_mv<|tH 1 rfl y_np<|tH 2 rfl (y_f 1 38 Tryz.underlying40 sz38)<|tH 3 rfl (y_l1 ag38 rfl)<|tH 4 rfl (y_f 0 3 Tryz.underlying32 sz3)<|tH 5 rfl (y_l1 ag3 rfl)<|tH 6 rfl (y_f 2 3 Tryz.underlying32 sz3)<|tH 7 rfl (y_l1 ag3 rfl)<|qo 8 ?_;refine callE rfl fk50 (Rf.rMake_ct _ rb w hw o.k o.n (by omega)) sq ?_;rintro ⟨ma,mc⟩;dsimp only;refine qk<|tH 9 rfl y_mv<|tH 10 rfl y_ex<|tH 11 rfl y_ex<|tH 12 rfl y_as<|tH 13 rfl y_as<|endH kq ?_;refine sk [(0,_),(5,_),(7,_),(8,_),(9,_),(10,_),(11,_)] K29 ?_;refine Hd.wokW (wb:=wb) (w:=makeR w o.k o.n) pkk (fun hw2=>?_);refine Rf.Hd.rw (b:=rb) (w:=makeR w o.k o.n) pkk (fun i hi=>?_)
    have hrl:=Rf.rows_n hi
    have hlen:=hw2.len
    refine Hd.region<|yv y_mv<|yv y_mv<|yv y_mv<|yv y_mv<|yv y_mv<|yv y_np<|yv (y_f 1 38 Tryz.underlying40 sz38)<|yv (y_l1 ag38 rfl)<|yv y_np<|yv (y_f 0 98 Tryz.underlying102 sz98)<|yv (y_l1 ag98 rfl)<|yv (y_len Tryz.underlying98 rfl) ?_;refine yv (y_to (v':=.int .i64 (((makeR w o.k o.n).ws.length:Nat) - 1)) (y_subn rfl rfl (by simp only [InK];omega)) (by (congr 1;omega))) ?_;refine yv y_mv<|callE rfl fk51 (made_ct _ _ _ _ _ _ ma mc ?hD (made_ok w (k:=o.k) (by omega) o.n)) sq ?_
    case hD=>exact RdS.own pkk
    intro _;refine yv y_as<|Hd.nil<|slots [(5,_),(6,_)] sbq ?_;refine Hd.inB<|thenN ?_;rw [do_mk ⟨by omega,by omega⟩];exact Hd.meet () sbq (Ent.sep (.pick pkk (.pick pkk (.pick pkk (.ex i (.pure hi enn))))))
   exact absurd hc2 hc6
  refine Hd.region<|yv (y_eql rfl rfl) ?_;refine yv y_as<|fk [(0,_),(3,_),(5,_),(36,_),(41,_)] K5 ?_;refine qz ?_ ?_<;>intro hc3<;>try simp only [hyZ] at hc3
  ·refine sr fun _ K30=>?_
   refine yv y_as<|yv y_as<|fk [(0,_),(3,_),(5,_)] K30 ?_;refine sr fun _ K31=>?_
   refine yv y_as<|fk [(0,_),(3,_),(5,_)] K31 ?_;refine Hd.seq fun _ K32=>?_
   refine sr fun _ K33=>?_
   refine yv (y_f 0 3 Tryz.underlying32 sz3)<|yv (y_l1 ag3 rfl)<|fk [(0,_),(3,_),(5,_),(47,_)] K33 ?_;refine Hd.block<|sr fun _ K34=>?_
   refine yv (y_eql rfl rfl) ?_;refine yv y_as<|fk [(0,_),(3,_),(5,_),(47,_),(59,_)] K34 ?_;refine qz ?_ ?_<;>intro hc4<;>try simp only [hyZ] at hc4
   ·exact absurd (hc4.symm.trans hc3) (by decide)
   refine sr fun _ K35=>?_
   refine yv (y_eql rfl rfl) ?_;refine yv y_as<|fk [(0,_),(3,_),(5,_),(47,_),(72,_)] K35 ?_;refine qz ?_ ?_<;>intro hc5<;>try simp only [hyZ] at hc5
   ·exact absurd (hc5.symm.trans hc3) (by decide)
   refine sr fun _ K36=>?_
   refine yv (y_eql rfl rfl) ?_;refine yv y_as<|fk [(0,_),(3,_),(5,_),(85,_)] K36 ?_;refine qz ?_ ?_<;>intro hc6<;>try simp only [hyZ] at hc6
   ·exact absurd (hc6.symm.trans hc3) (by decide)
   refine Hd.drawsH ([BoP pb wb rb,pt b3 (encO o) 32]) (fun _=>true) mixed ?_;simp only [List.length,Nat.zero_add,Nat.reduceAdd];refine tH 0 rfl y_mv<|tH 1 rfl y_np<|tH 2 rfl (y_f 0 37 Tryz.underlying40 sz37)<|tH 3 rfl (y_l1 ag37 rfl)<|tH 4 rfl (y_f 2 3 Tryz.underlying32 sz3)<|tH 5 rfl (y_l1 ag3 rfl)<|qo 6 ?_;refine callE rfl fk49 (wmk3_ct _ wb w o.k o.n (by omega)) sq ?_;intro _;refine qk<|tH 7 rfl y_mv<|tH 8 rfl y_ex<|tH 9 rfl y_ex<|tH 10 rfl y_ex<|tH 11 rfl y_as<|tH 12 rfl y_as<|tH 13 rfl y_as<|endH kq ?_;refine slots [(0,_),(3,_),(5,_),(7,_),(8,_),(9,_)] sbq ?_;refine Hd.inB<|Hd.toK K32 ?_;refine Hd.seq fun _ K37=>?_
   refine Hd.drawsH ([BoP pb wb rb,pt b3 (encO o) 32]) (fun _=>true) mixed ?_;simp only [List.length,Nat.zero_add,Nat.reduceAdd];refine tH 0 rfl y_mv<|tH 1 rfl y_np<|tH 2 rfl (y_f 1 38 Tryz.underlying40 sz38)<|tH 3 rfl (y_l1 ag38 rfl)<|tH 4 rfl (y_f 0 3 Tryz.underlying32 sz3)<|tH 5 rfl (y_l1 ag3 rfl)<|tH 6 rfl (y_f 2 3 Tryz.underlying32 sz3)<|tH 7 rfl (y_l1 ag3 rfl)<|qo 8 ?_;refine callE rfl fk50 (Rf.rMake_ct _ rb w hw o.k o.n (by omega)) sq ?_;rintro ⟨ma,mc⟩;dsimp only;refine qk<|tH 9 rfl y_mv<|tH 10 rfl y_ex<|tH 11 rfl y_ex<|tH 12 rfl y_as<|tH 13 rfl y_as<|endH kq ?_;refine sk [(0,_),(5,_),(7,_),(8,_),(9,_),(10,_),(11,_)] K37 ?_;refine Hd.wokW (wb:=wb) (w:=makeR w o.k o.n) pkk (fun hw2=>?_);refine Rf.Hd.rw (b:=rb) (w:=makeR w o.k o.n) pkk (fun i hi=>?_)
   have hrl:=Rf.rows_n hi
   have hlen:=hw2.len
   refine Hd.region<|yv y_mv<|yv y_mv<|yv y_mv<|yv y_mv<|yv y_mv<|yv y_np<|yv (y_f 1 38 Tryz.underlying40 sz38)<|yv (y_l1 ag38 rfl)<|yv y_np<|yv (y_f 0 98 Tryz.underlying102 sz98)<|yv (y_l1 ag98 rfl)<|yv (y_len Tryz.underlying98 rfl) ?_;refine yv (y_to (v':=.int .i64 (((makeR w o.k o.n).ws.length:Nat) - 1)) (y_subn rfl rfl (by simp only [InK];omega)) (by (congr 1;omega))) ?_;refine yv y_mv<|callE rfl fk51 (made_ct _ _ _ _ _ _ ma mc ?hD (made_ok w (k:=o.k) (by omega) o.n)) sq ?_
   case hD=>exact RdS.own pkk
   intro _;refine yv y_as<|Hd.nil<|slots [(5,_),(6,_)] sbq ?_;refine Hd.inB<|thenN ?_;rw [do_mk ⟨by omega,by omega⟩];exact Hd.meet () sbq (Ent.sep (.pick pkk (.pick pkk (.pick pkk (.ex i (.pure hi enn))))))
  refine sr fun _ K38=>?_
  refine yv (y_eql rfl rfl) ?_;refine yv y_as<|fk [(0,_),(3,_),(5,_),(36,_),(125,_)] K38 ?_;refine qz ?_ ?_<;>intro hc7<;>try simp only [hyZ] at hc7
  ·refine Hd.seq fun _ K39=>?_
   refine Hd.drawsH ([BoP pb wb rb,pt b3 (encO o) 32]) (fun _=>true) mixed ?_;simp only [List.length,Nat.zero_add,Nat.reduceAdd];refine tH 0 rfl y_mv<|tH 1 rfl y_np<|tH 2 rfl (y_f 0 37 Tryz.underlying40 sz37)<|tH 3 rfl (y_l1 ag37 rfl)<|tH 4 rfl (y_f 1 3 Tryz.underlying32 sz3)<|tH 5 rfl (y_l1 ag3 rfl)<|qo 6 ?_;refine callE rfl fk52 (waccept_ct _ wb w o.a) sq ?_;intro _;refine qk<|tH 7 rfl y_mv<|tH 8 rfl y_ex<|tH 9 rfl y_ex<|tH 10 rfl y_ex<|tH 11 rfl y_as<|tH 12 rfl y_as<|tH 13 rfl y_as<|endH kq ?_;refine sk [(0,_),(3,_),(5,_),(12,_),(13,_),(14,_)] K39 ?_;refine Hd.seq fun _ K40=>?_
   refine Hd.drawsH ([BoP pb wb rb,pt b3 (encO o) 32]) (fun _=>true) mixed ?_;simp only [List.length,Nat.zero_add,Nat.reduceAdd];refine tH 0 rfl y_mv<|tH 1 rfl y_np<|tH 2 rfl (y_f 1 38 Tryz.underlying40 sz38)<|tH 3 rfl (y_l1 ag38 rfl)<|tH 4 rfl (y_f 1 3 Tryz.underlying32 sz3)<|tH 5 rfl (y_l1 ag3 rfl)<|qo 6 ?_;refine callE rfl fk53 (Rf.rAccept_ct _ rb w hw o.a) sq ?_;intro _;refine qk<|tH 7 rfl y_mv<|tH 8 rfl y_ex<|tH 9 rfl y_ex<|tH 10 rfl y_ex<|tH 11 rfl y_as<|tH 12 rfl y_as<|tH 13 rfl y_as<|endH kq ?_;refine sk [(5,_),(12,_),(13,_),(14,_),(15,_),(16,_),(17,_)] K40 ?_;refine Hd.region<|yv y_mv<|yv y_mv<|yv (y_eqlT rfl rfl) ?_;refine yv y_mv ?_;apply Hd.andg 4 152 156 [(5,_),(14,_),(17,_)] rfl sbq
   ·intro hg24_152
    try simp only [hyZ] at hg24_152
    simp only [List.take];refine y2 y_mv<|y2 y_mv<|y2 (y_eqlT rfl rfl) ?_;refine yv (y_pickT rfl rfl) ?_;exact Hd.mn
   ·intro hg24_152
    try simp only [hyZ] at hg24_152
    simp only [List.take];refine n1<|n1<|n1<|yv (y_pickF rfl rfl) ?_;exact Hd.mn
   simp only [List.drop];refine yv y_mv ?_;apply Hd.andg 4 157 161 [(5,_)] rfl sbq
   ·intro hg24_157
    try simp only [hyZ] at hg24_157
    simp only [List.take];refine y2 y_mv<|y2 y_mv<|y2 (y_eqlT rfl rfl) ?_;refine yv (y_pickT rfl rfl) ?_;exact Hd.mn
   ·intro hg24_157
    try simp only [hyZ] at hg24_157
    simp only [List.take];refine n1<|n1<|n1<|yv (y_pickF rfl rfl) ?_;exact Hd.mn
   simp only [List.drop];refine yv y_as<|Hd.nil<|slots [(5,_),(6,_)] sbq ?_;refine Hd.inB<|thenN ?_;rw [do_4 hc7];exact Hd.meet () (by (repeat (first | exact trivial | refine ⟨rfl,?_⟩));done) sq
  refine sr fun _ K41=>?_
  refine yv (y_eql rfl rfl) ?_;refine yv y_as<|fk [(0,_),(3,_),(5,_),(36,_),(162,_)] K41 ?_;refine qz ?_ ?_<;>intro hc8<;>try simp only [hyZ] at hc8
  ·refine Hd.seq fun _ K42=>?_
   refine Hd.drawsH ([BoP pb wb rb,pt b3 (encO o) 32]) (fun _=>true) mixed ?_;simp only [List.length,Nat.zero_add,Nat.reduceAdd];refine tH 0 rfl y_mv<|tH 1 rfl y_np<|tH 2 rfl (y_f 0 37 Tryz.underlying40 sz37)<|tH 3 rfl (y_l1 ag37 rfl)<|tH 4 rfl (y_f 1 3 Tryz.underlying32 sz3)<|tH 5 rfl (y_l1 ag3 rfl)<|tH 6 rfl (y_f 2 3 Tryz.underlying32 sz3)<|tH 7 rfl (y_l1 ag3 rfl)<|qo 8 ?_;refine callE rfl fk54 (wread_ct _ wb w o.a o.n) sq ?_;rintro ⟨ta,tc⟩;dsimp only;refine qk<|tH 9 rfl y_mv<|tH 10 rfl y_ex<|tH 11 rfl y_ex<|tH 12 rfl y_ex<|tH 13 rfl y_as<|tH 14 rfl y_as<|tH 15 rfl y_as<|endH kq ?_;refine sk [(0,_),(3,_),(5,_),(18,_),(19,_),(20,_)] K42 ?_;refine Hd.seq fun _ K43=>?_
   refine Hd.drawsH ([BoP pb wb rb,pt b3 (encO o) 32]) (fun _=>true) mixed ?_;simp only [List.length,Nat.zero_add,Nat.reduceAdd];refine tH 0 rfl y_mv<|tH 1 rfl y_np<|tH 2 rfl (y_f 1 38 Tryz.underlying40 sz38)<|tH 3 rfl (y_l1 ag38 rfl)<|tH 4 rfl (y_f 1 3 Tryz.underlying32 sz3)<|tH 5 rfl (y_l1 ag3 rfl)<|tH 6 rfl (y_f 2 3 Tryz.underlying32 sz3)<|tH 7 rfl (y_l1 ag3 rfl)<|qo 8 ?_;refine callE rfl fk55 (Rf.rRead_ct _ rb w hw o.a o.n) sq ?_;rintro ⟨ua,uc⟩;dsimp only;refine qk<|tH 9 rfl y_mv<|tH 10 rfl y_ex<|tH 11 rfl y_ex<|tH 12 rfl y_ex<|tH 13 rfl y_as<|tH 14 rfl y_as<|tH 15 rfl y_as<|endH kq ?_;refine sk [(5,_),(18,_),(19,_),(20,_),(21,_),(22,_),(23,_)] K43 ?_;refine Hd.region<|yv y_mv<|yv (y_strOf (l:=_) kq Tryz.underlying9 rfl (by exact RdS.own pkk)) ?_
   refine yv y_mv<|yv (y_strOf (l:=_) kq Tryz.underlying9 rfl (by exact RdS.own pkk)) ?_;refine yv (y_eqlstr rfl rfl) ?_;refine yv y_mv ?_;apply Hd.andg 4 195 199 [(5,_),(20,_),(23,_)] rfl sbq
   ·intro hg28_195
    try simp only [hyZ] at hg28_195
    simp only [List.take];refine y2 y_mv<|y2 y_mv<|y2 (y_eqlb Tryz.underlying4 rfl rfl) ?_;refine yv (y_pickT rfl rfl) ?_;exact Hd.mn
   ·intro hg28_195
    try simp only [hyZ] at hg28_195
    simp only [List.take];refine n1<|n1<|n1<|yv (y_pickF rfl rfl) ?_;exact Hd.mn
   simp only [List.drop];refine yv y_mv ?_;apply Hd.andg 4 200 204 [(5,_)] rfl sbq
   ·intro hg28_200
    try simp only [hyZ] at hg28_200
    simp only [List.take];refine y2 y_mv<|y2 y_mv<|y2 (y_eqlT rfl rfl) ?_;refine yv (y_pickT rfl rfl) ?_;exact Hd.mn
   ·intro hg28_200
    try simp only [hyZ] at hg28_200
    simp only [List.take];refine n1<|n1<|n1<|yv (y_pickF rfl rfl) ?_;exact Hd.mn
   simp only [List.drop];refine yv y_as<|Hd.nil<|slots [(5,_),(6,_)] sbq ?_;refine Hd.inB<|thenN ?_;rw [do_5 hc8];exact Hd.meet () (by simp;repeat (first | exact trivial | refine ⟨rfl,?_⟩)) sq
  refine sr fun _ K44=>?_
  refine yv (y_eql rfl rfl) ?_;refine yv y_as<|fk [(0,_),(3,_),(5,_),(36,_),(205,_)] K44 ?_;refine qz ?_ ?_<;>intro hc9<;>try simp only [hyZ] at hc9
  ·refine Hd.seq fun _ K45=>?_
   refine Hd.drawsH ([BoP pb wb rb,pt b3 (encO o) 32]) (fun _=>true) mixed ?_;simp only [List.length,Nat.zero_add,Nat.reduceAdd];refine tH 0 rfl y_mv<|tH 1 rfl y_np<|tH 2 rfl (y_f 0 37 Tryz.underlying40 sz37)<|tH 3 rfl (y_l1 ag37 rfl)<|tH 4 rfl (y_f 1 3 Tryz.underlying32 sz3)<|tH 5 rfl (y_l1 ag3 rfl)<|tH 6 rfl y_mv<|qo 7 ?_;refine callE rfl fk44 (wwrite_ct _ wb w o.a ad34 o.d.length cap34 o.d rfl ?hD (by omega) hcap) sq ?_
   case hD=>exact RdS.own pkk
   intro _;refine qk<|tH 8 rfl y_mv<|tH 9 rfl y_ex<|tH 10 rfl y_ex<|tH 11 rfl y_as<|tH 12 rfl y_as<|endH kq ?_;refine sk [(0,_),(3,_),(5,_),(24,_),(25,_)] K45 ?_;refine Hd.seq fun _ K46=>?_
   refine Hd.drawsH ([BoP pb wb rb,pt b3 (encO o) 32]) (fun _=>true) mixed ?_;simp only [List.length,Nat.zero_add,Nat.reduceAdd];refine tH 0 rfl y_mv<|tH 1 rfl y_np<|tH 2 rfl (y_f 1 38 Tryz.underlying40 sz38)<|tH 3 rfl (y_l1 ag38 rfl)<|tH 4 rfl (y_f 1 3 Tryz.underlying32 sz3)<|tH 5 rfl (y_l1 ag3 rfl)<|tH 6 rfl (y_f 4 30 Tryz.underlying32 sz30)<|tH 7 rfl (y_l1 ag30 rfl)<|qo 8 ?_;refine callE rfl fk56 (Rf.rWrite_ct _ rb w hw o.a o.ad o.d.length o.c o.d rfl ?hD (by omega) hc) sq ?_
   case hD=>exact RdS.mono hR sq
   intro _;refine qk<|tH 9 rfl y_mv<|tH 10 rfl y_ex<|tH 11 rfl y_ex<|tH 12 rfl y_as<|tH 13 rfl y_as<|endH kq ?_;refine sk [(5,_),(24,_),(25,_),(26,_),(27,_)] K46 ?_;refine Hd.region<|yv y_mv<|yv y_mv<|yv (y_eqlT rfl rfl) ?_;refine yv y_mv ?_;apply Hd.andg 4 233 237 [(5,_)] rfl sbq
   ·intro hg32_233
    try simp only [hyZ] at hg32_233
    simp only [List.take];refine y2 y_mv<|y2 y_mv<|y2 (y_eqlT rfl rfl) ?_;refine yv (y_pickT rfl rfl) ?_;exact Hd.mn
   ·intro hg32_233
    try simp only [hyZ] at hg32_233
    simp only [List.take];refine n1<|n1<|n1<|yv (y_pickF rfl rfl) ?_;exact Hd.mn
   simp only [List.drop];refine yv y_as<|Hd.nil<|slots [(5,_),(6,_)] sbq ?_;refine Hd.inB<|thenN ?_;rw [do_6 hc9];exact Hd.meet () (by (repeat (first | exact trivial | refine ⟨rfl,?_⟩));done) sq
  refine sr fun _ K47=>?_
  refine yv (y_eql rfl rfl) ?_;refine yv y_as<|fk [(0,_),(3,_),(5,_),(36,_),(238,_)] K47 ?_;refine qz ?_ ?_<;>intro hc10<;>try simp only [hyZ] at hc10
  ·refine Hd.seq fun _ K48=>?_
   refine Hd.drawsH ([BoP pb wb rb,pt b3 (encO o) 32]) (fun _=>true) mixed ?_;simp only [List.length,Nat.zero_add,Nat.reduceAdd];refine tH 0 rfl y_mv<|tH 1 rfl y_np<|tH 2 rfl (y_f 0 37 Tryz.underlying40 sz37)<|tH 3 rfl (y_l1 ag37 rfl)<|tH 4 rfl (y_f 1 3 Tryz.underlying32 sz3)<|tH 5 rfl (y_l1 ag3 rfl)<|qo 6 ?_;refine callE rfl fk57 (wshut_ct _ wb w o.a) sq ?_;intro _;refine qk<|tH 7 rfl y_as<|endH kq ?_;refine sk [(0,_),(3,_),(5,_),(28,_)] K48 ?_;refine Hd.drawsH ([BoP pb wb rb,pt b3 (encO o) 32]) (fun _=>true) mixed ?_;simp only [List.length,Nat.zero_add,Nat.reduceAdd];refine tH 0 rfl y_mv<|tH 1 rfl y_mv<|tH 2 rfl y_np<|tH 3 rfl (y_f 1 38 Tryz.underlying40 sz38)<|tH 4 rfl (y_l1 ag38 rfl)<|tH 5 rfl (y_f 1 3 Tryz.underlying32 sz3)<|tH 6 rfl (y_l1 ag3 rfl) ?_
   refine qo 7 ?_;refine callE rfl fk58 (Rf.rShut_ct _ rb w hw o.a) sq ?_;intro _;refine qk<|tH 8 rfl (y_eqlT rfl rfl) ?_;refine tH 9 rfl y_as<|endH kq ?_;refine slots [(5,_),(6,_)] sbq ?_;refine Hd.inB<|thenN ?_;rw [do_7 hc10];exact Hd.meet () (by (repeat (first | exact trivial | refine ⟨rfl,?_⟩));done) sq
  refine sr fun _ K49=>?_
  refine yv (y_eql rfl rfl) ?_;refine yv y_as<|fk [(0,_),(3,_),(5,_),(256,_)] K49 ?_;refine qz ?_ ?_<;>intro hc11<;>try simp only [hyZ] at hc11
  ·refine Hd.seq fun _ K50=>?_
   refine Hd.drawsH ([BoP pb wb rb,pt b3 (encO o) 32]) (fun _=>true) mixed ?_;simp only [List.length,Nat.zero_add,Nat.reduceAdd];refine tH 0 rfl y_mv<|tH 1 rfl y_np<|tH 2 rfl (y_f 0 37 Tryz.underlying40 sz37)<|tH 3 rfl (y_l1 ag37 rfl)<|tH 4 rfl (y_f 1 3 Tryz.underlying32 sz3)<|tH 5 rfl (y_l1 ag3 rfl)<|qo 6 ?_;refine callE rfl fk59 (wclose_ct _ wb w o.a) sq ?_;intro _;refine qk<|tH 7 rfl y_as<|endH kq ?_;refine sk [(0,_),(3,_),(5,_),(29,_)] K50 ?_;refine Hd.drawsH ([BoP pb wb rb,pt b3 (encO o) 32]) (fun _=>true) mixed ?_;simp only [List.length,Nat.zero_add,Nat.reduceAdd];refine tH 0 rfl y_mv<|tH 1 rfl y_mv<|tH 2 rfl y_np<|tH 3 rfl (y_f 1 38 Tryz.underlying40 sz38)<|tH 4 rfl (y_l1 ag38 rfl)<|tH 5 rfl (y_f 1 3 Tryz.underlying32 sz3)<|tH 6 rfl (y_l1 ag3 rfl) ?_
   refine qo 7 ?_;refine callE rfl fk60 (Rf.rClose_ct _ rb w hw o.a) sq ?_;intro _;refine qk<|tH 8 rfl (y_eqlT rfl rfl) ?_;refine tH 9 rfl y_as<|endH kq ?_;refine slots [(5,_),(6,_)] sbq ?_;refine Hd.inB<|thenN ?_;rw [do_8 hc11];exact Hd.meet () (by (repeat (first | exact trivial | refine ⟨rfl,?_⟩));done) sq
  refine Hd.region<|yv y_mv<|yv (y_loadn (us:=[_,_,_,_,_]) ag32 rfl (Rd.pt pkk (by exact fun j v e=>by rw [Nat.zero_add];exact e)) (by exact sz32)) ?_;refine yv y_mv<|callE rfl fk61 (more_ct _ pb wb rb w K hK hl o (by omega) ht0 hd ?hD hc ad34 cap34 ?hD2 hcap) sq ?_
  case hD=>exact RdS.mono hR sq
  case hD2=>exact RdS.own pkk
  intro _;refine yv y_as<|Hd.nil<|slots [(5,_),(6,_)] sbq ?_;refine Hd.inB<|thenN ?_;exact Hd.meet () sbq sq
 intro _;refine Hd.seq fun _ K51=>?_
 refine sr fun _ K52=>?_
 refine yv y_mv<|yv (y_len Tryz.underlying30 rfl) ?_;refine yv y_mv<|fk [(5,_),(6,_),(275,_),(276,_)] K52 ?_;refine Hd.block<|Hd.loopK (ι:=Nat×List Value) [(5,_),(6,_),(275,_)] (fun q_=>[(276,.int .i64 (q_.1:Int))]) (fun q_=>pu (q_.1≤o.d.length∧q_.2.length=o.d.length∧∀ v∈q_.2,∃ x,v=.int .u8 x)::own 5 1 ad34 o.d.length cap34 q_.2::BoP pb wb rb::WorldP wb (doA w o)::Rf.RwP rb (doA w o)::L) (fun q_=>o.d.length - q_.1) (0,bsl o.d) sbq sbq (Ent.sep (.pure ⟨Nat.zero_le _,by simp [bsl],fun v hv=>by obtain ⟨b,_,rfl⟩:=List.mem_map.1 hv;exact ⟨_,rfl⟩⟩ enn)) ?_;rintro ⟨i,us⟩
 try dsimp only
 refine Hd.pure (fun hp0=>?_)
 try dsimp only at hp0
 refine sr fun _ K53=>?_
 refine yv (y_lss rfl rfl) ?_;refine fk [(5,_),(6,_),(275,_),(276,_),(277,_)] K53 ?_;refine Hd.seq fun _ K54=>?_
 refine qz ?_ ?_<;>intro hc12<;>try simp only [hyZ] at hc12
 ·have hi:i < o.d.length:=by omega
  have hiu:i < us.length:=by omega
  obtain ⟨x,hx⟩:=hp0.2.2 us[i] (List.getElem_mem hiu)
  have hg:us[i * 1]?=some (.int .u8 x):=by rw [Nat.mul_one,List.getElem?_eq_getElem hiu,hx]
  refine qv K54<|Hd.seq fun _ K55=>?_
  refine Hd.block<|sr fun _ K56=>?_
  refine yv y_mv<|yv y_as<|fk [(5,_),(6,_),(30,_),(275,_),(276,_)] K56 ?_;refine Hd.region<|yv y_mv<|yv y_mv<|yv y_mv<|yv y_mv<|yv (y_idxR Tryz.underlying30 sz5 rfl rfl (by omega) (by exact RdS.own pkk)) ?_;refine yv (y_loadR1 ag5 rfl (by exact RdS.own pkk) (by exact hg)) ?_;refine yv (y_add rfl rfl) ?_;refine yv (y_idxR Tryz.underlying30 sz5 rfl rfl (by omega) (by exact RdS.own pkk)) ?_;refine Hd.storeO1 sz5 rfl rfl rfl pkk (by omega) ?_
  try simp only [hyS]
  refine Hd.nil<|slots [(5,_),(6,_),(275,_),(276,_)] sbq ?_;refine Hd.inB<|Hd.toK K55 ?_;refine Hd.region<|yv (y_addn rfl rfl (by simp only [InK];omega)) ?_;refine yv y_mv<|Hd.nil<|slots [(5,_),(6,_),(275,_),(276,_)] sbq ?_;refine thenN ?_
  have hnew:∀ v∈us.set (i * 1) (.int .u8 (IntKind.u8.wrap (x + 1))),∃ x,v=.int .u8 x:=fun v hv=>(List.mem_or_eq_of_mem_set hv).elim (fun h=>hp0.2.2 v h) (fun h=>⟨_,h⟩)
  exact Hd.again (i + 1,us.set (i * 1) (.int .u8 (IntKind.u8.wrap (x + 1)))) (by omega) sbq (Ent.sep (.pure ⟨hi,by rw [List.length_set];exact hp0.2.1,hnew⟩ enn))
 refine Hd.exit<|Hd.thenExit<|Hd.thenExit<|Hd.inBexit<|Hd.toK K51 ?_;refine sr fun _ K57=>?_
 refine yv y_mv<|yv y_as<|fk [(4,_)] K57 ?_;refine Hd.ret ?_;exact Hd.ret1 rfl () (by rfl) sq
end Wo
end Go.Proofs.YtmpemhbfgbochaaGreatDoor
namespace Go.Proofs.YtmpemhbfgbochaaGreatDoor
open Go.RX Fx
namespace Bu
open Wo
structure Cv where
 k:Int
 now:Int
 sd:Int
 n:Int
 m:Int
 t:Int
 u:Int
 ad:Option Addr
 c:Nat
 b:List UInt8
 x:Ov
abbrev encC (o:Cv):List Value:=[.int .i64 o.k,.int .u64 o.now,.int .i64 o.sd,.int .i64 o.n,.int .i64 o.m,.int .u64 o.t,.int .u64 o.u,.slice o.ad o.b.length o.c,.int .i64 o.x.k,.int .i64 o.x.a,.int .i64 o.x.n,.int .u64 o.x.t,.slice o.x.ad o.x.d.length o.x.c]
structure CvOk (L:List SP) (o:Cv):Prop where
 rd:RdS L 1 o.ad o.b.length (bsl o.b)
 c:o.b.length≤o.c
 now:InK .u64 o.now
 sd:InK .i64 o.sd
 n:InK .i64 o.n
 m:InK .i64 o.m
 t:InK .u64 o.t
 u:InK .u64 o.u
 x:OvOk L o.x
theorem great26_ct (L:List SP) (fa:Option Addr) (fc:Nat) (fs:List Ov) (hF:RdS L 5 fa fs.length (fs.flatMap encO)) (ad:Option Addr) (c:Nat) (xs:List Cv) (hR:RdS L 13 ad xs.length (xs.flatMap encC)):Ct Tryz.prog 6 #[.slice fa fs.length fc,.slice ad xs.length c] (L) (fun g:Int=>.int .i64 g) (fun g:Int=>pu (¬ 0 < g→(fs.length≤40∧∀ o∈fs,o.d.length≤300)∧xs.length≤80∧∀ o∈xs,o.b.length≤300∧o.x.d.length≤300)::L):=by
 refine Ct.o2 Tryz.func6 ?_;intro E
 show Hd E 42 _ _ _ _
 refine sr fun _ K1=>?_
 refine yv y_as<|fk [(0,_),(1,_)] K1 ?_;refine Hd.seq fun _ K2=>?_
 refine sr fun _ K3=>?_
 refine yv y_mv<|yv (y_len Tryz.underlying22 rfl) ?_;refine yv (y_gtr rfl rfl) ?_;refine yv y_mv ?_;apply Hd.org 4 9 13 [(0,_),(1,_)] rfl sbq
 ·intro hg1_9
  try simp only [hyZ] at hg1_9
  simp only [List.take];refine n1<|n1<|n1<|yv (y_pickT rfl rfl) ?_;exact Hd.mn
 ·intro hg1_9
  try simp only [hyZ] at hg1_9
  simp only [List.take];refine y2 y_mv<|y2 (y_len Tryz.underlying23 rfl) ?_;refine y2 (y_gtr rfl rfl) ?_;refine yv (y_pickF rfl rfl) ?_;exact Hd.mn
 simp only [List.drop];refine yv y_mv ?_;apply Hd.org 4 14 18 [(1,_)] rfl sbq
 ·intro hg1_14
  try simp only [hyZ] at hg1_14
  simp only [List.take];refine n1<|n1<|n1<|yv (y_pickT rfl rfl) ?_;exact Hd.mn
 ·intro hg1_14
  try simp only [hyZ] at hg1_14
  simp only [List.take];refine y2 y_mv<|Hd.unguard rfl rfl ?_;refine callE rfl fk45 (great11_ct _ fa fc fs ?hF) sq ?_
  case hF=>exact RdS.mono hF sq
  intro _;refine y2 (y_gtr rfl rfl) ?_;refine yv (y_pickF rfl rfl) ?_;exact Hd.mn
 simp only [List.drop];refine fk [(1,_),(18,_)] K3 ?_;refine qz ?_ ?_<;>intro hc0<;>try simp only [hyZ] at hc0
 ·refine sr fun _ K4=>?_
  refine yv y_as<|fk [(4,_)] K4 ?_;refine Hd.ret<|Hd.thenRet ?_;exact Hd.ret1 rfl 1 rfl (Ent.sep (.pure (fun h=>absurd (by decide) h) enn))
 have hx:fs.length≤40∧xs.length≤80∧¬ 0 < gO fs:=by omega
 have hf:=(gO_ok hx.2.2).2
 refine qv K2<|Hd.seq fun _ K5=>?_
 refine sr fun _ K6=>?_
 refine yv y_as<|fk [(1,_),(5,_)] K6 ?_;refine Hd.block<|Hd.loopK (ι:=Nat) [(1,_)] (fun i=>[(5,.int .i64 (i:Int))]) (fun i=>pu (i≤xs.length∧∀ o∈xs.take i,o.b.length≤300∧o.x.d.length≤300)::L) (fun i=>xs.length - i) 0 sbq sbq (Ent.sep (.pure ⟨Nat.zero_le _,fun o ho=>by simp at ho⟩ enn)) ?_;intro i
 try dsimp only
 refine Hd.pure (fun hp0=>?_)
 try dsimp only at hp0
 refine Hd.seq fun _ K7=>?_
 refine sr fun _ K8=>?_
 refine yv y_mv<|yv y_mv<|yv (y_len Tryz.underlying23 rfl) ?_;refine yv (y_lss rfl rfl) ?_;refine fk [(1,_),(5,_),(22,_)] K8 ?_;refine qz ?_ ?_<;>intro hc1<;>try simp only [hyZ] at hc1
 ·have hi:i < xs.length:=by omega
  obtain ⟨o,ho⟩:∃ o,xs[i]?=some o:=⟨_,List.getElem?_eq_getElem hi⟩
  refine qv K7<|Hd.seq fun _ K9=>?_
  refine Hd.block<|sr fun _ K10=>?_
  refine yv y_mv<|yv y_mv<|yv (y_idxR Tryz.underlying23 sz45 rfl rfl (by omega) (by exact RdS.mono hR sq)) ?_;refine yv (y_fR 7 30 Tryz.underlying45 sz30) ?_;refine yv (y_loadR1 ag30 rfl (by exact RdS.mono hR sq) (by exact flat_cells encC 13 (fun _=>rfl) ho 7 _ rfl)) ?_;refine yv (y_len Tryz.underlying30 rfl) ?_;refine yv (y_gtr rfl rfl) ?_;refine yv y_mv ?_;apply Hd.org 9 32 41 [(1,_),(5,_)] rfl sbq
  ·intro hg6_32
   try simp only [hyZ] at hg6_32
   simp only [List.take];refine n1<|n1<|n1<|n1<|n1<|n1<|n1<|n1<|yv (y_pickT rfl rfl) ?_;exact Hd.mn
  ·intro hg6_32
   try simp only [hyZ] at hg6_32
   simp only [List.take];refine y2 y_mv<|y2 y_mv<|y2 (y_idxR Tryz.underlying23 sz45 rfl rfl (by omega) (by exact RdS.mono hR sq)) ?_;refine y2 (y_fR 8 32 Tryz.underlying45 sz32) ?_;refine y2 (y_fR 4 30 Tryz.underlying32 sz30) ?_;refine y2 (y_loadR1 ag30 rfl (by exact RdS.mono hR sq) (by exact flat_cells encC 13 (fun _=>rfl) ho 12 _ rfl)) ?_;refine y2 (y_len Tryz.underlying30 rfl) ?_;refine y2 (y_gtr rfl rfl) ?_;refine yv (y_pickF rfl rfl) ?_;exact Hd.mn
  simp only [List.drop];refine fk [(1,_),(5,_),(41,_)] K10 ?_;refine qz ?_ ?_<;>intro hc2<;>try simp only [hyZ] at hc2
  ·refine sr fun _ K11=>?_
   refine yv y_as<|fk [(4,_)] K11 ?_;refine Hd.ret<|Hd.inBret<|Hd.thenRet<|Hd.thenRet<|Hd.inBret<|Hd.thenRet ?_;exact Hd.ret1 rfl 1 rfl (Ent.sep (.pure (fun h=>absurd (by decide) h) enn))
  refine Hd.skip<|Hd.inB<|Hd.toK K9 ?_;refine Hd.region<|yv y_mv<|yv (y_addn rfl rfl (by simp only [InK];omega)) ?_;refine yv y_as<|Hd.nil<|slots [(1,_),(5,_)] sbq ?_;refine thenN ?_
  have hnew:∀ q∈xs.take (i + 1),q.b.length≤300∧q.x.d.length≤300:=by
   intro q hq;rw [List.take_add_one,ho] at hq
   rcases List.mem_append.1 hq with h | h
   ·exact hp0.2 q h
   ·obtain rfl:q=o:=by simpa using h
    omega
  exact Hd.again (i + 1) (by omega) sbq (Ent.sep (.pure ⟨hi,hnew⟩ enn))
 refine Hd.exit<|Hd.thenExit<|Hd.thenExit<|Hd.inBexit<|Hd.toK K5 ?_;refine sr fun _ K12=>?_
 refine yv y_as<|fk [(4,_)] K12 ?_;refine Hd.ret ?_;exact Hd.ret1 rfl 0 rfl (Ent.sep (.pure (fun _=>⟨⟨hx.1,hf⟩,hx.2.1,by rw [List.take_of_length_le (by omega)] at hp0;exact hp0.2⟩) enn))
theorem eff_h {f:Nat→SdA→SdA} (hf:∀ s,(f 1 s).high=s.high) (x:BfA) (ks:List Nat):((effB f x ks).s 1).high=(x.s 1).high:=by
 show (if 1∈ks then f 1 (x.s 1) else x.s 1).high=_
 split
 ·exact hf _
 ·rfl
theorem en_h (x:BfA) (now m:Int):((enB x now m).s 1).high=(x.s 1).high:=by
 unfold enB
 split
 ·exact eff_h (fun s=>by unfold onF;split<;>rfl) _ _
 ·rfl
theorem dis_h (x:BfA) (m:Int):((disB x m).s 1).high=(x.s 1).high:=by
 unfold disB
 split
 ·exact eff_h (fun s=>rfl) _ _
 ·rfl
theorem lt_h (x:BfA) (now:Int) (ks:List Nat):((effB (ltF now) x ks).s 1).high=(x.s 1).high:=eff_h (fun s=>by unfold ltF;split<;>rfl) _ _
theorem mrk_h {x:BfA} (h:(x.s 1).high=0) (side low high:Int):((mrkB x side low high).s 1).high=0:=by
 by_cases hb:mrkBad side low high=true
 ·rw [show mrkB x side low high=x from if_pos hb];exact h
 ·have hb':mrkBad side low high=false:=by simpa using hb
  rw [mrk_s hb' (by decide)]
  split
  ·rename_i h1
   unfold mrkBad at hb';simp only [Bool.or_eq_false_iff,Bool.and_eq_false_iff,decide_eq_false_iff_not] at hb'
   have h4:side=4:=by
    by_cases h2:side=2
    ·subst h2;exact absurd h1 (by decide)
    ·omega
   show high=0
   omega
  ·exact h
theorem wr_h (x:BfA) (now:Int) (bs:List UInt8):((wrB x now bs).s 1).high=(x.s 1).high:=by
 unfold wrB
 repeat' split
 all_goals rfl
theorem rd_h (x:BfA) (n:Int):((readB x n).s 1).high=(x.s 1).high:=by
 unfold readB
 split<;>rfl
theorem wS_h (σ:StA) (now much:Int):((writeS σ now much).x.s 1).high=(σ.x.s 1).high:=by
 unfold writeS wrP
 repeat' split
 all_goals rfl
theorem step_h (x:BfA) (w:WA) (now flags most much:Int):((stepS x w now flags most much).x.s 1).high=(x.s 1).high:=by
 unfold stepS
 split
 ·rw [wS_h,stepR_s1]
 ·rw [stepR_s1]
theorem wS_fd (σ:StA) (now much:Int):(writeS σ now much).x.fd=σ.x.fd:=by
 unfold writeS wrP
 repeat' split
 all_goals rfl
theorem sR_fd (x:BfA) (w:WA) (now flags most:Int):(stepR x w now flags most).x.fd=x.fd:=by
 unfold stepR readS rdP
 repeat' split
 all_goals rfl
theorem step_fd (x:BfA) (w:WA) (now flags most much:Int):(stepS x w now flags most much).x.fd=x.fd:=by
 unfold stepS
 split
 ·rw [wS_fd,sR_fd]
 ·rw [sR_fd]
theorem wr_fd (x:BfA) (now:Int) (bs:List UInt8):(wrB x now bs).fd=x.fd:=by
 unfold wrB
 repeat' split
 all_goals rfl
theorem rd_fd (x:BfA) (n:Int):(readB x n).fd=x.fd:=by
 unfold readB
 split<;>rfl
theorem sR_stp {w:WA} (h:WOk w) (x:BfA) (now flags most:Int):Stp 1 w (stepR x w now flags most).w:=by
 have:=read_stp h x.fd (rdN (x.s 0) most)
 unfold stepR readS rdP
 repeat' split
 all_goals first
  | exact Stp.same w
  | exact this
theorem wS_stp {σ:StA} (h:WOk σ.w) (now much:Int):Stp 1 σ.w (writeS σ now much).w:=by
 have:=write_stp h σ.x.fd (offA (σ.x.s 1) much)
 unfold writeS wrP
 repeat' split
 all_goals first
  | exact Stp.same σ.w
  | exact this
theorem step_stp {w:WA} (h:WOk w) (x:BfA) (now flags most much:Int):Stp 2 w (stepS x w now flags most much).w:=by
 have h1:=sR_stp h x now flags most
 have h2:=wS_stp (σ:=stepR x w now flags most) (stepR_ok h x now flags most) now much
 unfold stepS
 split
 ·exact h1.trans h2
 ·exact h1.mono (by decide)
structure PbI (K:Nat) (fd:Int) (w:WA) (x:BfA):Prop where
 ok:WOk w
 lo:Lo K w
 b:BOk x
 h1:(x.s 1).high=0
 fd:x.fd=fd
abbrev PbX (K:Nat) (fd:Int):={q:WA×BfA // PbI K fd q.1 q.2}
theorem Hd.bufLe {E:World} {n:Nat} {ds:List Deferred} {st:List (Nat×Value)} {L L':List SP} {K:Act→World→Prop} {b wb:Nat} {x:BfA} (p:Pick L (BufP b wb x) L') (h:(∀ k,k < 2→(x.s k).c.length≤1048576)→Hd E n ds st L K):Hd E n ds st L K:=fun a v f s=>by
 refine h (fun k hk=>?_) a v f s
 have one:∀ {L:List SP} {k0:PH} {o:Nat} {l:List UInt8} {M:List SP},Pick L (ChB b o l) M→sep L k0→l.length≤1048576:=fun p s=>by
  obtain ⟨h1,s1,rs,x⟩:=sep.one p s
  have x2:=(sep_pure (p:=Bc.Good rs∧Bc.flat rs=_) x).1
  rw [←x2.2];exact x2.1.2
 obtain ⟨h1,s1,i,y⟩:=sep.one p s.2.2.2
 have y2:sep (BfL b wb x 0 []) h1:=y
 rcases (show k=0∨k=1 by omega) with rfl | rfl
 ·exact one (L:=BfL b wb x 0 []) (o:=2 + 0 * 8 + 0) (l:=(x.s 0).c) pkk y2
 ·exact one (L:=BfL b wb x 0 []) (o:=2 + (1 - 0) * 8 + 0) (l:=(x.s (1 - 0)).c) pkk y2
theorem bfd_ct (L:List SP) (b wb:Nat) (x:BfA):Ct Tryz.prog 36 #[.pointer (some ⟨b,0,none⟩)] (BufP b wb x::L) (fun _:Unit=>.int .i64 x.fd) (fun _:Unit=>BufP b wb x::L):=by
 refine Ct.o1 Tryz.func36 ?_;intro E
 show Hd E 9 _ _ _ _
 refine Hd.buf .here ?_;refine sr fun _ K1=>?_
 refine yv y_as<|fk [(0,_)] K1 ?_;refine Hd.seq fun _ K2=>?_
 refine sr fun _ K3=>?_
 refine yv y_mv<|callE rfl fk71 (bnone_ct _ b wb x.fd) sq ?_;intro _;refine fk [(0,_),(4,_)] K3 ?_;refine Hd.condF rfl ?_;refine qv K2<|sr fun _ K4=>?_
 refine yv y_mv<|yv y_np<|yv (y_f 1 3 Tryz.underlying121 sz3)<|yv (y_load1 ag3 rfl (Rd.seg1 pkk (by rfl))) ?_;refine yv y_as<|fk [(2,_)] K4 ?_;refine Hd.ret ?_;exact Hd.ret1 rfl () rfl (fun q s=>buf_close rfl rfl rfl q (Ent.sep enn q s))
theorem bnew_no (L:List SP) (wb:Nat) (w:WA) (fd:Int) (h:(readyR w fd).op=false):Ct Tryz.prog 9 #[.pointer (some ⟨wb,0,none⟩),.int .i64 fd] (WorldP wb w::L) (fun _:Unit=>.tuple #[.pointer none,.int .i64 110]) (fun _:Unit=>WorldP wb w::L):=by
 refine Ct.o2 Tryz.func9 ?_;intro E
 show Hd E 36 _ _ _ _
 refine sr fun _ K1=>?_
 refine yv y_as<|yv y_as<|fk [(0,_),(1,_)] K1 ?_;refine Hd.seq fun _ K2=>?_
 refine Hd.block<|sr fun _ K3=>?_
 refine yv y_mv<|yv (y_eql_pointer Tryz.underlying37 rfl rfl) ?_;refine yv y_as<|fk [(0,_),(1,_),(7,_)] K3 ?_;refine Hd.condF rfl ?_;refine sr fun _ K4=>?_
 refine yv y_mv<|yv y_mv<|callE rfl fk62 (wready_ct _ wb w fd) sq ?_;intro _;refine yv (y_to (v':=.bool false) (y_fieldv1 (q:=0) (ft:=4) (cs:=encR (readyR w fd)) Tryz.underlying112 rfl ag4 rfl rfl) (by rw [h])) ?_;refine yv (y_not rfl)<|yv y_as<|fk [(0,_),(1,_),(10,_)] K4 ?_;refine Hd.condT rfl ?_;refine sr fun _ K5=>?_
 refine yv y_as<|yv y_as<|fk [(4,_),(5,_)] K5 ?_;refine Hd.ret<|Hd.inBret<|Hd.thenRet ?_;exact Hd.ret2 rfl () rfl rfl (by rfl) sq
theorem bnewA_ct (L:List SP) (wb:Nat) (w:WA) (fd:Int) (op:Bool) (h:(readyR w fd).op=op):Ct Tryz.prog 9 #[.pointer (some ⟨wb,0,none⟩),.int .i64 fd] (WorldP wb w::L) (fun b:Nat=>.tuple #[if op=true then .pointer (some ⟨b,0,none⟩) else .pointer none,.int .i64 (if op=true then 0 else 110)])
  (fun b=>(if op=true then [BufP b wb (newB fd)] else [])++WorldP wb w::L):=by
 cases op
 ·exact (bnew_no L wb w fd h).to (fun k s=>s) fun _=>⟨0,rfl,fun k s=>s⟩
 ·exact bnew_ct L wb w fd h
end Bu
end Go.Proofs.YtmpemhbfgbochaaGreatDoor
namespace Go.Proofs.YtmpemhbfgbochaaGreatDoor
open Go.RX Fx
namespace Fx
theorem bsS1 (a:ByteArray):bltS Tryz.prog 137 1 [(0,.string a)]=some (9,[.string a]):=by kernel_rfl
theorem bsS2 (a b:ByteArray):bltS Tryz.prog 137 2 [(0,.string a),(1,.string b)]=some (9,[.string a,.string b]):=by kernel_rfl
theorem bsS4 (a b c d:ByteArray):bltS Tryz.prog 137 4 [(0,.string a),(1,.string b),(2,.string c),(3,.string d)]=some (9,[.string a,.string b,.string c,.string d]):=by kernel_rfl
end Fx
namespace Wo
abbrev dgB (n:Nat):List UInt8:=Lib.decDigits n
def nibB (d:Nat):UInt8:=if d < 10 then UInt8.ofNat (48 + d) else UInt8.ofNat (87 + d)
def hexB (l:List UInt8):List UInt8:=l.flatMap fun c=>[nibB (c.toNat / 16),nibB (c.toNat % 16)]
abbrev sNow:List UInt8:=[110,111,119,32]
abbrev sFd:List UInt8:=[102,100,32]
abbrev sWire2:List UInt8:=[32,119,105,114,101,32]
abbrev sEnd:List UInt8:=[32,101,110,100,32]
abbrev sWire:List UInt8:=[119,105,114,101]
abbrev sListen:List UInt8:=[108,105,115,116,101,110]
abbrev sReset:List UInt8:=[114,101,115,101,116]
abbrev sSignal:List UInt8:=[115,105,103,110,97,108,32]
abbrev sNotice:List UInt8:=[110,111,116,105,99,101,32]
abbrev sShut:List UInt8:=[115,104,117,116]
def kindB (n:Int):List UInt8:=if n=0 then [110,111,110,101] else if n=1 then [105,110] else if n=2 then [111,117,116] else [99,108,111,115,101,100]
def ringB (e:EndA) (cap:Nat):List UInt8:=if e.rd=true then hexB e.b++([47]++dgB cap) else [45]
def wordsA (e:EndA) (cap:Nat):List (List UInt8):=[kindB e.what]++((if e.shut=true then [sShut] else [])++[ringB e cap])
def spJ (ws:List (List UInt8)):List UInt8:=Lib.join ws [32]
theorem spJ_snoc:∀ {ws:List (List UInt8)} (x:List UInt8),ws≠[]→spJ (ws++[x])=spJ ws++([32]++x)
 | [],_,h=>absurd rfl h
 | [a],x,_=>by
  unfold spJ Lib.join;simp [List.intercalate]
 | a::b::t,x,_=>by
  have ih:=spJ_snoc (ws:=b::t) x (by simp)
  have e:∀ l:List (List UInt8),l≠[]→spJ (a::l)=a++([32]++spJ l):=fun l hl=>by
   cases l with
   | nil=>exact absurd rfl hl
   | cons c t=>unfold spJ Lib.join;simp [List.intercalate]
  show spJ (a::(b::t++[x]))=spJ (a::b::t)++_
  rw [e _ (by simp),ih,e _ (by simp)];simp only [List.append_assoc]
theorem spJ_app:∀ (ys:List (List UInt8)) {ws:List (List UInt8)},ws≠[]→spJ (ws++ys)=spJ ws++ys.flatMap fun y=>[32]++y
 | [],ws,_=>by rw [List.append_nil,List.flatMap_nil,List.append_nil]
 | y::t,ws,h=>by
  have e:ws++y::t=(ws++[y])++t:=by simp
  rw [e,spJ_app t (by simp),spJ_snoc y h,List.flatMap_cons,List.append_assoc]
def wireWs (n:Nat) (x:WireA):List (List UInt8):=[sWire,dgB n]++((if 0 < x.bl then [sListen,dgB x.bl.toNat]++x.wt.map dgB else wordsA (x.e 0) x.cap++wordsA (x.e 1) x.cap)++if x.rs=true then [sReset] else [])
def wireB (n:Nat) (x:WireA):List UInt8:=spJ (wireWs n x)
def fdK (w:WA) (n k:Nat):Nat:=if 0 < ((w.ws[n]?).map WireA.bl).getD 0 then 2 else k
def fdB (w:WA) (fd:Nat):List (List UInt8):=match w.at (fd:Int) with
 | none=>[]
 | some (n,k)=>[sFd++(dgB fd++(sWire2++(dgB n++(sEnd++dgB (fdK w n k)))))]
def sgB (w:WA) (s:Nat):List (List UInt8):=if w.hd.getD s false=true then [sSignal++(dgB s++([32]++dgB (w.ct.getD s 0).toNat))] else []
def ntB (w:WA):List (List UInt8):=match w.nt with
 | none=>[]
 | some (n,k)=>[sNotice++(dgB n++([32]++dgB k))]
def imgW (w:WA):List (List UInt8):=[sNow++dgB w.now.toNat]++(((List.range 96).flatMap (fdB w))++(((List.range w.ws.length).flatMap fun n=>(w.ws[n]?).toList.map (wireB n))++(((List.range 31).flatMap fun s=>sgB w (s + 1))++ntB w)))
def fdsW (w:WA):List Int:=((List.range 96).filter fun n:Nat=>(w.at (n:Int)).isSome).map fun n:Nat=>(n:Int)
theorem dg_lt {n:Nat} (h:n < 10):dgB n=[UInt8.ofNat (48 + n)]:=Lib.decDigits_one h
theorem dg_ge {n:Nat} (h:¬ n < 10):dgB n=dgB (n / 10)++[UInt8.ofNat (48 + n % 10)]:=by
 show Lib.decDigits n=_
 rw [Lib.decDigits,dif_neg h]
end Wo
end Go.Proofs.YtmpemhbfgbochaaGreatDoor
namespace Go.Proofs.YtmpemhbfgbochaaGreatDoor
open Go.RX Fx
namespace Rf
open Wo
theorem dg_len:∀ (k n:Nat),n < 10 ^ (k + 1)→(dgB n).length≤k + 1
 | 0,n,h=>by rw [dg_lt (by simpa using h)];simp
 | k + 1,n,h=>by
  by_cases hn:n < 10
  ·rw [dg_lt hn];simp
  ·have:=dg_len k (n / 10) (by rw [Nat.pow_succ] at h;omega)
   rw [dg_ge hn,List.length_append,List.length_singleton];omega
theorem dg_20 {n:Nat} (h:n≤18446744073709551615):(dgB n).length≤20:=dg_len 19 n (by omega)
theorem dgt_v {k:Nat}:((UInt8.ofNat (48 + k % 10)).toNat:Int)=48 + ((k:Int) % 10):=by
 rw [UInt8.toNat_ofNat'];omega
theorem rdig_ct (L:List SP) (n:Nat) (hn:n≤18446744073709551615):Ct Tryz.prog 170 #[.int .u64 (n:Int)] (L) (fun _:Unit=>.string (str (dgB n))) (fun _:Unit=>L):=by
 refine Ct.o1 Tryz.func170 ?_;intro E
 show Hd E 23 _ _ _ _
 have hl:=dg_20 hn
 refine sr fun _ K1=>?_
 refine yv y_as<|fk [(0,_)] K1 ?_;refine sr fun _ K2=>?_
 refine yv y_as<|fk [(0,_),(3,_)] K2 ?_;refine Hd.seq fun _ K3=>?_
 refine Hd.block<|Hd.loopK (ι:=Nat×List UInt8) [] (fun q_=>[(0,.int .u64 (q_.1:Int)),(3,.string (str q_.2))]) (fun q_=>pu (q_.1≤n∧dgB n=dgB q_.1++q_.2)::L) (fun q_=>q_.1) (n,[]) sbq sbq (Ent.sep (.pure ⟨Nat.le_refl _,(List.append_nil _).symm⟩ enn)) ?_;rintro ⟨k,s⟩
 try dsimp only
 refine Hd.pure (fun hp0=>?_)
 try dsimp only at hp0
 refine Hd.seq fun _ K4=>?_
 refine sr fun _ K5=>?_
 refine yv y_mv<|yv (y_gtr rfl rfl) ?_;refine fk [(0,_),(3,_),(5,_)] K5 ?_;refine qz ?_ ?_<;>intro hc0<;>try simp only [hyZ] at hc0
 ·have hk:¬ k < 10:=by omega
  have hs:dgB n=dgB (k / 10)++([UInt8.ofNat (48 + k % 10)]++s):=by rw [hp0.2,dg_ge hk,List.append_assoc]
  have hsl:s.length≤20:=by have:=hp0.2;rw [this,List.length_append] at hl;omega
  refine qv K4<|Hd.block<|sr fun _ K6=>?_
  refine yv y_mv<|yv (y_remn rfl rfl (by omega) (by omega)) ?_;refine yv (y_addn rfl rfl (by simp only [InK];omega)) ?_;refine yv (y_to (v':=.int .u8 ((UInt8.ofNat (48 + k % 10)).toNat:Int)) (y_conv rfl Tryz.underlying29 Tryz.underlying5) (by (refine congrArg (Value.int .u8) ?_;rw [dgt_v];rw [IntKind.wrap_u8];omega))) ?_;refine Hd.bslice (vs:=[(0,_)]) rfl (by exact bs170_10 ..) (fun b10=>?_);refine yv (y_strOf (l:=[UInt8.ofNat (48 + k % 10)]) kq Tryz.underlying9 rfl (by exact RdS.rd (Rd.pt pkk (fun j v e=>by rw [Nat.zero_add];exact e)) rfl)) ?_;refine yv y_mv<|yv (y_addstr rfl rfl (by simp;omega)) ?_;refine yv y_as<|fk [(0,_),(3,_)] K6 ?_;refine Hd.region<|yv y_mv<|yv (y_quon rfl rfl (by omega) (by omega) (by simp only [InK];omega)) ?_;refine yv y_as<|Hd.nil<|slots [(0,_),(3,_)] sbq ?_;refine Hd.inB ?_
  refine thenN ?_;exact Hd.again (k / 10,[UInt8.ofNat (48 + k % 10)]++s) (by omega) sbq (Ent.sep (.pure ⟨(show k / 10≤n by omega),hs⟩ enn))
 have hk:k < 10:=by omega
 have hsl:s.length≤20:=by have:=hp0.2;rw [this,List.length_append] at hl;omega
 have hfin:dgB n=[UInt8.ofNat (48 + k % 10)]++s:=by rw [hp0.2,dg_lt hk,show k % 10=k by omega]
 refine Hd.exit<|Hd.thenExit<|Hd.thenExit<|Hd.inBexit<|Hd.toK K3 ?_;refine sr fun _ K7=>?_
 refine yv y_mv<|yv (y_addn rfl rfl (by simp only [InK];omega)) ?_;refine yv (y_to (v':=.int .u8 ((UInt8.ofNat (48 + k % 10)).toNat:Int)) (y_conv rfl Tryz.underlying29 Tryz.underlying5) (by (refine congrArg (Value.int .u8) ?_;rw [dgt_v];rw [IntKind.wrap_u8];omega))) ?_;refine Hd.bslice (vs:=[(0,_)]) rfl (by exact bs170_19 ..) (fun b19=>?_);refine yv (y_strOf (l:=[UInt8.ofNat (48 + k % 10)]) kq Tryz.underlying9 rfl (by exact RdS.rd (Rd.pt pkk (fun j v e=>by rw [Nat.zero_add];exact e)) rfl)) ?_;refine yv y_mv<|yv (y_addstr rfl rfl (by simp;omega)) ?_;refine yv y_as<|fk [(2,_)] K7 ?_;refine Hd.ret ?_;rw [hfin];exact Hd.ret1 rfl () rfl sq
theorem rnum_ct (L:List SP) (n:Nat) (hn:n≤9223372036854775807):Ct Tryz.prog 171 #[.int .i64 (n:Int)] (L) (fun _:Unit=>.string (str (dgB n))) (fun _:Unit=>L):=by
 refine Ct.o1 Tryz.func171 ?_;intro E
 show Hd E 6 _ _ _ _
 refine sr fun _ K1=>?_
 refine yv y_as<|fk [(0,_)] K1 ?_;refine sr fun _ K2=>?_
 refine yv y_mv<|yv (y_to (v':=.int .u64 (n:Int)) (y_conv rfl Tryz.underlying3 Tryz.underlying29) (by (refine congrArg (Value.int .u64) ?_;rw [IntKind.wrap_u64];omega))) ?_;refine callE rfl fk170 (rdig_ct _ n (by omega)) sq ?_;intro _;refine yv y_as<|fk [(2,_)] K2 ?_;refine Hd.ret ?_;exact Hd.ret1 rfl () (by rfl) sq
def shB (e:EndA):List UInt8:=if e.shut=true then [32]++sShut else []
def endB (e:EndA) (cap:Nat):List UInt8:=kindB e.what++(shB e++([32]++ringB e cap))
abbrev kindsV:List Value:=[.string (str [110,111,110,101]),.string (str [105,110]),.string (str [111,117,116]),.string (str [99,108,111,115,101,100])]
theorem kinds_at {k:Nat} (hk:k≤3):kindsV[k]?=some (.string (str (kindB (k:Int)))):=by
 rcases (show k=0∨k=1∨k=2∨k=3 by omega) with rfl | rfl | rfl | rfl<;>rfl
abbrev hexD:List UInt8:=[48,49,50,51,52,53,54,55,56,57,97,98,99,100,101,102]
theorem hexD_at {d:Nat} (hd:d < 16):hexD[d]?=some (nibB d):=by
 have:∀ d:Fin 16,hexD[d.1]?=some (nibB d.1):=by decide
 exact this ⟨d,hd⟩
theorem hexD_cut {d:Nat} (hd:d < 16):(hexD.drop d).take (d + 1 - d)=[nibB d]:=by
 have:∀ d:Fin 16,(hexD.drop d.1).take (d.1 + 1 - d.1)=[nibB d.1]:=by decide
 exact this ⟨d,hd⟩
theorem hexB_snoc (l:List UInt8) (c:UInt8):hexB (l++[c])=hexB l++[nibB (c.toNat / 16),nibB (c.toNat % 16)]:=by simp [hexB]
theorem kind_len (q:Int):(kindB q).length≤6:=by unfold kindB;split<;>(try split)<;>(try split)<;>decide
theorem sh_len (e:EndA):(shB e).length≤5:=by unfold shB;split<;>decide
theorem hexB_len:∀ l:List UInt8,(hexB l).length=2 * l.length
 | []=>rfl
 | c::l=>by
  have:=hexB_len l
  unfold hexB at this ⊢;simp only [List.flatMap_cons,List.length_append,List.length_cons,List.length_nil,this];omega
theorem u8_lt (c:UInt8):c.toNat < 256:=c.toNat_lt
theorem rend_ct (L:List SP) (e:EndA) (q:Nat) (hq:e.what=(q:Int)) (hq3:q≤3) (cap:Nat) (hc:cap≤65536) (hl:e.b.length≤65536) (ad:Option Addr) (c:Nat) (hR:RdS L 1 ad e.b.length (bsl e.b)):Ct Tryz.prog 172 #[.agg (encRE e ad c).toArray,.int .i64 (cap:Int)] (L) (fun _:Unit=>.string (str (endB e cap))) (fun _:Unit=>L):=by
 refine Ct.o2 Tryz.func172 ?_;intro E
 show Hd E 64 _ _ _ _
 rw [show encRE e ad c=[.int .i64 (q:Int),.int .i64 e.fd,.bool e.rd,.bool e.wr,.slice ad e.b.length c,.bool e.shut,.int .u64 e.inn,.int .u64 e.out] by rw [←hq]]
 have hkl:=kind_len (q:Int)
 have hsl:=sh_len e
 refine sr fun _ K1=>?_
 refine Hd.box rfl rfl (fun b2=>?_);refine yv y_as<|fk [(1,_),(2,_)] K1 ?_;refine sr fun _ K2=>?_
 refine Hd.bslice (vs:=[(0,_),(1,_),(2,_),(3,_)]) rfl (by exact bsS4 ..) (fun b9=>?_);refine yv (y_f 0 3 Tryz.underlying201 sz3)<|yv (y_l1 ag3 rfl)<|yv (y_idxS Tryz.underlying137 sz9 rfl rfl (by omega)) ?_;refine yv (y_load1 (v:=.string (str (kindB (q:Int)))) ag9 rfl (Rd.pt1 (cs:=kindsV) pkk (by rw [show (0 + q * 1)=q by omega];exact kinds_at hq3))) ?_;refine yv y_as<|fk [(1,_),(2,_),(5,_)] K2 ?_
 obtain ⟨S0,hS0⟩:∃ S0,kindB (q:Int)++shB e=S0:=⟨_,rfl⟩
 have hS0l:S0.length≤11:=by rw [←hS0,List.length_append];omega
 refine Hd.cutK (ι:=Unit) [(1,_),(2,_)] (fun _=>[(5,.string (str S0))]) (fun _=>pt b2 [.int .i64 (q:Int),.int .i64 e.fd,.bool e.rd,.bool e.wr,.slice ad e.b.length c,.bool e.shut,.int .u64 e.inn,.int .u64 e.out] 201::L) ?_ ?_ ⟨rfl,rfl,trivial⟩
 ·refine sr fun _ K3=>?_
  refine yv (y_f 5 4 Tryz.underlying201 sz4)<|yv (y_l1 ag4 rfl)<|fk [(1,_),(2,_),(5,_),(15,_)] K3 ?_;refine qz ?_ ?_<;>intro hc0<;>try simp only [hyZ] at hc0
  ·have hs:shB e=[32]++sShut:=if_pos hc0
   rw [hs] at hS0;refine Hd.region<|yv y_mv<|yv (y_addstr rfl rfl (by simp;omega)) ?_;refine yv y_as<|Hd.nil<|slots [(1,_),(2,_),(5,_)] sbq ?_;refine thenN ?_;exact Hd.meet () ⟨by rw [←hS0];rfl,by repeat (first | exact trivial | refine ⟨rfl,?_⟩)⟩ sq
  have hs:shB e=[]:=if_neg (by simpa using hc0)
  rw [hs,List.append_nil] at hS0;refine Hd.skip<|thenN ?_;exact Hd.meet () ⟨by rw [←hS0];rfl,by repeat (first | exact trivial | refine ⟨rfl,?_⟩)⟩ sq
 intro _;refine Hd.seq fun _ K4=>?_
 refine sr fun _ K5=>?_
 refine yv (y_f 2 4 Tryz.underlying201 sz4)<|yv (y_l1 ag4 rfl)<|yv (y_not rfl)<|fk [(1,_),(2,_),(5,_),(20,_)] K5 ?_;refine qz ?_ ?_<;>intro hc1<;>try simp only [hyZ] at hc1
 ·have hrd:e.rd=false:=by simpa using hc1
  have hfin:endB e cap=S0++[32,45]:=by unfold endB ringB;rw [if_neg (by rw [hrd];decide),hq,←hS0,List.append_assoc];rfl
  refine sr fun _ K6=>?_
  refine yv y_mv<|yv (y_addstr rfl rfl (by simp;omega)) ?_;refine yv y_as<|fk [(4,_)] K6 ?_;refine Hd.ret<|Hd.thenRet ?_;rw [hfin];exact Hd.ret1 rfl () rfl sq
 have hrd:e.rd=true:=by simpa using hc1
 have hfin:endB e cap=(S0++[32])++(hexB e.b++([47]++dgB cap)):=by unfold endB ringB;rw [if_pos hrd,hq,←hS0];simp only [List.append_assoc]
 refine qv K4<|sr fun _ K7=>?_
 refine yv y_mv<|yv (y_addstr rfl rfl (by simp;omega)) ?_;refine yv y_as<|fk [(1,_),(2,_),(5,_)] K7 ?_;refine Hd.seq fun _ K8=>?_
 refine sr fun _ K9=>?_
 refine yv y_as<|fk [(1,_),(2,_),(5,_),(6,_)] K9 ?_;refine Hd.block<|Hd.loopK (ι:=Nat) [(1,_),(2,_)] (fun i=>[(5,.string (str (S0++([32]++hexB (e.b.take i))))),(6,.int .i64 (i:Int))]) (fun i=>pu (i≤e.b.length)::pt b2 [.int .i64 (q:Int),.int .i64 e.fd,.bool e.rd,.bool e.wr,.slice ad e.b.length c,.bool e.shut,.int .u64 e.inn,.int .u64 e.out] 201::L) (fun i=>e.b.length - i) 0 sbq sbq (Ent.sep (.pure (by omega) enn)) ?_;intro i
 try dsimp only
 refine Hd.pure (fun hp0=>?_)
 try dsimp only at hp0
 refine Hd.seq fun _ K10=>?_
 refine sr fun _ K11=>?_
 refine yv y_mv<|yv (y_f 4 30 Tryz.underlying201 sz30)<|yv (y_l1 ag30 rfl)<|yv (y_len Tryz.underlying30 rfl) ?_;refine yv (y_lss rfl rfl) ?_;refine fk [(1,_),(2,_),(5,_),(6,_),(29,_)] K11 ?_;refine qz ?_ ?_<;>intro hc2<;>try simp only [hyZ] at hc2
 ·have hi:i < e.b.length:=by omega
  obtain ⟨x,hx⟩:∃ x,e.b[i]?=some x:=⟨_,List.getElem?_eq_getElem hi⟩
  have hb8:=u8_lt x
  have hts:hexB (e.b.take (i + 1))=hexB (e.b.take i)++[nibB (x.toNat / 16),nibB (x.toNat % 16)]:=by rw [List.take_add_one,hx,Option.toList_some,hexB_snoc]
  have hhl:=hexB_len (e.b.take i)
  have htl:(e.b.take i).length≤65536:=by rw [List.length_take];omega
  refine qv K10<|Hd.seq fun _ K12=>?_
  refine Hd.block<|Hd.seq fun _ K13=>?_
  refine Hd.drawsH (pt b2 [.int .i64 (q:Int),.int .i64 e.fd,.bool e.rd,.bool e.wr,.slice ad e.b.length c,.bool e.shut,.int .u64 e.inn,.int .u64 e.out] 201::L) (fun _=>true) mixed ?_;simp only [List.length,Nat.zero_add,Nat.reduceAdd];refine tH 0 rfl (y_f 4 30 Tryz.underlying201 sz30)<|tH 1 rfl (y_l1 ag30 rfl)<|tH 2 rfl y_mv<|tH 3 rfl (y_idxR Tryz.underlying30 sz5 rfl rfl (by omega) (by exact RdS.mono hR sq)) ?_;refine tH 4 rfl (y_loadR1 (v:=B x) ag5 rfl (RdS.mono hR sq) (by rw [Nat.mul_one,List.getElem?_map,hx];rfl)) ?_;refine tH 5 rfl (y_to (v':=.int .u8 ((x.toNat / 16:Nat):Int)) (y_quon rfl rfl (by omega) (by omega) (by simp only [InK];omega)) (by rfl)) ?_;refine tH 6 rfl (y_f 4 30 Tryz.underlying201 sz30)<|tH 7 rfl (y_l1 ag30 rfl)<|tH 8 rfl y_mv<|tH 9 rfl (y_idxR Tryz.underlying30 sz5 rfl rfl (by omega) (by exact RdS.mono hR sq)) ?_
  refine tH 10 rfl (y_loadR1 (v:=B x) ag5 rfl (RdS.mono hR sq) (by rw [Nat.mul_one,List.getElem?_map,hx];rfl)) ?_;refine tH 11 rfl (y_to (v':=.int .u8 ((x.toNat % 16:Nat):Int)) (y_remn rfl rfl (by omega) (by omega)) (by rfl)) ?_;refine tH 14 rfl y_mv<|qo 12 ?_;refine Hd.bslice (vs:=[(0,_),(1,_)]) rfl (by exact bs172_44 ..) (fun b44=>?_);refine qk<|tH 13 rfl (y_len Tryz.underlying30 rfl) ?_;refine endH kq ?_;refine sk [(1,_),(2,_),(5,_),(6,_),(44,_),(45,_),(46,_)] K13 ?_;refine Hd.block<|Hd.loopK (ι:=Nat×List UInt8) [(1,_),(2,_),(6,_),(44,_),(45,_)] (fun q_=>[(5,.string (str q_.2)),(46,.int .i64 (q_.1:Int))]) (fun q_=>pu (q_.1≤2∧q_.2=S0++([32]++(hexB (e.b.take i)++[nibB (x.toNat / 16),nibB (x.toNat % 16)].take q_.1)))::pt b44 [.int .u8 ((x.toNat / 16:Nat):Int),.int .u8 ((x.toNat % 16:Nat):Int)] 5::pt b2 [.int .i64 (q:Int),.int .i64 e.fd,.bool e.rd,.bool e.wr,.slice ad e.b.length c,.bool e.shut,.int .u64 e.inn,.int .u64 e.out] 201::L) (fun q_=>2 - q_.1) (0,S0++([32]++hexB (e.b.take i))) sbq sbq (Ent.sep (.pure ⟨Nat.zero_le _,by rw [List.take_zero,List.append_nil]⟩ enn)) ?_
  rintro ⟨j,T⟩
  try dsimp only
  refine Hd.pure (fun hp1=>?_)
  try dsimp only at hp1
  refine sr fun _ K14=>?_
  refine yv (y_lss rfl rfl) ?_;refine fk [(1,_),(2,_),(5,_),(6,_),(44,_),(45,_),(46,_),(47,_)] K14 ?_;refine Hd.seq fun _ K15=>?_
  refine qz ?_ ?_<;>intro hc3<;>try simp only [hyZ] at hc3
  ·have hj:j < 2:=by omega
   obtain ⟨d,hd,hcell,hnt⟩:∃ d:Nat,d < 16∧([.int .u8 ((x.toNat / 16:Nat):Int),.int .u8 ((x.toNat % 16:Nat):Int)]:List Value)[j]?=some (.int .u8 (d:Int))∧[nibB (x.toNat / 16),nibB (x.toNat % 16)].take (j + 1)=[nibB (x.toNat / 16),nibB (x.toNat % 16)].take j++[nibB d]:=by
    rcases (show j=0∨j=1 by omega) with rfl | rfl
    ·exact ⟨x.toNat / 16,by omega,rfl,rfl⟩
    ·exact ⟨x.toNat % 16,by omega,rfl,rfl⟩
   have hjl:([nibB (x.toNat / 16),nibB (x.toNat % 16)].take j).length≤2:=by rw [List.length_take];simp;omega
   have hTl:T.length≤200000:=by rw [hp1.2];simp only [List.length_append,List.length_singleton];omega
   have hT2:T++[nibB d]=S0++([32]++(hexB (e.b.take i)++[nibB (x.toNat / 16),nibB (x.toNat % 16)].take (j + 1))):=by rw [hp1.2,hnt];simp only [List.append_assoc]
   refine qv K15<|Hd.seq fun _ K16=>?_
   refine Hd.block<|sr fun _ K17=>?_
   refine yv (y_idxS Tryz.underlying30 sz5 rfl rfl (by omega)) ?_;refine yv (y_load1 (v:=.int .u8 (d:Int)) ag5 rfl (Rd.pt1 pkk (by rw [show (0 + j * 1)=j by omega];exact hcell))) ?_;refine yv y_as<|fk [(1,_),(2,_),(5,_),(6,_),(8,_),(44,_),(45,_),(46,_)] K17 ?_;refine Hd.region<|yv y_mv<|yv y_mv<|yv (y_to (v':=.int .i64 (d:Int)) (y_conv rfl Tryz.underlying5 Tryz.underlying3) (by (refine congrArg (Value.int .i64) ?_;rw [IntKind.wrap_i64];omega))) ?_;refine yv y_mv<|yv (y_to (v':=.int .i64 (d:Int)) (y_conv rfl Tryz.underlying5 Tryz.underlying3) (by (refine congrArg (Value.int .i64) ?_;rw [IntKind.wrap_i64];omega))) ?_;refine yv (y_to (v':=.int .i64 ((d + 1:Nat):Int)) (y_addn rfl rfl (by simp only [InK];omega)) (by (refine congrArg (Value.int .i64) ?_;omega))) ?_;refine yv (y_to (v':=.string (str [nibB d])) (y_strSl (l:=hexD) (a:=d) (b:=d + 1) Tryz.underlying9 rfl rfl rfl rfl rfl (by omega) (by show d + 1≤16;omega)) (by rw [hexD_cut hd])) ?_
   refine yv (y_addstr rfl rfl (by simp;omega)) ?_;refine yv y_as<|Hd.nil<|slots [(1,_),(2,_),(5,_),(6,_),(44,_),(45,_),(46,_)] sbq ?_;refine Hd.inB<|Hd.toK K16 ?_;refine Hd.region<|yv (y_addn rfl rfl (by simp only [InK];omega)) ?_;refine yv y_mv<|Hd.nil<|slots [(1,_),(2,_),(5,_),(6,_),(44,_),(45,_),(46,_)] sbq ?_;refine thenN ?_;exact Hd.again (j + 1,T++[nibB d]) (by omega) sbq (Ent.sep (.pure ⟨(show j + 1≤2 by omega),hT2⟩ enn))
  obtain rfl:j=2:=by omega
  have hT2:T=S0++([32]++hexB (e.b.take (i + 1))):=by rw [hp1.2,hts];rfl
  subst hT2;refine Hd.exit<|Hd.thenExit<|Hd.thenExit<|Hd.inBexit<|Hd.inB<|Hd.toK K12 ?_;refine Hd.region<|yv y_mv<|yv (y_addn rfl rfl (by simp only [InK];omega)) ?_;refine yv y_as<|Hd.nil<|slots [(1,_),(2,_),(5,_),(6,_)] sbq ?_;refine thenN ?_;exact Hd.again (i + 1) (by omega) sbq (Ent.sep (.pure (by omega) enn))
 obtain rfl:i=e.b.length:=by omega
 rw [List.take_length]
 have hhl:=hexB_len e.b
 have hdl:=dg_20 (n:=cap) (by omega)
 refine Hd.exit<|Hd.thenExit<|Hd.thenExit<|Hd.inBexit<|Hd.toK K8 ?_;refine sr fun _ K18=>?_
 refine yv y_mv<|yv (y_addstr rfl rfl (by simp;omega)) ?_;refine yv y_mv<|callE rfl fk171 (rnum_ct _ cap (by omega)) sq ?_;intro _;refine yv (y_addstr rfl rfl (by simp;omega)) ?_;refine yv y_as<|fk [(4,_)] K18 ?_;refine Hd.ret ?_;rw [hfin];exact Hd.ret1 rfl () (by simp only [List.append_assoc];rfl) sq
end Rf
end Go.Proofs.YtmpemhbfgbochaaGreatDoor
namespace Go.Proofs.YtmpemhbfgbochaaGreatDoor
open Go.RX Fx
namespace Wo
open Rf
def imgF (w:WA) (k:Nat):List (List UInt8):=[sNow++dgB w.now.toNat]++(List.range k).flatMap (fdB w)
def wr1L (w:WA) (n:Nat):List (List UInt8):=(w.ws[n]?).toList.map (wireB n)
def imgN (w:WA) (k:Nat):List (List UInt8):=imgF w 96++(List.range k).flatMap (wr1L w)
def imgS (w:WA) (k:Nat):List (List UInt8):=imgN w w.ws.length++(List.range k).flatMap fun s=>sgB w (s + 1)
theorem img_all (w:WA):imgW w=imgS w 31++ntB w:=by unfold imgW imgS imgN imgF;simp only [List.append_assoc];rfl
theorem range_snoc {β:Type} (f:Nat→List β) (k:Nat):(List.range (k + 1)).flatMap f=(List.range k).flatMap f++f k:=by rw [List.range_succ,List.flatMap_append];simp
theorem imgF_s (w:WA) (k:Nat):imgF w (k + 1)=imgF w k++fdB w k:=by unfold imgF;rw [range_snoc,List.append_assoc]
theorem imgN_s (w:WA) (k:Nat):imgN w (k + 1)=imgN w k++wr1L w k:=by unfold imgN;rw [range_snoc,List.append_assoc]
theorem imgS_s (w:WA) (k:Nat):imgS w (k + 1)=imgS w k++sgB w (k + 1):=by unfold imgS;rw [range_snoc,List.append_assoc]
theorem flat_le {β:Type} {f:Nat→List β} (h:∀ n,(f n).length≤1):∀ k,((List.range k).flatMap f).length≤k
 | 0=>Nat.le_refl _
 | k + 1=>by rw [range_snoc,List.length_append];have:=flat_le h k;have:=h k;omega
theorem fdB_le (w:WA) (n:Nat):(fdB w n).length≤1:=by unfold fdB;split<;>simp
theorem wr1L_le (w:WA) (n:Nat):(wr1L w n).length≤1:=by unfold wr1L;cases w.ws[n]?<;>simp
theorem sgB_le (w:WA) (n:Nat):(sgB w n).length≤1:=by unfold sgB;split<;>simp
theorem imgF_le (w:WA) (k:Nat):(imgF w k).length≤k + 1:=by unfold imgF;rw [List.length_append,List.length_singleton];have:=flat_le (fdB_le w) k;omega
theorem imgN_le (w:WA) (k:Nat):(imgN w k).length≤k + 97:=by unfold imgN;rw [List.length_append];have:=flat_le (wr1L_le w) k;have:=imgF_le w 96;omega
theorem imgS_le (w:WA) (k:Nat):(imgS w k).length≤w.ws.length + k + 97:=by unfold imgS;rw [List.length_append];have:=flat_le (fun n=>sgB_le w (n + 1)) k;have:=imgN_le w w.ws.length;omega
def wtB (l:List Nat):List UInt8:=l.flatMap fun k=>[32]++dgB k
def wireD (n:Nat) (x:WireA):List UInt8:=([119,105,114,101,32]++dgB n)++((if 0 < x.bl then [32,108,105,115,116,101,110,32]++(dgB x.bl.toNat++wtB x.wt) else [32]++(endB (x.e 0) x.cap++([32]++endB (x.e 1) x.cap)))++if x.rs=true then [32,114,101,115,101,116] else [])
theorem words_flat (e:EndA) (cap:Nat):(wordsA e cap).flatMap (fun y=>[32]++y)=[32]++endB e cap:=by
 unfold wordsA endB shB
 split<;>simp
theorem wireB_eq (n:Nat) (x:WireA):wireB n x=wireD n x:=by
 unfold wireB wireWs wireD;rw [show ∀ l:List (List UInt8),[sWire,dgB n]++l=[sWire]++(dgB n::l) from fun _=>rfl,spJ_app _ (by simp)]
 have e1:spJ [sWire]=sWire:=by unfold spJ Lib.join;simp [List.intercalate]
 rw [e1,List.flatMap_cons,List.flatMap_append]
 have e2:(if x.rs=true then [sReset] else []).flatMap (fun y=>([32]:List UInt8)++y)=if x.rs=true then [32,114,101,115,101,116] else []:=by split<;>rfl
 have e3:(if 0 < x.bl then [sListen,dgB x.bl.toNat]++x.wt.map dgB else wordsA (x.e 0) x.cap++wordsA (x.e 1) x.cap).flatMap (fun y=>([32]:List UInt8)++y)=if 0 < x.bl then [32,108,105,115,116,101,110,32]++(dgB x.bl.toNat++wtB x.wt) else [32]++(endB (x.e 0) x.cap++([32]++endB (x.e 1) x.cap)):=by
  split
  ·simp [wtB,List.flatMap_map]
  ·rw [List.flatMap_append,words_flat,words_flat];simp only [List.append_assoc]
 rw [e2,e3];simp
theorem wtB_s {l:List Nat} {i m:Nat} (h:l[i]?=some m):wtB (l.take (i + 1))=wtB (l.take i)++([32]++dgB m):=by unfold wtB;rw [List.take_add_one,h,Option.toList_some,List.flatMap_append];simp
theorem endB_len {e:EndA} {cap:Nat} (hc:cap≤65536) (hl:e.b.length≤65536):(endB e cap).length≤140000:=by
 unfold endB ringB
 have h1:=kind_len e.what
 have h2:=sh_len e
 have h3:=hexB_len e.b
 have h4:=dg_20 (n:=cap) (by omega)
 split<;>simp only [List.length_append,List.length_cons,List.length_nil]<;>omega
theorem wtB_len:∀ {l:List Nat},(∀ m∈l,m≤18446744073709551615)→(wtB l).length≤l.length * 21
 | [],_=>Nat.le_refl _
 | m::l,h=>by
  have h1:=dg_20 (h m List.mem_cons_self)
  have h2:=wtB_len (l:=l) fun x hx=>h x (List.mem_cons_of_mem _ hx)
  unfold wtB at h2 ⊢;simp only [List.flatMap_cons,List.length_append,List.length_cons,List.length_nil] at h2 ⊢;omega
theorem at_open {w:WA} (hw:WOk w) {fd n k:Nat} (h:w.at (fd:Int)=some (n,k)):k < 2∧n < 1000∧∃ x,w.ws[n]?=some x:=by
 obtain ⟨hk,x,hx,_⟩:=(atW_iff hw.uq).1 h
 have:=(List.getElem?_eq_some_iff.1 hx).1
 have:=hw.len
 exact ⟨hk,by omega,x,hx⟩
theorem wt_bd {w:WA} (hw:WOk w) {n:Nat} {x:WireA} (hx:w.ws[n]?=some x):∀ m∈x.wt,m < 1000:=fun m hm=>by
 obtain ⟨y,hy,_⟩:=hw.wm m (List.mem_flatMap.2 ⟨x,List.mem_of_getElem? hx,hm⟩)
 have:=(List.getElem?_eq_some_iff.1 hy).1
 have:=hw.len
 omega
theorem nib_lo (x:UInt8):bits .and .u8 (x.toNat:Int) 15=((x.toNat % 16:Nat):Int):=by
 have:∀ n:Fin 256,bits .and .u8 (n.1:Int) 15=((n.1 % 16:Nat):Int):=by decide
 exact this ⟨x.toNat,x.toNat_lt⟩
theorem hex_ct (L:List SP) (l:List UInt8) (hl:l.length≤65536) (ad:Option Addr) (c:Nat) (hR:RdS L 1 ad l.length (bsl l)):Ct Tryz.prog 218 #[.slice ad l.length c] (L) (fun _:Unit=>.string (str (hexB l))) (fun _:Unit=>L):=by
 refine Ct.o1 Tryz.func218 ?_;intro E
 show Hd E 24 _ _ _ _
 refine sr fun _ K1=>?_
 refine yv y_as<|fk [(0,_)] K1 ?_;refine sr fun _ K2=>?_
 refine yv y_as<|fk [(0,_),(3,_)] K2 ?_;refine Hd.seq fun _ K3=>?_
 refine sr fun _ K4=>?_
 refine yv y_mv<|yv (y_len Tryz.underlying30 rfl) ?_;refine yv y_mv<|fk [(3,_),(6,_),(7,_),(8,_)] K4 ?_;refine Hd.block<|Hd.loopK (ι:=Nat×Option Addr×Nat) [(6,_),(7,_)] (fun q_=>[(3,.slice q_.2.1 (hexB (l.take q_.1)).length q_.2.2),(8,.int .i64 (q_.1:Int))]) (fun q_=>pu (q_.1≤l.length)::own 5 1 q_.2.1 (hexB (l.take q_.1)).length q_.2.2 (bsl (hexB (l.take q_.1)))::L) (fun q_=>l.length - q_.1) (0,none,0) sbq sbq (fun q t=>Ent.sep (.pure (Nat.zero_le _) (.ownNil enn)) q t) ?_;rintro ⟨i,ad,c⟩
 try dsimp only
 refine Hd.pure (fun hp0=>?_)
 try dsimp only at hp0
 refine sr fun _ K5=>?_
 refine yv (y_lss rfl rfl) ?_;refine fk [(3,_),(6,_),(7,_),(8,_),(9,_)] K5 ?_;refine Hd.seq fun _ K6=>?_
 refine qz ?_ ?_<;>intro hc0<;>try simp only [hyZ] at hc0
 ·have hi:i < l.length:=by omega
  obtain ⟨x,hx⟩:∃ x,l[i]?=some x:=⟨_,List.getElem?_eq_getElem hi⟩
  have hb8:=u8_lt x
  have hts:hexB (l.take (i + 1))=hexB (l.take i)++[nibB (x.toNat / 16),nibB (x.toNat % 16)]:=by rw [List.take_add_one,hx,Option.toList_some,hexB_snoc]
  have hhl:=hexB_len (l.take i)
  have htl:(l.take i).length=i:=by rw [List.length_take];omega
  refine qv K6<|Hd.seq fun _ K7=>?_
  refine Hd.block<|sr fun _ K8=>?_
  refine yv (y_idxR Tryz.underlying30 sz5 rfl rfl (by omega) (by exact RdS.mono hR sq)) ?_;refine yv (y_loadR1 (v:=B x) ag5 rfl (RdS.mono hR sq) (by rw [Nat.mul_one,List.getElem?_map,hx];rfl)) ?_;refine yv y_as<|fk [(3,_),(5,_),(6,_),(7,_),(8,_)] K8 ?_;refine Hd.draws mixed ?_;simp only [List.length,Nat.zero_add,Nat.reduceAdd];refine Hd.take 0 rfl kq kq kq (fun _=>y_move rfl) fq ?_;refine Hd.take 1 rfl kq kq kq (fun _=>y_move rfl) fq ?_;refine Hd.take 4 rfl kq kq kq (fun _=>y_move rfl) fq ?_;refine Hd.tailAt 7 [2,3,5,6] [7,8,9] rfl rfl rfl kq ?_;simp only [pk,List.getElem?_cons_zero,List.getElem?_cons_succ];refine Ht.yv (y_to (v':=.int .u8 ((x.toNat / 16:Nat):Int)) (y_shr rfl rfl (by decide) (by decide)) (by show Value.int .u8 ((x.toNat:Int) / 2 ^ 4)=_;refine congrArg (Value.int .u8) ?_;omega)) ?_;refine Ht.yv (y_strIx (l:=hexD) (a:=x.toNat / 16) Tryz.underlying9 rfl rfl rfl (hexD_at (by omega))) ?_
  refine Ht.yv (y_to (v':=.int .u8 ((x.toNat % 16:Nat):Int)) (y_and rfl rfl) (by exact congrArg (Value.int .u8) (nib_lo x))) ?_;refine Ht.yv (y_strIx (l:=hexD) (a:=x.toNat % 16) Tryz.underlying9 rfl rfl rfl (hexD_at (by omega))) ?_;refine Ht.nil ?_;refine Hd.bslice (vs:=[(0,_),(1,_)]) rfl (by exact bs218_19 ..) (fun b19=>?_);refine Hd.append Tryz.underlying30 ty5 rfl rfl rfl pkk (by exact RdS.rd (Rd.pt pkk (fun j v e=>by simpa using e)) rfl) (by simp [Value.oneCell'];done) (by simp only [maxLen];omega) (by omega) (fun ad20 cap20=>?_);refine yv y_as<|Hd.nil<|Hd.noPn ?_;refine slots [(3,_),(6,_),(7,_),(8,_)] sbq ?_;refine Hd.inB<|Hd.toK K7 ?_;refine Hd.region<|yv (y_addn rfl rfl (by simp only [InK];omega)) ?_;refine yv y_mv<|Hd.nil<|slots [(3,_),(6,_),(7,_),(8,_)] sbq ?_;refine thenN<|Hd.again (i + 1,ad20,cap20) (by show l.length - (i + 1) < l.length - i;omega) (by (try dsimp only);rw [hts,List.length_append];repeat (first | exact trivial | refine ⟨rfl,?_⟩)) (fun q t=>?_)
  rw [hts];exact Ent.sep (.pure (show i + 1≤l.length by omega) (.eq pkk (own_eq3 (by rw [List.length_append];rfl) rfl (by unfold bsl;rw [List.map_append];rfl)) enn)) q t
 obtain rfl:i=l.length:=by omega
 have hhl:=hexB_len l
 rw [List.take_length];refine Hd.exit<|Hd.thenExit<|Hd.thenExit<|Hd.inBexit<|Hd.toK K3 ?_;refine sr fun _ K9=>?_
 refine yv y_mv<|yv (y_strOf (l:=_) kq Tryz.underlying9 rfl (by exact RdS.own pkk)) ?_;refine yv y_as<|fk [(2,_)] K9 ?_;refine Hd.ret ?_;exact Hd.ret1 rfl () (by rfl) sq
end Wo
end Go.Proofs.YtmpemhbfgbochaaGreatDoor
namespace Go.Proofs.YtmpemhbfgbochaaGreatDoor
open Go.RX Fx
namespace Rf
open Wo
def fdsN (w:WA) (k:Nat):List Int:=((List.range k).filter fun n:Nat=>(w.at (n:Int)).isSome).map fun n:Nat=>(n:Int)
theorem fdsN_succ (w:WA) (k:Nat):fdsN w (k + 1)=fdsN w k++if (w.at (k:Int)).isSome=true then [(k:Int)] else []:=by
 unfold fdsN;rw [List.range_succ,List.filter_append,List.map_append,List.filter_cons]
 split<;>rfl
theorem fdsN_le (w:WA) (k:Nat):(fdsN w k).length≤k:=by
 unfold fdsN;rw [List.length_map];exact Nat.le_trans (List.length_filter_le _ _) (by rw [List.length_range];exact Nat.le_refl _)
theorem rFds_ct (L:List SP) (b:Nat) (w:WA) (hw:WOk w):Ct Tryz.prog 81 #[.pointer (some ⟨b,0,none⟩)] (RwP b w::L) (fun q_:Option Addr×Nat=>.slice q_.1 (fdsW w).length q_.2) (fun q_:Option Addr×Nat=>own 3 1 q_.1 (fdsW w).length q_.2 ((fdsW w).map (Value.int .i64))::RwP b w::L):=by
 refine Ct.o1 Tryz.func81 ?_;intro E
 show Hd E 24 _ _ _ _
 refine sr fun _ K1=>?_
 refine yv y_as<|fk [(0,_)] K1 ?_;refine sr fun _ K2=>?_
 refine yv y_as<|fk [(0,_),(3,_)] K2 ?_;refine Hd.seq fun _ K3=>?_
 refine sr fun _ K4=>?_
 refine yv y_as<|fk [(0,_),(3,_),(4,_)] K4 ?_;refine Hd.block<|Hd.loopK (ι:=Nat×Option Addr×Nat) [(0,_)] (fun q_=>[(3,.slice q_.2.1 (fdsN w q_.1).length q_.2.2),(4,.int .i64 (q_.1:Int))]) (fun q_=>pu (q_.1≤96)::own 3 1 q_.2.1 (fdsN w q_.1).length q_.2.2 ((fdsN w q_.1).map (Value.int .i64))::RwP b w::L) (fun q_=>96 - q_.1) (0,none,0) sbq sbq (fun q t=>Ent.sep (.pure (Nat.zero_le _) (.ownNil enn)) q t) ?_;rintro ⟨k,ad,c⟩
 try dsimp only
 refine Hd.pure (fun hp0=>?_)
 try dsimp only at hp0
 refine Hd.seq fun _ K5=>?_
 refine sr fun _ K6=>?_
 refine yv y_mv<|yv (y_leq rfl rfl) ?_;refine fk [(0,_),(3,_),(4,_),(8,_)] K6 ?_;refine qz ?_ ?_<;>intro hc0<;>try simp only [hyZ] at hc0
 ·have hk:k < 96:=by omega
  have hs:=fdsN_succ w k
  have hl:=fdsN_le w k
  refine qv K5<|Hd.seq fun _ K7=>?_
  refine Hd.block<|sr fun _ K8=>?_
  refine yv y_mv<|yv y_mv<|callE rfl fk117 (rat_ct _ b w hw (k:Int)) sq ?_;intro _;refine yv y_mv<|yv y_ex<|yv y_ex<|yv y_as<|yv y_as<|fk [(0,_),(3,_),(4,_),(5,_)] K8 ?_;refine sr fun _ K9=>?_
  refine yv y_mv<|yv (y_geq rfl rfl) ?_;refine fk [(0,_),(3,_),(4,_),(18,_)] K9 ?_;refine qz ?_ ?_<;>intro hc1<;>try simp only [hyZ] at hc1
  ·have h1:(w.at (k:Int)).isSome=true:=by
    cases h:w.at (k:Int) with
    | some _=>rfl
    | none=>rw [h] at hc1;exact absurd hc1 (by decide)
   rw [if_pos h1] at hs;refine Hd.region<|yv y_mv<|yv y_mv<|Hd.bslice (vs:=[(0,_)]) rfl (by exact bs81_21 ..) (fun b21=>?_);refine Hd.append Tryz.underlying94 ty3 rfl rfl rfl pkk (by exact RdS.rd (Rd.pt pkk (fun j v e=>by simpa using e)) rfl) (by simp [Value.oneCell'];done) (by simp only [maxLen];omega) (by omega) (fun ad22 cap22=>?_);refine yv y_as<|Hd.nil<|slots [(0,_),(3,_),(4,_)] sbq ?_;refine Hd.inB<|Hd.toK K7 ?_;refine Hd.region<|yv y_mv<|yv (y_addn rfl rfl (by simp only [InK];omega)) ?_;refine yv y_as<|Hd.nil<|slots [(0,_),(3,_),(4,_)] sbq ?_;refine thenN<|Hd.again (k + 1,ad22,cap22) (by show 96 - (k + 1) < 96 - k;omega) (by (try dsimp only);rw [hs,List.length_append];repeat (first | exact trivial | refine ⟨rfl,?_⟩)) (fun q t=>?_);rw [hs];exact Ent.sep (.pure (show k + 1≤96 by omega) (.eq pkk (own_eq3 (by rw [List.length_append];rfl) rfl (by rw [List.map_append];rfl)) enn)) q t
  have h1:¬ (w.at (k:Int)).isSome=true:=by
   cases h:w.at (k:Int) with
   | none=>decide
   | some q=>rw [h] at hc1;exact absurd hc1 (by show ¬ (q.1:Int) < 0;omega)
  rw [if_neg h1,List.append_nil] at hs;refine Hd.skip<|Hd.inB<|Hd.toK K7 ?_;refine Hd.region<|yv y_mv<|yv (y_addn rfl rfl (by simp only [InK];omega)) ?_;refine yv y_as<|Hd.nil<|slots [(0,_),(3,_),(4,_)] sbq ?_;refine thenN<|Hd.again (k + 1,ad,c) (by show 96 - (k + 1) < 96 - k;omega) (by (try dsimp only);rw [hs];repeat (first | exact trivial | refine ⟨rfl,?_⟩)) (fun q t=>?_);rw [hs];exact Ent.sep (.pure (show k + 1≤96 by omega) enn) q t
 obtain rfl:k=96:=by omega
 refine Hd.exit<|Hd.thenExit<|Hd.thenExit<|Hd.inBexit<|Hd.toK K3 ?_;refine sr fun _ K10=>?_
 refine yv y_mv<|yv y_as<|fk [(2,_)] K10 ?_;refine Hd.ret ?_;exact Hd.ret1 rfl (ad,c) rfl sq
abbrev VSs (l:List (List UInt8)):List Value:=l.map fun s=>Value.string (str s)
theorem rSameS_ct (L:List SP) (a1:Option Addr) (c1:Nat) (xs:List (List UInt8)) (h1:RdS L 1 a1 xs.length (VSs xs)) (hb1:xs.length≤1000000) (a2:Option Addr) (c2:Nat) (ys:List (List UInt8)) (h2:RdS L 1 a2 ys.length (VSs ys)) (hb2:ys.length≤1000000):Ct Tryz.prog 86 #[.slice a1 xs.length c1,.slice a2 ys.length c2] (L) (fun _:Unit=>.bool (decide (xs=ys))) (fun _:Unit=>L):=by
 refine Ct.o2 Tryz.func86 ?_;intro E
 show Hd E 26 _ _ _ _
 refine sr fun _ K1=>?_
 refine yv y_as<|fk [(0,_),(1,_)] K1 ?_;refine Hd.seq fun _ K2=>?_
 refine sr fun _ K3=>?_
 refine yv y_mv<|yv (y_len Tryz.underlying137 rfl) ?_;refine yv y_mv<|yv (y_len Tryz.underlying137 rfl) ?_;refine yv (y_neq rfl rfl) ?_;refine fk [(0,_),(1,_),(10,_)] K3 ?_;refine qz ?_ ?_<;>intro hc0<;>try simp only [hyZ] at hc0
 ·have hne:xs≠ys:=fun e=>hc0 (by rw [e])
  refine sr fun _ K4=>?_
  refine yv y_as<|fk [(4,_)] K4 ?_;refine Hd.ret<|Hd.thenRet ?_;rw [decide_eq_false hne];exact Hd.ret1 rfl () rfl sq
 have hlen:xs.length=ys.length:=by omega
 refine qv K2<|Hd.seq fun _ K5=>?_
 refine sr fun _ K6=>?_
 refine yv y_as<|fk [(0,_),(1,_),(5,_)] K6 ?_;refine Hd.block<|Hd.loopK (ι:=Nat) [(0,_),(1,_)] (fun i=>[(5,.int .i64 (i:Int))]) (fun i=>pu (i≤xs.length∧∀ j,j < i→xs[j]?=ys[j]?)::L) (fun i=>xs.length - i) 0 sbq sbq (Ent.sep (.pure ⟨Nat.zero_le _,fun j hj=>absurd hj (Nat.not_lt_zero _)⟩ enn)) ?_;intro i
 try dsimp only
 refine Hd.pure (fun hp0=>?_)
 try dsimp only at hp0
 refine Hd.seq fun _ K7=>?_
 refine sr fun _ K8=>?_
 refine yv y_mv<|yv y_mv<|yv (y_len Tryz.underlying137 rfl) ?_;refine yv (y_lss rfl rfl) ?_;refine fk [(0,_),(1,_),(5,_),(14,_)] K8 ?_;refine qz ?_ ?_<;>intro hc1<;>try simp only [hyZ] at hc1
 ·have hi:i < xs.length:=by omega
  obtain ⟨x,hx⟩:∃ x,xs[i]?=some x:=⟨_,List.getElem?_eq_getElem hi⟩
  obtain ⟨y,hy⟩:∃ y,ys[i]?=some y:=⟨_,List.getElem?_eq_getElem (by omega)⟩
  refine qv K7<|Hd.seq fun _ K9=>?_
  refine Hd.block<|Hd.seq fun _ K10=>?_
  refine Hd.quiet mixed kq ?_;refine Hq.yv y_mv ?_;refine Hq.yv y_mv ?_;refine Hq.yv (y_idxR (j:=i) Tryz.underlying137 sz9 rfl rfl hi h1) ?_;refine Hq.yv (y_loadR1 ag9 rfl h1 (by rw [Nat.mul_one,List.getElem?_map,hx];rfl)) ?_;refine Hq.yv y_mv ?_;refine Hq.yv y_mv ?_;refine Hq.yv (y_idxR (j:=i) Tryz.underlying137 sz9 rfl rfl (by omega) h2) ?_;refine Hq.yv (y_loadR1 ag9 rfl h2 (by rw [Nat.mul_one,List.getElem?_map,hy];rfl)) ?_;refine Hq.yv (y_neqstr rfl rfl) ?_;refine Hq.nil ?_;refine sk [(0,_),(1,_),(5,_),(25,_)] K10 ?_;refine qz ?_ ?_<;>intro hc2<;>try simp only [hyZ] at hc2
  ·have hne:xs≠ys:=fun e=>hc2 (by rw [e,hy] at hx;exact (Option.some.inj hx).symm)
   refine sr fun _ K11=>?_
   refine yv y_as<|fk [(4,_)] K11 ?_;refine Hd.ret<|Hd.inBret<|Hd.thenRet<|Hd.thenRet<|Hd.inBret<|Hd.thenRet ?_;rw [decide_eq_false hne];exact Hd.ret1 rfl () rfl sq
  have hxy:x=y:=by simpa using hc2
  have hn2:∀ j,j < i + 1→xs[j]?=ys[j]?:=fun j hj=>by
   rcases Nat.lt_succ_iff_lt_or_eq.1 hj with h | h
   ·exact hp0.2 j h
   ·rw [h,hx,hy,hxy]
  refine Hd.skip<|Hd.inB<|Hd.toK K9 ?_;refine Hd.region<|yv y_mv<|yv (y_addn rfl rfl (by simp only [InK];omega)) ?_;refine yv y_as<|Hd.nil<|slots [(0,_),(1,_),(5,_)] sbq ?_;refine thenN ?_;exact Hd.again (i + 1) (by omega) sbq (Ent.sep (.pure ⟨hi,hn2⟩ enn))
 have heq:xs=ys:=by
  apply List.ext_getElem?;intro j
  by_cases hj:j < i
  ·exact hp0.2 j hj
  ·rw [List.getElem?_eq_none (by omega),List.getElem?_eq_none (by omega)]
 refine Hd.exit<|Hd.thenExit<|Hd.thenExit<|Hd.inBexit<|Hd.toK K5 ?_;refine sr fun _ K12=>?_
 refine yv y_as<|fk [(4,_)] K12 ?_;refine Hd.ret ?_;rw [decide_eq_true heq];exact Hd.ret1 rfl () rfl sq
abbrev VLs (l:List (List UInt8)):List Value:=l.map fun s=>Value.string (str s)
theorem bag_rd {rs:List Row} {n:Nat} {p:Row} {L:List SP} (h:rs[n]?=some p) (k:Nat) (hk:k < 2):RdS (Bag Sd rs::L) 1 (p.2.a k) (p.1.e k).b.length (bsl (p.1.e k).b):=fun q s=>by
 have s1:=bag_out h s
 obtain ⟨h1,h2,d,a,b,x,y⟩:=s1
 obtain ⟨j,k1,k2,d',a',b',hj,z⟩:=x
 have z':=z.up (b'.tr a)
 by_cases e:j=k
 ·subst e;exact RdS.own .here _ z'
 ·have hj':j < 2:=hj
  obtain rfl:k=1 - j:=by omega
  exact RdS.own (.there .here) _ z'
theorem bag_rdW {rs:List Row} {n:Nat} {p:Row} {L:List SP} (h:rs[n]?=some p):RdS (Bag Sd rs::L) 1 p.2.wa p.1.wt.length (nats p.1.wt):=fun q s=>by
 have s1:=bag_out h s
 obtain ⟨h1,h2,d,a,b,x,y⟩:=s1
 obtain ⟨j,k1,k2,d',a',b',hj,z⟩:=x
 exact RdS.own (.there (.there .here)) _ (z.up (b'.tr a))
theorem vls_snoc {l:List (List UInt8)} {x y:List UInt8} (h:x=y):VLs l++[Value.string (str x)]=VLs (l++[y]):=by subst h;simp
theorem imgN_0 (w:WA):imgF w 96=imgN w 0:=by unfold imgN;rw [List.range_zero,List.flatMap_nil,List.append_nil]
theorem imgS_0 (w:WA):imgN w w.ws.length=imgS w 0:=by unfold imgS;rw [List.range_zero,List.flatMap_nil,List.append_nil]
theorem row_cells {rs:List Row} {n:Nat} {p:Row} (h:rs[n]?=some p):∀ j v,(encRW p)[j]?=some v→(rs.flatMap encRW)[n * 20 + j]?=some v:=fun j v hv=>flat_cells encRW 20 encRW_len h j v hv
def ntI:Option (Nat×Nat)→Int
 | none=>-1
 | some p=>(p.1:Int)
theorem ntI_at (o:Option (Nat×Nat)):(ntV o)[0]?=some (.int .i64 (ntI o)):=by cases o<;>rfl
theorem rImage_ct (L:List SP) (b:Nat) (w:WA) (hw:WOk w) (hn:InK .u64 w.now) (hb:∀ c∈w.ct,0≤c∧c≤2000000000):Ct Tryz.prog 88 #[.pointer (some ⟨b,0,none⟩)] (RwP b w::L) (fun q_:Option Addr×Nat=>.slice q_.1 (imgW w).length q_.2) (fun q_:Option Addr×Nat=>own 9 1 q_.1 (imgW w).length q_.2 (VLs (imgW w))::RwP b w::L):=by
 refine Ct.o1 Tryz.func88 ?_;intro E
 show Hd E 170 _ _ _ _
 obtain ⟨nw,hnw⟩:∃ n:Nat,w.now=(n:Int):=⟨w.now.toNat,by simp only [InK] at hn;omega⟩
 have hnb:nw≤18446744073709551615:=by simp only [InK] at hn;omega
 have hnt:w.now.toNat=nw:=by omega
 have hnl:=dg_20 hnb
 refine sr fun _ K1=>?_
 refine yv y_as<|fk [(0,_)] K1 ?_;refine Hd.seq fun _ K2=>?_
 refine Hd.rw .here (fun i hi=>?_);refine Hd.region<|yv y_mv<|yv y_np<|yv (y_f 1 29 Tryz.underlying102 sz29)<|yv (y_load1 (v:=.int .u64 (nw:Int)) ag29 rfl (Rd.pt1 pkk (by rw [←hnw];rfl))) ?_;refine callE rfl fk170 (rdig_ct _ nw hnb) sq ?_;intro _;refine yv (y_addstr rfl rfl (by simp;omega)) ?_;refine Hd.bslice (vs:=[(0,_)]) rfl (by exact bs88_18 ..) (fun b18=>?_);refine Hd.ptOwn (m:=1) pkk rfl (by decide) ?_;refine yv y_as<|fk [(0,_),(3,_)] K2 ?_;refine Hd.seq fun _ K3=>?_
 refine sr fun _ K4=>?_
 refine yv y_as<|fk [(0,_),(3,_),(4,_)] K4 ?_;refine Hd.block<|Hd.loopK (ι:=Nat×Option Addr×Nat) [(0,_)] (fun q_=>[(3,.slice q_.2.1 (imgF w q_.1).length q_.2.2),(4,.int .i64 (q_.1:Int))]) (fun q_=>pu (q_.1≤96)::own 9 1 q_.2.1 (imgF w q_.1).length q_.2.2 (VLs (imgF w q_.1))::RwP b w::L) (fun q_=>96 - q_.1) (0,some ⟨b18,0,none⟩,1) sbq sbq (fun q t=>Ent.sep (.pure (Nat.zero_le _) (.eq (A:=own 9 1 (some ⟨b18,0,none⟩) 1 1 [.string (str ([110,111,119,32]++dgB nw))]) pkk (own_eq3 rfl rfl (by show _=VLs (imgF w 0);unfold imgF;rw [hnt];rfl)) (.ex i (.pure hi enn)))) q t) ?_;rintro ⟨k,ad,c⟩
 try dsimp only
 refine Hd.pure (fun hp0=>?_)
 try dsimp only at hp0
 refine Hd.seq fun _ K5=>?_
 refine sr fun _ K6=>?_
 refine yv y_mv<|yv (y_leq rfl rfl) ?_;refine fk [(0,_),(3,_),(4,_),(20,_)] K6 ?_;refine qz ?_ ?_<;>intro hc0<;>try simp only [hyZ] at hc0
 ·have hk:k < 96:=by omega
  have hs:=imgF_s w k
  have hl:=imgF_le w k
  obtain ⟨o,ho⟩:∃ o,w.at (k:Int)=o:=⟨_,rfl⟩
  refine qv K5<|Hd.seq fun _ K7=>?_
  refine Hd.block<|sr fun _ K8=>?_
  refine yv y_mv<|yv y_mv<|callE rfl fk117 (rat_ct _ b w hw (k:Int)) sq ?_;intro _;rw [ho];refine yv y_mv<|yv y_ex<|yv y_ex<|yv y_as<|yv y_as<|fk [(0,_),(3,_),(4,_),(5,_),(6,_)] K8 ?_;refine Hd.seq fun _ K9=>?_
  refine sr fun _ K10=>?_
  refine yv y_mv<|yv (y_lss rfl rfl) ?_;refine fk [(0,_),(3,_),(4,_),(5,_),(6,_),(30,_)] K10 ?_;refine qz ?_ ?_<;>intro hc1<;>try simp only [hyZ] at hc1
  ·have hnone:o=none:=by
    cases o with
    | none=>rfl
    | some p=>exact absurd hc1 (by show ¬ (p.1:Int) < 0;omega)
   have hf:fdB w k=[]:=by unfold fdB;rw [ho,hnone]
   rw [hf,List.append_nil] at hs;refine Hd.exit<|Hd.thenExit<|Hd.inBexit<|Hd.toK K7 ?_;refine Hd.region<|yv y_mv<|yv (y_addn rfl rfl (by simp only [InK];omega)) ?_;refine yv y_as<|Hd.nil<|slots [(0,_),(3,_),(4,_)] sbq ?_;refine thenN<|Hd.again (k + 1,ad,c) (by show 96 - (k + 1) < 96 - k;omega) (by (try dsimp only);rw [hs];repeat (first | exact trivial | refine ⟨rfl,?_⟩)) (fun q t=>?_);rw [hs];exact Ent.sep (.pure (show k + 1≤96 by omega) enn) q t
  obtain ⟨n,kk,rfl⟩:∃ n kk,o=some (n,kk):=by
   cases o with
   | none=>exact absurd hc1 (by decide)
   | some p=>exact ⟨p.1,p.2,rfl⟩
  simp only [atN,atK]
  obtain ⟨hkk,hn1,x,hx⟩:=at_open hw ho
  have hbl:=hw.wf x (List.mem_of_getElem? hx)
  have hK:fdK w n kk=if 0 < x.bl then 2 else kk:=by unfold fdK;rw [hx];rfl
  have hf:fdB w k=[sFd++(dgB k++(sWire2++(dgB n++(sEnd++dgB (fdK w n kk)))))]:=by unfold fdB;rw [ho]
  have hKb:fdK w n kk≤2:=by rw [hK];split<;>omega
  have h1l:=dg_20 (n:=k) (by omega)
  have h2l:=dg_20 (n:=n) (by omega)
  have h3l:=dg_20 (n:=fdK w n kk) (by omega)
  rw [hf] at hs;refine qv K9<|Hd.cutK (ι:=Unit) [(0,_),(3,_),(4,_),(5,_)] (fun _=>[(6,.int .i64 (fdK w n kk:Int))]) (fun _=>own 9 1 ad (imgF w k).length c (VLs (imgF w k))::RwP b w::L) ?_ ?_ ⟨rfl,rfl,rfl,rfl,trivial⟩
  ·refine Hd.seq fun _ K11=>?_
   refine Hd.rw pkk (fun i hi=>?_)
   obtain ⟨j,hrow⟩:=row_at hi hx
   have hil:n < i.1.length:=by rw [rows_n hi];exact (List.getElem?_eq_some_iff.1 hx).1
   refine Hd.region<|yv y_mv<|yv y_np<|yv (y_f 0 98 Tryz.underlying102 sz98)<|yv (y_l1 ag98 rfl)<|yv y_mv<|yv (y_idxR Tryz.underlying98 sz204 rfl rfl (by omega) (by exact RdS.own pkk)) ?_;refine yv (y_fR 18 3 Tryz.underlying204 sz3) ?_;refine yv (y_rw ag3 rfl hrow 18 rfl) ?_;refine yv (y_gtr rfl rfl) ?_;refine fk [(0,_),(3,_),(4,_),(5,_),(6,_),(39,_)] K11 ?_;refine qz ?_ ?_<;>intro hc2<;>try simp only [hyZ] at hc2
   ·refine Hd.region ?_
    refine yv y_as<|Hd.nil<|slots [(0,_),(3,_),(4,_),(5,_),(6,_)] sbq ?_;refine thenN ?_;exact Hd.meet () ⟨by rw [hK,if_pos (by simpa using hc2)];rfl,by repeat (first | exact trivial | refine ⟨rfl,?_⟩)⟩ (Ent.sep (.pick pkk (.ex i (.pure hi enn))))
   refine Hd.skip<|thenN ?_;exact Hd.meet () ⟨by rw [hK,if_neg (by simpa using hc2)];rfl,by repeat (first | exact trivial | refine ⟨rfl,?_⟩)⟩ (Ent.sep (.pick pkk (.ex i (.pure hi enn))))
  intro _;refine Hd.region<|yv y_mv<|yv y_mv<|callE rfl fk171 (rnum_ct _ k (by omega)) sq ?_;intro _;refine yv (y_addstr rfl rfl (by simp;omega)) ?_;refine yv (y_addstr rfl rfl (by simp;omega)) ?_;refine yv y_mv<|callE rfl fk171 (rnum_ct _ n (by omega)) sq ?_;intro _;refine yv (y_addstr rfl rfl (by simp;omega)) ?_;refine yv (y_addstr rfl rfl (by simp;omega)) ?_;refine yv y_mv<|callE rfl fk171 (rnum_ct _ (fdK w n kk) (by omega)) sq ?_;intro _;refine yv (y_addstr rfl rfl (by simp;omega)) ?_;refine Hd.bslice (vs:=[(0,_)]) rfl (by exact bs88_52 ..) (fun b52=>?_);refine Hd.append Tryz.underlying137 ty9 rfl rfl rfl pkk (by exact RdS.rd (Rd.pt pkk (fun j v e=>by simpa using e)) rfl) (by simp [Value.oneCell'];done) (by simp only [maxLen];omega) (by omega) (fun ad53 cap53=>?_);refine yv y_as<|Hd.nil<|slots [(0,_),(3,_),(4,_)] sbq ?_
  refine Hd.inB<|Hd.toK K7 ?_;refine Hd.region<|yv y_mv<|yv (y_addn rfl rfl (by simp only [InK];omega)) ?_;refine yv y_as<|Hd.nil<|slots [(0,_),(3,_),(4,_)] sbq ?_;refine thenN<|Hd.again (k + 1,ad53,cap53) (by show 96 - (k + 1) < 96 - k;omega) (by (try dsimp only);rw [hs,List.length_append];repeat (first | exact trivial | refine ⟨rfl,?_⟩)) (fun q t=>?_);rw [hs];exact Ent.sep (.pure (show k + 1≤96 by omega) (.eq pkk (own_eq3 (by rw [List.length_append];rfl) rfl (by exact vls_snoc rfl)) enn)) q t
 obtain rfl:k=96:=by omega
 refine Hd.exit<|Hd.thenExit<|Hd.thenExit<|Hd.inBexit<|Hd.toK K3 ?_;refine Hd.seq fun _ K12=>?_
 refine Hd.seq fun _ K13=>?_
 rw [imgN_0 w];refine Hd.rw pkk (fun i hi=>?_)
 have hrl:=rows_n hi
 have hwl:=hw.len
 refine Hd.region<|yv y_as<|fk [(0,_),(3,_),(7,_)] K13 ?_;refine Hd.block<|Hd.loopK (ι:=Nat×Option Addr×Nat) [(0,_)] (fun q_=>[(3,.slice q_.2.1 (imgN w q_.1).length q_.2.2),(7,.int .i64 (q_.1:Int))]) (fun q_=>pu (q_.1≤w.ws.length)::own 9 1 q_.2.1 (imgN w q_.1).length q_.2.2 (VLs (imgN w q_.1))::RwL b w i L) (fun q_=>w.ws.length - q_.1) (0,ad,c) sbq sbq (Ent.sep (.pure (by omega) enn)) ?_;rintro ⟨n,ad,c⟩
 try dsimp only
 refine Hd.pure (fun hp1=>?_)
 try dsimp only at hp1
 refine Hd.seq fun _ K14=>?_
 refine sr fun _ K15=>?_
 refine yv y_mv<|yv y_mv<|yv y_np<|yv (y_f 0 98 Tryz.underlying102 sz98)<|yv (y_l1 ag98 rfl)<|yv (y_len Tryz.underlying98 rfl) ?_;refine yv (y_lss rfl rfl) ?_;refine fk [(0,_),(3,_),(7,_),(60,_)] K15 ?_;refine qz ?_ ?_<;>intro hc3<;>try simp only [hyZ] at hc3
 ·have hn1:n < w.ws.length:=by omega
  obtain ⟨x,hx⟩:∃ x,w.ws[n]?=some x:=⟨_,List.getElem?_eq_getElem hn1⟩
  obtain ⟨j,hrow⟩:=row_at hi hx
  have hxw:=hw.wf x (List.mem_of_getElem? hx)
  have hwt:=wt_bd hw hx
  have hl:=imgN_le w n
  have hs:=imgN_s w n
  have hdn:=dg_20 (n:=n) (by omega)
  have hwr:wr1L w n=[wireD n x]:=by unfold wr1L;rw [hx];show [wireB n x]=_;rw [wireB_eq]
  rw [hwr] at hs;refine qv K14<|Hd.seq fun _ K16=>?_
  refine Hd.block<|sr fun _ K17=>?_
  refine yv y_mv<|yv y_np<|yv (y_f 0 98 Tryz.underlying102 sz98)<|yv (y_l1 ag98 rfl)<|yv y_mv<|yv (y_idxR Tryz.underlying98 sz204 rfl rfl (by omega) (by exact RdS.own pkk)) ?_;refine yv (y_loadRn (vs:=encRW (x,j)) ag204 rfl (RdS.own pkk) (row_cells hrow) (by exact sz204) (by simp)) ?_;refine Hd.alloc zr204 (fun b8=>?_);refine Hd.storeA (us:=encRW (x,j)) sz204 rfl rfl rfl (encRW_one _) pkk (by exact rfl) ?_;refine fk [(0,_),(3,_),(7,_),(8,_)] K17 ?_;refine sr fun _ K18=>?_
  refine yv y_mv<|callE rfl fk171 (rnum_ct _ n (by omega)) sq ?_;intro _;refine yv (y_addstr rfl rfl (by simp;omega)) ?_;refine yv y_as<|fk [(0,_),(3,_),(7,_),(8,_),(9,_)] K18 ?_
  have he0:=endB_len hxw.cap (Nat.le_trans (hxw.le 0 (by decide)) hxw.cap)
  have he1:=endB_len hxw.cap (Nat.le_trans (hxw.le 1 (by decide)) hxw.cap)
  have hwl1:=wtB_len (l:=x.wt) fun m hm=>by have:=hwt m hm;omega
  obtain ⟨W1,hW1⟩:∃ W1,([119,105,114,101,32]++dgB n)++(if 0 < x.bl then [32,108,105,115,116,101,110,32]++(dgB x.bl.toNat++wtB x.wt) else [32]++(endB (x.e 0) x.cap++([32]++endB (x.e 1) x.cap)))=W1:=⟨_,rfl⟩
  have hW1l:W1.length≤300000:=by
   have:=hxw.bl
   have:=dg_20 (n:=x.bl.toNat) (by omega)
   rw [←hW1]
   split<;>simp only [List.length_append,List.length_cons,List.length_nil]<;>omega
  refine Hd.cutK (ι:=Unit) [(0,_),(3,_),(7,_),(8,_)] (fun _=>[(9,.string (str W1))]) (fun _=>pt b8 (encRW (x,j)) 204::own 9 1 ad (imgN w n).length c (VLs (imgN w n))::RwL b w i L) ?_ ?_ ⟨rfl,rfl,rfl,rfl,trivial⟩
  ·refine sr fun _ K19=>?_
   refine yv (y_f 18 3 Tryz.underlying204 sz3)<|yv (y_l1 ag3 rfl)<|yv (y_gtr rfl rfl) ?_;refine fk [(0,_),(3,_),(7,_),(8,_),(9,_),(75,_)] K19 ?_;refine qz ?_ ?_<;>intro hc4<;>try simp only [hyZ] at hc4
   ·have hbt:x.bl=((x.bl.toNat:Nat):Int):=by omega
    have hb2:=hxw.bl
    rw [if_pos hc4] at hW1
    have hdb:=dg_20 (n:=x.bl.toNat) (by omega)
    refine sr fun _ K20=>?_
    refine yv y_mv<|yv (y_addstr rfl rfl (by simp;omega)) ?_;refine yv (y_f 18 3 Tryz.underlying204 sz3)<|yv (y_to (v':=.int .i64 ((x.bl.toNat:Nat):Int)) (y_l1 ag3 rfl) (by exact congrArg (Value.int .i64) hbt)) ?_;refine callE rfl fk171 (rnum_ct _ x.bl.toNat (by omega)) sq ?_;intro _;refine yv (y_addstr rfl rfl (by simp;omega)) ?_;refine yv y_as<|fk [(0,_),(3,_),(7,_),(8,_),(9,_)] K20 ?_;refine sr fun _ K21=>?_
    refine yv y_as<|fk [(0,_),(3,_),(7,_),(8,_),(9,_),(10,_)] K21 ?_;refine Hd.block<|Hd.loopK (ι:=Nat×List UInt8) [(0,_),(3,_),(7,_),(8,_)] (fun q_=>[(9,.string (str q_.2)),(10,.int .i64 (q_.1:Int))]) (fun q_=>pu (q_.1≤x.wt.length∧q_.2=(([119,105,114,101,32]++dgB n)++[32,108,105,115,116,101,110,32]++dgB x.bl.toNat)++wtB (x.wt.take q_.1))::pt b8 (encRW (x,j)) 204::own 9 1 ad (imgN w n).length c (VLs (imgN w n))::RwL b w i L) (fun q_=>x.wt.length - q_.1) (0,([119,105,114,101,32]++dgB n)++[32,108,105,115,116,101,110,32]++dgB x.bl.toNat) sbq sbq (Ent.sep (.pure ⟨Nat.zero_le _,by rw [List.take_zero];exact (List.append_nil _).symm⟩ enn)) ?_;rintro ⟨q,T⟩
    try dsimp only
    refine Hd.pure (fun hp2=>?_)
    try dsimp only at hp2
    refine Hd.seq fun _ K22=>?_
    refine sr fun _ K23=>?_
    refine yv y_mv<|yv (y_f 19 94 Tryz.underlying204 sz94)<|yv (y_l1 ag94 rfl)<|yv (y_len Tryz.underlying94 rfl) ?_;refine yv (y_lss rfl rfl) ?_;refine fk [(0,_),(3,_),(7,_),(8,_),(9,_),(10,_),(86,_)] K23 ?_;refine qz ?_ ?_<;>intro hc5<;>try simp only [hyZ] at hc5
    ·have hq:q < x.wt.length:=by omega
     obtain ⟨m,hm⟩:∃ m,x.wt[q]?=some m:=⟨_,List.getElem?_eq_getElem hq⟩
     have hmb:=hwt m (List.mem_of_getElem? hm)
     have hdm:=dg_20 (n:=m) (by omega)
     have htq:(wtB (x.wt.take q)).length≤2000:=by
      have h1:=wtB_len (l:=x.wt.take q) fun m hm=>by have:=hwt m (List.mem_of_mem_take hm);omega
      rw [List.length_take] at h1;omega
     have hTl:T.length≤3000:=by rw [hp2.2];simp only [List.length_append,List.length_cons,List.length_nil];omega
     have hT2:T++[32]++dgB m=(([119,105,114,101,32]++dgB n)++[32,108,105,115,116,101,110,32]++dgB x.bl.toNat)++wtB (x.wt.take (q + 1)):=by rw [hp2.2,wtB_s hm];simp only [List.append_assoc]
     refine qv K22<|Hd.seq fun _ K24=>?_
     refine Hd.block<|Hd.region<|yv y_mv<|yv (y_addstr rfl rfl (by simp;omega)) ?_;refine yv (y_f 19 94 Tryz.underlying204 sz94)<|yv (y_l1 ag94 rfl)<|yv y_mv<|yv (y_idxR Tryz.underlying94 sz3 rfl rfl (by omega) (by exact RdS.mono (bag_rdW (L:=[]) hrow) sq)) ?_;refine yv (y_loadR1 (v:=.int .i64 (m:Int)) ag3 rfl (RdS.mono (bag_rdW (L:=[]) hrow) sq) (by rw [Nat.mul_one,List.getElem?_map,hm];rfl)) ?_;refine callE rfl fk171 (rnum_ct _ m (by omega)) sq ?_;intro _;refine yv (y_addstr rfl rfl (by simp;omega)) ?_;refine yv y_as<|Hd.nil<|slots [(0,_),(3,_),(7,_),(8,_),(9,_),(10,_)] sbq ?_;refine Hd.inB<|Hd.toK K24 ?_;refine Hd.region<|yv y_mv<|yv (y_addn rfl rfl (by simp only [InK];omega)) ?_;refine yv y_as<|Hd.nil<|slots [(0,_),(3,_),(7,_),(8,_),(9,_),(10,_)] sbq ?_
     refine thenN ?_;exact Hd.again (q + 1,T++[32]++dgB m) (by omega) sbq (Ent.sep (.pure ⟨(show q + 1≤x.wt.length by omega),hT2⟩ enn))
    obtain rfl:q=x.wt.length:=by omega
    have hTe:T=W1:=by rw [hp2.2,←hW1,List.take_length];simp only [List.append_assoc]
    refine Hd.exit<|Hd.thenExit<|Hd.thenExit<|Hd.inBexit<|thenN ?_;exact Hd.meet () ⟨by rw [hTe];rfl,by repeat (first | exact trivial | refine ⟨rfl,?_⟩)⟩ sq
   rw [if_neg (by omega)] at hW1
   obtain ⟨w0,hw0⟩:∃ q:Nat,(x.e 0).what=(q:Int):=⟨(x.e 0).what.toNat,by have:=(hxw.what 0 (by decide)).1;omega⟩
   obtain ⟨w1,hw1⟩:∃ q:Nat,(x.e 1).what=(q:Int):=⟨(x.e 1).what.toNat,by have:=(hxw.what 1 (by decide)).1;omega⟩
   have hv0:w0≤3:=by have:=(hxw.what 0 (by decide)).2;omega
   have hv1:w1≤3:=by have:=(hxw.what 1 (by decide)).2;omega
   refine Hd.drawsH ([pt b8 (encRW (x,j)) 204]) (fun _=>true) mixed ?_;simp only [List.length,Nat.zero_add,Nat.reduceAdd];refine tH 0 rfl y_mv<|tH 1 rfl (y_addstr rfl rfl (by simp;omega)) ?_;refine tH 2 rfl (y_f 0 202 Tryz.underlying204 sz202)<|tH 3 rfl (y_idxA Tryz.underlying202 sz201 rfl rfl (by decide)) ?_;refine tH 4 rfl (y_loadn (us:=[_,_,_,_,_,_,_,_]) ag201 rfl (Rd.pt pkk (by intro j v e;rcases j with _|_|_|_|_|_|_|_|_|_|_|_|j<;>first | exact e | exact absurd e (by simp))) (by exact sz201)) ?_;refine tH 5 rfl (y_f 16 3 Tryz.underlying204 sz3)<|tH 6 rfl (y_l1 ag3 rfl)<|tH 10 rfl (y_f 0 202 Tryz.underlying204 sz202)<|tH 11 rfl (y_idxA Tryz.underlying202 sz201 rfl rfl (by decide)) ?_;refine tH 12 rfl (y_loadn (us:=[_,_,_,_,_,_,_,_]) ag201 rfl (Rd.pt pkk (by intro j v e;rcases j with _|_|_|_|_|_|_|_|_|_|_|_|j<;>first | exact e | exact absurd e (by simp))) (by exact sz201)) ?_
   refine tH 13 rfl (y_f 16 3 Tryz.underlying204 sz3)<|tH 14 rfl (y_l1 ag3 rfl)<|qo 7 ?_;refine callE rfl fk172 (rend_ct (pt b8 (encRW (x,j)) 204::own 9 1 ad (imgN w n).length c (VLs (imgN w n))::RwL b w i L) (x.e 0) w0 hw0 hv0 x.cap hxw.cap (Nat.le_trans (hxw.le 0 (by decide)) hxw.cap) (j.a 0) (j.c 0) (RdS.mono (bag_rd (L:=[]) hrow 0 (by decide)) sq)) sq ?_;intro _;refine qk<|tH 8 rfl (y_addstr rfl rfl (by simp;omega)) ?_;refine tH 9 rfl (y_addstr rfl rfl (by simp;omega)) ?_;refine qo 15 ?_;refine callE rfl fk172 (rend_ct (pt b8 (encRW (x,j)) 204::own 9 1 ad (imgN w n).length c (VLs (imgN w n))::RwL b w i L) (x.e 1) w1 hw1 hv1 x.cap hxw.cap (Nat.le_trans (hxw.le 1 (by decide)) hxw.cap) (j.a 1) (j.c 1) (RdS.mono (bag_rd (L:=[]) hrow 1 (by decide)) sq)) sq ?_;intro _;refine qk<|tH 16 rfl (y_addstr rfl rfl (by simp;omega)) ?_;refine tH 17 rfl y_as ?_
   refine endH kq ?_;refine slots [(0,_),(3,_),(7,_),(8,_),(9,_)] sbq ?_;refine thenN ?_;exact Hd.meet () ⟨by rw [←hW1];simp only [List.append_assoc];rfl,by repeat (first | exact trivial | refine ⟨rfl,?_⟩)⟩ sq
  intro _
  have hWD:wireD n x=W1++if x.rs=true then [32,114,101,115,101,116] else []:=by unfold wireD;rw [←hW1];simp only [List.append_assoc]
  obtain ⟨W2,hW2⟩:∃ W2,wireD n x=W2:=⟨_,rfl⟩
  rw [hW2] at hs hWD;refine Hd.cutK (ι:=Unit) [(0,_),(3,_),(7,_)] (fun _=>[(9,.string (str W2))]) (fun _=>own 9 1 ad (imgN w n).length c (VLs (imgN w n))::RwL b w i L) ?_ ?_ ⟨rfl,rfl,rfl,trivial⟩
  ·refine sr fun _ K25=>?_
   refine yv (y_f 17 4 Tryz.underlying204 sz4)<|yv (y_l1 ag4 rfl)<|fk [(0,_),(3,_),(7,_),(9,_),(116,_)] K25 ?_;refine qz ?_ ?_<;>intro hc6<;>try simp only [hyZ] at hc6
   ·refine Hd.region ?_
    refine yv y_mv<|yv (y_addstr rfl rfl (by simp;omega)) ?_;refine yv y_as<|Hd.nil<|slots [(0,_),(3,_),(7,_),(9,_)] sbq ?_;refine thenN ?_;exact Hd.meet () ⟨by rw [hWD,if_pos hc6];rfl,by repeat (first | exact trivial | refine ⟨rfl,?_⟩)⟩ sq
   refine Hd.skip<|thenN ?_;exact Hd.meet () ⟨by rw [hWD,if_neg (by simpa using hc6),List.append_nil];rfl,by repeat (first | exact trivial | refine ⟨rfl,?_⟩)⟩ sq
  intro _;refine Hd.region<|yv y_mv<|yv y_mv<|Hd.bslice (vs:=[(0,_)]) rfl (by exact bs88_121 ..) (fun b121=>?_);refine Hd.append Tryz.underlying137 ty9 rfl rfl rfl pkk (by exact RdS.rd (Rd.pt pkk (fun j v e=>by simpa using e)) rfl) (by simp [Value.oneCell'];done) (by simp only [maxLen];omega) (by omega) (fun ad122 cap122=>?_);refine yv y_as<|Hd.nil<|slots [(0,_),(3,_),(7,_)] sbq ?_;refine Hd.inB<|Hd.toK K16 ?_;refine Hd.region<|yv y_mv<|yv (y_addn rfl rfl (by simp only [InK];omega)) ?_;refine yv y_as<|Hd.nil<|slots [(0,_),(3,_),(7,_)] sbq ?_;refine thenN<|Hd.again (n + 1,ad122,cap122) (by show w.ws.length - (n + 1) < w.ws.length - n;omega) (by (try dsimp only);rw [hs,List.length_append];repeat (first | exact trivial | refine ⟨rfl,?_⟩)) (fun q t=>?_);rw [hs]
  exact Ent.sep (.pure (show n + 1≤w.ws.length by omega) (.eq pkk (own_eq3 (by rw [List.length_append];rfl) rfl (by exact vls_snoc rfl)) enn)) q t
 obtain rfl:n=w.ws.length:=by omega
 rw [imgS_0 w];refine Hd.exit<|Hd.thenExit<|Hd.thenExit<|Hd.inBexit<|Hd.toK K12 ?_;refine Hd.seq fun _ K26=>?_
 refine sr fun _ K27=>?_
 refine yv y_as<|fk [(0,_),(3,_),(11,_)] K27 ?_;refine Hd.block<|Hd.loopK (ι:=Nat×Option Addr×Nat) [(0,_)] (fun q_=>[(3,.slice q_.2.1 (imgS w q_.1).length q_.2.2),(11,.int .i64 ((q_.1 + 1:Nat):Int))]) (fun q_=>pu (q_.1≤31)::own 9 1 q_.2.1 (imgS w q_.1).length q_.2.2 (VLs (imgS w q_.1))::RwL b w i L) (fun q_=>31 - q_.1) (0,ad,c) sbq sbq (Ent.sep (.pure (by omega) enn)) ?_;rintro ⟨s,ad,c⟩
 try dsimp only
 refine Hd.pure (fun hp3=>?_)
 try dsimp only at hp3
 refine Hd.seq fun _ K28=>?_
 refine sr fun _ K29=>?_
 refine yv y_mv<|yv (y_leq rfl rfl) ?_;refine fk [(0,_),(3,_),(11,_),(124,_)] K29 ?_;refine qz ?_ ?_<;>intro hc7<;>try simp only [hyZ] at hc7
 ·have hsk:s < 31:=by omega
  have hss:=imgS_s w s
  have hsl:=imgS_le w s
  have hhd:=hw.hdl
  have hcl:=hw.ctl
  have hcb:0≤w.ct.getD (s + 1) 0∧w.ct.getD (s + 1) 0≤2000000000:=by
   rw [List.getD_eq_getElem?_getD,List.getElem?_eq_getElem (show s + 1 < w.ct.length by omega)];exact hb _ (List.getElem_mem _)
  obtain ⟨ck,hck⟩:∃ ck:Nat,w.ct.getD (s + 1) 0=(ck:Int):=⟨(w.ct.getD (s + 1) 0).toNat,by omega⟩
  have hcn:(w.ct.getD (s + 1) 0).toNat=ck:=by omega
  have h1l:=dg_20 (n:=s + 1) (by omega)
  have h2l:=dg_20 (n:=ck) (by omega)
  refine qv K28<|Hd.seq fun _ K30=>?_
  refine Hd.block<|sr fun _ K31=>?_
  refine yv y_mv<|yv y_mv<|yv y_np<|yv (y_f 2 99 Tryz.underlying102 sz99)<|yv (y_idxA Tryz.underlying99 sz4 rfl rfl (by omega)) ?_;refine yv (y_load1 (v:=.bool (w.hd.getD (s + 1) false)) ag4 rfl (Rd.pt1 pkk (rc_hd (s:=s + 1) hhd (by omega) (by omega)))) ?_;refine fk [(0,_),(3,_),(11,_),(132,_)] K31 ?_;refine qz ?_ ?_<;>intro hc8<;>try simp only [hyZ] at hc8
  ·have hsg:sgB w (s + 1)=[sSignal++(dgB (s + 1)++([32]++dgB ck))]:=by unfold sgB;rw [if_pos hc8,hcn]
   rw [hsg] at hss;refine Hd.drawsH ([RwH b w i.1.length i.2.1 i.2.2]) (fun _=>true) mixed ?_;simp only [List.length,Nat.zero_add,Nat.reduceAdd];refine tH 0 rfl y_mv<|tH 1 rfl y_mv<|tH 5 rfl y_mv<|tH 6 rfl y_mv<|tH 7 rfl y_np<|tH 8 rfl (y_f 34 100 Tryz.underlying102 sz100)<|tH 9 rfl (y_idxA Tryz.underlying100 sz3 rfl rfl (by omega)) ?_;refine tH 10 rfl (y_load1 (v:=.int .i64 (ck:Int)) ag3 rfl (Rd.pt1 pkk (by rw [←hck];exact rc_ct (s:=s + 1) hhd hcl (by omega) (by omega)))) ?_;refine qo 2 ?_;refine callE rfl fk171 (rnum_ct _ (s + 1) (by omega)) sq ?_;intro _;refine qk<|tH 3 rfl (y_addstr rfl rfl (by simp;omega)) ?_;refine tH 4 rfl (y_addstr rfl rfl (by simp;omega)) ?_;refine qo 11 ?_;refine callE rfl fk171 (rnum_ct _ ck (by omega)) sq ?_;intro _;refine qk<|tH 12 rfl (y_addstr rfl rfl (by simp;omega)) ?_
   refine qo 13 ?_;refine Hd.bslice (vs:=[(0,_)]) rfl (by exact bs88_146 ..) (fun b146=>?_);refine qk<|qo 14 ?_;refine Hd.append Tryz.underlying137 ty9 rfl rfl rfl pkk (by exact RdS.rd (Rd.pt pkk (fun j v e=>by simpa using e)) rfl) (by simp [Value.oneCell'];done) (by simp only [maxLen];omega) (by omega) (fun ad147 cap147=>?_);refine qk<|tH 15 rfl y_as<|endH kq ?_;refine slots [(0,_),(3,_),(11,_)] sbq ?_;refine Hd.inB<|Hd.toK K30 ?_;refine Hd.region<|yv y_mv<|yv (y_addn rfl rfl (by simp only [InK];omega)) ?_;refine yv y_as<|Hd.nil<|slots [(0,_),(3,_),(11,_)] sbq ?_;refine thenN<|Hd.again (s + 1,ad147,cap147) (by show 31 - (s + 1) < 31 - s;omega) (by (try dsimp only);rw [hss,List.length_append];repeat (first | exact trivial | refine ⟨rfl,?_⟩)) (fun q t=>?_);rw [hss];exact Ent.sep (.pure (show s + 1≤31 by omega) (.eq pkk (own_eq3 (by rw [List.length_append];rfl) rfl (by exact vls_snoc rfl)) enn)) q t
  have hsg:sgB w (s + 1)=[]:=by unfold sgB;rw [if_neg (by simpa using hc8)]
  rw [hsg,List.append_nil] at hss;refine Hd.skip<|Hd.inB<|Hd.toK K30 ?_;refine Hd.region<|yv y_mv<|yv (y_addn rfl rfl (by simp only [InK];omega)) ?_;refine yv y_as<|Hd.nil<|slots [(0,_),(3,_),(11,_)] sbq ?_;refine thenN<|Hd.again (s + 1,ad,c) (by show 31 - (s + 1) < 31 - s;omega) (by (try dsimp only);rw [hss];repeat (first | exact trivial | refine ⟨rfl,?_⟩)) (fun q t=>?_);rw [hss];exact Ent.sep (.pure (show s + 1≤31 by omega) enn) q t
 obtain rfl:s=31:=by omega
 have hhd:=hw.hdl
 have hcl:=hw.ctl
 have hall:=img_all w
 have hsl:=imgS_le w 31
 have hntw:=hw.nt
 obtain ⟨o,ho⟩:∃ o,w.nt=o:=⟨_,rfl⟩
 rw [ho] at hntw;refine Hd.exit<|Hd.thenExit<|Hd.thenExit<|Hd.inBexit<|Hd.toK K26 ?_;refine Hd.seq fun _ K32=>?_
 refine sr fun _ K33=>?_
 refine yv y_mv<|yv y_np<|yv (y_f 66 3 Tryz.underlying102 sz3)<|yv (y_load1 (v:=.int .i64 (ntI o)) ag3 rfl (Rd.pt1 pkk (rc_nt (j:=0) hhd hcl (by rw [ho];exact ntI_at o) (by omega)))) ?_;refine yv (y_geq rfl rfl) ?_;refine fk [(0,_),(3,_),(152,_)] K33 ?_;refine qz ?_ ?_<;>intro hc9<;>try simp only [hyZ] at hc9
 ·obtain ⟨n,k,rfl⟩:∃ n k,o=some (n,k):=by
   cases o with
   | none=>exact absurd hc9 (by decide)
   | some p=>exact ⟨p.1,p.2,rfl⟩
  obtain ⟨hk2,x,hx,_⟩:=hntw n k rfl
  have hn1:=(List.getElem?_eq_some_iff.1 hx).1
  have h1l:=dg_20 (n:=n) (by omega)
  have h2l:=dg_20 (n:=k) (by omega)
  have hnb:ntB w=[sNotice++(dgB n++([32]++dgB k))]:=by unfold ntB;rw [ho]
  rw [hnb] at hall;refine Hd.drawsH ([RwH b w i.1.length i.2.1 i.2.2]) (fun _=>true) mixed ?_;simp only [List.length,Nat.zero_add,Nat.reduceAdd];refine tH 0 rfl y_mv<|tH 1 rfl y_mv<|tH 2 rfl y_np<|tH 3 rfl (y_f 66 3 Tryz.underlying102 sz3)<|tH 4 rfl (y_load1 (v:=.int .i64 (n:Int)) ag3 rfl (Rd.pt1 pkk (rc_nt (j:=0) hhd hcl (by rw [ho];rfl) (by omega)))) ?_;refine tH 8 rfl y_mv<|tH 9 rfl y_np<|tH 10 rfl (y_f 67 3 Tryz.underlying102 sz3)<|tH 11 rfl (y_load1 (v:=.int .i64 (k:Int)) ag3 rfl (Rd.pt1 pkk (rc_nt (j:=1) hhd hcl (by rw [ho];rfl) (by omega)))) ?_;refine qo 5 ?_;refine callE rfl fk171 (rnum_ct _ n (by omega)) sq ?_;intro _;refine qk<|tH 6 rfl (y_addstr rfl rfl (by simp;omega)) ?_;refine tH 7 rfl (y_addstr rfl rfl (by simp;omega)) ?_;refine qo 12 ?_;refine callE rfl fk171 (rnum_ct _ k (by omega)) sq ?_
  intro _;refine qk<|tH 13 rfl (y_addstr rfl rfl (by simp;omega)) ?_;refine qo 14 ?_;refine Hd.bslice (vs:=[(0,_)]) rfl (by exact bs88_167 ..) (fun b167=>?_);refine qk<|qo 15 ?_;refine Hd.append Tryz.underlying137 ty9 rfl rfl rfl pkk (by exact RdS.rd (Rd.pt pkk (fun j v e=>by simpa using e)) rfl) (by simp [Value.oneCell'];done) (by simp only [maxLen];omega) (by omega) (fun ad168 cap168=>?_);refine qk<|tH 16 rfl y_as<|endH kq ?_;refine sk [(3,_)] K32 ?_;refine sr fun _ K34=>?_
  refine yv y_mv<|yv y_as<|fk [(2,_)] K34 ?_;refine Hd.ret<|Hd.ret1 rfl (ad168,cap168) (by rw [hall,List.length_append];rfl) (Ent.sep ?_);exact .eq pkk (own_eq3 (by rw [hall,List.length_append];rfl) rfl (by rw [hall];exact vls_snoc rfl)) (.ex i (.pure hi enn))
 have hno:o=none:=by
  cases o with
  | none=>rfl
  | some p=>exact absurd hc9 (by show ¬ (p.1:Int) < 0;omega)
 have hnb:ntB w=[]:=by unfold ntB;rw [ho,hno]
 rw [hnb,List.append_nil] at hall;refine qv K32<|sr fun _ K35=>?_
 refine yv y_mv<|yv y_as<|fk [(2,_)] K35 ?_;refine Hd.ret<|Hd.ret1 rfl (ad,c) (by rw [hall];rfl) (Ent.sep ?_);exact .eq pkk (own_eq3 (by rw [hall]) rfl (by rw [hall])) (.ex i (.pure hi enn))
end Rf
end Go.Proofs.YtmpemhbfgbochaaGreatDoor
