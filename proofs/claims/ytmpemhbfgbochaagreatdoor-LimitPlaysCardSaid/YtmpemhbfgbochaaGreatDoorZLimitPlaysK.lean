/-
  LimitPlays: alike.
-/
import Derived.Test.YtmpemhbfgbochaaGreatDoorZLimitPlaysJ
set_option linter.unusedSimpArgs false
set_option linter.unusedVariables false
set_option linter.unnecessarySimpa false
set_option maxRecDepth 8000
set_option maxHeartbeats 2000000
open Go.RX.Hd (yv y2 n1 fk sk sr tH callE heldK qo qk qn qt qz qv endH thenN slots)
namespace Go.Proofs.YtmpemhbfgbochaaGreatDoor
open Go.RX Fx
namespace Lm
open Wo
open Bu
set_option maxRecDepth 40000
theorem rwantsi_ct (L:List SP) (b:Nat) (x:BfA) (i:RbI):Ct Tryz.prog 31 #[.pointer (some ⟨b,0,none⟩)] (RbL b x i L) (fun _:Unit=>.int .i64 (wantsA x)) (fun _:Unit=>RbL b x i L):=by
 refine Ct.o1 Tryz.func31 ?_;intro E
 show Hd E 66 _ _ _ _
 refine sr fun _ K1=>?_
 refine yv y_as<|fk [(0,_)] K1 ?_;refine sr fun _ K2=>?_
 refine yv y_as<|fk [(0,_),(3,_)] K2 ?_;refine Hd.seq fun _ K3=>?_
 refine Hd.seq fun _ K4=>?_
 refine Hd.quiet mixed kq ?_;refine Hq.yv y_mv ?_;refine Hq.yv y_np ?_;refine Hq.yv (y_f 1 69 Tryz.underlying71 sz69) ?_;refine Hq.yv (y_f 1 4 Tryz.underlying69 sz4) ?_;refine Hq.yv (y_l1 ag4 rfl) ?_;refine Hq.yv y_mv ?_;apply Hq.andg 7 9 16 [(0,_),(3,_)] rfl ⟨rfl,rfl,trivial⟩
 ·intro hg2_9
  try simp only [hyZ] at hg2_9
  simp only [List.take];refine Hq.yg rfl rfl y_mv ?_;refine Hq.yg rfl rfl y_np ?_;refine Hq.yg rfl rfl (y_f 1 69 Tryz.underlying71 sz69) ?_;refine Hq.yg rfl rfl (y_f 2 4 Tryz.underlying69 sz4) ?_;refine Hq.yg rfl rfl (y_l1 ag4 rfl) ?_;refine Hq.yg rfl rfl (y_not rfl) ?_;refine Hq.yv (y_pickT rfl rfl) ?_;exact Hq.mend sbq
 ·intro hg2_9
  try simp only [hyZ] at hg2_9
  simp only [List.take];refine Hq.ng rfl rfl rfl ?_;refine Hq.ng rfl rfl rfl ?_;refine Hq.ng rfl rfl rfl ?_;refine Hq.ng rfl rfl rfl ?_;refine Hq.ng rfl rfl rfl ?_;refine Hq.ng rfl rfl rfl ?_;refine Hq.yv (y_pickF rfl rfl) ?_;exact Hq.mend sbq
 simp only [List.drop];refine Hq.yv y_mv ?_;apply Hq.andg (q:=(decide ((x.s 0).high=0) || decide (((x.s 0).c.length:Int) < (x.s 0).high))) 21 17 38 [(0,_),(3,_)] rfl ⟨rfl,rfl,trivial⟩
 ·intro hg2_17
  try simp only [hyZ] at hg2_17
  simp only [List.take];refine Hq.yg rfl rfl y_mv ?_;refine Hq.yg rfl rfl y_np ?_;refine Hq.yg rfl rfl (y_f 1 69 Tryz.underlying71 sz69) ?_;refine Hq.yg rfl rfl (y_f 4 3 Tryz.underlying69 sz3) ?_;refine Hq.yg rfl rfl (y_l1 ag3 rfl) ?_;refine Hq.yg rfl rfl (y_eql rfl rfl) ?_;refine Hq.yg rfl rfl y_mv ?_;apply Hq.org 13 24 37 [(0,_),(3,_),(17,_)] rfl ⟨rfl,rfl,rfl,trivial⟩
  ·intro hg2_24
   try simp only [hyZ] at hg2_24
   simp only [List.take];refine Hq.ng rfl rfl rfl ?_;refine Hq.ng rfl rfl rfl ?_;refine Hq.ng rfl rfl rfl ?_;refine Hq.ng rfl rfl rfl ?_;refine Hq.ng rfl rfl rfl ?_;refine Hq.ng rfl rfl rfl ?_;refine Hq.ng rfl rfl rfl ?_;refine Hq.ng rfl rfl rfl ?_;refine Hq.ng rfl rfl rfl ?_;refine Hq.ng rfl rfl rfl ?_;refine Hq.ng rfl rfl rfl ?_;refine Hq.ng rfl rfl rfl ?_;refine Hq.yg rfl rfl (y_pickT rfl rfl) ?_;exact Hq.mend sbq
  ·intro hg2_24
   try simp only [hyZ] at hg2_24
   simp only [List.take];refine Hq.yg rfl rfl y_mv ?_;refine Hq.yg rfl rfl y_np ?_;refine Hq.yg rfl rfl (y_f 1 69 Tryz.underlying71 sz69) ?_;refine Hq.yg rfl rfl (y_f 0 30 Tryz.underlying69 sz30) ?_;refine Hq.yg rfl rfl (y_l1 ag30 rfl) ?_;refine Hq.yg rfl rfl (y_len Tryz.underlying30 rfl) ?_;refine Hq.yg rfl rfl y_mv ?_;refine Hq.yg rfl rfl y_np ?_;refine Hq.yg rfl rfl (y_f 1 69 Tryz.underlying71 sz69) ?_;refine Hq.yg rfl rfl (y_f 4 3 Tryz.underlying69 sz3) ?_;refine Hq.yg rfl rfl (y_l1 ag3 rfl) ?_;refine Hq.yg rfl rfl (y_lss rfl rfl) ?_;refine Hq.yg rfl rfl (y_pickF rfl rfl) ?_;exact Hq.mend sbq
  simp only [List.drop];refine Hq.yv (y_pickT rfl rfl) ?_;exact Hq.mend sbq
 ·intro hg2_17
  try simp only [hyZ] at hg2_17
  simp only [List.take];refine Hq.ng rfl rfl rfl ?_;refine Hq.ng rfl rfl rfl ?_;refine Hq.ng rfl rfl rfl ?_;refine Hq.ng rfl rfl rfl ?_;refine Hq.ng rfl rfl rfl ?_;refine Hq.ng rfl rfl rfl ?_;refine Hq.ng rfl rfl rfl ?_;refine Hq.ng rfl rfl rfl ?_;refine Hq.ng rfl rfl rfl ?_;refine Hq.ng rfl rfl rfl ?_;refine Hq.ng rfl rfl rfl ?_;refine Hq.ng rfl rfl rfl ?_;refine Hq.ng rfl rfl rfl ?_;refine Hq.ng rfl rfl rfl ?_;refine Hq.ng rfl rfl rfl ?_;refine Hq.ng rfl rfl rfl ?_;refine Hq.ng rfl rfl rfl ?_;refine Hq.ng rfl rfl rfl ?_;refine Hq.ng rfl rfl rfl ?_;refine Hq.ng rfl rfl rfl ?_;refine Hq.yv (y_pickF rfl rfl) ?_;exact Hq.mend sbq
 simp only [List.drop];refine Hq.nil ?_;refine sk [(0,_),(3,_),(38,_)] K4 ?_;refine qz ?_ ?_<;>intro hc0<;>try simp only [hyZ] at hc0
 ·have w0:wa0 (x.s 0)=true:=by unfold wa0;simpa using hc0
  refine Hd.region<|yv y_mv<|yv (y_addn rfl rfl (by simp only [InK];omega)) ?_;refine yv y_as<|fk [(0,_),(3,_)] K3 ?_;refine Hd.seq fun _ K5=>?_
  refine sr fun _ K6=>?_
  refine yv y_mv<|yv y_np<|yv (y_f 8 69 Tryz.underlying71 sz69)<|yv (y_f 1 4 Tryz.underlying69 sz4)<|yv (y_l1 ag4 rfl)<|yv y_mv ?_;apply Hd.andg 7 46 53 [(0,_),(3,_)] rfl sbq
  ·intro hg4_46
   try simp only [hyZ] at hg4_46
   simp only [List.take];refine y2 y_mv<|y2 y_np<|y2 (y_f 8 69 Tryz.underlying71 sz69)<|y2 (y_f 2 4 Tryz.underlying69 sz4)<|y2 (y_l1 ag4 rfl)<|y2 (y_not rfl)<|yv (y_pickT rfl rfl) ?_;exact Hd.mn
  ·intro hg4_46
   try simp only [hyZ] at hg4_46
   simp only [List.take];refine n1<|n1<|n1<|n1<|n1<|n1<|yv (y_pickF rfl rfl) ?_;exact Hd.mn
  simp only [List.drop];refine yv y_mv ?_;apply Hd.andg 8 54 62 [(3,_)] rfl sbq
  ·intro hg4_54
   try simp only [hyZ] at hg4_54
   simp only [List.take];refine y2 y_mv<|y2 y_np<|y2 (y_f 8 69 Tryz.underlying71 sz69)<|y2 (y_f 0 30 Tryz.underlying69 sz30)<|y2 (y_l1 ag30 rfl)<|y2 (y_len Tryz.underlying30 rfl) ?_;refine y2 (y_gtr rfl rfl) ?_;refine yv (y_pickT rfl rfl) ?_;exact Hd.mn
  ·intro hg4_54
   try simp only [hyZ] at hg4_54
   simp only [List.take];refine n1<|n1<|n1<|n1<|n1<|n1<|n1<|yv (y_pickF rfl rfl) ?_;exact Hd.mn
  simp only [List.drop];refine fk [(3,_),(62,_)] K6 ?_;refine qz ?_ ?_<;>intro hc1<;>try simp only [hyZ] at hc1
  ·have w1:wa1 (x.s 1)=true:=by unfold wa1;simpa using hc1
   refine Hd.region<|yv y_mv<|yv (y_addn rfl rfl (by simp only [InK];omega)) ?_;refine yv y_as<|fk [(3,_)] K5 ?_;refine sr fun _ K7=>?_
   refine yv y_mv<|yv y_as<|fk [(2,_)] K7 ?_;refine Hd.ret ?_;exact Hd.ret1 rfl () (by rw [wantsA_eq,w0,w1];rfl) sq
  have w1:wa1 (x.s 1)=false:=andn (hc1.imp id (fun h=>by omega))
  refine qv K5<|sr fun _ K8=>?_
  refine yv y_mv<|yv y_as<|fk [(2,_)] K8 ?_;refine Hd.ret ?_;exact Hd.ret1 rfl () (by rw [wantsA_eq,w0,w1];rfl) sq
 have w0:wa0 (x.s 0)=false:=andor (hc0.imp id (fun h=>⟨by omega,by omega⟩))
 refine qv K3<|Hd.seq fun _ K9=>?_
 refine sr fun _ K10=>?_
 refine yv y_mv<|yv y_np<|yv (y_f 8 69 Tryz.underlying71 sz69)<|yv (y_f 1 4 Tryz.underlying69 sz4)<|yv (y_l1 ag4 rfl)<|yv y_mv ?_;apply Hd.andg 7 46 53 [(0,_),(3,_)] rfl sbq
 ·intro hg4_46
  try simp only [hyZ] at hg4_46
  simp only [List.take];refine y2 y_mv<|y2 y_np<|y2 (y_f 8 69 Tryz.underlying71 sz69)<|y2 (y_f 2 4 Tryz.underlying69 sz4)<|y2 (y_l1 ag4 rfl)<|y2 (y_not rfl)<|yv (y_pickT rfl rfl) ?_;exact Hd.mn
 ·intro hg4_46
  try simp only [hyZ] at hg4_46
  simp only [List.take];refine n1<|n1<|n1<|n1<|n1<|n1<|yv (y_pickF rfl rfl) ?_;exact Hd.mn
 simp only [List.drop];refine yv y_mv ?_;apply Hd.andg 8 54 62 [(3,_)] rfl sbq
 ·intro hg4_54
  try simp only [hyZ] at hg4_54
  simp only [List.take];refine y2 y_mv<|y2 y_np<|y2 (y_f 8 69 Tryz.underlying71 sz69)<|y2 (y_f 0 30 Tryz.underlying69 sz30)<|y2 (y_l1 ag30 rfl)<|y2 (y_len Tryz.underlying30 rfl) ?_;refine y2 (y_gtr rfl rfl) ?_;refine yv (y_pickT rfl rfl) ?_;exact Hd.mn
 ·intro hg4_54
  try simp only [hyZ] at hg4_54
  simp only [List.take];refine n1<|n1<|n1<|n1<|n1<|n1<|n1<|yv (y_pickF rfl rfl) ?_;exact Hd.mn
 simp only [List.drop];refine fk [(3,_),(62,_)] K10 ?_;refine qz ?_ ?_<;>intro hc1<;>try simp only [hyZ] at hc1
 ·have w1:wa1 (x.s 1)=true:=by unfold wa1;simpa using hc1
  refine Hd.region<|yv y_mv<|yv (y_addn rfl rfl (by simp only [InK];omega)) ?_;refine yv y_as<|fk [(3,_)] K9 ?_;refine sr fun _ K11=>?_
  refine yv y_mv<|yv y_as<|fk [(2,_)] K11 ?_;refine Hd.ret ?_;exact Hd.ret1 rfl () (by rw [wantsA_eq,w0,w1];rfl) sq
 have w1:wa1 (x.s 1)=false:=andn (hc1.imp id (fun h=>by omega))
 refine qv K9<|sr fun _ K12=>?_
 refine yv y_mv<|yv y_as<|fk [(2,_)] K12 ?_;refine Hd.ret ?_;exact Hd.ret1 rfl () (by rw [wantsA_eq,w0,w1];rfl) sq
theorem qwantsi_ct (L:List SP) (lq bb:Nat) (ad:Option Addr) (c:Nat) (g:Int) (s0 s1:SlA) (ga:Option Addr) (gc:Nat) (u0 u1:SlA) (hs0:SlOk s0) (hs1:SlOk s1) (hu0:SlOk u0) (hu1:SlOk u1) (now:Int) (hn:InK .u64 now) (X:BfA) (ri:RbI):Ct Tryz.prog 105 #[.pointer (some ⟨lq,0,none⟩),.slice ga 2 gc,.int .u64 now] (LqH lq bb ad c g::Ow2 ad c s0 s1::Ow2 ga gc u0 u1::RbL bb X ri L) (fun _:Unit=>.int .i64 (lwQ (wantsA X) (lv0 now s0 u0) (lv0 now s1 u1))) (fun _:Unit=>LqH lq bb ad c g::Ow2 ad c (cmS now s0) (cmS now s1)::Ow2 ga gc (cmS now u0) (cmS now u1)::RbL bb X ri L):=by
 refine Ct.o3 Tryz.func105 ?_;intro E
 show Hd E 44 _ _ _ _
 have h6:=wants_six X
 have hx:0≤wantsA X∧wantsA X≤6:=by rcases h6 with h | h | h | h<;>omega
 have a0:=six0 h6
 have a1:=six1 h6
 refine sr fun _ K1=>?_
 refine yv y_as<|fk [(0,_),(1,_),(2,_)] K1 ?_;refine sr fun _ K2=>?_
 refine yv y_mv<|yv y_mv<|yv y_mv<|callE rfl fk103 (qleaves_ct _ lq bb ad c g s0 s1 ga gc u0 u1 hs0 hs1 hu0 hu1 now hn) sq ?_;intro _;refine yv y_mv<|yv y_ex<|yv y_ex<|yv y_as<|yv y_as<|fk [(0,_),(7,_),(8,_)] K2 ?_;refine sr fun _ K3=>?_
 refine yv y_mv<|yv y_np<|yv (y_f 0 42 Tryz.underlying150 sz42)<|yv (y_l1 ag42 rfl)<|callE rfl fk31 (rwantsi_ct _ bb X ri) sq ?_;intro _;refine yv y_as<|fk [(7,_),(8,_),(9,_)] K3 ?_;refine sr fun _ K4=>?_
 refine yv y_as<|fk [(7,_),(8,_),(9,_),(10,_)] K4 ?_;refine Hd.seq fun _ K5=>?_
 refine sr fun _ K6=>?_
 refine yv y_mv<|yv (y_quon rfl rfl (by omega) (by omega) (by simp only [InK];omega)) ?_;refine yv (y_remn rfl rfl (by omega) (by omega)) ?_;refine yv (y_eql rfl rfl) ?_;refine yv y_mv ?_;apply Hd.andg 3 27 30 [(8,_),(9,_),(10,_)] rfl sbq
 ·intro hg4_27
  try simp only [hyZ] at hg4_27
  simp only [List.take];refine y2 y_mv<|y2 (y_gtr rfl rfl) ?_;refine yv (y_pickT rfl rfl) ?_;exact Hd.mn
 ·intro hg4_27
  try simp only [hyZ] at hg4_27
  simp only [List.take];refine n1<|n1<|yv (y_pickF rfl rfl) ?_;exact Hd.mn
 simp only [List.drop];refine fk [(8,_),(9,_),(10,_),(30,_)] K6 ?_;refine qz ?_ ?_<;>intro hc0<;>try simp only [hyZ] at hc0
 ·have w0:(if hasA (wantsA X) 0=true∧0 < lv0 now s0 u0 then (2:Int) else 0)=2:=if_pos ⟨a0.1 hc0.1,hc0.2⟩
  refine Hd.region<|yv y_mv<|yv (y_addn rfl rfl (by simp only [InK];omega)) ?_;refine yv y_as<|fk [(8,_),(9,_),(10,_)] K5 ?_;refine Hd.seq fun _ K7=>?_
  refine sr fun _ K8=>?_
  refine yv y_mv<|yv (y_quon rfl rfl (by omega) (by omega) (by simp only [InK];omega)) ?_;refine yv (y_remn rfl rfl (by omega) (by omega)) ?_;refine yv (y_eql rfl rfl) ?_;refine yv y_mv ?_;apply Hd.andg 3 37 40 [(10,_)] rfl sbq
  ·intro hg6_37
   try simp only [hyZ] at hg6_37
   simp only [List.take];refine y2 y_mv<|y2 (y_gtr rfl rfl) ?_;refine yv (y_pickT rfl rfl) ?_;exact Hd.mn
  ·intro hg6_37
   try simp only [hyZ] at hg6_37
   simp only [List.take];refine n1<|n1<|yv (y_pickF rfl rfl) ?_;exact Hd.mn
  simp only [List.drop];refine fk [(10,_),(40,_)] K8 ?_;refine qz ?_ ?_<;>intro hc1<;>try simp only [hyZ] at hc1
  ·have w1:(if hasA (wantsA X) 1=true∧0 < lv0 now s1 u1 then (4:Int) else 0)=4:=if_pos ⟨a1.1 hc1.1,hc1.2⟩
   refine Hd.region<|yv y_mv<|yv (y_addn rfl rfl (by simp only [InK];omega)) ?_;refine yv y_as<|fk [(10,_)] K7 ?_;refine sr fun _ K9=>?_
   refine yv y_mv<|yv y_as<|fk [(6,_)] K9 ?_;refine Hd.ret ?_;exact Hd.ret1 rfl () (by unfold lwQ;rw [w0,w1];rfl) sq
  have w1:(if hasA (wantsA X) 1=true∧0 < lv0 now s1 u1 then (4:Int) else 0)=0:=if_neg (fun h=>by have:=a1.2 h.1;have:=h.2;omega)
  refine qv K7<|sr fun _ K10=>?_
  refine yv y_mv<|yv y_as<|fk [(6,_)] K10 ?_;refine Hd.ret ?_;exact Hd.ret1 rfl () (by unfold lwQ;rw [w0,w1];rfl) sq
 have w0:(if hasA (wantsA X) 0=true∧0 < lv0 now s0 u0 then (2:Int) else 0)=0:=if_neg (fun h=>by have:=a0.2 h.1;have:=h.2;omega)
 refine qv K5<|Hd.seq fun _ K11=>?_
 refine sr fun _ K12=>?_
 refine yv y_mv<|yv (y_quon rfl rfl (by omega) (by omega) (by simp only [InK];omega)) ?_;refine yv (y_remn rfl rfl (by omega) (by omega)) ?_;refine yv (y_eql rfl rfl) ?_;refine yv y_mv ?_;apply Hd.andg 3 37 40 [(10,_)] rfl sbq
 ·intro hg6_37
  try simp only [hyZ] at hg6_37
  simp only [List.take];refine y2 y_mv<|y2 (y_gtr rfl rfl) ?_;refine yv (y_pickT rfl rfl) ?_;exact Hd.mn
 ·intro hg6_37
  try simp only [hyZ] at hg6_37
  simp only [List.take];refine n1<|n1<|yv (y_pickF rfl rfl) ?_;exact Hd.mn
 simp only [List.drop];refine fk [(10,_),(40,_)] K12 ?_;refine qz ?_ ?_<;>intro hc1<;>try simp only [hyZ] at hc1
 ·have w1:(if hasA (wantsA X) 1=true∧0 < lv0 now s1 u1 then (4:Int) else 0)=4:=if_pos ⟨a1.1 hc1.1,hc1.2⟩
  refine Hd.region<|yv y_mv<|yv (y_addn rfl rfl (by simp only [InK];omega)) ?_;refine yv y_as<|fk [(10,_)] K11 ?_;refine sr fun _ K13=>?_
  refine yv y_mv<|yv y_as<|fk [(6,_)] K13 ?_;refine Hd.ret ?_;exact Hd.ret1 rfl () (by unfold lwQ;rw [w0,w1];rfl) sq
 have w1:(if hasA (wantsA X) 1=true∧0 < lv0 now s1 u1 then (4:Int) else 0)=0:=if_neg (fun h=>by have:=a1.2 h.1;have:=h.2;omega)
 refine qv K11<|sr fun _ K14=>?_
 refine yv y_mv<|yv y_as<|fk [(6,_)] K14 ?_;refine Hd.ret ?_;exact Hd.ret1 rfl () (by unfold lwQ;rw [w0,w1];rfl) sq
def inN (T:Tw) (k:Nat):Int:=(if 0 < k then b2i (T.li 0).m else 0) + (if 1 < k then b2i (T.li 1).m else 0)
theorem inN_succ (T:Tw) {k:Nat} (hk:k < 2):inN T (k + 1)=inN T k + b2i (T.li k).m:=by
 rcases (show k=0∨k=1 by omega) with rfl | rfl
 ·show b2i _ + 0=(0 + 0) + b2i _;omega
 ·show b2i _ + b2i _=(b2i _ + 0) + b2i _;omega
theorem inN_up {T T2:Tw} (h0:(T2.li 0).m=(T.li 0).m) (h1:(T2.li 1).m=(T.li 1).m) (k:Nat):inN T2 k=inN T k:=by unfold inN;rw [h0,h1]
theorem upL_m {f:Nat→Li} {k:Nat} {i:Li} (h:i.m=(f k).m) (j:Nat):(upL f k i j).m=(f j).m:=by
 show (if j=k then i else f j).m=_
 split
 ·rename_i e;rw [e];exact h
 ·rfl
theorem inN_in (T:Tw) (k:Nat):0≤inN T k∧inN T k≤2:=by
 have h0:=b2i_in (T.li 0).m
 have h1:=b2i_in (T.li 1).m
 unfold inN
 split<;>split<;>omega
theorem TwOk.cm {K:Nat} {T:Tw} (hT:TwOk K T) {k:Nat} (hk:k < 2) {now:Int} (hn:InK .u64 now) {i:Li} (hi:LiOk T.gp i) (hm:i.m=(T.li k).m) :
  TwOk K { T with y:=yM i.m T.y (cmA now T.y),u:=uM i.m T.u (cmF now (vM i.m T.u)),li:=upL T.li k ⟨i.l,cmA now i.x,i.cb,i.ad,i.c,cmF now i.s,i.X,i.m⟩ } :=
 ⟨hT.ok,hT.lo,up_all hT.l (i:=⟨i.l,cmA now i.x,i.cb,i.ad,i.c,cmF now i.s,i.X,i.m⟩) ⟨hi.g,fun j hj=>rel_cm (hi.rel j hj) hn,fun j=>come_ok (hi.x j) hn,hi.X,hi.h,hi.m⟩,rel_yu hT (fun hmm j hj=>by
  show Rel _ (come (T.y j) now) (cmS now (vM i.m T.u j))
  rw [show vM i.m T.u j=T.u j from if_pos hmm]
  exact rel_cm (hT.rel j hj) hn),ok_yM hT.y (fun j=>come_ok (hT.y j) hn),by show T.G.many=_;rw [many_up hk];show _=b2i i.m + _;rw [hm];exact many_k hT hk⟩
theorem alike27_ct (L:List SP) (hT0:Tb L) (hF:Rd L 0 0 flV) (P:Pl) (T:Tw) (K:Nat) (hK:K≤100000000) (hT:TwOk K T) (now:Int) (hn:InK .u64 now):Ct Tryz.prog 41 #[.pointer (some ⟨P.tb,0,none⟩),.int .u64 now] (TwL P T L) (fun T2:{q:Tw // TwOk K q}=>.bool true) (fun T2:{q:Tw // TwOk K q}=>TwL P T2.1 L):=by
 refine Ct.o2 Tryz.func41 ?_;intro E
 show Hd E 204 _ _ _ _
 refine sr fun _ K1=>?_
 refine yv y_as<|fk [(0,_),(1,_)] K1 ?_;refine sr fun _ K2=>?_
 refine yv y_as<|fk [(0,_),(1,_),(5,_)] K2 ?_;refine Hd.seq fun _ K3=>?_
 refine sr fun _ K4=>?_
 refine yv y_as<|fk [(0,_),(1,_),(5,_),(6,_)] K4 ?_;refine Hd.block<|Hd.loopK (ι:=Nat×{q:Tw // TwOk K q}) [(0,_),(1,_)] (fun q_=>[(5,.int .i64 (inN q_.2.1 q_.1)),(6,.int .i64 (q_.1:Int))]) (fun q_=>pu (q_.1≤2)::TwL P q_.2.1 L) (fun q_=>2 - q_.1) (0,⟨T,hT⟩) sbq sbq (Ent.sep (.pure (by omega) enn)) ?_;rintro ⟨k,TT⟩
 try dsimp only
 refine Hd.pure (fun hp0=>?_)
 try dsimp only at hp0
 refine Hd.seq fun _ K5=>?_
 refine sr fun _ K6=>?_
 refine yv y_mv<|yv (y_lss rfl rfl) ?_;refine fk [(0,_),(1,_),(5,_),(6,_),(17,_)] K6 ?_;refine qz ?_ ?_<;>intro hc0<;>try simp only [hyZ] at hc0
 ·have hk:k < 2:=by omega
  obtain ⟨T1,hT1⟩:=TT
  dsimp only
  have hin:=inN_in T1 k
  have hsu:=inN_succ T1 hk
  refine Hd.heap _ (tw_open hk) ?_
  have hi:=hT1.l k hk
  obtain ⟨i,hie⟩:∃ i,T1.li k=i:=⟨_,rfl⟩
  rw [hie] at hi hsu;rw [hie]
  have hX:=hi.X
  refine qv K5<|Hd.seq fun _ K7=>?_
  refine Hd.block<|sr fun _ K8=>?_
  refine yv y_mv<|yv y_mv<|callE rfl fk97 (group27_ct _ P.tb P.pb P.la P.lc P.qa P.qc T1.gp T1.sa T1.sc P.q k hk i.m i.cb i.ad i.c T1.u) sq ?_;rintro ⟨a2,c2⟩;dsimp only;refine yv y_as<|fk [(0,_),(1,_),(5,_),(6,_),(7,_)] K8 ?_;refine Hd.seq fun _ K9=>?_
  refine Hd.heap (GpP (gpM i.m T1.gp) T1.G T1.y (RpP i.m T1.gp T1.G T1.y::_)) (fun q z=>gp_open i.m T1.gp T1.G T1.y q (by exact Ent.sep enn q z)) ?_;rw [show gpM i.m T1.gp=i.l.g from hi.g.symm]
  have hv:=rel_vM hT1 hi
  have e0:lvS (i.l.b 0) (gsl i.l.g T1.G 0) (cmA now i.x 0) (cmA now T1.y 0)=lv0 now (i.s 0) (vM i.m T1.u 0):=lv_rel (rel_cm (hi.rel 0 (by decide)) hn) (rel_cm (hv 0 (by decide)) hn)
  have e1:lvS (i.l.b 1) (gsl i.l.g T1.G 1) (cmA now i.x 1) (cmA now T1.y 1)=lv0 now (i.s 1) (vM i.m T1.u 1):=lv_rel (rel_cm (hi.rel 1 (by decide)) hn) (rel_cm (hv 1 (by decide)) hn)
  have i0:=cm_idem hn (hi.rel 0 (by decide)).ok
  have i1:=cm_idem hn (hi.rel 1 (by decide)).ok
  have j0:=cm_idem hn (hv 0 (by decide)).ok
  have j1:=cm_idem hn (hv 1 (by decide)).ok
  have x2:cmA now (cmA now i.x)=cmA now i.x:=funext fun j=>come_idem (hi.x j) hn
  have y2:cmA now (cmA now T1.y)=cmA now T1.y:=funext fun j=>come_idem (hT1.y j) hn
  have hlw:lwK i.l T1.G (cmA now i.x) (cmA now T1.y) (wantsA i.X) 2=lwQ (wantsA i.X) (lv0 now (i.s 0) (vM i.m T1.u 0)) (lv0 now (i.s 1) (vM i.m T1.u 1)):=by
   rw [lwK_2,show lvA i.l T1.G (cmA now i.x) (cmA now T1.y) 0=_ from e0,show lvA i.l T1.G (cmA now i.x) (cmA now T1.y) 1=_ from e1,lw_rel (wants_six i.X) (lvQ_in _ _).1 (lvQ_in _ _).1]
  refine Hd.region<|yv y_mv<|yv y_np<|yv (y_f 1 139 Tryz.underlying144 sz139)<|yv (y_l1 ag139 rfl)<|yv y_mv<|yv (y_idxR Tryz.underlying139 sz145 rfl rfl (by omega) (by exact RdS.own pkk)) ?_;refine yv (y_loadR1 ag145 rfl (RdS.own (ad:=P.la) (us:=ptr2 P.lb) pkk) (ptr2_at P.lb hk)) ?_;refine yv y_mv<|callE rfl fk102 (leaves_ct _ (P.lb k) i.l T1.G i.x T1.y ⟨hi.x,hT1.y⟩ now hn) sq ?_;intro _;rw [e0,e1];refine yv y_mv<|yv y_ex<|yv y_ex<|yv y_as<|yv y_as<|fk [(0,_),(1,_),(5,_),(6,_),(7,_),(8,_),(9,_)] K9 ?_;refine sr fun _ K10=>?_
  refine yv y_mv<|yv y_np<|yv (y_f 2 140 Tryz.underlying144 sz140)<|yv (y_l1 ag140 rfl)<|yv y_mv<|yv (y_idxR Tryz.underlying140 sz148 rfl rfl (by omega) (by exact RdS.own pkk)) ?_;refine yv (y_loadR1 ag148 rfl (RdS.own (ad:=P.qa) (us:=ptr2 P.q) pkk) (ptr2_at P.q hk)) ?_;refine yv y_mv<|yv y_mv<|callE rfl fk103 (qleaves_ct _ (P.q k) i.cb i.ad i.c (gI i.m) (i.s 0) (i.s 1) a2 c2 (vM i.m T1.u 0) (vM i.m T1.u 1) (hi.rel 0 (by decide)).ok (hi.rel 1 (by decide)).ok (hv 0 (by decide)).ok (hv 1 (by decide)).ok now hn) sq ?_;intro _;refine yv y_mv<|yv y_ex<|yv y_ex<|yv y_as<|yv y_as<|fk [(0,_),(1,_),(5,_),(6,_),(7,_),(8,_),(9,_),(10,_),(11,_)] K10 ?_;refine sr fun _ K11=>?_
  refine yv y_mv<|yv y_np<|yv (y_f 1 139 Tryz.underlying144 sz139)<|yv (y_l1 ag139 rfl)<|yv y_mv<|yv (y_idxR Tryz.underlying139 sz145 rfl rfl (by omega) (by exact RdS.own pkk)) ?_;refine yv (y_loadR1 ag145 rfl (RdS.own (ad:=P.la) (us:=ptr2 P.lb) pkk) (ptr2_at P.lb hk)) ?_;refine callE rfl fk101 (lbuf_ct _ (P.lb k) i.l) sq ?_;intro _;refine callE rfl fk29 (lens_ct _ i.l.buf P.wb i.X) sq ?_;intro _;refine yv y_mv<|yv (y_to (v':=.int .i64 ((i.X.s 0).c.length:Int)) y_ex (by rfl)) ?_;refine yv (y_to (v':=.int .i64 ((i.X.s 1).c.length:Int)) y_ex (by rfl)) ?_;refine yv y_as<|yv y_as<|fk [(0,_),(1,_),(5,_),(6,_),(7,_),(8,_),(9,_),(10,_),(11,_),(12,_),(13,_)] K11 ?_;refine Hd.seq fun _ K12=>?_
  refine Hd.seq fun _ K13=>?_
  refine Hd.rb (b:=i.cb) (x:=i.X) pkk (fun ri=>?_);refine Hd.drawsH ([TwH P.tb P.pb P.la P.lc P.qa P.qc T1.gp T1.sa T1.sc,OwL P.la P.lc P.lb,OwQ P.qa P.qc P.q,LqH (P.q k) i.cb i.ad i.c (gI i.m),RbH i.cb i.X.fd ri.a0 ri.c0 (i.X.s 0) ri.a1 ri.c1 (i.X.s 1)]) (fun _=>true) mixed ?_
  try simp only [List.length,Nat.zero_add,Nat.reduceAdd]
  refine tH 0 rfl y_mv<|tH 1 rfl y_mv<|tH 2 rfl (y_to (v':=.bool false) (y_neq rfl rfl) (by (simp))) ?_;refine tH 3 rfl y_mv<|Hd.takegH 4 rfl kq kq kq kq rfl rfl y_mv fq sq ?_;refine Hd.takegH 5 rfl kq kq kq kq rfl rfl y_mv fq sq ?_;refine Hd.takegH 6 rfl kq kq kq kq rfl rfl (y_to (v':=.bool false) (y_neq rfl rfl) (by (simp))) fq sq ?_;refine tH 7 rfl (y_pickF rfl rfl) ?_;refine tH 8 rfl y_mv<|Hd.takegH 9 rfl kq kq kq kq rfl rfl y_mv fq sq ?_;refine Hd.takegH 10 rfl kq kq kq kq rfl rfl y_np fq sq ?_;refine Hd.takegH 11 rfl kq kq kq kq rfl rfl (y_f 1 139 Tryz.underlying144 sz139) fq sq ?_;refine Hd.takegH 12 rfl kq kq kq kq rfl rfl (y_l1 ag139 rfl) fq sq ?_;refine Hd.takegH 13 rfl kq kq kq kq rfl rfl y_mv fq sq ?_;refine Hd.takegH 14 rfl kq kq kq kq rfl rfl (y_idxR Tryz.underlying139 sz145 rfl rfl (by omega) (by exact RdS.own pkk)) fq sq ?_
  refine Hd.takegH 15 rfl kq kq kq kq rfl rfl (y_loadR1 ag145 rfl (RdS.own (ad:=P.la) (us:=ptr2 P.lb) pkk) (ptr2_at P.lb hk)) fq sq ?_;refine Hd.takegH 16 rfl kq kq kq kq rfl rfl y_mv fq sq ?_;refine Hd.takegH 18 rfl kq kq kq kq rfl rfl y_mv fq sq ?_;refine Hd.takegH 19 rfl kq kq kq kq rfl rfl y_np fq sq ?_;refine Hd.takegH 20 rfl kq kq kq kq rfl rfl (y_f 2 140 Tryz.underlying144 sz140) fq sq ?_;refine Hd.takegH 21 rfl kq kq kq kq rfl rfl (y_l1 ag140 rfl) fq sq ?_;refine Hd.takegH 22 rfl kq kq kq kq rfl rfl y_mv fq sq ?_;refine Hd.takegH 23 rfl kq kq kq kq rfl rfl (y_idxR Tryz.underlying140 sz148 rfl rfl (by omega) (by exact RdS.own pkk)) fq sq ?_;refine Hd.takegH 24 rfl kq kq kq kq rfl rfl (y_loadR1 ag148 rfl (RdS.own (ad:=P.qa) (us:=ptr2 P.q) pkk) (ptr2_at P.q hk)) fq sq ?_;refine Hd.takegH 25 rfl kq kq kq kq rfl rfl y_mv fq sq ?_;refine Hd.takegH 26 rfl kq kq kq kq rfl rfl y_mv fq sq ?_
  refine qo 17 ?_;refine Hd.unguard rfl rfl ?_;refine callE rfl fk104 (lwants_ct _ (P.lb k) P.wb i.l T1.G (cmA now i.x) (cmA now T1.y) (con_come ⟨hi.x,hT1.y⟩ hn) i.X now hn ?hF) sq ?_
  case hF=>exact Rd.mono hF sq
  intro _;rw [x2,y2,hlw];refine qk<|qo 27 ?_;refine Hd.unguard rfl rfl ?_;refine callE rfl fk105 (qwantsi_ct _ (P.q k) i.cb i.ad i.c (gI i.m) (cmS now (i.s 0)) (cmS now (i.s 1)) a2 c2 (cmS now (vM i.m T1.u 0)) (cmS now (vM i.m T1.u 1)) (cmS_ok hn (hi.rel 0 (by decide)).ok) (cmS_ok hn (hi.rel 1 (by decide)).ok) (cmS_ok hn (hv 0 (by decide)).ok) (cmS_ok hn (hv 1 (by decide)).ok) now hn i.X ri) sq ?_;intro _;rw [show lwQ (wantsA i.X) (lv0 now (cmS now (i.s 0)) (cmS now (vM i.m T1.u 0))) (lv0 now (cmS now (i.s 1)) (cmS now (vM i.m T1.u 1)))=lwQ (wantsA i.X) (lv0 now (i.s 0) (vM i.m T1.u 0)) (lv0 now (i.s 1) (vM i.m T1.u 1)) by simp only [lv0,i0,i1,j0,j1],i0,i1,j0,j1];refine qk<|Hd.takegH 28 rfl kq kq kq kq rfl rfl (y_to (v':=.bool false) (y_neq rfl rfl) (by (simp))) fq sq ?_;refine tH 29 rfl (y_pickF rfl rfl) ?_;refine tH 30 rfl y_mv<|Hd.takegH 31 rfl kq kq kq kq rfl rfl y_mv fq sq ?_
  refine Hd.takegH 32 rfl kq kq kq kq rfl rfl y_mv fq sq ?_;refine Hd.takegH 33 rfl kq kq kq kq rfl rfl y_np fq sq ?_;refine Hd.takegH 34 rfl kq kq kq kq rfl rfl (y_f 2 140 Tryz.underlying144 sz140) fq sq ?_;refine Hd.takegH 35 rfl kq kq kq kq rfl rfl (y_l1 ag140 rfl) fq sq ?_;refine Hd.takegH 36 rfl kq kq kq kq rfl rfl y_mv fq sq ?_;refine Hd.takegH 37 rfl kq kq kq kq rfl rfl (y_idxR Tryz.underlying140 sz148 rfl rfl (by omega) (by exact RdS.own pkk)) fq sq ?_;refine Hd.takegH 38 rfl kq kq kq kq rfl rfl (y_loadR1 ag148 rfl (RdS.own (ad:=P.qa) (us:=ptr2 P.q) pkk) (ptr2_at P.q hk)) fq sq ?_;refine Hd.takegH 39 rfl kq kq kq kq rfl rfl y_np fq sq ?_;refine Hd.takegH 40 rfl kq kq kq kq rfl rfl (y_f 0 42 Tryz.underlying150 sz42) fq sq ?_;refine Hd.takegH 41 rfl kq kq kq kq rfl rfl (y_l1 ag42 rfl) fq sq ?_;refine Hd.takegH 42 rfl kq kq kq kq rfl rfl y_np fq sq ?_;refine Hd.takegH 43 rfl kq kq kq kq rfl rfl (y_f 1 69 Tryz.underlying71 sz69) fq sq ?_
  refine Hd.takegH 44 rfl kq kq kq kq rfl rfl (y_f 0 30 Tryz.underlying69 sz30) fq sq ?_;refine Hd.takegH 45 rfl kq kq kq kq rfl rfl (y_l1 ag30 rfl) fq sq ?_;refine Hd.takegH 46 rfl kq kq kq kq rfl rfl (y_len Tryz.underlying30 rfl) fq sq ?_;refine Hd.takegH 47 rfl kq kq kq kq rfl rfl (y_to (v':=.bool false) (y_neq rfl rfl) (by (simp))) fq sq ?_;refine tH 48 rfl (y_pickF rfl rfl) ?_;refine tH 49 rfl y_mv<|Hd.takegH 50 rfl kq kq kq kq rfl rfl y_mv fq sq ?_;refine Hd.takegH 51 rfl kq kq kq kq rfl rfl y_mv fq sq ?_;refine Hd.takegH 52 rfl kq kq kq kq rfl rfl y_np fq sq ?_;refine Hd.takegH 53 rfl kq kq kq kq rfl rfl (y_f 2 140 Tryz.underlying144 sz140) fq sq ?_;refine Hd.takegH 54 rfl kq kq kq kq rfl rfl (y_l1 ag140 rfl) fq sq ?_;refine Hd.takegH 55 rfl kq kq kq kq rfl rfl y_mv fq sq ?_;refine Hd.takegH 56 rfl kq kq kq kq rfl rfl (y_idxR Tryz.underlying140 sz148 rfl rfl (by omega) (by exact RdS.own pkk)) fq sq ?_
  refine Hd.takegH 57 rfl kq kq kq kq rfl rfl (y_loadR1 ag148 rfl (RdS.own (ad:=P.qa) (us:=ptr2 P.q) pkk) (ptr2_at P.q hk)) fq sq ?_;refine Hd.takegH 58 rfl kq kq kq kq rfl rfl y_np fq sq ?_;refine Hd.takegH 59 rfl kq kq kq kq rfl rfl (y_f 0 42 Tryz.underlying150 sz42) fq sq ?_;refine Hd.takegH 60 rfl kq kq kq kq rfl rfl (y_l1 ag42 rfl) fq sq ?_;refine Hd.takegH 61 rfl kq kq kq kq rfl rfl y_np fq sq ?_;refine Hd.takegH 62 rfl kq kq kq kq rfl rfl (y_f 8 69 Tryz.underlying71 sz69) fq sq ?_;refine Hd.takegH 63 rfl kq kq kq kq rfl rfl (y_f 0 30 Tryz.underlying69 sz30) fq sq ?_;refine Hd.takegH 64 rfl kq kq kq kq rfl rfl (y_l1 ag30 rfl) fq sq ?_;refine Hd.takegH 65 rfl kq kq kq kq rfl rfl (y_len Tryz.underlying30 rfl) fq sq ?_;refine Hd.takegH 66 rfl kq kq kq kq rfl rfl (y_to (v':=.bool false) (y_neq rfl rfl) (by (simp))) fq sq ?_;refine tH 67 rfl (y_pickF rfl rfl) ?_;refine endH kq ?_
  refine sk [(0,_),(1,_),(5,_),(6,_),(127,_)] K13 ?_;refine Hd.condF rfl ?_;refine qv K12<|Hd.seq fun _ K14=>?_
  refine Hd.heap (RbP i.cb i.X::_) (fun q z=>rb_fold (i:=ri) q (by exact Ent.sep enn q z)) ?_;rw [hi.g];refine Hd.heap (GpP T1.gp T1.G (yM i.m T1.y (cmA now T1.y)) _) (fun q z=>gp_close i.m T1.gp T1.G T1.y (cmA now T1.y) q (by exact Ent.sep enn q z)) ?_;refine Hd.heap (Ow2 T1.sa T1.sc (uM i.m T1.u (cmF now (vM i.m T1.u)) 0) (uM i.m T1.u (cmF now (vM i.m T1.u)) 1)::_) (fun q z=>gd_close i.m T1.sa T1.sc T1.u (cmF now (vM i.m T1.u)) a2 c2 q (Ent.sep (.eq (A:=Ow2 a2 c2 _ _) pkk (by rfl) (.pick pkk .same)) q z)) ?_;refine Hd.heap (Ow2 i.ad i.c (cmF now i.s 0) (cmF now i.s 1)::_) (fun q z=>Ent.sep (.eq (A:=Ow2 i.ad i.c _ _) pkk (by rfl) .same) q z) ?_;refine Hd.region<|yv y_mv<|yv y_np<|yv (y_f 2 140 Tryz.underlying144 sz140)<|yv (y_l1 ag140 rfl)<|yv y_mv<|yv (y_idxR Tryz.underlying140 sz148 rfl rfl (by omega) (by exact RdS.own pkk)) ?_
  refine yv (y_loadR1 ag148 rfl (RdS.own (ad:=P.qa) (us:=ptr2 P.q) pkk) (ptr2_at P.q hk)) ?_;refine yv y_np<|yv (y_f 2 3 Tryz.underlying150 sz3)<|yv (y_l1 ag3 rfl)<|yv (y_geq rfl rfl) ?_;refine fk [(0,_),(1,_),(5,_),(6,_),(138,_)] K14 ?_;refine qz ?_ ?_<;>intro hc2<;>try simp only [hyZ] at hc2
  ·refine Hd.region ?_
   refine yv y_mv<|yv (y_addn rfl rfl (by simp only [InK];omega)) ?_;refine yv y_as<|Hd.nil<|slots [(0,_),(1,_),(5,_),(6,_)] sbq ?_;refine Hd.inB<|Hd.toK K7 ?_;refine Hd.region<|yv y_mv<|yv (y_addn rfl rfl (by simp only [InK];omega)) ?_;refine yv y_as<|Hd.nil<|slots [(0,_),(1,_),(5,_),(6,_)] sbq ?_;refine thenN ?_
   have hm:i.m=true:=by
    cases hm:i.m
    ·rw [hm] at hc2;exact absurd hc2 (by decide)
    ·rfl
   have hin2:inN { T1 with y:=yM i.m T1.y (cmA now T1.y),u:=uM i.m T1.u (cmF now (vM i.m T1.u)),li:=upL T1.li k (⟨i.l,cmA now i.x,i.cb,i.ad,i.c,cmF now i.s,i.X,i.m⟩:Li) } (k + 1)=inN T1 k + 1:=by
    rw [inN_up (T:=T1) (upL_m (by rw [hie]) 0) (upL_m (by rw [hie]) 1),hsu,hm];rfl
   refine Hd.again (k + 1,⟨{ T1 with y:=yM i.m T1.y (cmA now T1.y),u:=uM i.m T1.u (cmF now (vM i.m T1.u)),li:=upL T1.li k (⟨i.l,cmA now i.x,i.cb,i.ad,i.c,cmF now i.s,i.X,i.m⟩:Li) },hT1.cm hk hn hi (by rw [hie])⟩) (by show 2 - (k + 1) < 2 - k;omega) (by (try dsimp only);rw [hin2];repeat (first | exact trivial | refine ⟨rfl,?_⟩)) (fun q z=>?_);exact Ent.sep (.pure (show k + 1≤2 by omega) .same) q (tw_close (P:=P) (T:={ T1 with y:=yM i.m T1.y (cmA now T1.y),u:=uM i.m T1.u (cmF now (vM i.m T1.u)),li:=upL T1.li k (⟨i.l,cmA now i.x,i.cb,i.ad,i.c,cmF now i.s,i.X,i.m⟩:Li) }) hk (i:=(⟨i.l,cmA now i.x,i.cb,i.ad,i.c,cmF now i.s,i.X,i.m⟩:Li)) (j:=T1.li (1 - k)) (upL_at _ _ _) (upL_ne _ hk _) q (Ent.sep enn q z))
  refine Hd.skip<|Hd.inB<|Hd.toK K7 ?_;refine Hd.region<|yv y_mv<|yv (y_addn rfl rfl (by simp only [InK];omega)) ?_;refine yv y_as<|Hd.nil<|slots [(0,_),(1,_),(5,_),(6,_)] sbq ?_;refine thenN ?_
  have hm:i.m=false:=by
   cases hm:i.m
   ·rfl
   ·rw [hm] at hc2;exact absurd (show (0:Int)≤gI true by decide) (by omega)
  have hin2:inN { T1 with y:=yM i.m T1.y (cmA now T1.y),u:=uM i.m T1.u (cmF now (vM i.m T1.u)),li:=upL T1.li k (⟨i.l,cmA now i.x,i.cb,i.ad,i.c,cmF now i.s,i.X,i.m⟩:Li) } (k + 1)=inN T1 k:=by
   rw [inN_up (T:=T1) (upL_m (by rw [hie]) 0) (upL_m (by rw [hie]) 1),hsu,hm];exact Int.add_zero _
  refine Hd.again (k + 1,⟨{ T1 with y:=yM i.m T1.y (cmA now T1.y),u:=uM i.m T1.u (cmF now (vM i.m T1.u)),li:=upL T1.li k (⟨i.l,cmA now i.x,i.cb,i.ad,i.c,cmF now i.s,i.X,i.m⟩:Li) },hT1.cm hk hn hi (by rw [hie])⟩) (by show 2 - (k + 1) < 2 - k;omega) (by (try dsimp only);rw [hin2];repeat (first | exact trivial | refine ⟨rfl,?_⟩)) (fun q z=>?_);exact Ent.sep (.pure (show k + 1≤2 by omega) .same) q (tw_close (P:=P) (T:={ T1 with y:=yM i.m T1.y (cmA now T1.y),u:=uM i.m T1.u (cmF now (vM i.m T1.u)),li:=upL T1.li k (⟨i.l,cmA now i.x,i.cb,i.ad,i.c,cmF now i.s,i.X,i.m⟩:Li) }) hk (i:=(⟨i.l,cmA now i.x,i.cb,i.ad,i.c,cmF now i.s,i.X,i.m⟩:Li)) (j:=T1.li (1 - k)) (upL_at _ _ _) (upL_ne _ hk _) q (Ent.sep enn q z))
 obtain rfl:k=2:=by omega
 obtain ⟨T1,hT1⟩:=TT
 dsimp only
 have hmany:inN T1 2=T1.G.many:=hT1.many.symm
 have hw:=hT1.ok
 have hnow:=hT1.lo.now
 have hb:=hT1.lo.bd (B:=2000000000) (by omega)
 refine Hd.exit<|Hd.thenExit<|Hd.thenExit<|Hd.inBexit<|Hd.toK K3 ?_;refine Hd.seq fun _ K15=>?_
 refine sr fun _ K16=>?_
 refine yv y_mv<|yv y_np<|yv (y_f 3 141 Tryz.underlying144 sz141)<|yv (y_l1 ag141 rfl)<|yv (y_to (v':=.bool (!T1.gp.isSome)) (y_eql_pointer Tryz.underlying141 rfl rfl) (by (cases T1.gp<;>rfl))) ?_;refine fk [(0,_),(1,_),(5,_),(145,_)] K16 ?_;refine qz ?_ ?_<;>intro hc3<;>try simp only [hyZ] at hc3
 ·refine sr fun _ K17=>?_
  refine yv y_mv<|yv y_np<|yv (y_f 0 26 Tryz.underlying144 sz26)<|yv (y_l1 ag26 rfl)<|callE rfl fk37 (alike_ct _ ?hT1 P.pb P.wb P.rb T1.w hw hnow hb) sq ?_
  case hT1=>exact Tb.mono hT0 sq
  intro _;refine yv y_as<|fk [(4,_)] K17 ?_;refine Hd.ret<|Hd.thenRet ?_;exact Hd.ret1 rfl ⟨T1,hT1⟩ rfl sq
 obtain ⟨gb,hgb⟩:∃ gb,T1.gp=some gb:=Option.isSome_iff_exists.1 hc3
 have r0:=hv_rel (rel_cm (hT1.rel 0 (by decide)) hn)
 have r1:=hv_rel (rel_cm (hT1.rel 1 (by decide)) hn)
 have q0:=(hT1.rel 0 (by decide)).ok
 have q1:=(hT1.rel 1 (by decide)).ok
 refine qv K15<|Hd.seq fun _ K18=>?_
 rw [hgb] at r0 r1;refine Hd.heap (GrH gb T1.G::SlB (T1.G.b 0) (T1.y 0)::SlB (T1.G.b 1) (T1.y 1)::_) (fun q z=>Ent.sep (.eq (A:=GoH T1.gp T1.G) pkk (by rw [hgb];rfl) (.eq (A:=SlB (gsl T1.gp T1.G 0) (T1.y 0)) pkk (by rw [hgb];rfl) (.eq (A:=SlB (gsl T1.gp T1.G 1) (T1.y 1)) pkk (by rw [hgb];rfl) .same))) q z) ?_;refine Hd.region<|yv y_mv<|yv y_np<|yv (y_f 3 141 Tryz.underlying144 sz141)<|yv (y_to (v':=.pointer (some ⟨gb,0,none⟩)) (y_l1 ag141 rfl) (by (rw [hgb];rfl))) ?_;refine yv y_mv<|callE rfl fk106 (ghave_ct _ gb T1.G T1.y hT1.y now hn) sq ?_;intro _;rw [show hvS (T1.G.b 0) (cmA now T1.y 0)=(cmS now (T1.u 0)).b.have_ from r0,show hvS (T1.G.b 1) (cmA now T1.y 1)=(cmS now (T1.u 1)).b.have_ from r1];refine yv y_mv<|yv (y_to (v':=.int .i64 (cmS now (T1.u 0)).b.have_) y_ex (by rfl)) ?_;refine yv (y_to (v':=.int .i64 (cmS now (T1.u 1)).b.have_) y_ex (by rfl)) ?_
 refine yv y_as<|yv y_as<|fk [(0,_),(1,_),(5,_),(14,_),(15,_)] K18 ?_;refine sr fun _ K19=>?_
 refine yv y_mv<|yv y_np<|yv (y_f 4 142 Tryz.underlying144 sz142)<|yv (y_l1 ag142 rfl)<|yv y_mv<|callE rfl fk107 (qcome_ct _ T1.sa T1.sc (T1.u 0) (T1.u 1) q0 q1 now hn) sq ?_;intro _;refine fk [(0,_),(5,_),(14,_),(15,_)] K19 ?_;refine sr fun _ K20=>?_
 refine yv y_mv<|yv y_mv<|yv y_np<|yv (y_f 4 142 Tryz.underlying144 sz142)<|yv (y_l1 ag142 rfl)<|yv (y_idxR Tryz.underlying142 sz178 rfl rfl (by exact (show (0:Nat) < _ by omega)) (by exact RdS.own pkk)) ?_;refine yv (y_fR 1 176 Tryz.underlying178 sz176) ?_;refine yv (y_fR 3 2 Tryz.underlying176 sz2) ?_;refine yv (y_loadR1 ag2 rfl (RdS.own (ad:=T1.sa) (us:=e12 (cmS now (T1.u 0)) (cmS now (T1.u 1))) pkk) (by rfl)) ?_;refine yv (y_to (v':=.bool true) (y_eqlT rfl rfl) (by (simp))) ?_;refine yv y_mv<|y2 y_mv<|y2 y_mv<|y2 y_np<|y2 (y_f 4 142 Tryz.underlying144 sz142)<|y2 (y_l1 ag142 rfl)<|y2 (y_idxR Tryz.underlying142 sz178 rfl rfl (by exact (show (1:Nat) < _ by omega)) (by exact RdS.own pkk)) ?_;refine y2 (y_fR 1 176 Tryz.underlying178 sz176) ?_;refine y2 (y_fR 3 2 Tryz.underlying176 sz2) ?_
 refine y2 (y_loadR1 ag2 rfl (RdS.own (ad:=T1.sa) (us:=e12 (cmS now (T1.u 0)) (cmS now (T1.u 1))) pkk) (by rfl)) ?_;refine y2 (y_to (v':=.bool true) (y_eqlT rfl rfl) (by (simp))) ?_;refine yv (y_pickT rfl rfl) ?_;refine yv y_mv<|y2 y_mv<|y2 y_np<|y2 (y_f 3 141 Tryz.underlying144 sz141)<|y2 (y_to (v':=.pointer (some ⟨gb,0,none⟩)) (y_l1 ag141 rfl) (by (rw [hgb];rfl))) ?_;refine Hd.unguard rfl rfl ?_;refine callE rfl fk108 (glen_ct _ gb T1.G) sq ?_;intro _;refine y2 y_mv<|y2 (y_to (v':=.bool true) (y_eql rfl rfl) (by (rw [hmany];simp))) ?_;refine yv (y_pickT rfl rfl) ?_;refine yv y_mv<|y2 y_mv<|y2 y_np<|y2 (y_f 0 26 Tryz.underlying144 sz26)<|y2 (y_l1 ag26 rfl)<|Hd.unguard rfl rfl ?_;refine callE rfl fk37 (alike_ct _ ?hT1 P.pb P.wb P.rb T1.w hw hnow hb) sq ?_
 case hT1=>exact Tb.mono hT0 sq
 intro _;refine yv (y_pickT rfl rfl) ?_;refine yv y_as<|fk [(4,_)] K20 ?_;refine Hd.ret ?_
 have hTF:TwOk K { T1 with y:=cmA now T1.y,u:=cmF now T1.u }:=⟨hT1.ok,hT1.lo,hT1.l,fun j hj=>rel_cm (hT1.rel j hj) hn,fun j=>come_ok (hT1.y j) hn,hT1.many⟩
 refine Hd.heap (GoH T1.gp T1.G::SlB (gsl T1.gp T1.G 0) (cmA now T1.y 0)::SlB (gsl T1.gp T1.G 1) (cmA now T1.y 1)::Ow2 T1.sa T1.sc (cmF now T1.u 0) (cmF now T1.u 1)::TwH P.tb P.pb P.la P.lc P.qa P.qc T1.gp T1.sa T1.sc::_) (fun q z=>Ent.sep (.eq (A:=GrH gb T1.G) pkk (by rw [hgb];rfl) (.eq (A:=SlB (T1.G.b 0) (cmA now T1.y 0)) pkk (by rw [hgb];rfl) (.eq (A:=SlB (T1.G.b 1) (cmA now T1.y 1)) pkk (by rw [hgb];rfl) (.eq (A:=Ow2 T1.sa T1.sc (cmS now (T1.u 0)) (cmS now (T1.u 1))) pkk (by rfl) (.pick pkk .same))))) q z) ?_;exact Hd.ret1 rfl ⟨{ T1 with y:=cmA now T1.y,u:=cmF now T1.u },hTF⟩ (by rfl) sq
end Lm
end Go.Proofs.YtmpemhbfgbochaaGreatDoor
namespace Go.Proofs.YtmpemhbfgbochaaGreatDoor
open Go.RX Go.RowKit
namespace Lm
open Wo
open Bu
abbrev ovP (c:Int):Ov:=⟨1,0,c,0,none,0,[]⟩
theorem mk_pair (w:WA) {c:Int} (h:1≤c∧c≤500):doA w (ovP c)=mkW w 2 (halfW c.toNat 2):=by
 rw [do_mk (show (0:Int)≤1∧(1:Int)≤3 by decide)]
 show makeR w 1 c=_
 unfold makeR;rw [if_neg (by omega)];rfl
theorem op1 (n:Nat):(readyR (mkW newA 2 (halfW n 2)) 0).op=true:=by kernel_rfl
theorem op2 (n:Nat):(readyR (mkW (mkW newA 2 (halfW n 2)) 2 (halfW n 2)) 2).op=true:=by kernel_rfl
theorem pair_op1 {c:Int} (h:1≤c∧c≤500):(readyR (doA newA (ovP c)) 0).op=true:=by rw [mk_pair _ h];exact op1 _
theorem pair_op2 {c:Int} (h:1≤c∧c≤500):(readyR (doA (doA newA (ovP c)) (ovP c)) 2).op=true:=by rw [mk_pair _ h,mk_pair _ h];exact op2 _
end Lm
end Go.Proofs.YtmpemhbfgbochaaGreatDoor
namespace Go.Proofs.YtmpemhbfgbochaaGreatDoor
open Go.RX Fx
namespace Lm
open Wo
open Bu
theorem li_new {gp:Option Nat} (bb cb:Nat) (sl:Option Addr) (fd:Int):LiOk gp ⟨⟨bb,noS,none⟩,dmX,cb,sl,2,fun _=>noSl,newB fd,false⟩ :=
 ⟨rfl,fun j _=>rel_none _,fun _=>dum_ok,bok_new fd,rfl,fun h=>(by cases h)⟩
structure MdI (tb pb wb rb:Nat) (P:Pl) (f:Nat→Li):Prop where
 tb:P.tb=tb
 pb:P.pb=pb
 wb:P.wb=wb
 rb:P.rb=rb
 l:∀ k,k < 2→∀ gp,LiOk gp (f k)
 m:∀ k,k < 2→(f k).m=false
theorem made_ct (L:List SP) (c:Int) (hc:1≤c∧c≤500) (r w:RtA):Ct Tryz.prog 39 #[.int .i64 c,.agg (encRt r).toArray,.agg (encRt w).toArray] (L) (fun PT:Pl×Tw=>.tuple #[.pointer (some ⟨PT.1.tb,0,none⟩),.bool true]) (fun PT:Pl×Tw=>pu (TwOk 300 PT.2)::TwL PT.1 PT.2 L):=by
 refine Ct.o3 Tryz.func39 ?_;intro E
 show Hd E 122 _ _ _ _
 have ho1:=pair_op1 hc
 have ho2:=pair_op2 hc
 have hw1:WOk (doA newA (ovP c)):=by rw [mk_pair _ hc];exact mkW_ok newA_ok (by decide) (half_new (by omega))
 have hl1:Lo 100 (doA newA (ovP c)):=(do_stp newA_ok (ovP c) (show (0:Int)≤0 by decide) 0 (by decide) newA_lo).1
 refine sr fun _ K1=>?_
 refine Hd.box rfl rfl (fun b4=>?_);refine Hd.box rfl rfl (fun b5=>?_);refine yv y_as<|yv y_as<|fk [(0,_),(4,_),(5,_)] K1 ?_;refine sr fun _ K2=>?_
 refine callE rfl fk7 (fresh_ct _) sq ?_;rintro ⟨pb,wb,rb⟩;dsimp only;refine yv (y_build (vs:=[(0,_)]) rfl (by exact bd39_20 ..)) ?_;refine Hd.box rfl rfl (fun b21=>?_);refine yv y_as<|fk [(0,_),(4,_),(5,_),(8,_)] K2 ?_;refine Hd.cutK (ι:={p:Pl×(Nat→Li) // MdI b21 pb wb rb p.1 p.2}) [(4,_),(5,_),(8,_)] (fun _=>[]) (fun p=>pt b21 [.pointer (some ⟨pb,0,none⟩),.slice p.1.1.la 2 p.1.1.lc,.slice p.1.1.qa 2 p.1.1.qc,.pointer none,.slice none 0 0] 144::OwL p.1.1.la p.1.1.lc p.1.1.lb::OwQ p.1.1.qa p.1.1.qc p.1.1.q::BoP pb wb rb::WorldP wb (doA (doA newA (ovP c)) (ovP c))::Rf.RwP rb (doA (doA newA (ovP c)) (ovP c))::LiP wb (p.1.1.lb 0) (p.1.1.q 0) (p.1.2 0)::LiP wb (p.1.1.lb 1) (p.1.1.q 1) (p.1.2 1)::pt b4 (encRt r) 76::pt b5 (encRt w) 76::L) ?_ ?_ ⟨rfl,rfl,rfl,trivial⟩
 ·refine sr fun _ K3=>?_
  refine yv y_as<|fk [(0,_),(4,_),(5,_),(8,_),(9,_)] K3 ?_;refine Hd.block<|Hd.rounds 3 ?_;refine Hd.roundS ?_;refine Hd.seq fun _ K4=>?_
  refine sr fun _ K5=>?_
  refine yv y_mv<|yv (y_lss rfl rfl) ?_;refine fk [(0,_),(4,_),(5,_),(8,_),(9,_),(23,_)] K5 ?_;refine Hd.condT rfl ?_;refine qv K4<|Hd.seq fun _ K6=>?_
  refine Hd.block<|sr fun _ K7=>?_
  refine yv y_mv<|yv y_np<|yv (y_f 0 26 Tryz.underlying144 sz26)<|yv (y_l1 ag26 rfl)<|yv y_mv<|yv (y_build (vs:=[(0,_),(2,_)]) rfl (by exact bd39_31 ..)) ?_;refine callE rfl fk8 (do1_ct _ pb wb rb newA 0 (by decide) newA_lo (ovP c) rfl (by simp [InK]) (show (0:Nat)≤300 by decide) (RdS.none _ _ _) (Nat.le_refl 0)) sq ?_;intro _;refine yv y_as<|fk [(0,_),(4,_),(5,_),(8,_),(9,_),(10,_)] K7 ?_;refine sr fun _ K8=>?_
  refine yv y_mv<|yv y_np<|yv (y_f 0 26 Tryz.underlying144 sz26)<|yv (y_l1 ag26 rfl)<|yv y_np<|yv (y_f 0 37 Tryz.underlying40 sz37)<|yv (y_l1 ag37 rfl)<|yv y_mv<|yv (y_muln rfl rfl (by simp only [InK];omega)) ?_;refine callE rfl fk9 (bnew_ct _ wb (doA newA (ovP c)) 0 ho1) sq ?_;intro bb0;refine yv y_mv<|yv (y_to (v':=(by exact Value.pointer (some ⟨bb0,0,none⟩))) y_ex (by rfl)) ?_;refine yv (y_to (v':=.int .i64 0) y_ex (by rfl)) ?_;refine yv y_as<|yv y_as<|fk [(0,_),(4,_),(5,_),(8,_),(9,_),(10,_),(11,_),(12,_)] K8 ?_;refine sr fun _ K9=>?_
  refine yv y_mv<|callE rfl fk89 (lnew_ct _ bb0) sq ?_;intro lb0;refine yv y_mv<|yv (y_to (v':=(by exact Value.pointer (some ⟨lb0,0,none⟩))) y_ex (by rfl)) ?_;refine yv (y_to (v':=.int .i64 0) y_ex (by rfl)) ?_;refine yv y_as<|yv y_as<|fk [(0,_),(4,_),(5,_),(8,_),(9,_),(10,_),(12,_),(13,_),(14,_)] K9 ?_;refine Hd.seq fun _ K10=>?_
  refine sr fun _ K11=>?_
  refine yv y_mv<|yv (y_to (v':=.bool false) (y_not rfl) (by rfl)) ?_;refine yv y_mv<|y2 y_mv<|y2 (y_to (v':=.bool false) (y_neq rfl rfl) (by rfl)) ?_;refine yv (y_pickF rfl rfl) ?_;refine yv y_mv<|y2 y_mv<|y2 (y_to (v':=.bool false) (y_neq rfl rfl) (by rfl)) ?_;refine yv (y_pickF rfl rfl) ?_;refine fk [(0,_),(4,_),(5,_),(8,_),(9,_),(13,_),(60,_)] K11 ?_;refine Hd.condF rfl ?_;refine qv K10<|Hd.seq fun _ K12=>?_
  refine Hd.ownNil 145 1 none ?_;refine Hd.region<|yv y_mv<|yv y_mv<|yv y_np<|yv (y_f 1 139 Tryz.underlying144 sz139)<|yv (y_to (v':=(by exact Value.slice none 0 0)) (y_l1 ag139 rfl) (by rfl)) ?_;refine yv y_mv<|Hd.bslice (vs:=[(0,_)]) rfl (by exact bs39_67 ..) (fun b67=>?_);refine Hd.append Tryz.underlying139 ty145 rfl rfl rfl pkk (by exact RdS.rd (Rd.pt pkk (fun j v e=>by simpa using e)) rfl) (by simp [Value.oneCell'];done) (by simp only [maxLen];omega) (by omega) (fun ad68 cap68=>?_);refine yv y_np<|yv (y_f 1 139 Tryz.underlying144 sz139)<|Hd.store1 sz139 rfl rfl rfl pkk (by simp;done) ?_
  try simp only [hyS]
  refine fk [(0,_),(4,_),(5,_),(8,_),(9,_)] K12 ?_
  obtain ⟨VL,hVL⟩:∃ v:Value,Value.slice ad68 1 cap68=v:=⟨_,rfl⟩;obtain ⟨VQ,hVQ⟩:∃ v:Value,Value.slice none 0 0=v:=⟨_,rfl⟩;refine Hd.heap (pt b21 [.pointer (some ⟨pb,0,none⟩),VL,VQ,.pointer none,.slice none 0 0] 144::_) (fun q z=>Ent.sep (.eq (A:=pt b21 _ _) pkk (pt_eq (by rw [←hVL,←hVQ];done)) .same) q z) ?_;refine Hd.ownNil 148 1 none ?_
  refine Hd.drawsH ([pt b21 [.pointer (some ⟨pb,0,none⟩),VL,VQ,.pointer none,.slice none 0 0] 144]) (fun j=>!([15].contains j)) mixed ?_;simp only [List.length,Nat.zero_add,Nat.reduceAdd];refine tH 0 rfl y_mv<|tH 1 rfl y_mv<|tH 2 rfl y_np<|tH 3 rfl (y_f 2 140 Tryz.underlying144 sz140)<|tH 4 rfl (y_to (v':=(by exact Value.slice none 0 0)) (y_l1 ag140 rfl) (by rw [hVQ])) ?_;refine tH 5 rfl y_mv<|tH 6 rfl (y_muln rfl rfl (by simp only [InK];omega)) ?_;refine Hd.eitherH 7 8 rfl rfl kq ?_ ?_
  ·refine callE rfl fk11 (rnew26_ct _ 0) sq ?_;intro cb0
   refine qk<|qo 8 ?_;refine Hd.mkslice (m:=2) (cap:=2) Tryz.underlying142 ty178 zr178 rfl rfl rfl rfl (by decide) (by decide) (by decide) (fun sl0 cs0 hcs0=>?_);refine Bc.Hd.ptOwn 2 6 pkk (by rw [hcs0];rfl) (by decide) ?_;refine qk<|tH 9 rfl (y_build (vs:=[(0,_),(1,_),(2,_)]) rfl (by exact bd39_80 ..)) ?_;refine qo 10 ?_;refine Hd.box rfl rfl (fun q0=>?_);refine qk<|qo 11 ?_;refine Hd.bslice (vs:=[(0,_)]) rfl (by exact bs39_82 ..) (fun b82=>?_);refine qk<|qo 12 ?_;refine Hd.append Tryz.underlying140 ty148 rfl rfl rfl pkk (by exact RdS.rd (Rd.pt pkk (fun j v e=>by simpa using e)) rfl) (by simp [Value.oneCell'];done) (by simp only [maxLen];omega) (by omega) (fun ad83 cap83=>?_);refine qk<|qo 13 ?_;refine yv y_np<|qk<|tH 14 rfl (y_f 2 140 Tryz.underlying144 sz140)<|qo 15 ?_;refine Hd.store1 sz140 rfl rfl rfl pkk (by simp;done) ?_
   try simp only [hyS]
   refine qn<|endH kq ?_
   have done0:True:=trivial
   refine slots [(0,_),(4,_),(5,_),(8,_),(9,_)] sbq ?_;refine Hd.inB<|Hd.toK K6 ?_;refine Hd.region<|yv y_mv<|yv (y_addn rfl rfl (by simp only [InK];omega)) ?_;refine yv y_as<|Hd.nil<|slots [(0,_),(4,_),(5,_),(8,_),(9,_)] sbq ?_;refine Hd.roundN ?_;refine Hd.seq fun _ K13=>?_
   refine sr fun _ K14=>?_
   refine yv y_mv<|yv (y_lss rfl rfl) ?_;refine fk [(0,_),(4,_),(5,_),(8,_),(9,_),(23,_)] K14 ?_;refine Hd.condT rfl ?_;refine qv K13<|Hd.seq fun _ K15=>?_
   refine Hd.block<|sr fun _ K16=>?_
   refine yv y_mv<|yv y_np<|yv (y_f 0 26 Tryz.underlying144 sz26)<|yv (y_l1 ag26 rfl)<|yv y_mv<|yv (y_build (vs:=[(0,_),(2,_)]) rfl (by exact bd39_31 ..)) ?_
   have _d:=done0;refine callE rfl fk8 (do1_ct _ pb wb rb (doA newA (ovP c)) 100 (by decide) hl1 (ovP c) rfl (by simp [InK]) (show (0:Nat)≤300 by decide) (RdS.none _ _ _) (Nat.le_refl 0)) sq ?_
   intro _;refine yv y_as<|fk [(0,_),(4,_),(5,_),(8,_),(9,_),(10,_)] K16 ?_;refine sr fun _ K17=>?_
   refine yv y_mv<|yv y_np<|yv (y_f 0 26 Tryz.underlying144 sz26)<|yv (y_l1 ag26 rfl)<|yv y_np<|yv (y_f 0 37 Tryz.underlying40 sz37)<|yv (y_l1 ag37 rfl)<|yv y_mv<|yv (y_muln rfl rfl (by simp only [InK];omega)) ?_
   have _d:=done0;refine callE rfl fk9 (bnew_ct _ wb (doA (doA newA (ovP c)) (ovP c)) 2 ho2) sq ?_;intro bb1
   refine yv y_mv<|yv (y_to (v':=(by exact Value.pointer (some ⟨bb1,0,none⟩))) y_ex (by rfl)) ?_;refine yv (y_to (v':=.int .i64 0) y_ex (by rfl)) ?_;refine yv y_as<|yv y_as<|fk [(0,_),(4,_),(5,_),(8,_),(9,_),(10,_),(11,_),(12,_)] K17 ?_;refine sr fun _ K18=>?_
   refine yv y_mv ?_
   have _d:=done0;refine callE rfl fk89 (lnew_ct _ bb1) sq ?_;intro lb1
   refine yv y_mv<|yv (y_to (v':=(by exact Value.pointer (some ⟨lb1,0,none⟩))) y_ex (by rfl)) ?_;refine yv (y_to (v':=.int .i64 0) y_ex (by rfl)) ?_;refine yv y_as<|yv y_as<|fk [(0,_),(4,_),(5,_),(8,_),(9,_),(10,_),(12,_),(13,_),(14,_)] K18 ?_;refine Hd.seq fun _ K19=>?_
   refine sr fun _ K20=>?_
   refine yv y_mv<|yv (y_to (v':=.bool false) (y_not rfl) (by rfl)) ?_;refine yv y_mv<|y2 y_mv<|y2 (y_to (v':=.bool false) (y_neq rfl rfl) (by rfl)) ?_;refine yv (y_pickF rfl rfl) ?_;refine yv y_mv<|y2 y_mv<|y2 (y_to (v':=.bool false) (y_neq rfl rfl) (by rfl)) ?_;refine yv (y_pickF rfl rfl) ?_;refine fk [(0,_),(4,_),(5,_),(8,_),(9,_),(13,_),(60,_)] K20 ?_;refine Hd.condF rfl ?_;refine qv K19<|Hd.seq fun _ K21=>?_
   have _d:=done0;skip
   refine Hd.region<|yv y_mv<|yv y_mv<|yv y_np<|yv (y_f 1 139 Tryz.underlying144 sz139)<|yv (y_to (v':=(by exact Value.slice ad68 1 cap68)) (y_l1 ag139 rfl) (by rw [hVL];done)) ?_;refine yv y_mv<|Hd.bslice (vs:=[(0,_)]) rfl (by exact bs39_67 ..) (fun b67=>?_);refine Hd.append Tryz.underlying139 ty145 rfl rfl rfl pkk (by exact RdS.rd (Rd.pt pkk (fun j v e=>by simpa using e)) rfl) (by simp [Value.oneCell'];done) (by simp only [maxLen];omega) (by omega) (fun ad68 cap68=>?_);refine yv y_np<|yv (y_f 1 139 Tryz.underlying144 sz139)<|Hd.store1 sz139 rfl rfl rfl pkk (by simp;done) ?_
   try simp only [hyS]
   refine fk [(0,_),(4,_),(5,_),(8,_),(9,_)] K21 ?_
   have _d:=done0;obtain ⟨VL,hVL⟩:∃ v:Value,Value.slice ad68 2 cap68=v:=⟨_,rfl⟩;obtain ⟨VQ,hVQ⟩:∃ v:Value,Value.slice ad83 1 cap83=v:=⟨_,rfl⟩;refine Hd.heap (pt b21 [.pointer (some ⟨pb,0,none⟩),VL,VQ,.pointer none,.slice none 0 0] 144::_) (fun q z=>Ent.sep (.eq (A:=pt b21 _ _) pkk (pt_eq (by rw [←hVL,←hVQ];done)) .same) q z) ?_
   refine Hd.drawsH ([pt b21 [.pointer (some ⟨pb,0,none⟩),VL,VQ,.pointer none,.slice none 0 0] 144]) (fun j=>!([15].contains j)) mixed ?_;simp only [List.length,Nat.zero_add,Nat.reduceAdd];refine tH 0 rfl y_mv<|tH 1 rfl y_mv<|tH 2 rfl y_np<|tH 3 rfl (y_f 2 140 Tryz.underlying144 sz140)<|tH 4 rfl (y_to (v':=(by exact Value.slice ad83 1 cap83)) (y_l1 ag140 rfl) (by rw [hVQ])) ?_;refine tH 5 rfl y_mv<|tH 6 rfl (y_muln rfl rfl (by simp only [InK];omega)) ?_;refine Hd.eitherH 7 8 rfl rfl kq ?_ ?_
   ·have _d:=done0;refine callE rfl fk11 (rnew26_ct _ 2) sq ?_;intro cb1
    refine qk<|qo 8 ?_
    have _d:=done0;refine Hd.mkslice (m:=2) (cap:=2) Tryz.underlying142 ty178 zr178 rfl rfl rfl rfl (by decide) (by decide) (by decide) (fun sl1 cs1 hcs1=>?_);refine Bc.Hd.ptOwn 2 6 pkk (by rw [hcs1];rfl) (by decide) ?_
    refine qk<|tH 9 rfl (y_build (vs:=[(0,_),(1,_),(2,_)]) rfl (by exact bd39_80 ..)) ?_;refine qo 10 ?_
    have _d:=done0;refine Hd.box rfl rfl (fun q1=>?_)
    refine qk<|qo 11 ?_;refine Hd.bslice (vs:=[(0,_)]) rfl (by exact bs39_82 ..) (fun b82=>?_);refine qk<|qo 12 ?_;refine Hd.append Tryz.underlying140 ty148 rfl rfl rfl pkk (by exact RdS.rd (Rd.pt pkk (fun j v e=>by simpa using e)) rfl) (by simp [Value.oneCell'];done) (by simp only [maxLen];omega) (by omega) (fun ad83 cap83=>?_);refine qk<|qo 13 ?_;refine yv y_np<|qk<|tH 14 rfl (y_f 2 140 Tryz.underlying144 sz140)<|qo 15 ?_;refine Hd.store1 sz140 rfl rfl rfl pkk (by simp;done) ?_
    try simp only [hyS]
    refine qn<|endH kq ?_
    have done0:True:=trivial
    refine slots [(0,_),(4,_),(5,_),(8,_),(9,_)] sbq ?_;refine Hd.inB<|Hd.toK K15 ?_;refine Hd.region<|yv y_mv<|yv (y_addn rfl rfl (by simp only [InK];omega)) ?_;refine yv y_as<|Hd.nil<|slots [(0,_),(4,_),(5,_),(8,_),(9,_)] sbq ?_;refine Hd.roundN ?_;refine Hd.seq fun _ K22=>?_
    refine sr fun _ K23=>?_
    refine yv y_mv<|yv (y_lss rfl rfl) ?_;refine fk [(0,_),(4,_),(5,_),(8,_),(9,_),(23,_)] K23 ?_;refine Hd.condF rfl ?_;refine Hd.exit<|Hd.thenExit<|Hd.thenExit<|Hd.inBexit<|thenN<|Hd.heap (LiP wb lb0 q0 (⟨⟨bb0,noS,none⟩,dmX,cb0,some ⟨sl0,0,none⟩,2,fun _=>noSl,newB 0,false⟩:Li)::_) (fun q z=>li_close (i:=(⟨⟨bb0,noS,none⟩,dmX,cb0,some ⟨sl0,0,none⟩,2,fun _=>noSl,newB 0,false⟩:Li)) q (Ent.sep (show Ent _ (LmH lb0 ⟨bb0,noS,none⟩::pu True::pu True::LqH q0 cb0 (some ⟨sl0,0,none⟩) 2 (-1)::Ow2 (some ⟨sl0,0,none⟩) 2 noSl noSl::BufP bb0 wb (newB 0)::RbP cb0 (newB 0)::_) from .pick pkk (.pure trivial (.pure trivial (.eq (A:=pt q0 _ _) pkk (pt_eq (by rfl)) (.eq (A:=own _ 6 (some ⟨sl0,0,none⟩) 2 2 _) pkk (own_eq3 rfl rfl (by rw [hcs0];rfl)) (.pick pkk (.pick pkk .same))))))) q z)) ?_
    refine Hd.heap (LiP wb lb1 q1 (⟨⟨bb1,noS,none⟩,dmX,cb1,some ⟨sl1,0,none⟩,2,fun _=>noSl,newB 2,false⟩:Li)::_) (fun q z=>li_close (i:=(⟨⟨bb1,noS,none⟩,dmX,cb1,some ⟨sl1,0,none⟩,2,fun _=>noSl,newB 2,false⟩:Li)) q (Ent.sep (show Ent _ (LmH lb1 ⟨bb1,noS,none⟩::pu True::pu True::LqH q1 cb1 (some ⟨sl1,0,none⟩) 2 (-1)::Ow2 (some ⟨sl1,0,none⟩) 2 noSl noSl::BufP bb1 wb (newB 2)::RbP cb1 (newB 2)::_) from .pick pkk (.pure trivial (.pure trivial (.eq (A:=pt q1 _ _) pkk (pt_eq (by rfl)) (.eq (A:=own _ 6 (some ⟨sl1,0,none⟩) 2 2 _) pkk (own_eq3 rfl rfl (by rw [hcs1];rfl)) (.pick pkk (.pick pkk .same))))))) q z)) ?_;exact Hd.meet ⟨((⟨b21,pb,wb,rb,ad68,cap68,ad83,cap83,fun j=>if j=0 then lb0 else lb1,fun j=>if j=0 then q0 else q1⟩:Pl),(fun j=>if j=0 then (⟨⟨bb0,noS,none⟩,dmX,cb0,some ⟨sl0,0,none⟩,2,fun _=>noSl,newB 0,false⟩:Li) else (⟨⟨bb1,noS,none⟩,dmX,cb1,some ⟨sl1,0,none⟩,2,fun _=>noSl,newB 2,false⟩:Li):Nat→Li)),⟨rfl,rfl,rfl,rfl,fun k hk gp=>(by rcases (show k=0∨k=1 by omega) with rfl | rfl<;>exact li_new _ _ _ _),fun k hk=>(by rcases (show k=0∨k=1 by omega) with rfl | rfl<;>rfl)⟩⟩ sbq (Ent.sep (.eq (A:=pt b21 _ _) pkk (pt_eq (by rw [←hVL];done)) (.eq (A:=own _ 1 ad68 _ cap68 _) pkk (own_eq3 (by rfl) rfl (by rfl)) (.eq (A:=own _ 1 ad83 _ cap83 _) pkk (own_eq3 (by rfl) rfl (by rfl)) (.pick pkk (.pick pkk (.pick pkk (.eq (A:=LiP wb lb0 q0 _) pkk (by rfl) (.eq (A:=LiP wb lb1 q1 _) pkk (by rfl) enn)))))))))
   have _d:=done0;refine Hd.mkslice (m:=2) (cap:=2) Tryz.underlying142 ty178 zr178 rfl rfl rfl rfl (by decide) (by decide) (by decide) (fun sl1 cs1 hcs1=>?_);refine Bc.Hd.ptOwn 2 6 pkk (by rw [hcs1];rfl) (by decide) ?_
   refine qk<|qo 7 ?_
   have _d:=done0;refine callE rfl fk11 (rnew26_ct _ 2) sq ?_;intro cb1
   refine qk<|tH 9 rfl (y_build (vs:=[(0,_),(1,_),(2,_)]) rfl (by exact bd39_80 ..)) ?_;refine qo 10 ?_
   have _d:=done0;refine Hd.box rfl rfl (fun q1=>?_)
   refine qk<|qo 11 ?_;refine Hd.bslice (vs:=[(0,_)]) rfl (by exact bs39_82 ..) (fun b82=>?_);refine qk<|qo 12 ?_;refine Hd.append Tryz.underlying140 ty148 rfl rfl rfl pkk (by exact RdS.rd (Rd.pt pkk (fun j v e=>by simpa using e)) rfl) (by simp [Value.oneCell'];done) (by simp only [maxLen];omega) (by omega) (fun ad83 cap83=>?_);refine qk<|qo 13 ?_;refine yv y_np<|qk<|tH 14 rfl (y_f 2 140 Tryz.underlying144 sz140)<|qo 15 ?_;refine Hd.store1 sz140 rfl rfl rfl pkk (by simp;done) ?_
   try simp only [hyS]
   refine qn<|endH kq ?_
   have done0:True:=trivial
   refine slots [(0,_),(4,_),(5,_),(8,_),(9,_)] sbq ?_;refine Hd.inB<|Hd.toK K15 ?_;refine Hd.region<|yv y_mv<|yv (y_addn rfl rfl (by simp only [InK];omega)) ?_;refine yv y_as<|Hd.nil<|slots [(0,_),(4,_),(5,_),(8,_),(9,_)] sbq ?_;refine Hd.roundN ?_;refine Hd.seq fun _ K24=>?_
   refine sr fun _ K25=>?_
   refine yv y_mv<|yv (y_lss rfl rfl) ?_;refine fk [(0,_),(4,_),(5,_),(8,_),(9,_),(23,_)] K25 ?_;refine Hd.condF rfl ?_;refine Hd.exit<|Hd.thenExit<|Hd.thenExit<|Hd.inBexit<|thenN<|Hd.heap (LiP wb lb0 q0 (⟨⟨bb0,noS,none⟩,dmX,cb0,some ⟨sl0,0,none⟩,2,fun _=>noSl,newB 0,false⟩:Li)::_) (fun q z=>li_close (i:=(⟨⟨bb0,noS,none⟩,dmX,cb0,some ⟨sl0,0,none⟩,2,fun _=>noSl,newB 0,false⟩:Li)) q (Ent.sep (show Ent _ (LmH lb0 ⟨bb0,noS,none⟩::pu True::pu True::LqH q0 cb0 (some ⟨sl0,0,none⟩) 2 (-1)::Ow2 (some ⟨sl0,0,none⟩) 2 noSl noSl::BufP bb0 wb (newB 0)::RbP cb0 (newB 0)::_) from .pick pkk (.pure trivial (.pure trivial (.eq (A:=pt q0 _ _) pkk (pt_eq (by rfl)) (.eq (A:=own _ 6 (some ⟨sl0,0,none⟩) 2 2 _) pkk (own_eq3 rfl rfl (by rw [hcs0];rfl)) (.pick pkk (.pick pkk .same))))))) q z)) ?_
   refine Hd.heap (LiP wb lb1 q1 (⟨⟨bb1,noS,none⟩,dmX,cb1,some ⟨sl1,0,none⟩,2,fun _=>noSl,newB 2,false⟩:Li)::_) (fun q z=>li_close (i:=(⟨⟨bb1,noS,none⟩,dmX,cb1,some ⟨sl1,0,none⟩,2,fun _=>noSl,newB 2,false⟩:Li)) q (Ent.sep (show Ent _ (LmH lb1 ⟨bb1,noS,none⟩::pu True::pu True::LqH q1 cb1 (some ⟨sl1,0,none⟩) 2 (-1)::Ow2 (some ⟨sl1,0,none⟩) 2 noSl noSl::BufP bb1 wb (newB 2)::RbP cb1 (newB 2)::_) from .pick pkk (.pure trivial (.pure trivial (.eq (A:=pt q1 _ _) pkk (pt_eq (by rfl)) (.eq (A:=own _ 6 (some ⟨sl1,0,none⟩) 2 2 _) pkk (own_eq3 rfl rfl (by rw [hcs1];rfl)) (.pick pkk (.pick pkk .same))))))) q z)) ?_;exact Hd.meet ⟨((⟨b21,pb,wb,rb,ad68,cap68,ad83,cap83,fun j=>if j=0 then lb0 else lb1,fun j=>if j=0 then q0 else q1⟩:Pl),(fun j=>if j=0 then (⟨⟨bb0,noS,none⟩,dmX,cb0,some ⟨sl0,0,none⟩,2,fun _=>noSl,newB 0,false⟩:Li) else (⟨⟨bb1,noS,none⟩,dmX,cb1,some ⟨sl1,0,none⟩,2,fun _=>noSl,newB 2,false⟩:Li):Nat→Li)),⟨rfl,rfl,rfl,rfl,fun k hk gp=>(by rcases (show k=0∨k=1 by omega) with rfl | rfl<;>exact li_new _ _ _ _),fun k hk=>(by rcases (show k=0∨k=1 by omega) with rfl | rfl<;>rfl)⟩⟩ sbq (Ent.sep (.eq (A:=pt b21 _ _) pkk (pt_eq (by rw [←hVL];done)) (.eq (A:=own _ 1 ad68 _ cap68 _) pkk (own_eq3 (by rfl) rfl (by rfl)) (.eq (A:=own _ 1 ad83 _ cap83 _) pkk (own_eq3 (by rfl) rfl (by rfl)) (.pick pkk (.pick pkk (.pick pkk (.eq (A:=LiP wb lb0 q0 _) pkk (by rfl) (.eq (A:=LiP wb lb1 q1 _) pkk (by rfl) enn)))))))))
  refine Hd.mkslice (m:=2) (cap:=2) Tryz.underlying142 ty178 zr178 rfl rfl rfl rfl (by decide) (by decide) (by decide) (fun sl0 cs0 hcs0=>?_);refine Bc.Hd.ptOwn 2 6 pkk (by rw [hcs0];rfl) (by decide) ?_;refine qk<|qo 7 ?_;refine callE rfl fk11 (rnew26_ct _ 0) sq ?_;intro cb0;refine qk<|tH 9 rfl (y_build (vs:=[(0,_),(1,_),(2,_)]) rfl (by exact bd39_80 ..)) ?_;refine qo 10 ?_;refine Hd.box rfl rfl (fun q0=>?_);refine qk<|qo 11 ?_;refine Hd.bslice (vs:=[(0,_)]) rfl (by exact bs39_82 ..) (fun b82=>?_);refine qk<|qo 12 ?_;refine Hd.append Tryz.underlying140 ty148 rfl rfl rfl pkk (by exact RdS.rd (Rd.pt pkk (fun j v e=>by simpa using e)) rfl) (by simp [Value.oneCell'];done) (by simp only [maxLen];omega) (by omega) (fun ad83 cap83=>?_);refine qk<|qo 13 ?_;refine yv y_np<|qk<|tH 14 rfl (y_f 2 140 Tryz.underlying144 sz140) ?_
  refine qo 15 ?_;refine Hd.store1 sz140 rfl rfl rfl pkk (by simp;done) ?_
  try simp only [hyS]
  refine qn<|endH kq ?_
  have done0:True:=trivial
  refine slots [(0,_),(4,_),(5,_),(8,_),(9,_)] sbq ?_;refine Hd.inB<|Hd.toK K6 ?_;refine Hd.region<|yv y_mv<|yv (y_addn rfl rfl (by simp only [InK];omega)) ?_;refine yv y_as<|Hd.nil<|slots [(0,_),(4,_),(5,_),(8,_),(9,_)] sbq ?_;refine Hd.roundN ?_;refine Hd.seq fun _ K26=>?_
  refine sr fun _ K27=>?_
  refine yv y_mv<|yv (y_lss rfl rfl) ?_;refine fk [(0,_),(4,_),(5,_),(8,_),(9,_),(23,_)] K27 ?_;refine Hd.condT rfl ?_;refine qv K26<|Hd.seq fun _ K28=>?_
  refine Hd.block<|sr fun _ K29=>?_
  refine yv y_mv<|yv y_np<|yv (y_f 0 26 Tryz.underlying144 sz26)<|yv (y_l1 ag26 rfl)<|yv y_mv<|yv (y_build (vs:=[(0,_),(2,_)]) rfl (by exact bd39_31 ..)) ?_
  have _d:=done0;refine callE rfl fk8 (do1_ct _ pb wb rb (doA newA (ovP c)) 100 (by decide) hl1 (ovP c) rfl (by simp [InK]) (show (0:Nat)≤300 by decide) (RdS.none _ _ _) (Nat.le_refl 0)) sq ?_
  intro _;refine yv y_as<|fk [(0,_),(4,_),(5,_),(8,_),(9,_),(10,_)] K29 ?_;refine sr fun _ K30=>?_
  refine yv y_mv<|yv y_np<|yv (y_f 0 26 Tryz.underlying144 sz26)<|yv (y_l1 ag26 rfl)<|yv y_np<|yv (y_f 0 37 Tryz.underlying40 sz37)<|yv (y_l1 ag37 rfl)<|yv y_mv<|yv (y_muln rfl rfl (by simp only [InK];omega)) ?_
  have _d:=done0;refine callE rfl fk9 (bnew_ct _ wb (doA (doA newA (ovP c)) (ovP c)) 2 ho2) sq ?_;intro bb1
  refine yv y_mv<|yv (y_to (v':=(by exact Value.pointer (some ⟨bb1,0,none⟩))) y_ex (by rfl)) ?_;refine yv (y_to (v':=.int .i64 0) y_ex (by rfl)) ?_;refine yv y_as<|yv y_as<|fk [(0,_),(4,_),(5,_),(8,_),(9,_),(10,_),(11,_),(12,_)] K30 ?_;refine sr fun _ K31=>?_
  refine yv y_mv ?_
  have _d:=done0;refine callE rfl fk89 (lnew_ct _ bb1) sq ?_;intro lb1
  refine yv y_mv<|yv (y_to (v':=(by exact Value.pointer (some ⟨lb1,0,none⟩))) y_ex (by rfl)) ?_;refine yv (y_to (v':=.int .i64 0) y_ex (by rfl)) ?_;refine yv y_as<|yv y_as<|fk [(0,_),(4,_),(5,_),(8,_),(9,_),(10,_),(12,_),(13,_),(14,_)] K31 ?_;refine Hd.seq fun _ K32=>?_
  refine sr fun _ K33=>?_
  refine yv y_mv<|yv (y_to (v':=.bool false) (y_not rfl) (by rfl)) ?_;refine yv y_mv<|y2 y_mv<|y2 (y_to (v':=.bool false) (y_neq rfl rfl) (by rfl)) ?_;refine yv (y_pickF rfl rfl) ?_;refine yv y_mv<|y2 y_mv<|y2 (y_to (v':=.bool false) (y_neq rfl rfl) (by rfl)) ?_;refine yv (y_pickF rfl rfl) ?_;refine fk [(0,_),(4,_),(5,_),(8,_),(9,_),(13,_),(60,_)] K33 ?_;refine Hd.condF rfl ?_;refine qv K32<|Hd.seq fun _ K34=>?_
  have _d:=done0;skip
  refine Hd.region<|yv y_mv<|yv y_mv<|yv y_np<|yv (y_f 1 139 Tryz.underlying144 sz139)<|yv (y_to (v':=(by exact Value.slice ad68 1 cap68)) (y_l1 ag139 rfl) (by rw [hVL];done)) ?_;refine yv y_mv<|Hd.bslice (vs:=[(0,_)]) rfl (by exact bs39_67 ..) (fun b67=>?_);refine Hd.append Tryz.underlying139 ty145 rfl rfl rfl pkk (by exact RdS.rd (Rd.pt pkk (fun j v e=>by simpa using e)) rfl) (by simp [Value.oneCell'];done) (by simp only [maxLen];omega) (by omega) (fun ad68 cap68=>?_);refine yv y_np<|yv (y_f 1 139 Tryz.underlying144 sz139)<|Hd.store1 sz139 rfl rfl rfl pkk (by simp;done) ?_
  try simp only [hyS]
  refine fk [(0,_),(4,_),(5,_),(8,_),(9,_)] K34 ?_
  have _d:=done0;obtain ⟨VL,hVL⟩:∃ v:Value,Value.slice ad68 2 cap68=v:=⟨_,rfl⟩;obtain ⟨VQ,hVQ⟩:∃ v:Value,Value.slice ad83 1 cap83=v:=⟨_,rfl⟩;refine Hd.heap (pt b21 [.pointer (some ⟨pb,0,none⟩),VL,VQ,.pointer none,.slice none 0 0] 144::_) (fun q z=>Ent.sep (.eq (A:=pt b21 _ _) pkk (pt_eq (by rw [←hVL,←hVQ];done)) .same) q z) ?_
  refine Hd.drawsH ([pt b21 [.pointer (some ⟨pb,0,none⟩),VL,VQ,.pointer none,.slice none 0 0] 144]) (fun j=>!([15].contains j)) mixed ?_;simp only [List.length,Nat.zero_add,Nat.reduceAdd];refine tH 0 rfl y_mv<|tH 1 rfl y_mv<|tH 2 rfl y_np<|tH 3 rfl (y_f 2 140 Tryz.underlying144 sz140)<|tH 4 rfl (y_to (v':=(by exact Value.slice ad83 1 cap83)) (y_l1 ag140 rfl) (by rw [hVQ])) ?_;refine tH 5 rfl y_mv<|tH 6 rfl (y_muln rfl rfl (by simp only [InK];omega)) ?_;refine Hd.eitherH 7 8 rfl rfl kq ?_ ?_
  ·have _d:=done0;refine callE rfl fk11 (rnew26_ct _ 2) sq ?_;intro cb1
   refine qk<|qo 8 ?_
   have _d:=done0;refine Hd.mkslice (m:=2) (cap:=2) Tryz.underlying142 ty178 zr178 rfl rfl rfl rfl (by decide) (by decide) (by decide) (fun sl1 cs1 hcs1=>?_);refine Bc.Hd.ptOwn 2 6 pkk (by rw [hcs1];rfl) (by decide) ?_
   refine qk<|tH 9 rfl (y_build (vs:=[(0,_),(1,_),(2,_)]) rfl (by exact bd39_80 ..)) ?_;refine qo 10 ?_
   have _d:=done0;refine Hd.box rfl rfl (fun q1=>?_)
   refine qk<|qo 11 ?_;refine Hd.bslice (vs:=[(0,_)]) rfl (by exact bs39_82 ..) (fun b82=>?_);refine qk<|qo 12 ?_;refine Hd.append Tryz.underlying140 ty148 rfl rfl rfl pkk (by exact RdS.rd (Rd.pt pkk (fun j v e=>by simpa using e)) rfl) (by simp [Value.oneCell'];done) (by simp only [maxLen];omega) (by omega) (fun ad83 cap83=>?_);refine qk<|qo 13 ?_;refine yv y_np<|qk<|tH 14 rfl (y_f 2 140 Tryz.underlying144 sz140)<|qo 15 ?_;refine Hd.store1 sz140 rfl rfl rfl pkk (by simp;done) ?_
   try simp only [hyS]
   refine qn<|endH kq ?_
   have done0:True:=trivial
   refine slots [(0,_),(4,_),(5,_),(8,_),(9,_)] sbq ?_;refine Hd.inB<|Hd.toK K28 ?_;refine Hd.region<|yv y_mv<|yv (y_addn rfl rfl (by simp only [InK];omega)) ?_;refine yv y_as<|Hd.nil<|slots [(0,_),(4,_),(5,_),(8,_),(9,_)] sbq ?_;refine Hd.roundN ?_;refine Hd.seq fun _ K35=>?_
   refine sr fun _ K36=>?_
   refine yv y_mv<|yv (y_lss rfl rfl) ?_;refine fk [(0,_),(4,_),(5,_),(8,_),(9,_),(23,_)] K36 ?_;refine Hd.condF rfl ?_;refine Hd.exit<|Hd.thenExit<|Hd.thenExit<|Hd.inBexit<|thenN<|Hd.heap (LiP wb lb0 q0 (⟨⟨bb0,noS,none⟩,dmX,cb0,some ⟨sl0,0,none⟩,2,fun _=>noSl,newB 0,false⟩:Li)::_) (fun q z=>li_close (i:=(⟨⟨bb0,noS,none⟩,dmX,cb0,some ⟨sl0,0,none⟩,2,fun _=>noSl,newB 0,false⟩:Li)) q (Ent.sep (show Ent _ (LmH lb0 ⟨bb0,noS,none⟩::pu True::pu True::LqH q0 cb0 (some ⟨sl0,0,none⟩) 2 (-1)::Ow2 (some ⟨sl0,0,none⟩) 2 noSl noSl::BufP bb0 wb (newB 0)::RbP cb0 (newB 0)::_) from .pick pkk (.pure trivial (.pure trivial (.eq (A:=pt q0 _ _) pkk (pt_eq (by rfl)) (.eq (A:=own _ 6 (some ⟨sl0,0,none⟩) 2 2 _) pkk (own_eq3 rfl rfl (by rw [hcs0];rfl)) (.pick pkk (.pick pkk .same))))))) q z)) ?_
   refine Hd.heap (LiP wb lb1 q1 (⟨⟨bb1,noS,none⟩,dmX,cb1,some ⟨sl1,0,none⟩,2,fun _=>noSl,newB 2,false⟩:Li)::_) (fun q z=>li_close (i:=(⟨⟨bb1,noS,none⟩,dmX,cb1,some ⟨sl1,0,none⟩,2,fun _=>noSl,newB 2,false⟩:Li)) q (Ent.sep (show Ent _ (LmH lb1 ⟨bb1,noS,none⟩::pu True::pu True::LqH q1 cb1 (some ⟨sl1,0,none⟩) 2 (-1)::Ow2 (some ⟨sl1,0,none⟩) 2 noSl noSl::BufP bb1 wb (newB 2)::RbP cb1 (newB 2)::_) from .pick pkk (.pure trivial (.pure trivial (.eq (A:=pt q1 _ _) pkk (pt_eq (by rfl)) (.eq (A:=own _ 6 (some ⟨sl1,0,none⟩) 2 2 _) pkk (own_eq3 rfl rfl (by rw [hcs1];rfl)) (.pick pkk (.pick pkk .same))))))) q z)) ?_;exact Hd.meet ⟨((⟨b21,pb,wb,rb,ad68,cap68,ad83,cap83,fun j=>if j=0 then lb0 else lb1,fun j=>if j=0 then q0 else q1⟩:Pl),(fun j=>if j=0 then (⟨⟨bb0,noS,none⟩,dmX,cb0,some ⟨sl0,0,none⟩,2,fun _=>noSl,newB 0,false⟩:Li) else (⟨⟨bb1,noS,none⟩,dmX,cb1,some ⟨sl1,0,none⟩,2,fun _=>noSl,newB 2,false⟩:Li):Nat→Li)),⟨rfl,rfl,rfl,rfl,fun k hk gp=>(by rcases (show k=0∨k=1 by omega) with rfl | rfl<;>exact li_new _ _ _ _),fun k hk=>(by rcases (show k=0∨k=1 by omega) with rfl | rfl<;>rfl)⟩⟩ sbq (Ent.sep (.eq (A:=pt b21 _ _) pkk (pt_eq (by rw [←hVL];done)) (.eq (A:=own _ 1 ad68 _ cap68 _) pkk (own_eq3 (by rfl) rfl (by rfl)) (.eq (A:=own _ 1 ad83 _ cap83 _) pkk (own_eq3 (by rfl) rfl (by rfl)) (.pick pkk (.pick pkk (.pick pkk (.eq (A:=LiP wb lb0 q0 _) pkk (by rfl) (.eq (A:=LiP wb lb1 q1 _) pkk (by rfl) enn)))))))))
  have _d:=done0;refine Hd.mkslice (m:=2) (cap:=2) Tryz.underlying142 ty178 zr178 rfl rfl rfl rfl (by decide) (by decide) (by decide) (fun sl1 cs1 hcs1=>?_);refine Bc.Hd.ptOwn 2 6 pkk (by rw [hcs1];rfl) (by decide) ?_
  refine qk<|qo 7 ?_
  have _d:=done0;refine callE rfl fk11 (rnew26_ct _ 2) sq ?_;intro cb1
  refine qk<|tH 9 rfl (y_build (vs:=[(0,_),(1,_),(2,_)]) rfl (by exact bd39_80 ..)) ?_;refine qo 10 ?_
  have _d:=done0;refine Hd.box rfl rfl (fun q1=>?_)
  refine qk<|qo 11 ?_;refine Hd.bslice (vs:=[(0,_)]) rfl (by exact bs39_82 ..) (fun b82=>?_);refine qk<|qo 12 ?_;refine Hd.append Tryz.underlying140 ty148 rfl rfl rfl pkk (by exact RdS.rd (Rd.pt pkk (fun j v e=>by simpa using e)) rfl) (by simp [Value.oneCell'];done) (by simp only [maxLen];omega) (by omega) (fun ad83 cap83=>?_);refine qk<|qo 13 ?_;refine yv y_np<|qk<|tH 14 rfl (y_f 2 140 Tryz.underlying144 sz140)<|qo 15 ?_;refine Hd.store1 sz140 rfl rfl rfl pkk (by simp;done) ?_
  try simp only [hyS]
  refine qn<|endH kq ?_
  have done0:True:=trivial
  refine slots [(0,_),(4,_),(5,_),(8,_),(9,_)] sbq ?_;refine Hd.inB<|Hd.toK K28 ?_;refine Hd.region<|yv y_mv<|yv (y_addn rfl rfl (by simp only [InK];omega)) ?_;refine yv y_as<|Hd.nil<|slots [(0,_),(4,_),(5,_),(8,_),(9,_)] sbq ?_;refine Hd.roundN ?_;refine Hd.seq fun _ K37=>?_
  refine sr fun _ K38=>?_
  refine yv y_mv<|yv (y_lss rfl rfl) ?_;refine fk [(0,_),(4,_),(5,_),(8,_),(9,_),(23,_)] K38 ?_;refine Hd.condF rfl ?_;refine Hd.exit<|Hd.thenExit<|Hd.thenExit<|Hd.inBexit<|thenN<|Hd.heap (LiP wb lb0 q0 (⟨⟨bb0,noS,none⟩,dmX,cb0,some ⟨sl0,0,none⟩,2,fun _=>noSl,newB 0,false⟩:Li)::_) (fun q z=>li_close (i:=(⟨⟨bb0,noS,none⟩,dmX,cb0,some ⟨sl0,0,none⟩,2,fun _=>noSl,newB 0,false⟩:Li)) q (Ent.sep (show Ent _ (LmH lb0 ⟨bb0,noS,none⟩::pu True::pu True::LqH q0 cb0 (some ⟨sl0,0,none⟩) 2 (-1)::Ow2 (some ⟨sl0,0,none⟩) 2 noSl noSl::BufP bb0 wb (newB 0)::RbP cb0 (newB 0)::_) from .pick pkk (.pure trivial (.pure trivial (.eq (A:=pt q0 _ _) pkk (pt_eq (by rfl)) (.eq (A:=own _ 6 (some ⟨sl0,0,none⟩) 2 2 _) pkk (own_eq3 rfl rfl (by rw [hcs0];rfl)) (.pick pkk (.pick pkk .same))))))) q z)) ?_
  refine Hd.heap (LiP wb lb1 q1 (⟨⟨bb1,noS,none⟩,dmX,cb1,some ⟨sl1,0,none⟩,2,fun _=>noSl,newB 2,false⟩:Li)::_) (fun q z=>li_close (i:=(⟨⟨bb1,noS,none⟩,dmX,cb1,some ⟨sl1,0,none⟩,2,fun _=>noSl,newB 2,false⟩:Li)) q (Ent.sep (show Ent _ (LmH lb1 ⟨bb1,noS,none⟩::pu True::pu True::LqH q1 cb1 (some ⟨sl1,0,none⟩) 2 (-1)::Ow2 (some ⟨sl1,0,none⟩) 2 noSl noSl::BufP bb1 wb (newB 2)::RbP cb1 (newB 2)::_) from .pick pkk (.pure trivial (.pure trivial (.eq (A:=pt q1 _ _) pkk (pt_eq (by rfl)) (.eq (A:=own _ 6 (some ⟨sl1,0,none⟩) 2 2 _) pkk (own_eq3 rfl rfl (by rw [hcs1];rfl)) (.pick pkk (.pick pkk .same))))))) q z)) ?_;exact Hd.meet ⟨((⟨b21,pb,wb,rb,ad68,cap68,ad83,cap83,fun j=>if j=0 then lb0 else lb1,fun j=>if j=0 then q0 else q1⟩:Pl),(fun j=>if j=0 then (⟨⟨bb0,noS,none⟩,dmX,cb0,some ⟨sl0,0,none⟩,2,fun _=>noSl,newB 0,false⟩:Li) else (⟨⟨bb1,noS,none⟩,dmX,cb1,some ⟨sl1,0,none⟩,2,fun _=>noSl,newB 2,false⟩:Li):Nat→Li)),⟨rfl,rfl,rfl,rfl,fun k hk gp=>(by rcases (show k=0∨k=1 by omega) with rfl | rfl<;>exact li_new _ _ _ _),fun k hk=>(by rcases (show k=0∨k=1 by omega) with rfl | rfl<;>rfl)⟩⟩ sbq (Ent.sep (.eq (A:=pt b21 _ _) pkk (pt_eq (by rw [←hVL];done)) (.eq (A:=own _ 1 ad68 _ cap68 _) pkk (own_eq3 (by rfl) rfl (by rfl)) (.eq (A:=own _ 1 ad83 _ cap83 _) pkk (own_eq3 (by rfl) rfl (by rfl)) (.pick pkk (.pick pkk (.pick pkk (.eq (A:=LiP wb lb0 q0 _) pkk (by rfl) (.eq (A:=LiP wb lb1 q1 _) pkk (by rfl) enn)))))))))
 rintro ⟨⟨P1,f1⟩,hM⟩;dsimp only at hM ⊢
 have hl2:Lo 200 (doA (doA newA (ovP c)) (ovP c)):=(do_stp hw1 (ovP c) (show (0:Int)≤0 by decide) 100 (by decide) hl1).1
 refine Hd.wokW (wb:=wb) (w:=(doA (doA newA (ovP c)) (ovP c))) pkk (fun hw2=>?_);refine sr fun _ K39=>?_
 refine yv (y_loadn (us:=[_,_,_]) ag76 rfl (Rd.pt pkk (by (first | (intro j v e;rcases j with _|_|_|_|_|_|_|_|_|_|_|_|j<;>first | exact e | exact absurd e (by simp))))) (by exact sz76)) ?_;refine yv (y_loadn (us:=[_,_,_]) ag76 rfl (Rd.pt pkk (by (first | (intro j v e;rcases j with _|_|_|_|_|_|_|_|_|_|_|_|j<;>first | exact e | exact absurd e (by simp))))) (by exact sz76)) ?_;refine callE rfl fk90 (newgA_ct _ r w 0 (by simp [InK])) sq ?_;rintro ⟨gp,G,y⟩;dsimp only;refine Hd.pure fun hgp=>?_
 refine yv y_mv<|yv (y_to (v':=pN gp) y_ex (by rfl)) ?_;refine yv (y_to (v':=.int .i64 (gvE (mayR r && mayR w))) y_ex (by rfl)) ?_;refine yv y_as<|yv y_as<|fk [(4,_),(5,_),(8,_),(15,_),(16,_)] K39 ?_;refine Hd.cutK (ι:=Option Addr×Nat) [(8,_),(15,_),(16,_)] (fun d=>[(17,.slice d.1 2 d.2),(18,.int .i64 (gvE (mayR r && mayR w)))]) (fun d=>Ow2 d.1 d.2 (gvA (mayR r && mayR w) 0 (rts r w 0) noSl) (gvA (mayR r && mayR w) 0 (rts r w 1) noSl)::pt b21 [.pointer (some ⟨pb,0,none⟩),.slice P1.la 2 P1.lc,.slice P1.qa 2 P1.qc,.pointer none,.slice none 0 0] 144::OwL P1.la P1.lc P1.lb::OwQ P1.qa P1.qc P1.q::BoP pb wb rb::WorldP wb (doA (doA newA (ovP c)) (ovP c))::Rf.RwP rb (doA (doA newA (ovP c)) (ovP c))::GpP gp G y (LiP wb (P1.lb 0) (P1.q 0) (f1 0)::LiP wb (P1.lb 1) (P1.q 1) (f1 1)::L)) ?_ ?_ ⟨rfl,rfl,rfl,trivial⟩
 ·refine Hd.drawsH ([pt b4 (encRt r) 76,pt b5 (encRt w) 76]) (fun _=>true) mixed ?_
  simp only [List.length,Nat.zero_add,Nat.reduceAdd];refine tH 1 rfl (y_loadn (us:=[_,_,_]) ag76 rfl (Rd.pt pkk (by (first | (intro j v e;rcases j with _|_|_|_|_|_|_|_|_|_|_|_|j<;>first | exact e | exact absurd e (by simp))))) (by exact sz76)) ?_;refine tH 3 rfl (y_loadn (us:=[_,_,_]) ag76 rfl (Rd.pt pkk (by (first | (intro j v e;rcases j with _|_|_|_|_|_|_|_|_|_|_|_|j<;>first | exact e | exact absurd e (by simp))))) (by exact sz76)) ?_;refine Hd.eitherH 0 2 rfl rfl kq ?_ ?_
  ·refine Hd.mkslice (m:=2) (cap:=2) Tryz.underlying142 ty178 zr178 rfl rfl rfl rfl (by decide) (by decide) (by decide) (fun sl0 cs0 hcs0=>?_);refine Bc.Hd.ptOwn 2 6 pkk (by rw [hcs0];rfl) (by decide) ?_
   refine qk<|qo 2 ?_;refine callE rfl fk92 (rate_ct _ r) sq ?_;intro _;refine qk<|qo 4 ?_;refine callE rfl fk92 (rate_ct _ w) sq ?_;intro _;refine qk<|qo 5 ?_;refine Hd.bslice (vs:=[(0,_),(1,_)]) rfl (by exact bs39_98 ..) (fun b98=>?_);refine qk<|qo 6 ?_;refine Hd.heap (Ow2 (some ⟨sl0,0,none⟩) 2 noSl noSl::_) (fun q z=>Ent.sep (.eq (A:=own _ 6 (some ⟨sl0,0,none⟩) 2 2 _) pkk (own_eq3 rfl rfl (by rw [hcs0];rfl)) .same) q z) ?_;refine callE rfl fk91 (qgive_ct _ (some ⟨sl0,0,none⟩) 2 noSl noSl sl_no sl_no 0 (by simp [InK]) (some ⟨b98,0,none⟩) 2 r w ?hR) sq ?_
   case hR=>exact RdS.rd (Rd.pt (us:=e6 r w) pkk (fun j v e=>by rw [Nat.zero_add];exact e)) rfl
   rintro ⟨a2,c2⟩;dsimp only;refine qk<|tH 7 rfl y_mv<|tH 8 rfl y_ex<|tH 9 rfl y_ex<|tH 10 rfl y_as<|tH 11 rfl y_as<|endH kq ?_;refine slots [(8,_),(15,_),(16,_),(17,_),(18,_)] sbq ?_;refine thenN ?_;exact Hd.meet (a2,c2) sbq (Ent.sep (.eq (A:=Ow2 a2 c2 _ _) pkk (by rfl) enn))
  refine callE rfl fk92 (rate_ct _ r) sq ?_;intro _;refine qk<|Hd.eitherH 0 4 rfl rfl kq ?_ ?_
  ·refine Hd.mkslice (m:=2) (cap:=2) Tryz.underlying142 ty178 zr178 rfl rfl rfl rfl (by decide) (by decide) (by decide) (fun sl0 cs0 hcs0=>?_);refine Bc.Hd.ptOwn 2 6 pkk (by rw [hcs0];rfl) (by decide) ?_
   refine qk<|qo 4 ?_;refine callE rfl fk92 (rate_ct _ w) sq ?_;intro _;refine qk<|qo 5 ?_;refine Hd.bslice (vs:=[(0,_),(1,_)]) rfl (by exact bs39_98 ..) (fun b98=>?_);refine qk<|qo 6 ?_;refine Hd.heap (Ow2 (some ⟨sl0,0,none⟩) 2 noSl noSl::_) (fun q z=>Ent.sep (.eq (A:=own _ 6 (some ⟨sl0,0,none⟩) 2 2 _) pkk (own_eq3 rfl rfl (by rw [hcs0];rfl)) .same) q z) ?_;refine callE rfl fk91 (qgive_ct _ (some ⟨sl0,0,none⟩) 2 noSl noSl sl_no sl_no 0 (by simp [InK]) (some ⟨b98,0,none⟩) 2 r w ?hR) sq ?_
   case hR=>exact RdS.rd (Rd.pt (us:=e6 r w) pkk (fun j v e=>by rw [Nat.zero_add];exact e)) rfl
   rintro ⟨a2,c2⟩;dsimp only;refine qk<|tH 7 rfl y_mv<|tH 8 rfl y_ex<|tH 9 rfl y_ex<|tH 10 rfl y_as<|tH 11 rfl y_as<|endH kq ?_;refine slots [(8,_),(15,_),(16,_),(17,_),(18,_)] sbq ?_;refine thenN ?_;exact Hd.meet (a2,c2) sbq (Ent.sep (.eq (A:=Ow2 a2 c2 _ _) pkk (by rfl) enn))
  refine callE rfl fk92 (rate_ct _ w) sq ?_;intro _;refine qk<|Hd.eitherH 0 5 rfl rfl kq ?_ ?_
  ·refine Hd.mkslice (m:=2) (cap:=2) Tryz.underlying142 ty178 zr178 rfl rfl rfl rfl (by decide) (by decide) (by decide) (fun sl0 cs0 hcs0=>?_);refine Bc.Hd.ptOwn 2 6 pkk (by rw [hcs0];rfl) (by decide) ?_
   refine qk<|qo 5 ?_;refine Hd.bslice (vs:=[(0,_),(1,_)]) rfl (by exact bs39_98 ..) (fun b98=>?_);refine qk<|qo 6 ?_;refine Hd.heap (Ow2 (some ⟨sl0,0,none⟩) 2 noSl noSl::_) (fun q z=>Ent.sep (.eq (A:=own _ 6 (some ⟨sl0,0,none⟩) 2 2 _) pkk (own_eq3 rfl rfl (by rw [hcs0];rfl)) .same) q z) ?_;refine callE rfl fk91 (qgive_ct _ (some ⟨sl0,0,none⟩) 2 noSl noSl sl_no sl_no 0 (by simp [InK]) (some ⟨b98,0,none⟩) 2 r w ?hR) sq ?_
   case hR=>exact RdS.rd (Rd.pt (us:=e6 r w) pkk (fun j v e=>by rw [Nat.zero_add];exact e)) rfl
   rintro ⟨a2,c2⟩;dsimp only;refine qk<|tH 7 rfl y_mv<|tH 8 rfl y_ex<|tH 9 rfl y_ex<|tH 10 rfl y_as<|tH 11 rfl y_as<|endH kq ?_;refine slots [(8,_),(15,_),(16,_),(17,_),(18,_)] sbq ?_;refine thenN ?_;exact Hd.meet (a2,c2) sbq (Ent.sep (.eq (A:=Ow2 a2 c2 _ _) pkk (by rfl) enn))
  refine Hd.bslice (vs:=[(0,_),(1,_)]) rfl (by exact bs39_98 ..) (fun b98=>?_);refine qk<|qo 0 ?_;refine Hd.mkslice (m:=2) (cap:=2) Tryz.underlying142 ty178 zr178 rfl rfl rfl rfl (by decide) (by decide) (by decide) (fun sl0 cs0 hcs0=>?_);refine Bc.Hd.ptOwn 2 6 pkk (by rw [hcs0];rfl) (by decide) ?_;refine qk<|qo 6 ?_;refine Hd.heap (Ow2 (some ⟨sl0,0,none⟩) 2 noSl noSl::_) (fun q z=>Ent.sep (.eq (A:=own _ 6 (some ⟨sl0,0,none⟩) 2 2 _) pkk (own_eq3 rfl rfl (by rw [hcs0];rfl)) .same) q z) ?_;refine callE rfl fk91 (qgive_ct _ (some ⟨sl0,0,none⟩) 2 noSl noSl sl_no sl_no 0 (by simp [InK]) (some ⟨b98,0,none⟩) 2 r w ?hR) sq ?_
  case hR=>exact RdS.rd (Rd.pt (us:=e6 r w) pkk (fun j v e=>by rw [Nat.zero_add];exact e)) rfl
  rintro ⟨a2,c2⟩;dsimp only;refine qk<|tH 7 rfl y_mv<|tH 8 rfl y_ex<|tH 9 rfl y_ex<|tH 10 rfl y_as<|tH 11 rfl y_as<|endH kq ?_;refine slots [(8,_),(15,_),(16,_),(17,_),(18,_)] sbq ?_;refine thenN ?_;exact Hd.meet (a2,c2) sbq (Ent.sep (.eq (A:=Ow2 a2 c2 _ _) pkk (by rfl) enn))
 rintro ⟨a2,c2⟩;dsimp only;refine sr fun _ K40=>?_
 refine yv y_mv<|yv y_mv<|yv y_np<|yv (y_f 3 141 Tryz.underlying144 sz141)<|Hd.store1 sz141 rfl rfl rfl pkk (by simp;done) ?_
 try simp only [hyS]
 refine fk [(8,_),(15,_),(16,_),(17,_),(18,_)] K40 ?_;refine sr fun _ K41=>?_
 refine yv y_mv<|yv y_mv<|yv y_np<|yv (y_f 4 142 Tryz.underlying144 sz142)<|Hd.store1 sz142 rfl rfl rfl pkk (by simp;done) ?_
 try simp only [hyS]
 refine fk [(8,_),(15,_),(16,_),(18,_)] K41 ?_;refine sr fun _ K42=>?_
 refine yv y_mv<|yv y_mv<|yv y_mv<|yv (y_eqlT rfl rfl) ?_;refine yv y_mv ?_;apply Hd.andg 7 114 121 [(110,_)] rfl sbq
 ·intro hg16_114
  try simp only [hyZ] at hg16_114
  simp only [List.take];refine y2 y_mv<|y2 (y_eql rfl rfl) ?_;refine y2 y_mv ?_;apply Hd.org 3 117 120 [(110,_),(114,_)] rfl sbq
  ·intro hg16_117
   try simp only [hyZ] at hg16_117
   simp only [List.take];refine n1<|n1<|y2 (y_pickT rfl rfl) ?_;exact Hd.mn
  ·intro hg16_117
   try simp only [hyZ] at hg16_117
   simp only [List.take];refine y2 y_mv<|y2 (y_eql_pointer Tryz.underlying141 rfl rfl) ?_;refine y2 (y_pickF rfl rfl) ?_;exact Hd.mn
  simp only [List.drop];refine yv (y_pickT rfl rfl) ?_;exact Hd.mn
 ·intro hg16_114
  try simp only [hyZ] at hg16_114
  simp only [List.take];refine n1<|n1<|n1<|n1<|n1<|n1<|yv (y_pickF rfl rfl) ?_;exact Hd.mn
 simp only [List.drop];refine yv y_as<|yv y_as<|fk [(6,_),(7,_)] K42 ?_;refine Hd.ret ?_
 obtain ⟨g1,g2,g3,g4⟩:=hgp
 have hok:TwOk 300 (⟨gp,G,y,a2,c2,fun j=>gvA (mayR r && mayR w) 0 (rts r w j) noSl,(doA (doA newA (ovP c)) (ovP c)),f1⟩:Tw):=by
  refine ⟨hw2,hl2.mono (by decide),fun k hk=>hM.l k hk gp,g3,g4,?_⟩
  show G.many=b2i (f1 0).m + b2i (f1 1).m
  rw [g2,hM.m 0 (by decide),hM.m 1 (by decide)];rfl
 have hval:gvE (mayR r && mayR w)=0∨gp=none:=by
  rw [←g1]
  cases gp
  ·exact .inr rfl
  ·exact .inl rfl
 obtain ⟨tb,pb1,wb1,rb1,la,lc,qa,qc,lbF,qF⟩:=P1
 obtain ⟨e1,e2,e3,e4,_,_⟩:=hM
 dsimp only at e1 e2 e3 e4;subst e1;subst e2;subst e3;subst e4;exact Hd.ret2 rfl ((⟨tb,pb1,wb1,rb1,la,lc,qa,qc,lbF,qF⟩:Pl),(⟨gp,G,y,a2,c2,fun j=>gvA (mayR r && mayR w) 0 (rts r w j) noSl,(doA (doA newA (ovP c)) (ovP c)),f1⟩:Tw)) rfl rfl (by simp;exact hval) (Ent.sep (.pure hok (.eq (A:=pt tb _ _) pkk (pt_eq (by rfl)) (.pick pkk (.pick pkk (.pick pkk (.pick pkk (.pick pkk (.pick pkk (.pick pkk (.pick pkk (.eq (A:=Ow2 a2 c2 _ _) pkk (by rfl) enn))))))))))))
theorem great27_ct (L:List SP) (ad:Option Addr) (c:Nat) (xs:List C7) (hR:RdS L 12 ad xs.length (xs.flatMap encC7)):Ct Tryz.prog 38 #[.slice ad xs.length c,.int .i64 60] (L) (fun g:Int=>.int .i64 g) (fun g:Int=>pu (¬ 0 < g→xs.length≤60∧∀ o∈xs,o.d.length≤300)::L):=by
 refine Ct.o2 Tryz.func38 ?_;intro E
 show Hd E 23 _ _ _ _
 refine sr fun _ K1=>?_
 refine yv y_as<|fk [(0,_),(1,_)] K1 ?_;refine Hd.seq fun _ K2=>?_
 refine sr fun _ K3=>?_
 refine yv y_mv<|yv (y_len Tryz.underlying77 rfl) ?_;refine yv y_mv<|yv (y_gtr rfl rfl) ?_;refine fk [(0,_),(9,_)] K3 ?_;refine qz ?_ ?_<;>intro hc0<;>try simp only [hyZ] at hc0
 ·refine sr fun _ K4=>?_
  refine yv y_as<|fk [(4,_)] K4 ?_;refine Hd.ret<|Hd.thenRet ?_;exact Hd.ret1 rfl 1 rfl (Ent.sep (.pure (fun h=>absurd (by decide) h) enn))
 have hx:xs.length≤60:=by omega
 refine qv K2<|Hd.seq fun _ K5=>?_
 refine sr fun _ K6=>?_
 refine yv y_as<|fk [(0,_),(5,_)] K6 ?_;refine Hd.block<|Hd.loopK (ι:=Nat) [(0,_)] (fun i=>[(5,.int .i64 (i:Int))]) (fun i=>pu (i≤xs.length∧∀ o∈xs.take i,o.d.length≤300)::L) (fun i=>xs.length - i) 0 sbq sbq (Ent.sep (.pure ⟨Nat.zero_le _,fun o ho=>by simp at ho⟩ enn)) ?_;intro i
 try dsimp only
 refine Hd.pure (fun hp0=>?_)
 try dsimp only at hp0
 refine Hd.seq fun _ K7=>?_
 refine sr fun _ K8=>?_
 refine yv y_mv<|yv y_mv<|yv (y_len Tryz.underlying77 rfl) ?_;refine yv (y_lss rfl rfl) ?_;refine fk [(0,_),(5,_),(13,_)] K8 ?_;refine qz ?_ ?_<;>intro hc1<;>try simp only [hyZ] at hc1
 ·have hi:i < xs.length:=by omega
  obtain ⟨o,ho⟩:∃ o,xs[i]?=some o:=⟨_,List.getElem?_eq_getElem hi⟩
  refine qv K7<|Hd.seq fun _ K9=>?_
  refine Hd.block<|sr fun _ K10=>?_
  refine yv y_mv<|yv y_mv<|yv (y_idxR Tryz.underlying77 sz84 rfl rfl (by omega) (by exact RdS.mono hR sq)) ?_;refine yv (y_fR 5 30 Tryz.underlying84 sz30) ?_;refine yv (y_loadR1 ag30 rfl (by exact RdS.mono hR sq) (by exact flat_cells encC7 12 (fun _=>rfl) ho 5 _ rfl)) ?_;refine yv (y_len Tryz.underlying30 rfl) ?_;refine yv (y_gtr rfl rfl) ?_;refine fk [(0,_),(5,_),(22,_)] K10 ?_;refine qz ?_ ?_<;>intro hc2<;>try simp only [hyZ] at hc2
  ·refine sr fun _ K11=>?_
   refine yv y_as<|fk [(4,_)] K11 ?_;refine Hd.ret<|Hd.inBret<|Hd.thenRet<|Hd.thenRet<|Hd.inBret<|Hd.thenRet ?_;exact Hd.ret1 rfl 1 rfl (Ent.sep (.pure (fun h=>absurd (by decide) h) enn))
  refine Hd.skip<|Hd.inB<|Hd.toK K9 ?_;refine Hd.region<|yv y_mv<|yv (y_addn rfl rfl (by simp only [InK];omega)) ?_;refine yv y_as<|Hd.nil<|slots [(0,_),(5,_)] sbq ?_;refine thenN ?_
  have hnew:∀ q∈xs.take (i + 1),q.d.length≤300:=by
   intro q hq;rw [List.take_add_one,ho] at hq
   rcases List.mem_append.1 hq with h | h
   ·exact hp0.2 q h
   ·obtain rfl:q=o:=by simpa using h
    omega
  exact Hd.again (i + 1) (by omega) sbq (Ent.sep (.pure ⟨hi,hnew⟩ enn))
 refine Hd.exit<|Hd.thenExit<|Hd.thenExit<|Hd.inBexit<|Hd.toK K5 ?_;refine sr fun _ K12=>?_
 refine yv y_as<|fk [(4,_)] K12 ?_;refine Hd.ret ?_;exact Hd.ret1 rfl 0 rfl (Ent.sep (.pure (fun _=>⟨hx,by rw [List.take_of_length_le (by omega)] at hp0;exact hp0.2⟩) enn))
theorem lplays_ct (L:List SP) (hT0:Tb L) (hF:Rd L 0 0 flV) (c:Int) (r w:RtA) (ad:Option Addr) (cc:Nat) (xs:List C7) (hX:RdS L 12 ad xs.length (xs.flatMap encC7)) (hXo:∀ o∈xs,C7Ok L o):Ct Tryz.prog 4 #[.int .i64 c,.agg (encRt r).toArray,.agg (encRt w).toArray,.slice ad xs.length cc] (L) (fun _:Unit=>.bool true) (fun _:Unit=>L):=by
 refine Ct.o4 Tryz.func4 ?_;intro E
 show Hd E 57 _ _ _ _
 refine sr fun _ K1=>?_
 refine Hd.box rfl rfl (fun b5=>?_);refine Hd.box rfl rfl (fun b6=>?_);refine yv y_as<|fk [(0,_),(3,_),(5,_),(6,_)] K1 ?_;refine Hd.seq fun _ K2=>?_
 refine sr fun _ K3=>?_
 refine yv y_mv<|callE rfl fk38 (great27_ct _ ad cc xs ?hX) sq ?_
 case hX=>exact RdS.mono hX sq
 intro g;refine Hd.pure fun hg=>?_
 refine yv (y_gtr rfl rfl) ?_;refine yv y_mv ?_;apply Hd.org 3 16 19 [(0,_),(3,_),(5,_),(6,_)] rfl sbq
 ·intro hg1_16
  try simp only [hyZ] at hg1_16
  simp only [List.take];refine n1<|n1<|yv (y_pickT rfl rfl) ?_;exact Hd.mn
 ·intro hg1_16
  try simp only [hyZ] at hg1_16
  simp only [List.take];refine y2 y_mv<|y2 (y_lss rfl rfl) ?_;refine yv (y_pickF rfl rfl) ?_;exact Hd.mn
 simp only [List.drop];refine yv y_mv ?_;apply Hd.org 3 20 23 [(0,_),(3,_),(5,_),(6,_)] rfl sbq
 ·intro hg1_20
  try simp only [hyZ] at hg1_20
  simp only [List.take];refine n1<|n1<|yv (y_pickT rfl rfl) ?_;exact Hd.mn
 ·intro hg1_20
  try simp only [hyZ] at hg1_20
  simp only [List.take];refine y2 y_mv<|y2 (y_gtr rfl rfl) ?_;refine yv (y_pickF rfl rfl) ?_;exact Hd.mn
 simp only [List.drop];refine fk [(0,_),(3,_),(5,_),(6,_),(23,_)] K3 ?_;refine qz ?_ ?_<;>intro hc0<;>try simp only [hyZ] at hc0
 ·refine sr fun _ K4=>?_
  refine yv y_as<|fk [(8,_)] K4 ?_;refine Hd.ret<|Hd.thenRet ?_;exact Hd.ret1 rfl () rfl sq
 have hb:¬ 0 < g∧1≤c∧c≤500:=by omega
 obtain ⟨hxl,hxd⟩:=hg hb.1
 refine qv K2<|sr fun _ K5=>?_
 refine yv y_mv<|yv (y_loadn (us:=[_,_,_]) ag76 rfl (Rd.pt pkk (by (first | (intro j v e;rcases j with _|_|_|_|_|_|_|_|_|_|_|_|j<;>first | exact e | exact absurd e (by simp))))) (by exact sz76)) ?_;refine yv (y_loadn (us:=[_,_,_]) ag76 rfl (Rd.pt pkk (by (first | (intro j v e;rcases j with _|_|_|_|_|_|_|_|_|_|_|_|j<;>first | exact e | exact absurd e (by simp))))) (by exact sz76)) ?_;refine callE rfl fk39 (made_ct _ c hb.2 r w) sq ?_;rintro ⟨P,T⟩;dsimp only;refine Hd.pure fun hT=>?_
 refine yv y_mv<|yv (y_to (v':=.pointer (some ⟨P.tb,0,none⟩)) y_ex (by rfl)) ?_;refine yv (y_to (v':=.bool true) y_ex (by rfl)) ?_;refine yv y_as<|yv y_as<|fk [(3,_),(9,_),(10,_)] K5 ?_;refine Hd.seq fun _ K6=>?_
 refine sr fun _ K7=>?_
 refine yv y_mv<|yv (y_not rfl)<|fk [(3,_),(9,_),(32,_)] K7 ?_;refine Hd.condF rfl ?_;refine qv K6<|Hd.seq fun _ K8=>?_
 refine sr fun _ K9=>?_
 refine yv y_as<|fk [(3,_),(9,_),(11,_)] K9 ?_;refine Hd.block<|Hd.loopK (ι:=Nat×{q:Pl×Tw×Nat // TwOk (300 + 100 * q.2.2) q.2.1}) [(3,_)] (fun q_=>[(9,.pointer (some ⟨q_.2.1.1.tb,0,none⟩)),(11,.int .i64 (q_.1:Int))]) (fun q_=>pu (q_.1≤xs.length∧q_.2.1.2.2=q_.1)::TwL q_.2.1.1 q_.2.1.2.1 L) (fun q_=>xs.length - q_.1) (0,⟨(P,T,0),hT⟩) sbq sbq (Ent.sep (.pure ⟨Nat.zero_le _,rfl⟩ enn)) ?_;rintro ⟨i,TT⟩
 try dsimp only
 refine Hd.pure (fun hp0=>?_)
 try dsimp only at hp0
 refine Hd.seq fun _ K10=>?_
 refine sr fun _ K11=>?_
 refine yv y_mv<|yv y_mv<|yv (y_len Tryz.underlying77 rfl) ?_;refine yv (y_lss rfl rfl) ?_;refine fk [(3,_),(9,_),(11,_),(36,_)] K11 ?_;refine qz ?_ ?_<;>intro hc2<;>try simp only [hyZ] at hc2
 ·have hi:i < xs.length:=by omega
  obtain ⟨o,ho⟩:∃ o,xs[i]?=some o:=⟨_,List.getElem?_eq_getElem hi⟩
  have hoo:=hXo o (List.mem_of_getElem? ho)
  have hod:=hxd o (List.mem_of_getElem? ho)
  obtain ⟨⟨P1,T1,n1⟩,hT1⟩:=TT
  dsimp only at hT1 hp0 ⊢
  obtain ⟨_,rfl⟩:=hp0
  refine qv K10<|Hd.seq fun _ K12=>?_
  refine Hd.block<|sr fun _ K13=>?_
  refine yv y_mv<|yv y_mv<|yv y_mv<|yv (y_idxR Tryz.underlying77 sz84 rfl rfl (by omega) (by exact RdS.mono hX sq)) ?_;refine yv (y_loadRn (vs:=encC7 o) ag84 rfl (RdS.mono hX sq) (flat_cells encC7 12 (fun _=>rfl) ho) sz84 (by simp)) ?_;refine callE rfl fk40 (step27_ct _ ?hF P1 T1 (300 + 100 * n1) (by omega) hT1 o ?ho hod) sq ?_
  case hF=>exact Rd.mono hF sq
  case ho=>exact ⟨RdS.mono hoo.rd sq,hoo.c,hoo.kk,hoo.now,hoo.fl,hoo.n⟩
  rintro ⟨T2,hT2⟩;dsimp only;refine yv y_as<|fk [(3,_),(9,_),(11,_),(12,_)] K13 ?_;refine sr fun _ K14=>?_
  refine yv y_mv<|yv (y_to (v':=.bool false) (y_not rfl) (by rfl)) ?_;refine yv y_mv<|y2 y_mv<|y2 y_mv<|y2 y_mv<|y2 (y_idxR Tryz.underlying77 sz84 rfl rfl (by omega) (by exact RdS.mono hX sq)) ?_;refine y2 (y_fR 2 29 Tryz.underlying84 sz29) ?_;refine y2 (y_loadR1 ag29 rfl (RdS.mono hX sq) (flat_cells encC7 12 (fun _=>rfl) ho 2 _ rfl)) ?_;refine Hd.unguard rfl rfl ?_;refine callE rfl fk41 (alike27_ct _ ?hT1 ?hF P1 T2 (300 + 100 * n1 + 100) (by omega) hT2 o.now hoo.now) sq ?_
  case hT1=>exact Tb.mono hT0 sq
  case hF=>exact Rd.mono hF sq
  rintro ⟨T3,hT3⟩;dsimp only;refine y2 (y_to (v':=.bool false) (y_not rfl) (by rfl)) ?_;refine yv (y_pickF rfl rfl) ?_;refine fk [(3,_),(9,_),(11,_),(56,_)] K14 ?_;refine Hd.condF rfl ?_;refine Hd.skip<|Hd.inB<|Hd.toK K12 ?_;refine Hd.region<|yv y_mv<|yv (y_addn rfl rfl (by simp only [InK];omega)) ?_;refine yv y_as<|Hd.nil<|slots [(3,_),(9,_),(11,_)] sbq ?_;refine thenN ?_;exact Hd.again (n1 + 1,⟨(P1,T3,n1 + 1),by show TwOk (300 + 100 * (n1 + 1)) T3;rw [show 300 + 100 * (n1 + 1)=300 + 100 * n1 + 100 by omega];exact hT3⟩) (by omega) sbq (Ent.sep (.pure ⟨hi,rfl⟩ enn))
 refine Hd.exit<|Hd.thenExit<|Hd.thenExit<|Hd.inBexit<|Hd.toK K8 ?_;refine sr fun _ K15=>?_
 refine yv y_as<|fk [(8,_)] K15 ?_;refine Hd.ret ?_;exact Hd.ret1 rfl () rfl sq
end Lm
end Go.Proofs.YtmpemhbfgbochaaGreatDoor
namespace Go.Proofs.YtmpemhbfgbochaaGreatDoor
open Go.RX Go.ChangeShapes Go.WideShapes Go.ChangeAt Go.RowKit
abbrev shR:Sh:=.struct (.fld (.int .i64) (.fld (.int .u64) (.fld (.int .i64) .nil)))
abbrev shL:Sh:=.struct (.fld (.int .i64) (.fld (.int .i64) (.fld (.int .u64) (.fld (.int .i64) (.fld (.int .i64) (.fld (.slice (.int .u8)) (.fld shR (.fld shR .nil))))))))
def cvR (y:shR.T):Lm.RtA:=⟨y.1,y.2.1,y.2.2.1⟩
def cvL (y:shL.T):Lm.C7:=⟨y.1,y.2.1,y.2.2.1,y.2.2.2.1,y.2.2.2.2.1,y.2.2.2.2.2.1.ad,y.2.2.2.2.2.1.cap,y.2.2.2.2.2.1.l.map u8of,cvR y.2.2.2.2.2.2.1,cvR y.2.2.2.2.2.2.2.1⟩
theorem enc_cvL (y:shL.T):Lm.encC7 (cvL y)=shL.enc y:=by
 show [_,_,_,_,_,Value.slice _ (y.2.2.2.2.2.1.l.map u8of).length _,_,_,_,_,_,_]=_
 rw [List.length_map];rfl
theorem rd_sevens {W:World} {x:(Sh.slice shL).T} (h:(Sh.slice shL).ok W x):RdS [Old W] 12 x.ad (x.l.map cvL).length ((x.l.map cvL).flatMap Lm.encC7):=by
 have e:(x.l.map cvL).flatMap Lm.encC7=x.l.flatMap shL.enc:=by rw [List.flatMap_map];congr 1;funext y;exact enc_cvL y
 rw [e,List.length_map];exact h.1
theorem sevens_ok {W:World} {x:(Sh.slice shL).T} (h:(Sh.slice shL).ok W x):∀ o∈x.l.map cvL,Lm.C7Ok [Old W] o:=fun o ho=>by
 obtain ⟨y,hy,rfl⟩:=List.mem_map.1 ho
 have h2:=h.2.2.2.2 y hy
 exact ⟨rd_u8 h2.2.2.2.2.2.1,by show (List.map u8of _).length≤_;rw [List.length_map];exact h2.2.2.2.2.2.1.2.1,h2.1,h2.2.2.1,h2.2.2.2.1,h2.2.2.2.2.1⟩
end Go.Proofs.YtmpemhbfgbochaaGreatDoor
namespace Go.Proofs.YtmpemhbfgbochaaGreatDoor
open Go.RX Go.RowKit
namespace Wo
theorem old_block {W w:World} (h:sep [Old W] (hp w)):∀ k,k < W.heap.size→w.heap[k]?=W.heap[k]?:=fun k hk=>by
 obtain ⟨h1,s1,x⟩:=sep.one .here h
 obtain ⟨o,ho⟩:∃ o,W.heap[k]?=some o:=⟨_,Array.getElem?_eq_getElem hk⟩
 rw [ho];refine hpo_up fun q c hc=>?_
 refine s1 (k,q) c ?_;rw [x (k,q) hk]
 show hpo W.heap[k]? q=some c
 rw [ho];exact hc
theorem tab_old {W : World} (h : Lib.TabIs Tryz.prog W "internal/strconv.uint64pow10" .u64 Lib.pow10Tab) : Tb [Old W] := fun w s => by
 have hb:=old_block s
 unfold Lib.TabIs World.var? at h ⊢
 cases hg : Tryz.prog.globalNamed "internal/strconv.uint64pow10" with
 | none=>rw [hg] at h;simp at h
 | some g =>
  rw [hg] at h;simp only [Option.bind_some] at h ⊢
  have hk:g < W.heap.size:=Decidable.byContradiction fun hn=>by
   rw [Array.getElem?_eq_none (by omega)] at h;simp at h
  rw [hb g hk];exact h
end Wo
end Go.Proofs.YtmpemhbfgbochaaGreatDoor
