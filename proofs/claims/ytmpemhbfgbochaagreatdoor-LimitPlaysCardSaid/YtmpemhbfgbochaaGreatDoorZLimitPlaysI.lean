/-
  The document's limiter (roundhouseref27): Come, Give.
-/
import Derived.Lib.ItoaNum
import Derived.Lib.Join
import Derived.Shelf.Strings.OnBuilder
import Derived.Shelf.Strconv.Itoa0
import Derived.Shelf.Strconv.Itoa1
import Derived.Shelf.LaysM
import Derived.Shelf.Strconv.Itoa2
import Derived.Shelf.Strconv.Itoa3
import Derived.Test.YtmpemhbfgbochaaGreatDoorProg
import Derived.Test.YtmpemhbfgbochaaGreatDoorZLimitPlaysH
set_option linter.unusedSimpArgs false
set_option linter.unusedVariables false
set_option linter.unnecessarySimpa false
set_option maxRecDepth 8000
set_option maxHeartbeats 2000000
open Go.RX.Hd (yv y2 n1 fk sk sr tH callE heldK qo qk qn qt qz qv endH thenN slots)
namespace Go.Proofs.YtmpemhbfgbochaaGreatDoor
open Go.RX Fx
namespace Lm
open Wo
open Bu
theorem qcome_ct (L:List SP) (ad:Option Addr) (c:Nat) (s t:SlA) (hs:SlOk s) (ht:SlOk t) (now:Int) (hn:InK .u64 now):Ct Tryz.prog 107 #[.slice ad 2 c,.int .u64 now] (Ow2 ad c s t::L) (fun _:Unit=>.tuple #[]) (fun _:Unit=>Ow2 ad c (cmS now s) (cmS now t)::L):=by
 refine Ct.o2 Tryz.func107 ?_;intro E
 show Hd E 23 _ _ _ _
 refine sr fun _ K1=>?_
 refine yv y_as<|fk [(0,_),(1,_),(4,_)] K1 ?_;refine Hd.block<|Hd.rounds 3 ?_;refine Hd.roundS ?_;refine Hd.seq fun _ K2=>?_
 refine sr fun _ K3=>?_
 refine yv y_mv<|yv (y_lss rfl rfl) ?_;refine fk [(0,_),(1,_),(4,_),(7,_)] K3 ?_;refine Hd.condT rfl ?_;refine qv K2<|Hd.seq fun _ K4=>?_
 refine Hd.block<|sr fun _ K5=>?_
 refine yv y_mv<|yv y_mv<|yv (y_idxR Tryz.underlying142 sz178 rfl rfl (by decide) (by exact RdS.own pkk)) ?_;refine yv (y_loadRn (vs:=encS s) ag178 rfl (RdS.own (ad:=ad) (us:=e12 s t) pkk) (by intro j v e;rcases j with _|_|_|_|_|_|j<;>first | exact e | exact absurd e (by simp)) sz178 (by simp)) ?_;refine Hd.alloc zr178 (fun b5=>?_);refine Hd.storeA (us:=encS s) sz178 rfl rfl rfl (by simp [Value.oneCell']) pkk (by exact rfl) ?_;refine fk [(0,_),(1,_),(4,_),(5,_)] K5 ?_;refine Hd.seq fun _ K6=>?_
 refine sr fun _ K7=>?_
 refine yv (y_f 0 4 Tryz.underlying178 sz4)<|yv (y_l1 ag4 rfl)<|fk [(0,_),(1,_),(4,_),(5,_),(15,_)] K7 ?_;refine qz ?_ ?_<;>intro hc1<;>try simp only [hyZ] at hc1
 ·have e0:cmS now s=⟨s.i,come s.b now⟩:=if_pos hc1
  refine Hd.region<|yv (y_f 1 176 Tryz.underlying178 sz176)<|yv y_mv<|callE rfl fk190 (qcomes_ct _ b5 s.i s.b (hs.1 hc1) now hn) sq ?_;intro _;refine fk [(0,_),(1,_),(4,_),(5,_)] K6 ?_;refine Hd.region<|yv y_mv<|yv y_mv<|yv (y_loadn (us:=[_,_,_,_,_,_]) ag178 rfl (Rd.pt pkk (by (first | (intro j v e;rcases j with _|_|_|_|_|_|_|_|_|_|_|_|j<;>first | exact e | exact absurd e (by simp))))) (by exact sz178)) ?_;refine yv (y_idxR Tryz.underlying142 sz178 rfl rfl (by decide) (by exact RdS.own pkk)) ?_;refine Hd.storeO (vs:=[_,_,_,_,_,_]) sz178 rfl rfl rfl (by simp [Value.oneCell']) pkk (by simp) (by simp) ?_;refine Hd.heap (Ow2 ad c (cmS now s) t::_) (fun q s=>Ent.sep (.eq pkk (own_eq3 rfl rfl (by rw [e0];rfl)) .same) q s) ?_;refine Hd.nil<|slots [(0,_),(1,_),(4,_)] sbq ?_;refine Hd.inB<|Hd.toK K4 ?_
  refine Hd.region<|yv y_mv<|yv (y_addn rfl rfl (by simp only [InK];omega)) ?_;refine yv y_as<|Hd.nil<|slots [(0,_),(1,_),(4,_)] sbq ?_;refine Hd.roundN ?_;refine Hd.seq fun _ K8=>?_
  refine sr fun _ K9=>?_
  refine yv y_mv<|yv (y_lss rfl rfl) ?_;refine fk [(0,_),(1,_),(4,_),(7,_)] K9 ?_;refine Hd.condT rfl ?_;refine qv K8<|Hd.seq fun _ K10=>?_
  refine Hd.block<|sr fun _ K11=>?_
  refine yv y_mv<|yv y_mv<|yv (y_idxR Tryz.underlying142 sz178 rfl rfl (by decide) (by exact RdS.own pkk)) ?_;refine yv (y_loadRn (vs:=encS t) ag178 rfl (by exact RdS.own (ad:=ad) pkk) (by intro j v e;rcases j with _|_|_|_|_|_|j<;>first | exact e | exact absurd e (by simp)) sz178 (by simp)) ?_;refine Hd.alloc zr178 (fun b5=>?_);refine Hd.storeA (us:=encS t) sz178 rfl rfl rfl (by simp [Value.oneCell']) pkk (by exact rfl) ?_;refine fk [(0,_),(1,_),(4,_),(5,_)] K11 ?_;refine Hd.seq fun _ K12=>?_
  refine sr fun _ K13=>?_
  refine yv (y_f 0 4 Tryz.underlying178 sz4)<|yv (y_l1 ag4 rfl)<|fk [(0,_),(1,_),(4,_),(5,_),(15,_)] K13 ?_;refine qz ?_ ?_<;>intro hc1<;>try simp only [hyZ] at hc1
  ·have e1:cmS now t=⟨t.i,come t.b now⟩:=if_pos hc1
   refine Hd.region<|yv (y_f 1 176 Tryz.underlying178 sz176)<|yv y_mv<|callE rfl fk190 (qcomes_ct _ b5 t.i t.b (ht.1 hc1) now hn) sq ?_;intro _;refine fk [(0,_),(1,_),(4,_),(5,_)] K12 ?_;refine Hd.region<|yv y_mv<|yv y_mv<|yv (y_loadn (us:=[_,_,_,_,_,_]) ag178 rfl (Rd.pt pkk (by (first | (intro j v e;rcases j with _|_|_|_|_|_|_|_|_|_|_|_|j<;>first | exact e | exact absurd e (by simp))))) (by exact sz178)) ?_;refine yv (y_idxR Tryz.underlying142 sz178 rfl rfl (by decide) (by exact RdS.own pkk)) ?_;refine Hd.storeO (vs:=[_,_,_,_,_,_]) sz178 rfl rfl rfl (by simp [Value.oneCell']) pkk (by simp) (by simp) ?_;refine Hd.heap (Ow2 ad c (cmS now s) (cmS now t)::_) (fun q s=>Ent.sep (.eq pkk (own_eq3 rfl rfl (by rw [e1];rfl)) .same) q s) ?_;refine Hd.nil<|slots [(0,_),(1,_),(4,_)] sbq ?_;refine Hd.inB ?_
   refine Hd.toK K10 ?_;refine Hd.region<|yv y_mv<|yv (y_addn rfl rfl (by simp only [InK];omega)) ?_;refine yv y_as<|Hd.nil<|slots [(0,_),(1,_),(4,_)] sbq ?_;refine Hd.roundN ?_;refine Hd.seq fun _ K14=>?_
   refine sr fun _ K15=>?_
   refine yv y_mv<|yv (y_lss rfl rfl) ?_;refine fk [(0,_),(1,_),(4,_),(7,_)] K15 ?_;refine Hd.condF rfl ?_;refine Hd.exit<|Hd.thenExit<|Hd.thenExit<|Hd.inBexit ?_;exact Hd.end0 rfl () rfl sq
  have e1:cmS now t=t:=if_neg (by rw [show t.i=false from hc1];decide)
  refine qv K12<|Hd.region<|yv y_mv<|yv y_mv<|yv (y_loadn (us:=[_,_,_,_,_,_]) ag178 rfl (Rd.pt pkk (by (first | (intro j v e;rcases j with _|_|_|_|_|_|_|_|_|_|_|_|j<;>first | exact e | exact absurd e (by simp))))) (by exact sz178)) ?_;refine yv (y_idxR Tryz.underlying142 sz178 rfl rfl (by decide) (by exact RdS.own pkk)) ?_;refine Hd.storeO (vs:=[_,_,_,_,_,_]) sz178 rfl rfl rfl (by simp [Value.oneCell']) pkk (by simp) (by simp) ?_;refine Hd.heap (Ow2 ad c (cmS now s) (cmS now t)::_) (fun q s=>Ent.sep (.eq pkk (own_eq3 rfl rfl (by rw [e1];rfl)) .same) q s) ?_;refine Hd.nil<|slots [(0,_),(1,_),(4,_)] sbq ?_;refine Hd.inB<|Hd.toK K10 ?_;refine Hd.region<|yv y_mv<|yv (y_addn rfl rfl (by simp only [InK];omega)) ?_;refine yv y_as<|Hd.nil<|slots [(0,_),(1,_),(4,_)] sbq ?_
  refine Hd.roundN ?_;refine Hd.seq fun _ K16=>?_
  refine sr fun _ K17=>?_
  refine yv y_mv<|yv (y_lss rfl rfl) ?_;refine fk [(0,_),(1,_),(4,_),(7,_)] K17 ?_;refine Hd.condF rfl ?_;refine Hd.exit<|Hd.thenExit<|Hd.thenExit<|Hd.inBexit ?_;exact Hd.end0 rfl () rfl sq
 have e0:cmS now s=s:=if_neg (by rw [show s.i=false from hc1];decide)
 refine qv K6<|Hd.region<|yv y_mv<|yv y_mv<|yv (y_loadn (us:=[_,_,_,_,_,_]) ag178 rfl (Rd.pt pkk (by (first | (intro j v e;rcases j with _|_|_|_|_|_|_|_|_|_|_|_|j<;>first | exact e | exact absurd e (by simp))))) (by exact sz178)) ?_;refine yv (y_idxR Tryz.underlying142 sz178 rfl rfl (by decide) (by exact RdS.own pkk)) ?_;refine Hd.storeO (vs:=[_,_,_,_,_,_]) sz178 rfl rfl rfl (by simp [Value.oneCell']) pkk (by simp) (by simp) ?_;refine Hd.heap (Ow2 ad c (cmS now s) t::_) (fun q s=>Ent.sep (.eq pkk (own_eq3 rfl rfl (by rw [e0];rfl)) .same) q s) ?_;refine Hd.nil<|slots [(0,_),(1,_),(4,_)] sbq ?_;refine Hd.inB<|Hd.toK K4 ?_;refine Hd.region<|yv y_mv<|yv (y_addn rfl rfl (by simp only [InK];omega)) ?_;refine yv y_as<|Hd.nil<|slots [(0,_),(1,_),(4,_)] sbq ?_;refine Hd.roundN ?_
 refine Hd.seq fun _ K18=>?_
 refine sr fun _ K19=>?_
 refine yv y_mv<|yv (y_lss rfl rfl) ?_;refine fk [(0,_),(1,_),(4,_),(7,_)] K19 ?_;refine Hd.condT rfl ?_;refine qv K18<|Hd.seq fun _ K20=>?_
 refine Hd.block<|sr fun _ K21=>?_
 refine yv y_mv<|yv y_mv<|yv (y_idxR Tryz.underlying142 sz178 rfl rfl (by decide) (by exact RdS.own pkk)) ?_;refine yv (y_loadRn (vs:=encS t) ag178 rfl (by exact RdS.own (ad:=ad) pkk) (by intro j v e;rcases j with _|_|_|_|_|_|j<;>first | exact e | exact absurd e (by simp)) sz178 (by simp)) ?_;refine Hd.alloc zr178 (fun b5=>?_);refine Hd.storeA (us:=encS t) sz178 rfl rfl rfl (by simp [Value.oneCell']) pkk (by exact rfl) ?_;refine fk [(0,_),(1,_),(4,_),(5,_)] K21 ?_;refine Hd.seq fun _ K22=>?_
 refine sr fun _ K23=>?_
 refine yv (y_f 0 4 Tryz.underlying178 sz4)<|yv (y_l1 ag4 rfl)<|fk [(0,_),(1,_),(4,_),(5,_),(15,_)] K23 ?_;refine qz ?_ ?_<;>intro hc1<;>try simp only [hyZ] at hc1
 ·have e1:cmS now t=⟨t.i,come t.b now⟩:=if_pos hc1
  refine Hd.region<|yv (y_f 1 176 Tryz.underlying178 sz176)<|yv y_mv<|callE rfl fk190 (qcomes_ct _ b5 t.i t.b (ht.1 hc1) now hn) sq ?_;intro _;refine fk [(0,_),(1,_),(4,_),(5,_)] K22 ?_;refine Hd.region<|yv y_mv<|yv y_mv<|yv (y_loadn (us:=[_,_,_,_,_,_]) ag178 rfl (Rd.pt pkk (by (first | (intro j v e;rcases j with _|_|_|_|_|_|_|_|_|_|_|_|j<;>first | exact e | exact absurd e (by simp))))) (by exact sz178)) ?_;refine yv (y_idxR Tryz.underlying142 sz178 rfl rfl (by decide) (by exact RdS.own pkk)) ?_;refine Hd.storeO (vs:=[_,_,_,_,_,_]) sz178 rfl rfl rfl (by simp [Value.oneCell']) pkk (by simp) (by simp) ?_;refine Hd.heap (Ow2 ad c (cmS now s) (cmS now t)::_) (fun q s=>Ent.sep (.eq pkk (own_eq3 rfl rfl (by rw [e1];rfl)) .same) q s) ?_;refine Hd.nil<|slots [(0,_),(1,_),(4,_)] sbq ?_;refine Hd.inB ?_
  refine Hd.toK K20 ?_;refine Hd.region<|yv y_mv<|yv (y_addn rfl rfl (by simp only [InK];omega)) ?_;refine yv y_as<|Hd.nil<|slots [(0,_),(1,_),(4,_)] sbq ?_;refine Hd.roundN ?_;refine Hd.seq fun _ K24=>?_
  refine sr fun _ K25=>?_
  refine yv y_mv<|yv (y_lss rfl rfl) ?_;refine fk [(0,_),(1,_),(4,_),(7,_)] K25 ?_;refine Hd.condF rfl ?_;refine Hd.exit<|Hd.thenExit<|Hd.thenExit<|Hd.inBexit ?_;exact Hd.end0 rfl () rfl sq
 have e1:cmS now t=t:=if_neg (by rw [show t.i=false from hc1];decide)
 refine qv K22<|Hd.region<|yv y_mv<|yv y_mv<|yv (y_loadn (us:=[_,_,_,_,_,_]) ag178 rfl (Rd.pt pkk (by (first | (intro j v e;rcases j with _|_|_|_|_|_|_|_|_|_|_|_|j<;>first | exact e | exact absurd e (by simp))))) (by exact sz178)) ?_;refine yv (y_idxR Tryz.underlying142 sz178 rfl rfl (by decide) (by exact RdS.own pkk)) ?_;refine Hd.storeO (vs:=[_,_,_,_,_,_]) sz178 rfl rfl rfl (by simp [Value.oneCell']) pkk (by simp) (by simp) ?_;refine Hd.heap (Ow2 ad c (cmS now s) (cmS now t)::_) (fun q s=>Ent.sep (.eq pkk (own_eq3 rfl rfl (by rw [e1];rfl)) .same) q s) ?_;refine Hd.nil<|slots [(0,_),(1,_),(4,_)] sbq ?_;refine Hd.inB<|Hd.toK K20 ?_;refine Hd.region<|yv y_mv<|yv (y_addn rfl rfl (by simp only [InK];omega)) ?_;refine yv y_as<|Hd.nil<|slots [(0,_),(1,_),(4,_)] sbq ?_
 refine Hd.roundN ?_;refine Hd.seq fun _ K26=>?_
 refine sr fun _ K27=>?_
 refine yv y_mv<|yv (y_lss rfl rfl) ?_;refine fk [(0,_),(1,_),(4,_),(7,_)] K27 ?_;refine Hd.condF rfl ?_;refine Hd.exit<|Hd.thenExit<|Hd.thenExit<|Hd.inBexit ?_;exact Hd.end0 rfl () rfl sq
abbrev e6 (r t:RtA):List Value:=[.int .i64 r.many,.int .u64 r.every,.int .i64 r.burst,.int .i64 t.many,.int .u64 t.every,.int .i64 t.burst]
def gvA (m:Bool) (now:Int) (r:RtA) (s:SlA):SlA:=if m=true then gvS now r s else s
def gvE (m:Bool):Int:=if m=true then 0 else 80
theorem qgive_ct (L:List SP) (ad:Option Addr) (c:Nat) (s t:SlA) (hs:SlOk s) (ht:SlOk t) (now:Int) (hn:InK .u64 now) (ar:Option Addr) (cr:Nat) (r0 r1:RtA) (hR:RdS L 3 ar 2 (e6 r0 r1)):Ct Tryz.prog 91 #[.slice ad 2 c,.int .u64 now,.slice ar 2 cr] (Ow2 ad c s t::L) (fun q_:Option Addr×Nat=>.tuple #[.slice q_.1 2 q_.2,.int .i64 (gvE (mayR r0 && mayR r1))]) (fun q_:Option Addr×Nat=>Ow2 q_.1 q_.2 (gvA (mayR r0 && mayR r1) now r0 s) (gvA (mayR r0 && mayR r1) now r1 t)::L):=by
 refine Ct.o3 Tryz.func91 ?_;intro E
 show Hd E 75 _ _ _ _
 refine sr fun _ K1=>?_
 refine yv y_as<|yv y_as<|fk [(0,_),(1,_),(2,_)] K1 ?_;refine Hd.seq fun _ K2=>?_
 refine sr fun _ K3=>?_
 refine yv y_as<|fk [(0,_),(1,_),(2,_),(8,_)] K3 ?_;refine Hd.block<|Hd.rounds 3 ?_;refine Hd.roundS ?_;refine Hd.seq fun _ K4=>?_
 refine sr fun _ K5=>?_
 refine yv y_mv<|yv (y_lss rfl rfl) ?_;refine fk [(0,_),(1,_),(2,_),(8,_),(17,_)] K5 ?_;refine Hd.condT rfl ?_;refine qv K4<|Hd.seq fun _ K6=>?_
 refine Hd.block<|sr fun _ K7=>?_
 refine yv y_mv<|yv y_mv<|yv (y_idxR Tryz.underlying157 sz155 rfl rfl (by decide) (by exact RdS.mono hR sq)) ?_;refine yv (y_loadRn (vs:=encRt r0) ag155 rfl (RdS.mono hR sq) (by intro j v e;rcases j with _|_|_|j<;>first | exact e | (simp at e;done)) sz155 (by simp)) ?_;refine callE rfl fk175 (qmayr_ct _ r0) sq ?_;intro _;refine yv y_as<|fk [(0,_),(1,_),(2,_),(8,_),(9,_)] K7 ?_;refine sr fun _ K8=>?_
 refine yv y_mv<|yv (y_not rfl)<|fk [(0,_),(1,_),(2,_),(8,_),(26,_)] K8 ?_;refine qz ?_ ?_<;>intro hc1<;>try simp only [hyZ] at hc1
 ·have hb:(mayR r0 && mayR r1)=false:=by rw [show mayR r0=false from hc1];rfl
  refine sr fun _ K9=>?_
  refine yv y_mv<|yv y_as<|yv y_as<|fk [(6,_),(7,_)] K9 ?_;refine Hd.ret<|Hd.inBret<|Hd.thenRet<|Hd.thenRet<|Hd.inBret<|Hd.thenRet ?_;rw [hb];exact Hd.ret2 rfl (ad,c) rfl rfl rfl (Ent.sep (.eq (A:=Ow2 ad c s t) pkk (by rfl) enn))
 have m0:mayR r0=true:=hc1
 refine Hd.skip<|Hd.inB<|Hd.toK K6 ?_;refine Hd.region<|yv y_mv<|yv (y_addn rfl rfl (by simp only [InK];omega)) ?_;refine yv y_as<|Hd.nil<|slots [(0,_),(1,_),(2,_),(8,_)] sbq ?_;refine Hd.roundN ?_;refine Hd.seq fun _ K10=>?_
 refine sr fun _ K11=>?_
 refine yv y_mv<|yv (y_lss rfl rfl) ?_;refine fk [(0,_),(1,_),(2,_),(8,_),(17,_)] K11 ?_;refine Hd.condT rfl ?_;refine qv K10<|Hd.seq fun _ K12=>?_
 refine Hd.block<|sr fun _ K13=>?_
 refine yv y_mv<|yv y_mv<|yv (y_idxR Tryz.underlying157 sz155 rfl rfl (by decide) (by exact RdS.mono hR sq)) ?_
 have _d:=m0;refine yv (y_loadRn (vs:=encRt r1) ag155 rfl (RdS.mono hR sq) (by intro j v e;rcases j with _|_|_|j<;>first | exact e | (simp at e;done)) sz155 (by simp)) ?_
 have _d:=m0;refine callE rfl fk175 (qmayr_ct _ r1) sq ?_
 intro _;refine yv y_as<|fk [(0,_),(1,_),(2,_),(8,_),(9,_)] K13 ?_;refine sr fun _ K14=>?_
 refine yv y_mv<|yv (y_not rfl)<|fk [(0,_),(1,_),(2,_),(8,_),(26,_)] K14 ?_;refine qz ?_ ?_<;>intro hc1<;>try simp only [hyZ] at hc1
 ·have _d:=m0;have hb:(mayR r0 && mayR r1)=false:=by rw [show mayR r1=false from hc1,Bool.and_false]
  refine sr fun _ K15=>?_
  refine yv y_mv<|yv y_as<|yv y_as<|fk [(6,_),(7,_)] K15 ?_;refine Hd.ret<|Hd.inBret<|Hd.thenRet<|Hd.thenRet<|Hd.inBret<|Hd.thenRet ?_;rw [hb];exact Hd.ret2 rfl (ad,c) rfl rfl rfl (Ent.sep (.eq (A:=Ow2 ad c s t) pkk (by rfl) enn))
 have _d:=m0;have m1:mayR r1=true:=hc1
 refine Hd.skip<|Hd.inB<|Hd.toK K12 ?_;refine Hd.region<|yv y_mv<|yv (y_addn rfl rfl (by simp only [InK];omega)) ?_;refine yv y_as<|Hd.nil<|slots [(0,_),(1,_),(2,_),(8,_)] sbq ?_;refine Hd.roundN ?_;refine Hd.seq fun _ K16=>?_
 refine sr fun _ K17=>?_
 refine yv y_mv<|yv (y_lss rfl rfl) ?_;refine fk [(0,_),(1,_),(2,_),(8,_),(17,_)] K17 ?_;refine Hd.condF rfl ?_;refine Hd.exit<|Hd.thenExit<|Hd.thenExit<|Hd.inBexit<|Hd.toK K2 ?_;refine sr fun _ K18=>?_
 refine Hd.bslice (vs:=[]) rfl (by exact bs91_28 ..) (fun b28=>?_);refine Hd.ownNil 178 6 (some ⟨b28,0,none⟩) ?_;refine yv y_mv<|Hd.append Tryz.underlying142 ty178 rfl rfl rfl pkk (by first | exact RdS.rd (Rd.pt pkk (fun j v e=>by simpa using e)) rfl | (exact RdS.own pkk)) (by simp [Value.oneCell'];done) (by simp only [maxLen];omega) (by omega) (fun ad30 cap30=>?_);refine yv y_as<|Hd.nil<|Hd.heap (Ow2 ad30 cap30 s t::_) (fun q z=>Ent.sep (.eq (A:=own _ 6 ad30 _ cap30 _) pkk (own_eq3 (by rfl) rfl (by rfl)) .same) q z) ?_;refine sk [(1,_),(2,_),(10,_)] K18 ?_;refine Hd.seq fun _ K19=>?_
 refine sr fun _ K20=>?_
 refine yv y_as<|fk [(1,_),(2,_),(10,_),(11,_)] K20 ?_;refine Hd.block<|Hd.rounds 3 ?_;refine Hd.roundS ?_;refine Hd.seq fun _ K21=>?_
 refine sr fun _ K22=>?_
 refine yv y_mv<|yv (y_lss rfl rfl) ?_;refine fk [(1,_),(2,_),(10,_),(11,_),(32,_)] K22 ?_;refine Hd.condT rfl ?_;refine qv K21<|Hd.seq fun _ K23=>?_
 refine Hd.block<|sr fun _ K24=>?_
 refine yv y_mv<|yv y_mv<|yv (y_idxR Tryz.underlying157 sz155 rfl rfl (by decide) (by exact RdS.mono hR sq)) ?_;refine yv (y_loadRn (vs:=encRt r0) ag155 rfl (RdS.mono hR sq) (by intro j v e;rcases j with _|_|_|j<;>first | exact e | (simp at e;done)) sz155 (by simp)) ?_;refine Hd.alloc zr155 (fun b12=>?_);refine Hd.storeA (us:=encRt r0) sz155 rfl rfl rfl (by simp [Value.oneCell']) pkk (by exact rfl) ?_;refine fk [(1,_),(2,_),(10,_),(11,_),(12,_)] K24 ?_;refine sr fun _ K25=>?_
 refine yv y_mv<|yv y_mv<|yv (y_idxR Tryz.underlying142 sz178 rfl rfl (by decide) (by exact RdS.own pkk)) ?_;refine yv (y_loadRn (vs:=encS s) ag178 rfl (RdS.own (ad:=ad30) (us:=e12 s t) pkk) (by intro j v e;rcases j with _|_|_|_|_|_|j<;>first | exact e | (simp at e;done)) sz178 (by simp)) ?_;refine Hd.alloc zr178 (fun b13=>?_);refine Hd.storeA (us:=encS s) sz178 rfl rfl rfl (by simp [Value.oneCell']) pkk (by exact rfl) ?_;refine fk [(1,_),(2,_),(10,_),(11,_),(12,_),(13,_)] K25 ?_;refine Hd.cutK (ι:=Unit) [(1,_),(2,_),(10,_),(11,_),(13,_)] (fun _=>[]) (fun _=>pt b13 (encS (gvS now r0 s)) 178::Ow2 ad30 cap30 s t::L) ?_ ?_ ⟨rfl,rfl,rfl,rfl,rfl,trivial⟩
 ·refine sr fun _ K26=>?_
  refine yv (y_loadn (us:=encRt r0) ag155 rfl (Rd.pt pkk (fun j v e=>by rw [Nat.zero_add];exact e)) (by exact sz155)) ?_;refine callE rfl fk176 (qnone_ct _ r0) sq ?_;intro _;refine fk [(1,_),(2,_),(10,_),(11,_),(12,_),(13,_),(44,_)] K26 ?_;refine qz ?_ ?_<;>intro hc3<;>try simp only [hyZ] at hc3
  ·have g:gvS now r0 s=noSl:=if_pos hc3
   refine Hd.region<|yv (y_build (vs:=[]) rfl (by exact bd91_45 ..)) ?_;refine Hd.storeA (us:=encS noSl) sz178 rfl rfl rfl (by simp [Value.oneCell']) pkk (by exact rfl) ?_;refine Hd.nil<|slots [(1,_),(2,_),(10,_),(11,_),(13,_)] sbq ?_;refine thenN ?_;rw [g];exact Hd.meet () sbq (Ent.sep (.eq (A:=pt b13 _ _) pkk (pt_eq (by rfl)) enn))
  refine sr fun _ K27=>?_
  refine yv (y_f 0 4 Tryz.underlying178 sz4)<|yv (y_l1 ag4 rfl)<|fk [(1,_),(2,_),(10,_),(11,_),(12,_),(13,_),(47,_)] K27 ?_;refine qz ?_ ?_<;>intro hc4<;>try simp only [hyZ] at hc4
  ·have g:gvS now r0 s=⟨s.i,setK s.b now r0⟩:=(if_neg (by rw [hc3];decide)).trans (if_pos hc4)
   refine Hd.region<|yv (y_f 1 176 Tryz.underlying178 sz176)<|yv y_mv<|yv (y_f 0 2 Tryz.underlying155 sz2)<|yv (y_l1 ag2 rfl)<|yv (y_f 1 29 Tryz.underlying155 sz29)<|yv (y_l1 ag29 rfl)<|yv (y_f 2 2 Tryz.underlying155 sz2)<|yv (y_l1 ag2 rfl)<|callE rfl fk177 (qset_ct _ b13 s.i s.b (hs.1 hc4) now hn r0 (rt_of m0 hc3)) sq ?_;intro _;refine Hd.nil<|slots [(1,_),(2,_),(10,_),(11,_),(13,_)] sbq ?_;refine thenN ?_;rw [g];exact Hd.meet () sbq (Ent.sep (.eq (A:=pt b13 _ _) pkk (pt_eq (by rfl)) enn))
  have g:gvS now r0 s=⟨true,newK r0 now⟩:=(if_neg (by rw [hc3];decide)).trans (if_neg (by rw [hc4];decide))
  refine sr fun _ K28=>?_
  refine yv (y_f 0 2 Tryz.underlying155 sz2)<|yv (y_l1 ag2 rfl)<|yv (y_f 1 29 Tryz.underlying155 sz29)<|yv (y_l1 ag29 rfl)<|yv (y_f 2 2 Tryz.underlying155 sz2)<|yv (y_l1 ag2 rfl)<|yv y_mv<|callE rfl fk178 (qnew_ct _ r0 (rt_of m0 hc3) now) sq ?_;intro _;refine yv y_mv<|yv y_ex<|yv y_ex<|Hd.alloc zr176 (fun b14=>?_);refine Hd.storeA (us:=encQb (newK r0 now)) sz176 rfl rfl rfl (by simp [Value.oneCell']) pkk (by exact rfl) ?_;refine yv y_as<|fk [(1,_),(2,_),(10,_),(11,_),(13,_),(14,_)] K28 ?_;refine Hd.region<|yv (y_loadn (us:=encQb (newK r0 now)) ag176 rfl (Rd.pt pkk (fun j v e=>by rw [Nat.zero_add];exact e)) (by exact sz176)) ?_;refine yv (y_build (vs:=[(0,_),(1,_)]) rfl (by exact bd91_69 ..)) ?_;refine Hd.storeA (us:=encS ⟨true,newK r0 now⟩) sz178 rfl rfl rfl (by simp [Value.oneCell']) pkk (by exact rfl) ?_
  refine Hd.nil<|slots [(1,_),(2,_),(10,_),(11,_),(13,_)] sbq ?_;refine thenN ?_;rw [g];exact Hd.meet () sbq (Ent.sep (.eq (A:=pt b13 _ _) pkk (pt_eq (by rfl)) enn))
 intro _;refine Hd.region<|yv y_mv<|yv y_mv<|yv (y_loadn (us:=encS (gvS now r0 s)) ag178 rfl (Rd.pt pkk (fun j v e=>by rw [Nat.zero_add];exact e)) (by exact sz178)) ?_;refine yv (y_idxR Tryz.underlying142 sz178 rfl rfl (by decide) (by exact RdS.own pkk)) ?_;refine Hd.storeO (ad:=ad30) (vs:=encS (gvS now r0 s)) (us:=e12 s t) sz178 rfl rfl rfl (by simp [Value.oneCell']) pkk (by simp) (by simp) ?_;refine Hd.heap (Ow2 ad30 cap30 (gvS now r0 s) t::_) (fun q z=>Ent.sep (.eq (A:=own _ 6 ad30 2 cap30 _) pkk (own_eq3 rfl rfl (by rfl)) .same) q z) ?_
 have done0:True:=trivial
 refine Hd.nil<|slots [(1,_),(2,_),(10,_),(11,_)] sbq ?_;refine Hd.inB<|Hd.toK K23 ?_;refine Hd.region<|yv y_mv<|yv (y_addn rfl rfl (by simp only [InK];omega)) ?_;refine yv y_as<|Hd.nil<|slots [(1,_),(2,_),(10,_),(11,_)] sbq ?_;refine Hd.roundN ?_;refine Hd.seq fun _ K29=>?_
 refine sr fun _ K30=>?_
 refine yv y_mv<|yv (y_lss rfl rfl) ?_;refine fk [(1,_),(2,_),(10,_),(11,_),(32,_)] K30 ?_;refine Hd.condT rfl ?_;refine qv K29<|Hd.seq fun _ K31=>?_
 refine Hd.block<|sr fun _ K32=>?_
 refine yv y_mv<|yv y_mv<|yv (y_idxR Tryz.underlying157 sz155 rfl rfl (by decide) (by exact RdS.mono hR sq)) ?_
 have _d:=done0;refine yv (y_loadRn (vs:=encRt r1) ag155 rfl (RdS.mono hR sq) (by intro j v e;rcases j with _|_|_|j<;>first | exact e | (simp at e;done)) sz155 (by simp)) ?_
 refine Hd.alloc zr155 (fun b12=>?_)
 have _d:=done0;refine Hd.storeA (us:=encRt r1) sz155 rfl rfl rfl (by simp [Value.oneCell']) pkk (by exact rfl) ?_
 refine fk [(1,_),(2,_),(10,_),(11,_),(12,_)] K32 ?_;refine sr fun _ K33=>?_
 refine yv y_mv<|yv y_mv<|yv (y_idxR Tryz.underlying142 sz178 rfl rfl (by decide) (by exact RdS.own pkk)) ?_
 have _d:=done0;refine yv (y_loadRn (vs:=encS t) ag178 rfl (RdS.own (ad:=ad30) (us:=e12 (gvS now r0 s) t) pkk) (by intro j v e;rcases j with _|_|_|_|_|_|j<;>first | exact e | (simp at e;done)) sz178 (by simp)) ?_
 refine Hd.alloc zr178 (fun b13=>?_)
 have _d:=done0;refine Hd.storeA (us:=encS t) sz178 rfl rfl rfl (by simp [Value.oneCell']) pkk (by exact rfl) ?_
 refine fk [(1,_),(2,_),(10,_),(11,_),(12,_),(13,_)] K33 ?_
 have _d:=done0;refine Hd.cutK (ι:=Unit) [(1,_),(2,_),(10,_),(11,_),(13,_)] (fun _=>[]) (fun _=>pt b13 (encS (gvS now r1 t)) 178::Ow2 ad30 cap30 (gvS now r0 s) t::L) ?_ ?_ ⟨rfl,rfl,rfl,rfl,rfl,trivial⟩
 ·refine sr fun _ K34=>?_
  have _d:=done0;refine yv (y_loadn (us:=encRt r1) ag155 rfl (Rd.pt pkk (fun j v e=>by rw [Nat.zero_add];exact e)) (by exact sz155)) ?_
  have _d:=done0;refine callE rfl fk176 (qnone_ct _ r1) sq ?_
  intro _;refine fk [(1,_),(2,_),(10,_),(11,_),(12,_),(13,_),(44,_)] K34 ?_;refine qz ?_ ?_<;>intro hc3<;>try simp only [hyZ] at hc3
  ·have _d:=done0;have g:gvS now r1 t=noSl:=if_pos hc3
   refine Hd.region<|yv (y_build (vs:=[]) rfl (by exact bd91_45 ..)) ?_;refine Hd.storeA (us:=encS noSl) sz178 rfl rfl rfl (by simp [Value.oneCell']) pkk (by exact rfl) ?_;refine Hd.nil<|slots [(1,_),(2,_),(10,_),(11,_),(13,_)] sbq ?_;refine thenN ?_;rw [g];exact Hd.meet () sbq (Ent.sep (.eq (A:=pt b13 _ _) pkk (pt_eq (by rfl)) enn))
  refine sr fun _ K35=>?_
  refine yv (y_f 0 4 Tryz.underlying178 sz4)<|yv (y_l1 ag4 rfl)<|fk [(1,_),(2,_),(10,_),(11,_),(12,_),(13,_),(47,_)] K35 ?_;refine qz ?_ ?_<;>intro hc4<;>try simp only [hyZ] at hc4
  ·have _d:=done0;have g:gvS now r1 t=⟨t.i,setK t.b now r1⟩:=(if_neg (by rw [hc3];decide)).trans (if_pos hc4)
   refine Hd.region<|yv (y_f 1 176 Tryz.underlying178 sz176)<|yv y_mv<|yv (y_f 0 2 Tryz.underlying155 sz2)<|yv (y_l1 ag2 rfl)<|yv (y_f 1 29 Tryz.underlying155 sz29)<|yv (y_l1 ag29 rfl)<|yv (y_f 2 2 Tryz.underlying155 sz2)<|yv (y_l1 ag2 rfl) ?_
   have _d:=done0;refine callE rfl fk177 (qset_ct _ b13 t.i t.b (ht.1 hc4) now hn r1 (rt_of m1 hc3)) sq ?_
   intro _;refine Hd.nil<|slots [(1,_),(2,_),(10,_),(11,_),(13,_)] sbq ?_;refine thenN ?_;rw [g];exact Hd.meet () sbq (Ent.sep (.eq (A:=pt b13 _ _) pkk (pt_eq (by rfl)) enn))
  have _d:=done0;have g:gvS now r1 t=⟨true,newK r1 now⟩:=(if_neg (by rw [hc3];decide)).trans (if_neg (by rw [hc4];decide))
  refine sr fun _ K36=>?_
  refine yv (y_f 0 2 Tryz.underlying155 sz2)<|yv (y_l1 ag2 rfl)<|yv (y_f 1 29 Tryz.underlying155 sz29)<|yv (y_l1 ag29 rfl)<|yv (y_f 2 2 Tryz.underlying155 sz2)<|yv (y_l1 ag2 rfl)<|yv y_mv ?_
  have _d:=done0;refine callE rfl fk178 (qnew_ct _ r1 (rt_of m1 hc3) now) sq ?_
  intro _;refine yv y_mv<|yv y_ex<|yv y_ex<|Hd.alloc zr176 (fun b14=>?_)
  have _d:=done0;refine Hd.storeA (us:=encQb (newK r1 now)) sz176 rfl rfl rfl (by simp [Value.oneCell']) pkk (by exact rfl) ?_
  refine yv y_as<|fk [(1,_),(2,_),(10,_),(11,_),(13,_),(14,_)] K36 ?_;refine Hd.region ?_
  have _d:=done0;refine yv (y_loadn (us:=encQb (newK r1 now)) ag176 rfl (Rd.pt pkk (fun j v e=>by rw [Nat.zero_add];exact e)) (by exact sz176)) ?_
  refine yv (y_build (vs:=[(0,_),(1,_)]) rfl (by exact bd91_69 ..)) ?_
  have _d:=done0;refine Hd.storeA (us:=encS ⟨true,newK r1 now⟩) sz178 rfl rfl rfl (by simp [Value.oneCell']) pkk (by exact rfl) ?_
  refine Hd.nil<|slots [(1,_),(2,_),(10,_),(11,_),(13,_)] sbq ?_;refine thenN ?_;rw [g];exact Hd.meet () sbq (Ent.sep (.eq (A:=pt b13 _ _) pkk (pt_eq (by rfl)) enn))
 intro _;refine Hd.region<|yv y_mv<|yv y_mv ?_
 have _d:=done0;refine yv (y_loadn (us:=encS (gvS now r1 t)) ag178 rfl (Rd.pt pkk (fun j v e=>by rw [Nat.zero_add];exact e)) (by exact sz178)) ?_
 refine yv (y_idxR Tryz.underlying142 sz178 rfl rfl (by decide) (by exact RdS.own pkk)) ?_
 have _d:=done0;refine Hd.storeO (ad:=ad30) (vs:=encS (gvS now r1 t)) (us:=e12 (gvS now r0 s) t) sz178 rfl rfl rfl (by simp [Value.oneCell']) pkk (by simp) (by simp) ?_;refine Hd.heap (Ow2 ad30 cap30 (gvS now r0 s) (gvS now r1 t)::_) (fun q z=>Ent.sep (.eq (A:=own _ 6 ad30 2 cap30 _) pkk (own_eq3 rfl rfl (by rfl)) .same) q z) ?_
 have done0:True:=trivial
 refine Hd.nil<|slots [(1,_),(2,_),(10,_),(11,_)] sbq ?_;refine Hd.inB<|Hd.toK K31 ?_;refine Hd.region<|yv y_mv<|yv (y_addn rfl rfl (by simp only [InK];omega)) ?_;refine yv y_as<|Hd.nil<|slots [(1,_),(2,_),(10,_),(11,_)] sbq ?_;refine Hd.roundN ?_;refine Hd.seq fun _ K37=>?_
 refine sr fun _ K38=>?_
 refine yv y_mv<|yv (y_lss rfl rfl) ?_;refine fk [(1,_),(2,_),(10,_),(11,_),(32,_)] K38 ?_;refine Hd.condF rfl ?_;refine Hd.exit<|Hd.thenExit<|Hd.thenExit<|Hd.inBexit<|Hd.toK K19 ?_;refine sr fun _ K39=>?_
 refine yv y_mv<|yv y_as<|yv y_as<|fk [(6,_),(7,_)] K39 ?_;refine Hd.ret ?_;rw [show (mayR r0 && mayR r1)=true by rw [m0,m1];rfl];exact Hd.ret2 rfl (ad30,cap30) rfl rfl rfl (Ent.sep (.eq (A:=Ow2 ad30 cap30 (gvS now r0 s) (gvS now r1 t)) pkk (by rfl) enn))
abbrev LqH (lq bb:Nat) (ad:Option Addr) (c:Nat) (g:Int):SP:=pt lq [.pointer (some ⟨bb,0,none⟩),.slice ad 2 c,.int .i64 g] 150
theorem cm_idem {now:Int} (hn:InK .u64 now) {s:SlA} (h:SlOk s):cmS now (cmS now s)=cmS now s:=by
 unfold cmS
 by_cases hi:s.i=true
 ·rw [if_pos hi,if_pos hi,come_idem (h.1 hi) hn]
 ·rw [if_neg hi,if_neg hi]
abbrev lv0 (now:Int) (s u:SlA):Int:=lvQ (cmS now s) (cmS now u)
theorem lvQ_in (s u:SlA):0≤lvQ s u∧lvQ s u≤4096:=by unfold lvQ;omega
theorem qleaves_ct (L:List SP) (lq bb:Nat) (ad:Option Addr) (c:Nat) (g:Int) (s0 s1:SlA) (ga:Option Addr) (gc:Nat) (u0 u1:SlA) (hs0:SlOk s0) (hs1:SlOk s1) (hu0:SlOk u0) (hu1:SlOk u1) (now:Int) (hn:InK .u64 now):Ct Tryz.prog 103 #[.pointer (some ⟨lq,0,none⟩),.slice ga 2 gc,.int .u64 now] (LqH lq bb ad c g::Ow2 ad c s0 s1::Ow2 ga gc u0 u1::L) (fun _:Unit=>.tuple #[.int .i64 (lv0 now s0 u0),.int .i64 (lv0 now s1 u1)]) (fun _:Unit=>LqH lq bb ad c g::Ow2 ad c (cmS now s0) (cmS now s1)::Ow2 ga gc (cmS now u0) (cmS now u1)::L):=by
 refine Ct.o3 Tryz.func103 ?_;intro E
 show Hd E 37 _ _ _ _
 refine sr fun _ K1=>?_
 refine yv y_as<|yv y_as<|fk [(0,_),(1,_),(2,_)] K1 ?_;refine sr fun _ K2=>?_
 refine yv y_mv<|yv y_np<|yv (y_f 1 142 Tryz.underlying150 sz142)<|yv (y_l1 ag142 rfl)<|yv y_mv<|callE rfl fk107 (qcome_ct _ ad c s0 s1 hs0 hs1 now hn) sq ?_;intro _;refine fk [(0,_),(1,_),(2,_)] K2 ?_;refine sr fun _ K3=>?_
 refine yv y_mv<|yv y_mv<|callE rfl fk107 (qcome_ct _ ga gc u0 u1 hu0 hu1 now hn) sq ?_;intro _;refine fk [(0,_),(1,_)] K3 ?_;refine Hd.seq fun _ K4=>?_
 refine Hd.quiet mixed kq ?_;refine Hq.yv y_mv ?_;refine Hq.yv y_np ?_;refine Hq.yv (y_f 1 142 Tryz.underlying150 sz142) ?_;refine Hq.yv (y_l1 ag142 rfl) ?_;refine Hq.yv (y_idxR Tryz.underlying142 sz178 rfl rfl (by exact (show (0:Nat) < _ by omega)) (by exact RdS.own pkk)) ?_;refine Hq.yv (y_loadRn (vs:=encS (cmS now s0)) ag178 rfl (RdS.own (ad:=ad) (us:=e12 (cmS now s0) (cmS now s1)) pkk) (by intro j v e;rcases j with _|_|_|_|_|_|j<;>first | exact e | (simp at e;done)) sz178 (by simp)) ?_;refine Hq.yv y_mv ?_;refine Hq.yv (y_idxR Tryz.underlying142 sz178 rfl rfl (by exact (show (0:Nat) < _ by omega)) (by exact RdS.own pkk)) ?_;refine Hq.yv (y_loadRn (vs:=encS (cmS now u0)) ag178 rfl (RdS.own (ad:=ga) (us:=e12 (cmS now u0) (cmS now u1)) pkk) (by intro j v e;rcases j with _|_|_|_|_|_|j<;>first | exact e | (simp at e;done)) sz178 (by simp)) ?_;refine Hq.call rfl fk187 ((qleave_ct _ (cmS now s0) (cmS now u0) (cmS_ok hn hs0) (cmS_ok hn hu0)).swap sq sq) ?_
 refine Hq.yv y_mv ?_;refine Hq.yv y_np ?_;refine Hq.yv (y_f 1 142 Tryz.underlying150 sz142) ?_;refine Hq.yv (y_l1 ag142 rfl) ?_;refine Hq.yv (y_idxR Tryz.underlying142 sz178 rfl rfl (by exact (show (1:Nat) < _ by omega)) (by exact RdS.own pkk)) ?_;refine Hq.yv (y_loadRn (vs:=encS (cmS now s1)) ag178 rfl (RdS.own (ad:=ad) (us:=e12 (cmS now s0) (cmS now s1)) pkk) (by intro j v e;rcases j with _|_|_|_|_|_|j<;>first | exact e | (simp at e;done)) sz178 (by simp)) ?_;refine Hq.yv y_mv ?_;refine Hq.yv (y_idxR Tryz.underlying142 sz178 rfl rfl (by exact (show (1:Nat) < _ by omega)) (by exact RdS.own pkk)) ?_;refine Hq.yv (y_loadRn (vs:=encS (cmS now u1)) ag178 rfl (RdS.own (ad:=ga) (us:=e12 (cmS now u0) (cmS now u1)) pkk) (by intro j v e;rcases j with _|_|_|_|_|_|j<;>first | exact e | (simp at e;done)) sz178 (by simp)) ?_;refine Hq.call rfl fk187 ((qleave_ct _ (cmS now s1) (cmS now u1) (cmS_ok hn hs1) (cmS_ok hn hu1)).swap sq sq) ?_
 refine Hq.yv y_as ?_;refine Hq.yv y_as ?_;refine Hq.nil ?_;refine sk [(6,_),(7,_)] K4 ?_;refine Hd.ret ?_;exact Hd.ret2 rfl () rfl rfl rfl sq
def lwQ (n r w:Int):Int:=(if hasA n 0=true∧0 < r then 2 else 0) + (if hasA n 1=true∧0 < w then 4 else 0)
theorem six0 {n:Int} (h:Six n):n / 2 % 2=1↔hasA n 0=true:=by rcases h with rfl | rfl | rfl | rfl<;>decide
theorem six1 {n:Int} (h:Six n):n / 4 % 2=1↔hasA n 1=true:=by rcases h with rfl | rfl | rfl | rfl<;>decide
theorem six2 {n:Int} (h:Six n):n / 2 / 2 % 2=1↔hasA n 1=true:=by rcases h with rfl | rfl | rfl | rfl<;>decide
theorem qwants_ct (L:List SP) (lq bb:Nat) (ad:Option Addr) (c:Nat) (g:Int) (s0 s1:SlA) (ga:Option Addr) (gc:Nat) (u0 u1:SlA) (hs0:SlOk s0) (hs1:SlOk s1) (hu0:SlOk u0) (hu1:SlOk u1) (now:Int) (hn:InK .u64 now) (X:BfA):Ct Tryz.prog 105 #[.pointer (some ⟨lq,0,none⟩),.slice ga 2 gc,.int .u64 now] (LqH lq bb ad c g::Ow2 ad c s0 s1::Ow2 ga gc u0 u1::RbP bb X::L) (fun _:Unit=>.int .i64 (lwQ (wantsA X) (lv0 now s0 u0) (lv0 now s1 u1))) (fun _:Unit=>LqH lq bb ad c g::Ow2 ad c (cmS now s0) (cmS now s1)::Ow2 ga gc (cmS now u0) (cmS now u1)::RbP bb X::L):=by
 refine Ct.o3 Tryz.func105 ?_;intro E
 show Hd E 44 _ _ _ _
 have h6:=wants_six X
 have hx:0≤wantsA X∧wantsA X≤6:=by rcases h6 with h | h | h | h<;>omega
 have a0:=six0 h6
 have a1:=six1 h6
 refine sr fun _ K1=>?_
 refine yv y_as<|fk [(0,_),(1,_),(2,_)] K1 ?_;refine sr fun _ K2=>?_
 refine yv y_mv<|yv y_mv<|yv y_mv<|callE rfl fk103 (qleaves_ct _ lq bb ad c g s0 s1 ga gc u0 u1 hs0 hs1 hu0 hu1 now hn) sq ?_;intro _;refine yv y_mv<|yv y_ex<|yv y_ex<|yv y_as<|yv y_as<|fk [(0,_),(7,_),(8,_)] K2 ?_;refine sr fun _ K3=>?_
 refine yv y_mv<|yv y_np<|yv (y_f 0 42 Tryz.underlying150 sz42)<|yv (y_l1 ag42 rfl)<|callE rfl fk31 (rwants26_ct _ bb X) sq ?_;intro _;refine yv y_as<|fk [(7,_),(8,_),(9,_)] K3 ?_;refine sr fun _ K4=>?_
 refine yv y_as<|fk [(7,_),(8,_),(9,_),(10,_)] K4 ?_;refine Hd.seq fun _ K5=>?_
 refine sr fun _ K6=>?_
 refine yv y_mv<|yv (y_quon rfl rfl (by omega) (by omega) (by simp only [InK];omega)) ?_;refine yv (y_remn rfl rfl (by omega) (by omega)) ?_;refine yv (y_eql rfl rfl) ?_;refine yv y_mv ?_;apply Hd.andg 3 27 30 [(8,_),(9,_),(10,_)] rfl sbq
 ·intro hg4_27
  try simp only [hyZ] at hg4_27
  simp only [List.take];refine y2 y_mv<|y2 (y_gtr rfl rfl) ?_;refine yv (y_pickT rfl rfl) ?_;exact Hd.mn
 ·intro hg4_27
  try simp only [hyZ] at hg4_27
  simp only [List.take];refine n1<|n1<|yv (y_pickF rfl rfl) ?_;exact Hd.mn
 simp only [List.drop];refine fk [(8,_),(9,_),(10,_),(30,_)] K6 ?_;refine qz ?_ ?_<;>intro hc0<;>try simp only [hyZ] at hc0
 ·have w0:(if hasA (wantsA X) 0=true∧0 < lv0 now s0 u0 then (2:Int) else 0)=2:=if_pos ⟨a0.1 hc0.1,hc0.2⟩
  refine Hd.region<|yv y_mv<|yv (y_addn rfl rfl (by simp only [InK];omega)) ?_;refine yv y_as<|fk [(8,_),(9,_),(10,_)] K5 ?_;refine Hd.seq fun _ K7=>?_
  refine sr fun _ K8=>?_
  refine yv y_mv<|yv (y_quon rfl rfl (by omega) (by omega) (by simp only [InK];omega)) ?_;refine yv (y_remn rfl rfl (by omega) (by omega)) ?_;refine yv (y_eql rfl rfl) ?_;refine yv y_mv ?_;apply Hd.andg 3 37 40 [(10,_)] rfl sbq
  ·intro hg6_37
   try simp only [hyZ] at hg6_37
   simp only [List.take];refine y2 y_mv<|y2 (y_gtr rfl rfl) ?_;refine yv (y_pickT rfl rfl) ?_;exact Hd.mn
  ·intro hg6_37
   try simp only [hyZ] at hg6_37
   simp only [List.take];refine n1<|n1<|yv (y_pickF rfl rfl) ?_;exact Hd.mn
  simp only [List.drop];refine fk [(10,_),(40,_)] K8 ?_;refine qz ?_ ?_<;>intro hc1<;>try simp only [hyZ] at hc1
  ·have w1:(if hasA (wantsA X) 1=true∧0 < lv0 now s1 u1 then (4:Int) else 0)=4:=if_pos ⟨a1.1 hc1.1,hc1.2⟩
   refine Hd.region<|yv y_mv<|yv (y_addn rfl rfl (by simp only [InK];omega)) ?_;refine yv y_as<|fk [(10,_)] K7 ?_;refine sr fun _ K9=>?_
   refine yv y_mv<|yv y_as<|fk [(6,_)] K9 ?_;refine Hd.ret ?_;exact Hd.ret1 rfl () (by unfold lwQ;rw [w0,w1];rfl) sq
  have w1:(if hasA (wantsA X) 1=true∧0 < lv0 now s1 u1 then (4:Int) else 0)=0:=if_neg (fun h=>by have:=a1.2 h.1;have:=h.2;omega)
  refine qv K7<|sr fun _ K10=>?_
  refine yv y_mv<|yv y_as<|fk [(6,_)] K10 ?_;refine Hd.ret ?_;exact Hd.ret1 rfl () (by unfold lwQ;rw [w0,w1];rfl) sq
 have w0:(if hasA (wantsA X) 0=true∧0 < lv0 now s0 u0 then (2:Int) else 0)=0:=if_neg (fun h=>by have:=a0.2 h.1;have:=h.2;omega)
 refine qv K5<|Hd.seq fun _ K11=>?_
 refine sr fun _ K12=>?_
 refine yv y_mv<|yv (y_quon rfl rfl (by omega) (by omega) (by simp only [InK];omega)) ?_;refine yv (y_remn rfl rfl (by omega) (by omega)) ?_;refine yv (y_eql rfl rfl) ?_;refine yv y_mv ?_;apply Hd.andg 3 37 40 [(10,_)] rfl sbq
 ·intro hg6_37
  try simp only [hyZ] at hg6_37
  simp only [List.take];refine y2 y_mv<|y2 (y_gtr rfl rfl) ?_;refine yv (y_pickT rfl rfl) ?_;exact Hd.mn
 ·intro hg6_37
  try simp only [hyZ] at hg6_37
  simp only [List.take];refine n1<|n1<|yv (y_pickF rfl rfl) ?_;exact Hd.mn
 simp only [List.drop];refine fk [(10,_),(40,_)] K12 ?_;refine qz ?_ ?_<;>intro hc1<;>try simp only [hyZ] at hc1
 ·have w1:(if hasA (wantsA X) 1=true∧0 < lv0 now s1 u1 then (4:Int) else 0)=4:=if_pos ⟨a1.1 hc1.1,hc1.2⟩
  refine Hd.region<|yv y_mv<|yv (y_addn rfl rfl (by simp only [InK];omega)) ?_;refine yv y_as<|fk [(10,_)] K11 ?_;refine sr fun _ K13=>?_
  refine yv y_mv<|yv y_as<|fk [(6,_)] K13 ?_;refine Hd.ret ?_;exact Hd.ret1 rfl () (by unfold lwQ;rw [w0,w1];rfl) sq
 have w1:(if hasA (wantsA X) 1=true∧0 < lv0 now s1 u1 then (4:Int) else 0)=0:=if_neg (fun h=>by have:=a1.2 h.1;have:=h.2;omega)
 refine qv K11<|sr fun _ K14=>?_
 refine yv y_mv<|yv y_as<|fk [(6,_)] K14 ?_;refine Hd.ret ?_;exact Hd.ret1 rfl () (by unfold lwQ;rw [w0,w1];rfl) sq
def whO (b:Bool) (v a:Int) (o:Int):Int:=if b=true∧v=0 then min o a else o
abbrev whR (X:BfA) (now:Int) (s0 s1 u0 u1:SlA):Int:=whO (hasA (wantsA X) 1) (lv0 now s1 u1) (max (whS now (cmS now s1)) (whS now (cmS now u1))) (whO (hasA (wantsA X) 0) (lv0 now s0 u0) (max (whS now (cmS now s0)) (whS now (cmS now u0))) 18446744073709551615)
theorem qwhenl_ct (L:List SP) (lq bb:Nat) (ad:Option Addr) (c:Nat) (g:Int) (s0 s1:SlA) (ga:Option Addr) (gc:Nat) (u0 u1:SlA) (hs0:SlOk s0) (hs1:SlOk s1) (hu0:SlOk u0) (hu1:SlOk u1) (now:Int) (hn:InK .u64 now) (X:BfA):Ct Tryz.prog 100 #[.pointer (some ⟨lq,0,none⟩),.slice ga 2 gc,.int .u64 now] (LqH lq bb ad c g::Ow2 ad c s0 s1::Ow2 ga gc u0 u1::RbP bb X::L) (fun _:Unit=>.int .u64 (whR X now s0 s1 u0 u1)) (fun _:Unit=>LqH lq bb ad c g::Ow2 ad c (cmS now s0) (cmS now s1)::Ow2 ga gc (cmS now u0) (cmS now u1)::RbP bb X::L):=by
 refine Ct.o3 Tryz.func100 ?_;intro E
 show Hd E 68 _ _ _ _
 have h6:=wants_six X
 have hx:0≤wantsA X∧wantsA X≤6:=by rcases h6 with h | h | h | h<;>omega
 have a0:=six0 h6
 have a1:=six2 h6
 refine sr fun _ K1=>?_
 refine yv y_as<|fk [(0,_),(1,_),(2,_)] K1 ?_;refine sr fun _ K2=>?_
 refine yv y_mv<|yv y_np<|yv (y_f 1 142 Tryz.underlying150 sz142)<|yv (y_l1 ag142 rfl)<|yv y_mv<|callE rfl fk107 (qcome_ct _ ad c s0 s1 hs0 hs1 now hn) sq ?_;intro _;refine fk [(0,_),(1,_),(2,_)] K2 ?_;refine sr fun _ K3=>?_
 refine yv y_mv<|yv y_mv<|callE rfl fk107 (qcome_ct _ ga gc u0 u1 hu0 hu1 now hn) sq ?_;intro _;refine fk [(0,_),(1,_),(2,_)] K3 ?_;refine sr fun _ K4=>?_
 refine yv y_as<|fk [(0,_),(1,_),(2,_),(7,_)] K4 ?_;refine sr fun _ K5=>?_
 refine yv y_mv<|yv y_np<|yv (y_f 0 42 Tryz.underlying150 sz42)<|yv (y_l1 ag42 rfl)<|callE rfl fk31 (rwants26_ct _ bb X) sq ?_;intro _;refine yv y_as<|fk [(0,_),(1,_),(2,_),(7,_),(8,_)] K5 ?_;refine Hd.seq fun _ K6=>?_
 refine sr fun _ K7=>?_
 refine yv y_as<|fk [(0,_),(1,_),(2,_),(7,_),(8,_),(9,_)] K7 ?_;refine Hd.block<|Hd.rounds 3 ?_;refine Hd.roundS ?_;refine Hd.seq fun _ K8=>?_
 refine sr fun _ K9=>?_
 refine yv y_mv<|yv (y_lss rfl rfl) ?_;refine fk [(0,_),(1,_),(2,_),(7,_),(8,_),(9,_),(25,_)] K9 ?_;refine Hd.condT rfl ?_;refine qv K8<|Hd.seq fun _ K10=>?_
 refine Hd.block<|Hd.cutK (ι:=Unit) [(0,_),(1,_),(2,_),(8,_),(9,_)] (fun _=>[(7,.int .u64 (whO (hasA (wantsA X) 0) (lv0 now s0 u0) (max (whS now (cmS now s0)) (whS now (cmS now u0))) 18446744073709551615))]) (fun _=>LqH lq bb ad c g::Ow2 ad c (cmS now s0) (cmS now s1)::Ow2 ga gc (cmS now u0) (cmS now u1)::RbP bb X::L) ?_ ?_ ⟨rfl,rfl,rfl,rfl,rfl,trivial⟩
 ·refine Hd.seq fun _ K11=>?_
  refine Hd.quiet mixed kq ?_;refine Hq.yv y_mv ?_;refine Hq.yv (y_quon rfl rfl (by omega) (by omega) (by simp only [InK];omega)) ?_;refine Hq.yv (y_remn rfl rfl (by omega) (by omega)) ?_;refine Hq.yv (y_eql rfl rfl) ?_;refine Hq.yv y_mv ?_;apply Hq.andg 14 32 46 [(0,_),(1,_),(2,_),(7,_),(8,_),(9,_)] rfl ⟨rfl,rfl,rfl,rfl,rfl,rfl,trivial⟩
  ·intro hg8_32
   try simp only [hyZ] at hg8_32
   simp only [List.take];refine Hq.yg rfl rfl y_mv ?_;refine Hq.yg rfl rfl y_np ?_;refine Hq.yg rfl rfl (y_f 1 142 Tryz.underlying150 sz142) ?_;refine Hq.yg rfl rfl (y_l1 ag142 rfl) ?_;refine Hq.yg rfl rfl y_mv ?_;refine Hq.yg rfl rfl (y_idxR Tryz.underlying142 sz178 rfl rfl (by decide) (by exact RdS.own pkk)) ?_;refine Hq.yg rfl rfl (y_loadRn (vs:=encS (cmS now s0)) ag178 rfl (RdS.own (ad:=ad) (us:=e12 (cmS now s0) (cmS now s1)) pkk) (by intro j v e;rcases j with _|_|_|_|_|_|j<;>first | exact e | (simp at e;done)) sz178 (by simp)) ?_;refine Hq.yg rfl rfl y_mv ?_;refine Hq.yg rfl rfl y_mv ?_;refine Hq.yg rfl rfl (y_idxR Tryz.underlying142 sz178 rfl rfl (by decide) (by exact RdS.own pkk)) ?_;refine Hq.yg rfl rfl (y_loadRn (vs:=encS (cmS now u0)) ag178 rfl (RdS.own (ad:=ga) (us:=e12 (cmS now u0) (cmS now u1)) pkk) (by intro j v e;rcases j with _|_|_|_|_|_|j<;>first | exact e | (simp at e;done)) sz178 (by simp)) ?_
   refine Hq.unguard rfl rfl ?_;refine Hq.call rfl fk187 ((qleave_ct _ (cmS now s0) (cmS now u0) (cmS_ok hn hs0) (cmS_ok hn hu0)).swap sq sq) ?_;refine Hq.yg rfl rfl (y_eql rfl rfl) ?_;refine Hq.yv (y_pickT rfl rfl) ?_;exact Hq.mend sbq
  ·intro hg8_32
   try simp only [hyZ] at hg8_32
   simp only [List.take];refine Hq.ng rfl rfl rfl ?_;refine Hq.ng rfl rfl rfl ?_;refine Hq.ng rfl rfl rfl ?_;refine Hq.ng rfl rfl rfl ?_;refine Hq.ng rfl rfl rfl ?_;refine Hq.ng rfl rfl rfl ?_;refine Hq.ng rfl rfl rfl ?_;refine Hq.ng rfl rfl rfl ?_;refine Hq.ng rfl rfl rfl ?_;refine Hq.ng rfl rfl rfl ?_;refine Hq.ng rfl rfl rfl ?_;refine Hq.ng rfl rfl rfl ?_;refine Hq.ng rfl rfl rfl ?_;refine Hq.yv (y_pickF rfl rfl) ?_;exact Hq.mend sbq
  simp only [List.drop];refine Hq.nil ?_;refine sk [(0,_),(1,_),(2,_),(7,_),(8,_),(9,_),(46,_)] K11 ?_;refine qz ?_ ?_<;>intro hc1<;>try simp only [hyZ] at hc1
  ·refine Hd.quiet mixed kq ?_
   refine Hq.yv y_mv ?_;refine Hq.yv y_mv ?_;refine Hq.yv y_np ?_;refine Hq.yv (y_f 1 142 Tryz.underlying150 sz142) ?_;refine Hq.yv (y_l1 ag142 rfl) ?_;refine Hq.yv y_mv ?_;refine Hq.yv (y_idxR Tryz.underlying142 sz178 rfl rfl (by decide) (by exact RdS.own pkk)) ?_;refine Hq.yv (y_loadRn (vs:=encS (cmS now s0)) ag178 rfl (RdS.own (ad:=ad) (us:=e12 (cmS now s0) (cmS now s1)) pkk) (by intro j v e;rcases j with _|_|_|_|_|_|j<;>first | exact e | (simp at e;done)) sz178 (by simp)) ?_;refine Hq.yv y_mv ?_;refine Hq.call rfl fk188 ((qwn_ct _ (cmS now s0) (cmS_ok hn hs0) now hn).swap sq sq) ?_;refine Hq.yv y_mv ?_;refine Hq.yv y_mv ?_;refine Hq.yv (y_idxR Tryz.underlying142 sz178 rfl rfl (by decide) (by exact RdS.own pkk)) ?_;refine Hq.yv (y_loadRn (vs:=encS (cmS now u0)) ag178 rfl (RdS.own (ad:=ga) (us:=e12 (cmS now u0) (cmS now u1)) pkk) (by intro j v e;rcases j with _|_|_|_|_|_|j<;>first | exact e | (simp at e;done)) sz178 (by simp)) ?_
   refine Hq.yv y_mv ?_;refine Hq.call rfl fk188 ((qwn_ct _ (cmS now u0) (cmS_ok hn hu0) now hn).swap sq sq) ?_;refine Hq.yv (y_max rfl rfl) ?_;refine Hq.yv (y_min rfl rfl) ?_;refine Hq.yv y_as ?_;refine Hq.nil ?_;refine slots [(0,_),(1,_),(2,_),(7,_),(8,_),(9,_)] sbq ?_;refine thenN ?_;exact Hd.meet () ⟨congrArg (fun z=>some (Value.int .u64 z)) (if_pos ⟨a0.1 hc1.1,hc1.2⟩).symm,by repeat (first | exact trivial | refine ⟨rfl,?_⟩)⟩ sq
  refine Hd.skip<|thenN ?_;exact Hd.meet () ⟨congrArg (fun z=>some (Value.int .u64 z)) (if_neg (fun h=>by have h1:=a0.2 h.1;have h2:lvQ (cmS now s0) (cmS now u0)=0:=h.2;omega)).symm,by repeat (first | exact trivial | refine ⟨rfl,?_⟩)⟩ sq
 intro _
 have done0:True:=trivial
 refine Hd.region<|yv y_mv<|yv (y_quon rfl rfl (by omega) (by omega) (by simp only [InK];omega)) ?_;refine yv y_as<|Hd.nil<|slots [(0,_),(1,_),(2,_),(7,_),(8,_),(9,_)] sbq ?_;refine Hd.inB<|Hd.toK K10 ?_;refine Hd.region<|yv y_mv<|yv (y_addn rfl rfl (by simp only [InK];omega)) ?_;refine yv y_as<|Hd.nil<|slots [(0,_),(1,_),(2,_),(7,_),(8,_),(9,_)] sbq ?_;refine Hd.roundN ?_;refine Hd.seq fun _ K12=>?_
 refine sr fun _ K13=>?_
 refine yv y_mv<|yv (y_lss rfl rfl) ?_;refine fk [(0,_),(1,_),(2,_),(7,_),(8,_),(9,_),(25,_)] K13 ?_;refine Hd.condT rfl ?_;refine qv K12<|Hd.seq fun _ K14=>?_
 refine Hd.block ?_
 have _d:=done0;refine Hd.cutK (ι:=Unit) [(0,_),(1,_),(2,_),(8,_),(9,_)] (fun _=>[(7,.int .u64 (whR X now s0 s1 u0 u1))]) (fun _=>LqH lq bb ad c g::Ow2 ad c (cmS now s0) (cmS now s1)::Ow2 ga gc (cmS now u0) (cmS now u1)::RbP bb X::L) ?_ ?_ ⟨rfl,rfl,rfl,rfl,rfl,trivial⟩
 ·refine Hd.seq fun _ K15=>?_
  refine Hd.quiet mixed kq ?_;refine Hq.yv y_mv ?_;refine Hq.yv (y_quon rfl rfl (by omega) (by omega) (by simp only [InK];omega)) ?_;refine Hq.yv (y_remn rfl rfl (by omega) (by omega)) ?_;refine Hq.yv (y_eql rfl rfl) ?_;refine Hq.yv y_mv ?_;apply Hq.andg 14 32 46 [(0,_),(1,_),(2,_),(7,_),(8,_),(9,_)] rfl ⟨rfl,rfl,rfl,rfl,rfl,rfl,trivial⟩
  ·intro hg8_32
   try simp only [hyZ] at hg8_32
   simp only [List.take];refine Hq.yg rfl rfl y_mv ?_;refine Hq.yg rfl rfl y_np ?_;refine Hq.yg rfl rfl (y_f 1 142 Tryz.underlying150 sz142) ?_;refine Hq.yg rfl rfl (y_l1 ag142 rfl) ?_;refine Hq.yg rfl rfl y_mv ?_;refine Hq.yg rfl rfl (y_idxR Tryz.underlying142 sz178 rfl rfl (by decide) (by exact RdS.own pkk)) ?_
   have _d:=done0;refine Hq.yg rfl rfl (y_loadRn (vs:=encS (cmS now s1)) ag178 rfl (RdS.own (ad:=ad) (us:=e12 (cmS now s0) (cmS now s1)) pkk) (by intro j v e;rcases j with _|_|_|_|_|_|j<;>first | exact e | (simp at e;done)) sz178 (by simp)) ?_
   refine Hq.yg rfl rfl y_mv ?_;refine Hq.yg rfl rfl y_mv ?_;refine Hq.yg rfl rfl (y_idxR Tryz.underlying142 sz178 rfl rfl (by decide) (by exact RdS.own pkk)) ?_
   have _d:=done0;refine Hq.yg rfl rfl (y_loadRn (vs:=encS (cmS now u1)) ag178 rfl (RdS.own (ad:=ga) (us:=e12 (cmS now u0) (cmS now u1)) pkk) (by intro j v e;rcases j with _|_|_|_|_|_|j<;>first | exact e | (simp at e;done)) sz178 (by simp)) ?_
   have _d:=done0;refine Hq.unguard rfl rfl ?_;refine Hq.call rfl fk187 ((qleave_ct _ (cmS now s1) (cmS now u1) (cmS_ok hn hs1) (cmS_ok hn hu1)).swap sq sq) ?_
   refine Hq.yg rfl rfl (y_eql rfl rfl) ?_;refine Hq.yv (y_pickT rfl rfl) ?_;exact Hq.mend sbq
  ·intro hg8_32
   try simp only [hyZ] at hg8_32
   simp only [List.take];refine Hq.ng rfl rfl rfl ?_;refine Hq.ng rfl rfl rfl ?_;refine Hq.ng rfl rfl rfl ?_;refine Hq.ng rfl rfl rfl ?_;refine Hq.ng rfl rfl rfl ?_;refine Hq.ng rfl rfl rfl ?_;refine Hq.ng rfl rfl rfl ?_;refine Hq.ng rfl rfl rfl ?_;refine Hq.ng rfl rfl rfl ?_;refine Hq.ng rfl rfl rfl ?_;refine Hq.ng rfl rfl rfl ?_;refine Hq.ng rfl rfl rfl ?_;refine Hq.ng rfl rfl rfl ?_;refine Hq.yv (y_pickF rfl rfl) ?_;exact Hq.mend sbq
  simp only [List.drop];refine Hq.nil ?_;refine sk [(0,_),(1,_),(2,_),(7,_),(8,_),(9,_),(46,_)] K15 ?_;refine qz ?_ ?_<;>intro hc1<;>try simp only [hyZ] at hc1
  ·refine Hd.quiet mixed kq ?_
   refine Hq.yv y_mv ?_;refine Hq.yv y_mv ?_;refine Hq.yv y_np ?_;refine Hq.yv (y_f 1 142 Tryz.underlying150 sz142) ?_;refine Hq.yv (y_l1 ag142 rfl) ?_;refine Hq.yv y_mv ?_;refine Hq.yv (y_idxR Tryz.underlying142 sz178 rfl rfl (by decide) (by exact RdS.own pkk)) ?_
   have _d:=done0;refine Hq.yv (y_loadRn (vs:=encS (cmS now s1)) ag178 rfl (RdS.own (ad:=ad) (us:=e12 (cmS now s0) (cmS now s1)) pkk) (by intro j v e;rcases j with _|_|_|_|_|_|j<;>first | exact e | (simp at e;done)) sz178 (by simp)) ?_
   refine Hq.yv y_mv ?_
   have _d:=done0;refine Hq.call rfl fk188 ((qwn_ct _ (cmS now s1) (cmS_ok hn hs1) now hn).swap sq sq) ?_
   refine Hq.yv y_mv ?_;refine Hq.yv y_mv ?_;refine Hq.yv (y_idxR Tryz.underlying142 sz178 rfl rfl (by decide) (by exact RdS.own pkk)) ?_
   have _d:=done0;refine Hq.yv (y_loadRn (vs:=encS (cmS now u1)) ag178 rfl (RdS.own (ad:=ga) (us:=e12 (cmS now u0) (cmS now u1)) pkk) (by intro j v e;rcases j with _|_|_|_|_|_|j<;>first | exact e | (simp at e;done)) sz178 (by simp)) ?_
   refine Hq.yv y_mv ?_
   have _d:=done0;refine Hq.call rfl fk188 ((qwn_ct _ (cmS now u1) (cmS_ok hn hu1) now hn).swap sq sq) ?_
   refine Hq.yv (y_max rfl rfl) ?_;refine Hq.yv (y_min rfl rfl) ?_;refine Hq.yv y_as ?_;refine Hq.nil ?_;refine slots [(0,_),(1,_),(2,_),(7,_),(8,_),(9,_)] sbq ?_;refine thenN ?_
   have _d:=done0;exact Hd.meet () ⟨congrArg (fun z=>some (Value.int .u64 z)) (if_pos ⟨a1.1 hc1.1,hc1.2⟩).symm,by repeat (first | exact trivial | refine ⟨rfl,?_⟩)⟩ sq
  refine Hd.skip<|thenN ?_
  have _d:=done0;exact Hd.meet () ⟨congrArg (fun z=>some (Value.int .u64 z)) (if_neg (fun h=>by have h1:=a1.2 h.1;have h2:lvQ (cmS now s1) (cmS now u1)=0:=h.2;omega)).symm,by repeat (first | exact trivial | refine ⟨rfl,?_⟩)⟩ sq
 intro _
 have done0:True:=trivial
 refine Hd.region<|yv y_mv<|yv (y_quon rfl rfl (by omega) (by omega) (by simp only [InK];omega)) ?_;refine yv y_as<|Hd.nil<|slots [(0,_),(1,_),(2,_),(7,_),(8,_),(9,_)] sbq ?_;refine Hd.inB<|Hd.toK K14 ?_;refine Hd.region<|yv y_mv<|yv (y_addn rfl rfl (by simp only [InK];omega)) ?_;refine yv y_as<|Hd.nil<|slots [(0,_),(1,_),(2,_),(7,_),(8,_),(9,_)] sbq ?_;refine Hd.roundN ?_;refine Hd.seq fun _ K16=>?_
 refine sr fun _ K17=>?_
 refine yv y_mv<|yv (y_lss rfl rfl) ?_;refine fk [(0,_),(1,_),(2,_),(7,_),(8,_),(9,_),(25,_)] K17 ?_;refine Hd.condF rfl ?_;refine Hd.exit<|Hd.thenExit<|Hd.thenExit<|Hd.inBexit<|Hd.toK K6 ?_;refine sr fun _ K18=>?_
 refine yv y_mv<|yv y_as<|fk [(6,_)] K18 ?_;refine Hd.ret ?_;exact Hd.ret1 rfl () rfl sq
abbrev sQ (X:BfA) (w:WA) (now flags:Int) (s0 s1 u0 u1:SlA):StA:=stepS X w now (bits .and .i64 flags (lwQ (wantsA X) (lv0 now s0 u0) (lv0 now s1 u1))) (lv0 now s0 u0) (lv0 now s1 u1)
theorem qstep_ct (L:List SP) (lq bb rb:Nat) (ad:Option Addr) (c:Nat) (g:Int) (s0 s1:SlA) (ga:Option Addr) (gc:Nat) (u0 u1:SlA) (hs0:SlOk s0) (hs1:SlOk s1) (hu0:SlOk u0) (hu1:SlOk u1) (now:Int) (hn:InK .u64 now) (X:BfA) (hX:BOk X) (hcl:∀ k,k < 2→(X.s k).c.length≤1048576) (w:WA) (hw:WOk w) (flags:Int) (σ:StA) (hσ:sQ X w now flags s0 s1 u0 u1=σ) (hi:InK .i64 σ.t.i) (ho:InK .i64 σ.t.o):Ct Tryz.prog 98 #[.pointer (some ⟨lq,0,none⟩),.pointer (some ⟨rb,0,none⟩),.slice ga 2 gc,.int .u64 now,.int .i64 flags] (LqH lq bb ad c g::Ow2 ad c s0 s1::Ow2 ga gc u0 u1::RbP bb X::Rf.RwP rb w::L) (fun q_:Nat×Nat=>.tuple #[.agg (encT σ.t).toArray,.slice (some ⟨q_.2,0,none⟩) 2 2]) (fun q_:Nat×Nat=>LqH lq bb (some ⟨q_.1,0,none⟩) 2 g::Ow2 (some ⟨q_.1,0,none⟩) 2 (tkS now σ.t.i (cmS now s0)) (tkS now σ.t.o (cmS now s1))::Ow2 (some ⟨q_.2,0,none⟩) 2 (tkS now σ.t.i (cmS now u0)) (tkS now σ.t.o (cmS now u1))::RbP bb σ.x::Rf.RwP rb σ.w::L):=by
 refine Ct.o5 Tryz.func98 ?_;intro E
 show Hd E 77 _ _ _ _
 have hv0:0≤lv0 now s0 u0∧lv0 now s0 u0≤4096:=lvQ_in _ _
 have hv1:0≤lv0 now s1 u1∧lv0 now s1 u1≤4096:=lvQ_in _ _
 have i0:=cm_idem hn hs0
 have i1:=cm_idem hn hs1
 have j0:=cm_idem hn hu0
 have j1:=cm_idem hn hu1
 refine sr fun _ K1=>?_
 refine Hd.alloc zr62 (fun b10=>?_);refine yv y_as<|fk [(0,_),(1,_),(2,_),(3,_),(4,_),(10,_)] K1 ?_;refine sr fun _ K2=>?_
 refine yv y_mv<|yv y_mv<|yv y_mv<|callE rfl fk103 (qleaves_ct _ lq bb ad c g s0 s1 ga gc u0 u1 hs0 hs1 hu0 hu1 now hn) sq ?_;intro _;refine yv y_mv<|yv y_ex<|yv y_ex<|yv y_as<|yv y_as<|fk [(0,_),(1,_),(2,_),(3,_),(4,_),(10,_),(12,_),(13,_)] K2 ?_;refine Hd.cutK (ι:=Nat) [(0,_),(2,_),(3,_),(10,_)] (fun b14=>[(14,.pointer (some ⟨b14,0,none⟩))]) (fun b14=>pt b14 (encT σ.t) 62::pt b10 (encT noT) 62::LqH lq bb ad c g::Ow2 ad c (cmS now s0) (cmS now s1)::Ow2 ga gc (cmS now u0) (cmS now u1)::RbP bb σ.x::Rf.RwP rb σ.w::L) ?_ ?_ ⟨rfl,rfl,rfl,rfl,trivial⟩
 ·refine Hd.drawsH ([LqH lq bb ad c g]) (fun j=>!([16].contains j)) mixed ?_
  simp only [List.length,Nat.zero_add,Nat.reduceAdd];refine tH 0 rfl y_mv<|tH 1 rfl y_np<|tH 2 rfl (y_f 0 42 Tryz.underlying150 sz42)<|tH 3 rfl (y_l1 ag42 rfl)<|tH 4 rfl y_mv<|tH 5 rfl y_mv<|tH 6 rfl y_mv<|tH 7 rfl y_mv<|tH 8 rfl y_mv<|tH 9 rfl y_mv<|tH 12 rfl y_mv<|tH 13 rfl y_mv<|Hd.eitherH 10 15 rfl rfl kq ?_ ?_
  ·refine callE rfl fk105 (qwants_ct _ lq bb ad c g (cmS now s0) (cmS now s1) ga gc (cmS now u0) (cmS now u1) (cmS_ok hn hs0) (cmS_ok hn hs1) (cmS_ok hn hu0) (cmS_ok hn hu1) now hn X) sq ?_
   intro _;simp only [lv0,i0,i1,j0,j1];refine qk<|tH 11 rfl (y_and rfl rfl) ?_;refine Hd.eitherH 14 15 rfl rfl kq ?_ ?_
   ·refine callE rfl fk26 (rstep26_ct _ bb rb X w hw hX.tm hX.hi hcl now (bits .and .i64 flags (lwQ (wantsA X) (lv0 now s0 u0) (lv0 now s1 u1))) (lv0 now s0 u0) (lv0 now s1 u1) hn (by simp only [InK];omega) (by simp only [InK];omega)) sq ?_
    intro _;rw [show stepS X w now (bits .and .i64 flags (lwQ (wantsA X) (lv0 now s0 u0) (lv0 now s1 u1))) (lv0 now s0 u0) (lv0 now s1 u1)=σ from hσ];refine qk<|qo 15 ?_;refine Hd.alloc zr62 (fun b14=>?_);refine qk<|qo 16 ?_;refine Hd.storeA (us:=encT σ.t) sz62 rfl rfl rfl (by simp [Value.oneCell']) pkk (by exact rfl) ?_;refine qn<|endH kq ?_;refine slots [(0,_),(2,_),(3,_),(10,_),(14,_)] sbq ?_;refine thenN ?_;exact Hd.meet b14 sbq (Ent.sep (.eq (A:=pt b14 _ _) pkk (pt_eq (by rfl)) (.eq (A:=pt b10 _ _) pkk (pt_eq (by rfl)) enn)))
   refine Hd.alloc zr62 (fun b14=>?_);refine qk<|qo 14 ?_;refine callE rfl fk26 (rstep26_ct _ bb rb X w hw hX.tm hX.hi hcl now (bits .and .i64 flags (lwQ (wantsA X) (lv0 now s0 u0) (lv0 now s1 u1))) (lv0 now s0 u0) (lv0 now s1 u1) hn (by simp only [InK];omega) (by simp only [InK];omega)) sq ?_;intro _;rw [show stepS X w now (bits .and .i64 flags (lwQ (wantsA X) (lv0 now s0 u0) (lv0 now s1 u1))) (lv0 now s0 u0) (lv0 now s1 u1)=σ from hσ];refine qk<|qo 16 ?_;refine Hd.storeA (us:=encT σ.t) sz62 rfl rfl rfl (by simp [Value.oneCell']) pkk (by exact rfl) ?_;refine qn<|endH kq ?_;refine slots [(0,_),(2,_),(3,_),(10,_),(14,_)] sbq ?_;refine thenN ?_;exact Hd.meet b14 sbq (Ent.sep (.eq (A:=pt b14 _ _) pkk (pt_eq (by rfl)) (.eq (A:=pt b10 _ _) pkk (pt_eq (by rfl)) enn)))
  refine Hd.alloc zr62 (fun b14=>?_);refine qk<|qo 10 ?_;refine callE rfl fk105 (qwants_ct _ lq bb ad c g (cmS now s0) (cmS now s1) ga gc (cmS now u0) (cmS now u1) (cmS_ok hn hs0) (cmS_ok hn hs1) (cmS_ok hn hu0) (cmS_ok hn hu1) now hn X) sq ?_;intro _;simp only [lv0,i0,i1,j0,j1];refine qk<|tH 11 rfl (y_and rfl rfl) ?_;refine qo 14 ?_;refine callE rfl fk26 (rstep26_ct _ bb rb X w hw hX.tm hX.hi hcl now (bits .and .i64 flags (lwQ (wantsA X) (lv0 now s0 u0) (lv0 now s1 u1))) (lv0 now s0 u0) (lv0 now s1 u1) hn (by simp only [InK];omega) (by simp only [InK];omega)) sq ?_;intro _;rw [show stepS X w now (bits .and .i64 flags (lwQ (wantsA X) (lv0 now s0 u0) (lv0 now s1 u1))) (lv0 now s0 u0) (lv0 now s1 u1)=σ from hσ];refine qk<|qo 16 ?_;refine Hd.storeA (us:=encT σ.t) sz62 rfl rfl rfl (by simp [Value.oneCell']) pkk (by exact rfl) ?_;refine qn ?_
  refine endH kq ?_;refine slots [(0,_),(2,_),(3,_),(10,_),(14,_)] sbq ?_;refine thenN ?_;exact Hd.meet b14 sbq (Ent.sep (.eq (A:=pt b14 _ _) pkk (pt_eq (by rfl)) (.eq (A:=pt b10 _ _) pkk (pt_eq (by rfl)) enn)))
 intro b14;refine Hd.seq fun _ K3=>?_
 refine Hd.drawsH ([LqH lq bb ad c g,Ow2 ad c (cmS now s0) (cmS now s1),pt b14 (encT σ.t) 62]) (fun j=>!([24].contains j)) mixed ?_;simp only [List.length,Nat.zero_add,Nat.reduceAdd];refine tH 0 rfl y_mv<|tH 1 rfl y_mv<|tH 2 rfl y_np<|tH 3 rfl (y_f 1 142 Tryz.underlying150 sz142)<|tH 4 rfl (y_l1 ag142 rfl)<|tH 5 rfl (y_idxR Tryz.underlying142 sz178 rfl rfl (by exact (show (0:Nat) < _ by omega)) (by exact RdS.own pkk)) ?_;refine tH 6 rfl (y_loadRn (vs:=encS (cmS now s0)) ag178 rfl (RdS.own (ad:=ad) (us:=e12 (cmS now s0) (cmS now s1)) pkk) (by intro j v e;rcases j with _|_|_|_|_|_|j<;>first | exact e | (simp at e;done)) sz178 (by simp)) ?_;refine tH 7 rfl y_mv<|tH 8 rfl (y_f 4 3 Tryz.underlying62 sz3)<|tH 9 rfl (y_l1 ag3 rfl)<|tH 11 rfl y_mv<|tH 12 rfl y_np<|tH 13 rfl (y_f 1 142 Tryz.underlying150 sz142) ?_
 refine tH 14 rfl (y_l1 ag142 rfl)<|tH 15 rfl (y_idxR Tryz.underlying142 sz178 rfl rfl (by exact (show (1:Nat) < _ by omega)) (by exact RdS.own pkk)) ?_;refine tH 16 rfl (y_loadRn (vs:=encS (cmS now s1)) ag178 rfl (RdS.own (ad:=ad) (us:=e12 (cmS now s0) (cmS now s1)) pkk) (by intro j v e;rcases j with _|_|_|_|_|_|j<;>first | exact e | (simp at e;done)) sz178 (by simp)) ?_;refine tH 17 rfl y_mv<|tH 18 rfl (y_f 5 3 Tryz.underlying62 sz3)<|tH 19 rfl (y_l1 ag3 rfl)<|qo 10 ?_;refine callE rfl fk183 (qtk_ct _ (cmS now s0) (cmS_ok hn hs0) now σ.t.i hn hi) sq ?_;intro _;refine qk<|qo 20 ?_;refine callE rfl fk183 (qtk_ct _ (cmS now s1) (cmS_ok hn hs1) now σ.t.o hn ho) sq ?_;intro _;refine qk<|qo 21 ?_;refine Hd.bslice (vs:=[(0,_),(1,_)]) rfl (by exact bs98_58 ..) (fun b58=>?_);refine Bc.Hd.ptOwn 2 6 pkk rfl (by decide) ?_
 refine qk<|qo 22 ?_;refine yv y_np<|qk<|tH 23 rfl (y_f 1 142 Tryz.underlying150 sz142)<|qo 24 ?_;refine Hd.store1 sz142 rfl rfl rfl pkk (by simp;done) ?_
 try simp only [hyS]
 refine qn<|endH kq ?_;refine sk [(2,_),(3,_),(10,_),(14,_)] K3 ?_;refine Hd.seq fun _ K4=>?_
 refine Hd.drawsH ([Ow2 ga gc (cmS now u0) (cmS now u1),pt b14 (encT σ.t) 62]) (fun j=>!(([1000]:List Nat).contains j)) mixed ?_;simp only [List.length,Nat.zero_add,Nat.reduceAdd];refine tH 0 rfl (y_loadn (us:=encT σ.t) ag62 rfl (Rd.pt pkk (fun j v e=>by rw [Nat.zero_add];exact e)) (by exact sz62)) ?_;refine tH 1 rfl y_mv<|tH 2 rfl (y_idxR Tryz.underlying142 sz178 rfl rfl (by exact (show (0:Nat) < _ by omega)) (by exact RdS.own pkk)) ?_;refine tH 3 rfl (y_loadRn (vs:=encS (cmS now u0)) ag178 rfl (RdS.own (ad:=ga) (us:=e12 (cmS now u0) (cmS now u1)) pkk) (by intro j v e;rcases j with _|_|_|_|_|_|j<;>first | exact e | (simp at e;done)) sz178 (by simp)) ?_;refine tH 4 rfl y_mv<|tH 5 rfl (y_f 4 3 Tryz.underlying62 sz3)<|tH 6 rfl (y_l1 ag3 rfl)<|tH 8 rfl y_mv<|tH 9 rfl (y_idxR Tryz.underlying142 sz178 rfl rfl (by exact (show (1:Nat) < _ by omega)) (by exact RdS.own pkk)) ?_
 refine tH 10 rfl (y_loadRn (vs:=encS (cmS now u1)) ag178 rfl (RdS.own (ad:=ga) (us:=e12 (cmS now u0) (cmS now u1)) pkk) (by intro j v e;rcases j with _|_|_|_|_|_|j<;>first | exact e | (simp at e;done)) sz178 (by simp)) ?_;refine tH 11 rfl y_mv<|tH 12 rfl (y_f 5 3 Tryz.underlying62 sz3)<|tH 13 rfl (y_l1 ag3 rfl)<|qo 7 ?_;refine callE rfl fk183 (qtk_ct _ (cmS now u0) (cmS_ok hn hu0) now σ.t.i hn hi) sq ?_;intro _;refine qk<|qo 14 ?_;refine callE rfl fk183 (qtk_ct _ (cmS now u1) (cmS_ok hn hu1) now σ.t.o hn ho) sq ?_;intro _;refine qk<|Hd.eitherH 15 16 rfl rfl kq ?_ ?_
 ·refine Hd.bslice (vs:=[(0,_),(1,_)]) rfl (by exact bs98_76 ..) (fun b76=>?_)
  refine Bc.Hd.ptOwn 2 6 pkk rfl (by decide) ?_;refine qk<|qo 16 ?_;refine Hd.storeA (us:=encT σ.t) sz62 rfl rfl rfl (by simp [Value.oneCell']) pkk (by exact rfl) ?_;refine qk<|tH 17 rfl y_as<|endH kq ?_;refine sk [(10,_),(11,_)] K4 ?_;refine Hd.ret ?_;exact Hd.retCT rfl (b58,b76) ag62 rfl rfl (Rd.pt (b:=b10) (us:=encT σ.t) pkk (fun j v e=>by rw [Nat.zero_add];exact e)) (by exact sz62) rfl (Ent.sep (.pick pkk (.eq (A:=own _ 6 (some ⟨b58,0,none⟩) 2 2 _) pkk (own_eq3 rfl rfl (by rfl)) (.eq (A:=own _ 6 (some ⟨b76,0,none⟩) 2 2 _) pkk (own_eq3 rfl rfl (by rfl)) enn))))
 refine Hd.storeA (us:=encT σ.t) sz62 rfl rfl rfl (by simp [Value.oneCell']) pkk (by exact rfl) ?_;refine qk<|qo 15 ?_;refine Hd.bslice (vs:=[(0,_),(1,_)]) rfl (by exact bs98_76 ..) (fun b76=>?_);refine Bc.Hd.ptOwn 2 6 pkk rfl (by decide) ?_;refine qk<|tH 17 rfl y_as<|endH kq ?_;refine sk [(10,_),(11,_)] K4 ?_;refine Hd.ret ?_;exact Hd.retCT rfl (b58,b76) ag62 rfl rfl (Rd.pt (b:=b10) (us:=encT σ.t) pkk (fun j v e=>by rw [Nat.zero_add];exact e)) (by exact sz62) rfl (Ent.sep (.pick pkk (.eq (A:=own _ 6 (some ⟨b58,0,none⟩) 2 2 _) pkk (own_eq3 rfl rfl (by rfl)) (.eq (A:=own _ 6 (some ⟨b76,0,none⟩) 2 2 _) pkk (own_eq3 rfl rfl (by rfl)) enn))))
end Lm
end Go.Proofs.YtmpemhbfgbochaaGreatDoor
namespace Go.Proofs.YtmpemhbfgbochaaGreatDoor
open Go.RX
namespace Lm
open Wo
open Bu
structure Rel (p:Option Nat) (x:BkA) (s:SlA):Prop where
 i:s.i=p.isSome
 b:p.isSome=true→s.b=x
 ok:SlOk s
theorem rel_none (x:BkA):Rel none x noSl:=⟨rfl,fun h=>(by cases h),sl_no⟩
theorem rel_cm {p:Option Nat} {x:BkA} {s:SlA} (h:Rel p x s) {now:Int} (hn:InK .u64 now):Rel p (come x now) (cmS now s):=by
 refine ⟨?_,fun hp=>?_,cmS_ok hn h.ok⟩
 ·unfold cmS;split
  ·exact h.i
  ·exact h.i
 ·unfold cmS
  rw [if_pos (by rw [h.i,hp]),h.b hp]
theorem rel_tk {p:Option Nat} {x:BkA} {s:SlA} (h:Rel p x s) (hx:BkOk x) {now:Int} (hn:InK .u64 now) (n:Int):Rel p (tak x now n) (tkS now n (cmS now s)):=by
 have hc:=rel_cm h hn
 refine ⟨?_,fun hp=>?_,tkS_ok hn hc.ok⟩
 ·unfold tkS;split
  ·exact hc.i
  ·exact hc.i
 ·unfold tkS
  rw [if_pos (by rw [hc.i,hp]),hc.b hp,tak_once hx hn]
theorem lv_rel {p q:Option Nat} {X Y:BkA} {s u:SlA} (h:Rel p X s) (g:Rel q Y u):lvS p q X Y=lvQ s u:=by
 obtain ⟨hi,hb,_⟩:=h
 obtain ⟨gi,gb,_⟩:=g
 unfold lvS lvQ hvQ;rw [hi,gi]
 rcases p with _ | a<;>rcases q with _ | c
 ·rfl
 ·have:=gb rfl
  show (if min 4096 Y.have_ < 1 then (0:Int) else min 4096 Y.have_)=max 0 (min 4096 (min 4096 u.b.have_))
  rw [this];split<;>omega
 ·have:=hb rfl
  show (if min 4096 X.have_ < 1 then (0:Int) else min 4096 X.have_)=max 0 (min 4096 (min s.b.have_ 4096))
  rw [this];split<;>omega
 ·have h1:=gb rfl
  have h2:=hb rfl
  show (if min (min 4096 X.have_) Y.have_ < 1 then (0:Int) else min (min 4096 X.have_) Y.have_)=max 0 (min 4096 (min s.b.have_ u.b.have_))
  rw [h1,h2];split<;>omega
theorem hv_rel {p:Option Nat} {x:BkA} {s:SlA} (h:Rel p x s):hvS p x=s.b.have_:=by
 unfold hvS
 cases hp:p.isSome
 ·rw [if_neg (by decide),h.ok.2 (by rw [h.i,hp])]
 ·rw [if_pos rfl,h.b hp]
def lwB2 (v0 v1 m:Int):Int:=if v1=0 then bits .andNot .i64 (if v0=0 then bits .andNot .i64 m 2 else m) 4 else if v0=0 then bits .andNot .i64 m 2 else m
theorem lwK_2 (l:LmA) (G:GrA) (x y:Nat→BkA) (m:Int):lwK l G x y m 2=lwB2 (lvA l G x y 0) (lvA l G x y 1) m:=by
 rw [lwK_succ,lwK_succ];rfl
theorem ifp {b:Bool} {v c:Int} (h:0 < v):(if b=true∧0 < v then c else 0)=if b=true then c else 0:=by cases b<;>simp [h]
theorem lw_rel {n v0 v1:Int} (h:Six n) (h0:0≤v0) (h1:0≤v1):lwB2 v0 v1 n=lwQ n v0 v1:=by
 unfold lwB2 lwQ
 by_cases a:v0=0<;>by_cases b:v1=0
 ·subst a;subst b;rcases h with rfl | rfl | rfl | rfl<;>decide
 ·subst a
  rw [if_neg b,ifp (v:=v1) (by omega)]
  rcases h with rfl | rfl | rfl | rfl<;>decide
 ·subst b
  rw [if_neg a,ifp (v:=v0) (by omega)]
  rcases h with rfl | rfl | rfl | rfl<;>decide
 ·rw [if_neg a,if_neg b,ifp (v:=v0) (by omega),ifp (v:=v1) (by omega)]
  rcases h with rfl | rfl | rfl | rfl<;>decide
theorem whn_ge (X:BkA) {now:Int} (hn:InK .u64 now):now≤whn X now 1:=by
 simp only [InK] at hn;unfold whn
 split
 ·omega
 ·split
  ·show now≤18446744073709551615;omega
  ·omega
theorem mv_rel {p q:Option Nat} {X Y:BkA} {s u:SlA} (h:Rel p X s) (g:Rel q Y u) {now:Int} (hn:InK .u64 now):mV X Y now (itS p q)=max (whS now s) (whS now u):=by
 obtain ⟨hi,hb,_⟩:=h
 obtain ⟨gi,gb,_⟩:=g
 have hx:=whn_ge X hn
 have hy:=whn_ge Y hn
 unfold whS;rw [hi,gi]
 rcases p with _ | a<;>rcases q with _ | c
 ·show now=max now now;omega
 ·have:=gb rfl
  show max now (whn Y now 1)=max now (whn u.b now 1)
  rw [this]
 ·have:=hb rfl
  show max now (whn X now 1)=max (whn s.b now 1) now
  rw [this];omega
 ·have h1:=gb rfl
  have h2:=hb rfl
  show max (max now (whn X now 1)) (whn Y now 1)=max (whn s.b now 1) (whn u.b now 1)
  rw [h1,h2];omega
theorem whO_eq {m:Int} {k:Nat} {v a o:Int} (h0:0≤v):whO (hasA m k) v a o=if bits .and .i64 m (flagA k)=0∨0 < v then o else min o a:=by
 unfold whO hasA
 by_cases h:bits .and .i64 m (flagA k)=0∨0 < v
 ·rw [if_pos h,if_neg]
  rintro ⟨h1,h2⟩;rw [decide_eq_true_eq] at h1
  rcases h with h | h
  ·exact h1 h
  ·omega
 ·rw [if_neg h,if_pos]
  refine ⟨?_,by omega⟩;rw [decide_eq_true_eq];exact fun g=>h (.inl g)
theorem wh_rel (l:LmA) (G:GrA) (x y:Nat→BkA) (X:BfA) {now:Int} (hn:InK .u64 now) {s0 s1 u0 u1:SlA} (h0:Rel (l.b 0) (x 0) s0) (h1:Rel (l.b 1) (x 1) s1) (g0:Rel (gsl l.g G 0) (y 0) u0) (g1:Rel (gsl l.g G 1) (y 1) u1) :
  whK l G (cmA now x) (cmA now y) (wantsA X) now 2=whR X now s0 s1 u0 u1:=by
 have e0:=lv_rel (rel_cm h0 hn) (rel_cm g0 hn)
 have e1:=lv_rel (rel_cm h1 hn) (rel_cm g1 hn)
 have m0:=mv_rel (rel_cm h0 hn) (rel_cm g0 hn) hn
 have m1:=mv_rel (rel_cm h1 hn) (rel_cm g1 hn) hn
 have b0:=lvQ_in (cmS now s0) (cmS now u0)
 have b1:=lvQ_in (cmS now s1) (cmS now u1)
 unfold whR;rw [whO_eq b1.1,whO_eq b0.1,←m0,←m1,←e0,←e1,whK_succ,whK_succ]
 rfl
end Lm
end Go.Proofs.YtmpemhbfgbochaaGreatDoor
namespace Go.Proofs.YtmpemhbfgbochaaGreatDoor
open Go.RX Fx
namespace Lm
open Wo
open Bu
def gpM (m:Bool) (gp:Option Nat):Option Nat:=if m=true then gp else none
def vM (m:Bool) (u:Nat→SlA):Nat→SlA:=fun j=>if m=true then u j else noSl
def yM (m:Bool) (y y':Nat→BkA):Nat→BkA:=fun j=>if m=true then y' j else y j
def uM (m:Bool) (u u':Nat→SlA):Nat→SlA:=fun j=>if m=true then u' j else u j
def gI (m:Bool):Int:=if m=true then 0 else -1
abbrev GpP (gp:Option Nat) (G:GrA) (y:Nat→BkA) (L:List SP):List SP:=GoH gp G::SlB (gsl gp G 0) (y 0)::SlB (gsl gp G 1) (y 1)::L
def RpP (m:Bool) (gp:Option Nat) (G:GrA) (y:Nat→BkA):SP:=RX.ex fun _:Unit=>if m=true then [] else [GoH gp G,SlB (gsl gp G 0) (y 0),SlB (gsl gp G 1) (y 1)]
theorem gp_open (m:Bool) (gp:Option Nat) (G:GrA) (y:Nat→BkA) {L:List SP}:∀ k,sep (GpP gp G y L) k→sep (GpP (gpM m gp) G y (RpP m gp G y::L)) k:=fun k h=>by
 cases m
 ·exact Ent.sep (show Ent (GpP gp G y L) (pu True::pu True::pu True::RpP false gp G y::L) from .pure trivial (.pure trivial (.pure trivial (.ex () (show Ent _ ([GoH gp G,SlB (gsl gp G 0) (y 0),SlB (gsl gp G 1) (y 1)]++L) from enn))))) k h
 ·exact Ent.sep (show Ent (GpP gp G y L) (GoH gp G::SlB (gsl gp G 0) (y 0)::SlB (gsl gp G 1) (y 1)::RpP true gp G y::L) from .pick pkk (.pick pkk (.pick pkk (.ex () (show Ent _ ([]++L) from enn))))) k h
theorem gp_close (m:Bool) (gp:Option Nat) (G:GrA) (y y':Nat→BkA) {L:List SP}:∀ k,sep (GpP (gpM m gp) G y' (RpP m gp G y::L)) k→sep (GpP gp G (yM m y y') L) k:=fun k h=>by
 cases m
 ·have h2:sep (RpP false gp G y::L) k:=Ent.sep (show Ent (GpP (gpM false gp) G y' (RpP false gp G y::L)) (RpP false gp G y::L) from enn) k h
  obtain ⟨k1,k2,d,a,b,⟨_,x⟩,z⟩:=h2
  exact sep_join d a b x z
 ·exact Ent.sep (show Ent (GoH gp G::SlB (gsl gp G 0) (y' 0)::SlB (gsl gp G 1) (y' 1)::RpP true gp G y::L) (GpP gp G y' L) from enn) k h
def RdP (m:Bool) (sa:Option Addr) (sc:Nat) (u:Nat→SlA) (ad:Option Addr) (c:Nat):SP:=RX.ex fun _:Unit=>if m=true then [pu (ad=sa∧c=sc)] else [Ow2 sa sc (u 0) (u 1)]
theorem gd_close (m:Bool) (sa:Option Addr) (sc:Nat) (u v:Nat→SlA) (ad:Option Addr) (c:Nat) {L:List SP}:∀ k,sep (Ow2 ad c (v 0) (v 1)::RdP m sa sc u ad c::L) k→sep (Ow2 sa sc (uM m u v 0) (uM m u v 1)::L) k:=fun k h=>by
 cases m
 ·have h2:sep (RdP false sa sc u ad c::L) k:=Ent.sep (show Ent (Ow2 ad c (v 0) (v 1)::RdP false sa sc u ad c::L) (RdP false sa sc u ad c::L) from enn) k h
  obtain ⟨k1,k2,d,a,b,⟨_,x⟩,z⟩:=h2
  have x2:sep [Ow2 sa sc (u 0) (u 1)] k1:=x
  exact sep_join d a b x2 z
 ·have h2:sep (RdP true sa sc u ad c::Ow2 ad c (v 0) (v 1)::L) k:=Ent.sep enn k h
  obtain ⟨k1,k2,d,a,b,⟨_,x⟩,z⟩:=h2
  have x2:sep [pu (ad=sa∧c=sc)] k1:=x
  obtain ⟨⟨rfl,rfl⟩,_⟩:=sep_pure x2
  exact z.up b
abbrev ptr2 (f:Nat→Nat):List Value:=[.pointer (some ⟨f 0,0,none⟩),.pointer (some ⟨f 1,0,none⟩)]
theorem ptr2_at (f:Nat→Nat) {k:Nat} (hk:k < 2):(ptr2 f)[k * 1]?=some (.pointer (some ⟨f k,0,none⟩)):=by
 rcases (show k=0∨k=1 by omega) with rfl | rfl<;>rfl
abbrev OwL (la:Option Addr) (lc:Nat) (lb:Nat→Nat):SP:=own 145 1 la 2 lc (ptr2 lb)
abbrev OwQ (qa:Option Addr) (qc:Nat) (q:Nat→Nat):SP:=own 148 1 qa 2 qc (ptr2 q)
abbrev TwH (tb pb:Nat) (la:Option Addr) (lc:Nat) (qa:Option Addr) (qc:Nat) (gp:Option Nat) (sa:Option Addr) (sc:Nat):SP:=pt tb [.pointer (some ⟨pb,0,none⟩),.slice la 2 lc,.slice qa 2 qc,pN gp,.slice sa 2 sc] 144
theorem rate_ct (L:List SP) (r:RtA):Ct Tryz.prog 92 #[.agg (encRt r).toArray] (L) (fun _:Unit=>.agg (encRt r).toArray) (fun _:Unit=>L):=by
 refine Ct.o1 Tryz.func92 ?_;intro E
 show Hd E 10 _ _ _ _
 refine sr fun _ K1=>?_
 refine Hd.box rfl rfl (fun b1=>?_);refine Hd.alloc zr155 (fun b2=>?_);refine fk [(1,_),(2,_)] K1 ?_;refine sr fun _ K2=>?_
 refine yv (y_f 0 2 Tryz.underlying76 sz2)<|yv (y_l1 ag2 rfl)<|yv (y_f 1 29 Tryz.underlying76 sz29)<|yv (y_l1 ag29 rfl)<|yv (y_f 2 2 Tryz.underlying76 sz2)<|yv (y_l1 ag2 rfl)<|yv (y_build (vs:=[(0,_),(1,_),(2,_)]) rfl (by exact bd92_9 ..)) ?_;refine Hd.storeA (us:=encRt r) sz155 rfl rfl rfl (by simp [Value.oneCell']) pkk (by exact rfl) ?_;refine fk [(2,_)] K2 ?_;refine Hd.ret ?_;exact Hd.retC rfl () ag155 rfl (Rd.pt (b:=b2) (us:=encRt r) pkk (fun j v e=>by rw [Nat.zero_add];exact e)) (by exact sz155) rfl sq
theorem group27_ct (L:List SP) (tb pb:Nat) (la:Option Addr) (lc:Nat) (qa:Option Addr) (qc:Nat) (gp:Option Nat) (sa:Option Addr) (sc:Nat) (q:Nat→Nat) (k:Nat) (hk:k < 2) (m:Bool) (cb:Nat) (ad:Option Addr) (c:Nat) (u:Nat→SlA):Ct Tryz.prog 97 #[.pointer (some ⟨tb,0,none⟩),.int .i64 (k:Int)] (TwH tb pb la lc qa qc gp sa sc::OwQ qa qc q::LqH (q k) cb ad c (gI m)::Ow2 sa sc (u 0) (u 1)::L) (fun q_:Option Addr×Nat=>.slice q_.1 2 q_.2) (fun q_:Option Addr×Nat=>Ow2 q_.1 q_.2 (vM m u 0) (vM m u 1)::RdP m sa sc u q_.1 q_.2::TwH tb pb la lc qa qc gp sa sc::OwQ qa qc q::LqH (q k) cb ad c (gI m)::L):=by
 refine Ct.o2 Tryz.func97 ?_;intro E
 show Hd E 21 _ _ _ _
 refine sr fun _ K1=>?_
 refine yv y_as<|fk [(0,_),(1,_)] K1 ?_;refine Hd.seq fun _ K2=>?_
 refine sr fun _ K3=>?_
 refine yv y_mv<|yv y_np<|yv (y_f 2 140 Tryz.underlying144 sz140)<|yv (y_l1 ag140 rfl)<|yv y_mv<|yv (y_idxR Tryz.underlying140 sz148 rfl rfl (by omega) (by exact RdS.own pkk)) ?_;refine yv (y_loadR1 ag148 rfl (RdS.own (ad:=qa) (us:=ptr2 q) pkk) (ptr2_at q hk)) ?_;refine yv y_np<|yv (y_f 2 3 Tryz.underlying150 sz3)<|yv (y_l1 ag3 rfl)<|yv (y_lss rfl rfl) ?_;refine fk [(0,_),(15,_)] K3 ?_;refine qz ?_ ?_<;>intro hc0<;>try simp only [hyZ] at hc0
 ·obtain rfl:m=false:=by
   cases m
   ·rfl
   ·exact absurd hc0 (by decide)
  refine sr fun _ K4=>?_
  refine Hd.mkslice (m:=2) (cap:=2) Tryz.underlying142 ty178 zr178 rfl rfl rfl rfl (by decide) (by decide) (by decide) (fun b16 cs16 hcs16=>?_);refine Bc.Hd.ptOwn 2 6 pkk (by rw [hcs16];rfl) (by decide) ?_;refine yv y_as<|fk [(4,_)] K4 ?_;refine Hd.ret<|Hd.thenRet ?_;exact Hd.ret1 rfl (some ⟨b16,0,none⟩,2) rfl (Ent.sep (.eq (A:=own _ 6 (some ⟨b16,0,none⟩) 2 2 _) pkk (own_eq3 rfl rfl (by rw [hcs16];rfl)) (.ex () (show Ent _ ([Ow2 sa sc (u 0) (u 1)]++_) from enn))))
 obtain rfl:m=true:=by
  cases m
  ·exact absurd (show gI false < 0 by decide) (by omega)
  ·rfl
 refine qv K2<|sr fun _ K5=>?_
 refine yv y_mv<|yv y_np<|yv (y_f 4 142 Tryz.underlying144 sz142)<|yv (y_l1 ag142 rfl)<|yv y_as<|fk [(4,_)] K5 ?_;refine Hd.ret ?_;exact Hd.ret1 rfl (sa,sc) rfl (Ent.sep (.eq (A:=Ow2 sa sc (u 0) (u 1)) pkk (by rfl) (.ex () (show Ent _ ([pu (sa=sa∧sc=sc)]++_) from .pure ⟨rfl,rfl⟩ enn))))
end Lm
end Go.Proofs.YtmpemhbfgbochaaGreatDoor
namespace Go.Proofs.YtmpemhbfgbochaaGreatDoor
open Go.RX Fx
namespace Bu
open Wo
theorem eff_h {f:Nat→SdA→SdA} (hf:∀ s,(f 1 s).high=s.high) (x:BfA) (ks:List Nat):((effB f x ks).s 1).high=(x.s 1).high:=by
 show (if 1∈ks then f 1 (x.s 1) else x.s 1).high=_
 split
 ·exact hf _
 ·rfl
theorem en_h (x:BfA) (now m:Int):((enB x now m).s 1).high=(x.s 1).high:=by
 unfold enB
 split
 ·exact eff_h (fun s=>by unfold onF;split<;>rfl) _ _
 ·rfl
theorem wr_h (x:BfA) (now:Int) (bs:List UInt8):((wrB x now bs).s 1).high=(x.s 1).high:=by
 unfold wrB
 repeat' split
 all_goals rfl
theorem rd_h (x:BfA) (n:Int):((readB x n).s 1).high=(x.s 1).high:=by
 unfold readB
 split<;>rfl
theorem wS_h (σ:StA) (now much:Int):((writeS σ now much).x.s 1).high=(σ.x.s 1).high:=by
 unfold writeS wrP
 repeat' split
 all_goals rfl
theorem step_h (x:BfA) (w:WA) (now flags most much:Int):((stepS x w now flags most much).x.s 1).high=(x.s 1).high:=by
 unfold stepS
 split
 ·rw [wS_h,stepR_s1]
 ·rw [stepR_s1]
theorem sR_stp {w:WA} (h:WOk w) (x:BfA) (now flags most:Int):Stp 1 w (stepR x w now flags most).w:=by
 have:=read_stp h x.fd (rdN (x.s 0) most)
 unfold stepR readS rdP
 repeat' split
 all_goals first
  | exact Stp.same w
  | exact this
theorem wS_stp {σ:StA} (h:WOk σ.w) (now much:Int):Stp 1 σ.w (writeS σ now much).w:=by
 have:=write_stp h σ.x.fd (offA (σ.x.s 1) much)
 unfold writeS wrP
 repeat' split
 all_goals first
  | exact Stp.same σ.w
  | exact this
theorem step_stp {w:WA} (h:WOk w) (x:BfA) (now flags most much:Int):Stp 2 w (stepS x w now flags most much).w:=by
 have h1:=sR_stp h x now flags most
 have h2:=wS_stp (σ:=stepR x w now flags most) (stepR_ok h x now flags most) now much
 unfold stepS
 split
 ·exact h1.trans h2
 ·exact h1.mono (by decide)
theorem Hd.bufLe {E:World} {n:Nat} {ds:List Deferred} {st:List (Nat×Value)} {L L':List SP} {K:Act→World→Prop} {b wb:Nat} {x:BfA} (p:Pick L (BufP b wb x) L') (h:(∀ k,k < 2→(x.s k).c.length≤1048576)→Hd E n ds st L K):Hd E n ds st L K:=fun a v f s=>by
 refine h (fun k hk=>?_) a v f s
 have one:∀ {L:List SP} {k0:PH} {o:Nat} {l:List UInt8} {M:List SP},Pick L (ChB b o l) M→sep L k0→l.length≤1048576:=fun p s=>by
  obtain ⟨h1,s1,rs,x⟩:=sep.one p s
  have x2:=(sep_pure (p:=Bc.Good rs∧Bc.flat rs=_) x).1
  rw [←x2.2];exact x2.1.2
 obtain ⟨h1,s1,i,y⟩:=sep.one p s.2.2.2
 have y2:sep (BfL b wb x 0 []) h1:=y
 rcases (show k=0∨k=1 by omega) with rfl | rfl
 ·exact one (L:=BfL b wb x 0 []) (o:=2 + 0 * 8 + 0) (l:=(x.s 0).c) pkk y2
 ·exact one (L:=BfL b wb x 0 []) (o:=2 + (1 - 0) * 8 + 0) (l:=(x.s (1 - 0)).c) pkk y2
end Bu
end Go.Proofs.YtmpemhbfgbochaaGreatDoor
namespace Go.Proofs.YtmpemhbfgbochaaGreatDoor
open Go.RX Fx
namespace Fx
theorem bsS1 (a:ByteArray):bltS Tryz.prog 137 1 [(0,.string a)]=some (9,[.string a]):=by kernel_rfl
theorem bsS2 (a b:ByteArray):bltS Tryz.prog 137 2 [(0,.string a),(1,.string b)]=some (9,[.string a,.string b]):=by kernel_rfl
theorem bsS4 (a b c d:ByteArray):bltS Tryz.prog 137 4 [(0,.string a),(1,.string b),(2,.string c),(3,.string d)]=some (9,[.string a,.string b,.string c,.string d]):=by kernel_rfl
end Fx
namespace Wo
abbrev dgB (n:Nat):List UInt8:=Lib.decDigits n
def nibB (d:Nat):UInt8:=if d < 10 then UInt8.ofNat (48 + d) else UInt8.ofNat (87 + d)
def hexB (l:List UInt8):List UInt8:=l.flatMap fun c=>[nibB (c.toNat / 16),nibB (c.toNat % 16)]
abbrev sNow:List UInt8:=[110,111,119,32]
abbrev sFd:List UInt8:=[102,100,32]
abbrev sWire2:List UInt8:=[32,119,105,114,101,32]
abbrev sEnd:List UInt8:=[32,101,110,100,32]
abbrev sWire:List UInt8:=[119,105,114,101]
abbrev sListen:List UInt8:=[108,105,115,116,101,110]
abbrev sReset:List UInt8:=[114,101,115,101,116]
abbrev sSignal:List UInt8:=[115,105,103,110,97,108,32]
abbrev sNotice:List UInt8:=[110,111,116,105,99,101,32]
abbrev sShut:List UInt8:=[115,104,117,116]
def kindB (n:Int):List UInt8:=if n=0 then [110,111,110,101] else if n=1 then [105,110] else if n=2 then [111,117,116] else [99,108,111,115,101,100]
def ringB (e:EndA) (cap:Nat):List UInt8:=if e.rd=true then hexB e.b++([47]++dgB cap) else [45]
def wordsA (e:EndA) (cap:Nat):List (List UInt8):=[kindB e.what]++((if e.shut=true then [sShut] else [])++[ringB e cap])
def spJ (ws:List (List UInt8)):List UInt8:=Lib.join ws [32]
theorem spJ_snoc:∀ {ws:List (List UInt8)} (x:List UInt8),ws≠[]→spJ (ws++[x])=spJ ws++([32]++x)
 | [],_,h=>absurd rfl h
 | [a],x,_=>by
  unfold spJ Lib.join;simp [List.intercalate]
 | a::b::t,x,_=>by
  have ih:=spJ_snoc (ws:=b::t) x (by simp)
  have e:∀ l:List (List UInt8),l≠[]→spJ (a::l)=a++([32]++spJ l):=fun l hl=>by
   cases l with
   | nil=>exact absurd rfl hl
   | cons c t=>unfold spJ Lib.join;simp [List.intercalate]
  show spJ (a::(b::t++[x]))=spJ (a::b::t)++_
  rw [e _ (by simp),ih,e _ (by simp)];simp only [List.append_assoc]
theorem spJ_app:∀ (ys:List (List UInt8)) {ws:List (List UInt8)},ws≠[]→spJ (ws++ys)=spJ ws++ys.flatMap fun y=>[32]++y
 | [],ws,_=>by rw [List.append_nil,List.flatMap_nil,List.append_nil]
 | y::t,ws,h=>by
  have e:ws++y::t=(ws++[y])++t:=by simp
  rw [e,spJ_app t (by simp),spJ_snoc y h,List.flatMap_cons,List.append_assoc]
def wireWs (n:Nat) (x:WireA):List (List UInt8):=[sWire,dgB n]++((if 0 < x.bl then [sListen,dgB x.bl.toNat]++x.wt.map dgB else wordsA (x.e 0) x.cap++wordsA (x.e 1) x.cap)++if x.rs=true then [sReset] else [])
def wireB (n:Nat) (x:WireA):List UInt8:=spJ (wireWs n x)
def fdK (w:WA) (n k:Nat):Nat:=if 0 < ((w.ws[n]?).map WireA.bl).getD 0 then 2 else k
def fdB (w:WA) (fd:Nat):List (List UInt8):=match w.at (fd:Int) with
 | none=>[]
 | some (n,k)=>[sFd++(dgB fd++(sWire2++(dgB n++(sEnd++dgB (fdK w n k)))))]
def sgB (w:WA) (s:Nat):List (List UInt8):=if w.hd.getD s false=true then [sSignal++(dgB s++([32]++dgB (w.ct.getD s 0).toNat))] else []
def ntB (w:WA):List (List UInt8):=match w.nt with
 | none=>[]
 | some (n,k)=>[sNotice++(dgB n++([32]++dgB k))]
def imgW (w:WA):List (List UInt8):=[sNow++dgB w.now.toNat]++(((List.range 96).flatMap (fdB w))++(((List.range w.ws.length).flatMap fun n=>(w.ws[n]?).toList.map (wireB n))++(((List.range 31).flatMap fun s=>sgB w (s + 1))++ntB w)))
def fdsW (w:WA):List Int:=((List.range 96).filter fun n:Nat=>(w.at (n:Int)).isSome).map fun n:Nat=>(n:Int)
theorem dg_lt {n:Nat} (h:n < 10):dgB n=[UInt8.ofNat (48 + n)]:=Lib.decDigits_one h
theorem dg_ge {n:Nat} (h:¬ n < 10):dgB n=dgB (n / 10)++[UInt8.ofNat (48 + n % 10)]:=by
 show Lib.decDigits n=_
 rw [Lib.decDigits,dif_neg h]
end Wo
end Go.Proofs.YtmpemhbfgbochaaGreatDoor
namespace Go.Proofs.YtmpemhbfgbochaaGreatDoor
open Go.RX Fx
namespace Rf
open Wo
theorem dg_len:∀ (k n:Nat),n < 10 ^ (k + 1)→(dgB n).length≤k + 1
 | 0,n,h=>by rw [dg_lt (by simpa using h)];simp
 | k + 1,n,h=>by
  by_cases hn:n < 10
  ·rw [dg_lt hn];simp
  ·have:=dg_len k (n / 10) (by rw [Nat.pow_succ] at h;omega)
   rw [dg_ge hn,List.length_append,List.length_singleton];omega
theorem dg_20 {n:Nat} (h:n≤18446744073709551615):(dgB n).length≤20:=dg_len 19 n (by omega)
theorem dgt_v {k:Nat}:((UInt8.ofNat (48 + k % 10)).toNat:Int)=48 + ((k:Int) % 10):=by
 rw [UInt8.toNat_ofNat'];omega
theorem rdig_ct (L:List SP) (n:Nat) (hn:n≤18446744073709551615):Ct Tryz.prog 170 #[.int .u64 (n:Int)] (L) (fun _:Unit=>.string (str (dgB n))) (fun _:Unit=>L):=by
 refine Ct.o1 Tryz.func170 ?_;intro E
 show Hd E 23 _ _ _ _
 have hl:=dg_20 hn
 refine sr fun _ K1=>?_
 refine yv y_as<|fk [(0,_)] K1 ?_;refine sr fun _ K2=>?_
 refine yv y_as<|fk [(0,_),(3,_)] K2 ?_;refine Hd.seq fun _ K3=>?_
 refine Hd.block<|Hd.loopK (ι:=Nat×List UInt8) [] (fun q_=>[(0,.int .u64 (q_.1:Int)),(3,.string (str q_.2))]) (fun q_=>pu (q_.1≤n∧dgB n=dgB q_.1++q_.2)::L) (fun q_=>q_.1) (n,[]) sbq sbq (Ent.sep (.pure ⟨Nat.le_refl _,(List.append_nil _).symm⟩ enn)) ?_;rintro ⟨k,s⟩
 try dsimp only
 refine Hd.pure (fun hp0=>?_)
 try dsimp only at hp0
 refine Hd.seq fun _ K4=>?_
 refine sr fun _ K5=>?_
 refine yv y_mv<|yv (y_gtr rfl rfl) ?_;refine fk [(0,_),(3,_),(5,_)] K5 ?_;refine qz ?_ ?_<;>intro hc0<;>try simp only [hyZ] at hc0
 ·have hk:¬ k < 10:=by omega
  have hs:dgB n=dgB (k / 10)++([UInt8.ofNat (48 + k % 10)]++s):=by rw [hp0.2,dg_ge hk,List.append_assoc]
  have hsl:s.length≤20:=by have:=hp0.2;rw [this,List.length_append] at hl;omega
  refine qv K4<|Hd.block<|sr fun _ K6=>?_
  refine yv y_mv<|yv (y_remn rfl rfl (by omega) (by omega)) ?_;refine yv (y_addn rfl rfl (by simp only [InK];omega)) ?_;refine yv (y_to (v':=.int .u8 ((UInt8.ofNat (48 + k % 10)).toNat:Int)) (y_conv rfl Tryz.underlying29 Tryz.underlying5) (by (refine congrArg (Value.int .u8) ?_;rw [dgt_v];rw [IntKind.wrap_u8];omega))) ?_;refine Hd.bslice (vs:=[(0,_)]) rfl (by exact bs170_10 ..) (fun b10=>?_);refine yv (y_strOf (l:=[UInt8.ofNat (48 + k % 10)]) kq Tryz.underlying9 rfl (by exact RdS.rd (Rd.pt pkk (fun j v e=>by rw [Nat.zero_add];exact e)) rfl)) ?_;refine yv y_mv<|yv (y_addstr rfl rfl (by simp;omega)) ?_;refine yv y_as<|fk [(0,_),(3,_)] K6 ?_;refine Hd.region<|yv y_mv<|yv (y_quon rfl rfl (by omega) (by omega) (by simp only [InK];omega)) ?_;refine yv y_as<|Hd.nil<|slots [(0,_),(3,_)] sbq ?_;refine Hd.inB ?_
  refine thenN ?_;exact Hd.again (k / 10,[UInt8.ofNat (48 + k % 10)]++s) (by omega) sbq (Ent.sep (.pure ⟨(show k / 10≤n by omega),hs⟩ enn))
 have hk:k < 10:=by omega
 have hsl:s.length≤20:=by have:=hp0.2;rw [this,List.length_append] at hl;omega
 have hfin:dgB n=[UInt8.ofNat (48 + k % 10)]++s:=by rw [hp0.2,dg_lt hk,show k % 10=k by omega]
 refine Hd.exit<|Hd.thenExit<|Hd.thenExit<|Hd.inBexit<|Hd.toK K3 ?_;refine sr fun _ K7=>?_
 refine yv y_mv<|yv (y_addn rfl rfl (by simp only [InK];omega)) ?_;refine yv (y_to (v':=.int .u8 ((UInt8.ofNat (48 + k % 10)).toNat:Int)) (y_conv rfl Tryz.underlying29 Tryz.underlying5) (by (refine congrArg (Value.int .u8) ?_;rw [dgt_v];rw [IntKind.wrap_u8];omega))) ?_;refine Hd.bslice (vs:=[(0,_)]) rfl (by exact bs170_19 ..) (fun b19=>?_);refine yv (y_strOf (l:=[UInt8.ofNat (48 + k % 10)]) kq Tryz.underlying9 rfl (by exact RdS.rd (Rd.pt pkk (fun j v e=>by rw [Nat.zero_add];exact e)) rfl)) ?_;refine yv y_mv<|yv (y_addstr rfl rfl (by simp;omega)) ?_;refine yv y_as<|fk [(2,_)] K7 ?_;refine Hd.ret ?_;rw [hfin];exact Hd.ret1 rfl () rfl sq
theorem rnum_ct (L:List SP) (n:Nat) (hn:n≤9223372036854775807):Ct Tryz.prog 171 #[.int .i64 (n:Int)] (L) (fun _:Unit=>.string (str (dgB n))) (fun _:Unit=>L):=by
 refine Ct.o1 Tryz.func171 ?_;intro E
 show Hd E 6 _ _ _ _
 refine sr fun _ K1=>?_
 refine yv y_as<|fk [(0,_)] K1 ?_;refine sr fun _ K2=>?_
 refine yv y_mv<|yv (y_to (v':=.int .u64 (n:Int)) (y_conv rfl Tryz.underlying3 Tryz.underlying29) (by (refine congrArg (Value.int .u64) ?_;rw [IntKind.wrap_u64];omega))) ?_;refine callE rfl fk170 (rdig_ct _ n (by omega)) sq ?_;intro _;refine yv y_as<|fk [(2,_)] K2 ?_;refine Hd.ret ?_;exact Hd.ret1 rfl () (by rfl) sq
def shB (e:EndA):List UInt8:=if e.shut=true then [32]++sShut else []
def endB (e:EndA) (cap:Nat):List UInt8:=kindB e.what++(shB e++([32]++ringB e cap))
abbrev kindsV:List Value:=[.string (str [110,111,110,101]),.string (str [105,110]),.string (str [111,117,116]),.string (str [99,108,111,115,101,100])]
theorem kinds_at {k:Nat} (hk:k≤3):kindsV[k]?=some (.string (str (kindB (k:Int)))):=by
 rcases (show k=0∨k=1∨k=2∨k=3 by omega) with rfl | rfl | rfl | rfl<;>rfl
abbrev hexD:List UInt8:=[48,49,50,51,52,53,54,55,56,57,97,98,99,100,101,102]
theorem hexD_at {d:Nat} (hd:d < 16):hexD[d]?=some (nibB d):=by
 have:∀ d:Fin 16,hexD[d.1]?=some (nibB d.1):=by decide
 exact this ⟨d,hd⟩
theorem hexD_cut {d:Nat} (hd:d < 16):(hexD.drop d).take (d + 1 - d)=[nibB d]:=by
 have:∀ d:Fin 16,(hexD.drop d.1).take (d.1 + 1 - d.1)=[nibB d.1]:=by decide
 exact this ⟨d,hd⟩
theorem hexB_snoc (l:List UInt8) (c:UInt8):hexB (l++[c])=hexB l++[nibB (c.toNat / 16),nibB (c.toNat % 16)]:=by simp [hexB]
theorem kind_len (q:Int):(kindB q).length≤6:=by unfold kindB;split<;>(try split)<;>(try split)<;>decide
theorem sh_len (e:EndA):(shB e).length≤5:=by unfold shB;split<;>decide
theorem hexB_len:∀ l:List UInt8,(hexB l).length=2 * l.length
 | []=>rfl
 | c::l=>by
  have:=hexB_len l
  unfold hexB at this ⊢;simp only [List.flatMap_cons,List.length_append,List.length_cons,List.length_nil,this];omega
theorem u8_lt (c:UInt8):c.toNat < 256:=c.toNat_lt
theorem rend_ct (L:List SP) (e:EndA) (q:Nat) (hq:e.what=(q:Int)) (hq3:q≤3) (cap:Nat) (hc:cap≤65536) (hl:e.b.length≤65536) (ad:Option Addr) (c:Nat) (hR:RdS L 1 ad e.b.length (bsl e.b)):Ct Tryz.prog 172 #[.agg (encRE e ad c).toArray,.int .i64 (cap:Int)] (L) (fun _:Unit=>.string (str (endB e cap))) (fun _:Unit=>L):=by
 refine Ct.o2 Tryz.func172 ?_;intro E
 show Hd E 64 _ _ _ _
 rw [show encRE e ad c=[.int .i64 (q:Int),.int .i64 e.fd,.bool e.rd,.bool e.wr,.slice ad e.b.length c,.bool e.shut,.int .u64 e.inn,.int .u64 e.out] by rw [←hq]]
 have hkl:=kind_len (q:Int)
 have hsl:=sh_len e
 refine sr fun _ K1=>?_
 refine Hd.box rfl rfl (fun b2=>?_);refine yv y_as<|fk [(1,_),(2,_)] K1 ?_;refine sr fun _ K2=>?_
 refine Hd.bslice (vs:=[(0,_),(1,_),(2,_),(3,_)]) rfl (by exact bsS4 ..) (fun b9=>?_);refine yv (y_f 0 3 Tryz.underlying201 sz3)<|yv (y_l1 ag3 rfl)<|yv (y_idxS Tryz.underlying137 sz9 rfl rfl (by omega)) ?_;refine yv (y_load1 (v:=.string (str (kindB (q:Int)))) ag9 rfl (Rd.pt1 (cs:=kindsV) pkk (by rw [show (0 + q * 1)=q by omega];exact kinds_at hq3))) ?_;refine yv y_as<|fk [(1,_),(2,_),(5,_)] K2 ?_
 obtain ⟨S0,hS0⟩:∃ S0,kindB (q:Int)++shB e=S0:=⟨_,rfl⟩
 have hS0l:S0.length≤11:=by rw [←hS0,List.length_append];omega
 refine Hd.cutK (ι:=Unit) [(1,_),(2,_)] (fun _=>[(5,.string (str S0))]) (fun _=>pt b2 [.int .i64 (q:Int),.int .i64 e.fd,.bool e.rd,.bool e.wr,.slice ad e.b.length c,.bool e.shut,.int .u64 e.inn,.int .u64 e.out] 201::L) ?_ ?_ ⟨rfl,rfl,trivial⟩
 ·refine sr fun _ K3=>?_
  refine yv (y_f 5 4 Tryz.underlying201 sz4)<|yv (y_l1 ag4 rfl)<|fk [(1,_),(2,_),(5,_),(15,_)] K3 ?_;refine qz ?_ ?_<;>intro hc0<;>try simp only [hyZ] at hc0
  ·have hs:shB e=[32]++sShut:=if_pos hc0
   rw [hs] at hS0;refine Hd.region<|yv y_mv<|yv (y_addstr rfl rfl (by simp;omega)) ?_;refine yv y_as<|Hd.nil<|slots [(1,_),(2,_),(5,_)] sbq ?_;refine thenN ?_;exact Hd.meet () ⟨by rw [←hS0];rfl,by repeat (first | exact trivial | refine ⟨rfl,?_⟩)⟩ sq
  have hs:shB e=[]:=if_neg (by simpa using hc0)
  rw [hs,List.append_nil] at hS0;refine Hd.skip<|thenN ?_;exact Hd.meet () ⟨by rw [←hS0];rfl,by repeat (first | exact trivial | refine ⟨rfl,?_⟩)⟩ sq
 intro _;refine Hd.seq fun _ K4=>?_
 refine sr fun _ K5=>?_
 refine yv (y_f 2 4 Tryz.underlying201 sz4)<|yv (y_l1 ag4 rfl)<|yv (y_not rfl)<|fk [(1,_),(2,_),(5,_),(20,_)] K5 ?_;refine qz ?_ ?_<;>intro hc1<;>try simp only [hyZ] at hc1
 ·have hrd:e.rd=false:=by simpa using hc1
  have hfin:endB e cap=S0++[32,45]:=by unfold endB ringB;rw [if_neg (by rw [hrd];decide),hq,←hS0,List.append_assoc];rfl
  refine sr fun _ K6=>?_
  refine yv y_mv<|yv (y_addstr rfl rfl (by simp;omega)) ?_;refine yv y_as<|fk [(4,_)] K6 ?_;refine Hd.ret<|Hd.thenRet ?_;rw [hfin];exact Hd.ret1 rfl () rfl sq
 have hrd:e.rd=true:=by simpa using hc1
 have hfin:endB e cap=(S0++[32])++(hexB e.b++([47]++dgB cap)):=by unfold endB ringB;rw [if_pos hrd,hq,←hS0];simp only [List.append_assoc]
 refine qv K4<|sr fun _ K7=>?_
 refine yv y_mv<|yv (y_addstr rfl rfl (by simp;omega)) ?_;refine yv y_as<|fk [(1,_),(2,_),(5,_)] K7 ?_;refine Hd.seq fun _ K8=>?_
 refine sr fun _ K9=>?_
 refine yv y_as<|fk [(1,_),(2,_),(5,_),(6,_)] K9 ?_;refine Hd.block<|Hd.loopK (ι:=Nat) [(1,_),(2,_)] (fun i=>[(5,.string (str (S0++([32]++hexB (e.b.take i))))),(6,.int .i64 (i:Int))]) (fun i=>pu (i≤e.b.length)::pt b2 [.int .i64 (q:Int),.int .i64 e.fd,.bool e.rd,.bool e.wr,.slice ad e.b.length c,.bool e.shut,.int .u64 e.inn,.int .u64 e.out] 201::L) (fun i=>e.b.length - i) 0 sbq sbq (Ent.sep (.pure (by omega) enn)) ?_;intro i
 try dsimp only
 refine Hd.pure (fun hp0=>?_)
 try dsimp only at hp0
 refine Hd.seq fun _ K10=>?_
 refine sr fun _ K11=>?_
 refine yv y_mv<|yv (y_f 4 30 Tryz.underlying201 sz30)<|yv (y_l1 ag30 rfl)<|yv (y_len Tryz.underlying30 rfl) ?_;refine yv (y_lss rfl rfl) ?_;refine fk [(1,_),(2,_),(5,_),(6,_),(29,_)] K11 ?_;refine qz ?_ ?_<;>intro hc2<;>try simp only [hyZ] at hc2
 ·have hi:i < e.b.length:=by omega
  obtain ⟨x,hx⟩:∃ x,e.b[i]?=some x:=⟨_,List.getElem?_eq_getElem hi⟩
  have hb8:=u8_lt x
  have hts:hexB (e.b.take (i + 1))=hexB (e.b.take i)++[nibB (x.toNat / 16),nibB (x.toNat % 16)]:=by rw [List.take_add_one,hx,Option.toList_some,hexB_snoc]
  have hhl:=hexB_len (e.b.take i)
  have htl:(e.b.take i).length≤65536:=by rw [List.length_take];omega
  refine qv K10<|Hd.seq fun _ K12=>?_
  refine Hd.block<|Hd.seq fun _ K13=>?_
  refine Hd.drawsH (pt b2 [.int .i64 (q:Int),.int .i64 e.fd,.bool e.rd,.bool e.wr,.slice ad e.b.length c,.bool e.shut,.int .u64 e.inn,.int .u64 e.out] 201::L) (fun _=>true) mixed ?_;simp only [List.length,Nat.zero_add,Nat.reduceAdd];refine tH 0 rfl (y_f 4 30 Tryz.underlying201 sz30)<|tH 1 rfl (y_l1 ag30 rfl)<|tH 2 rfl y_mv<|tH 3 rfl (y_idxR Tryz.underlying30 sz5 rfl rfl (by omega) (by exact RdS.mono hR sq)) ?_;refine tH 4 rfl (y_loadR1 (v:=B x) ag5 rfl (RdS.mono hR sq) (by rw [Nat.mul_one,List.getElem?_map,hx];rfl)) ?_;refine tH 5 rfl (y_to (v':=.int .u8 ((x.toNat / 16:Nat):Int)) (y_quon rfl rfl (by omega) (by omega) (by simp only [InK];omega)) (by rfl)) ?_;refine tH 6 rfl (y_f 4 30 Tryz.underlying201 sz30)<|tH 7 rfl (y_l1 ag30 rfl)<|tH 8 rfl y_mv<|tH 9 rfl (y_idxR Tryz.underlying30 sz5 rfl rfl (by omega) (by exact RdS.mono hR sq)) ?_
  refine tH 10 rfl (y_loadR1 (v:=B x) ag5 rfl (RdS.mono hR sq) (by rw [Nat.mul_one,List.getElem?_map,hx];rfl)) ?_;refine tH 11 rfl (y_to (v':=.int .u8 ((x.toNat % 16:Nat):Int)) (y_remn rfl rfl (by omega) (by omega)) (by rfl)) ?_;refine tH 14 rfl y_mv<|qo 12 ?_;refine Hd.bslice (vs:=[(0,_),(1,_)]) rfl (by exact bs172_44 ..) (fun b44=>?_);refine qk<|tH 13 rfl (y_len Tryz.underlying30 rfl) ?_;refine endH kq ?_;refine sk [(1,_),(2,_),(5,_),(6,_),(44,_),(45,_),(46,_)] K13 ?_;refine Hd.block<|Hd.loopK (ι:=Nat×List UInt8) [(1,_),(2,_),(6,_),(44,_),(45,_)] (fun q_=>[(5,.string (str q_.2)),(46,.int .i64 (q_.1:Int))]) (fun q_=>pu (q_.1≤2∧q_.2=S0++([32]++(hexB (e.b.take i)++[nibB (x.toNat / 16),nibB (x.toNat % 16)].take q_.1)))::pt b44 [.int .u8 ((x.toNat / 16:Nat):Int),.int .u8 ((x.toNat % 16:Nat):Int)] 5::pt b2 [.int .i64 (q:Int),.int .i64 e.fd,.bool e.rd,.bool e.wr,.slice ad e.b.length c,.bool e.shut,.int .u64 e.inn,.int .u64 e.out] 201::L) (fun q_=>2 - q_.1) (0,S0++([32]++hexB (e.b.take i))) sbq sbq (Ent.sep (.pure ⟨Nat.zero_le _,by rw [List.take_zero,List.append_nil]⟩ enn)) ?_
  rintro ⟨j,T⟩
  try dsimp only
  refine Hd.pure (fun hp1=>?_)
  try dsimp only at hp1
  refine sr fun _ K14=>?_
  refine yv (y_lss rfl rfl) ?_;refine fk [(1,_),(2,_),(5,_),(6,_),(44,_),(45,_),(46,_),(47,_)] K14 ?_;refine Hd.seq fun _ K15=>?_
  refine qz ?_ ?_<;>intro hc3<;>try simp only [hyZ] at hc3
  ·have hj:j < 2:=by omega
   obtain ⟨d,hd,hcell,hnt⟩:∃ d:Nat,d < 16∧([.int .u8 ((x.toNat / 16:Nat):Int),.int .u8 ((x.toNat % 16:Nat):Int)]:List Value)[j]?=some (.int .u8 (d:Int))∧[nibB (x.toNat / 16),nibB (x.toNat % 16)].take (j + 1)=[nibB (x.toNat / 16),nibB (x.toNat % 16)].take j++[nibB d]:=by
    rcases (show j=0∨j=1 by omega) with rfl | rfl
    ·exact ⟨x.toNat / 16,by omega,rfl,rfl⟩
    ·exact ⟨x.toNat % 16,by omega,rfl,rfl⟩
   have hjl:([nibB (x.toNat / 16),nibB (x.toNat % 16)].take j).length≤2:=by rw [List.length_take];simp;omega
   have hTl:T.length≤200000:=by rw [hp1.2];simp only [List.length_append,List.length_singleton];omega
   have hT2:T++[nibB d]=S0++([32]++(hexB (e.b.take i)++[nibB (x.toNat / 16),nibB (x.toNat % 16)].take (j + 1))):=by rw [hp1.2,hnt];simp only [List.append_assoc]
   refine qv K15<|Hd.seq fun _ K16=>?_
   refine Hd.block<|sr fun _ K17=>?_
   refine yv (y_idxS Tryz.underlying30 sz5 rfl rfl (by omega)) ?_;refine yv (y_load1 (v:=.int .u8 (d:Int)) ag5 rfl (Rd.pt1 pkk (by rw [show (0 + j * 1)=j by omega];exact hcell))) ?_;refine yv y_as<|fk [(1,_),(2,_),(5,_),(6,_),(8,_),(44,_),(45,_),(46,_)] K17 ?_;refine Hd.region<|yv y_mv<|yv y_mv<|yv (y_to (v':=.int .i64 (d:Int)) (y_conv rfl Tryz.underlying5 Tryz.underlying3) (by (refine congrArg (Value.int .i64) ?_;rw [IntKind.wrap_i64];omega))) ?_;refine yv y_mv<|yv (y_to (v':=.int .i64 (d:Int)) (y_conv rfl Tryz.underlying5 Tryz.underlying3) (by (refine congrArg (Value.int .i64) ?_;rw [IntKind.wrap_i64];omega))) ?_;refine yv (y_to (v':=.int .i64 ((d + 1:Nat):Int)) (y_addn rfl rfl (by simp only [InK];omega)) (by (refine congrArg (Value.int .i64) ?_;omega))) ?_;refine yv (y_to (v':=.string (str [nibB d])) (y_strSl (l:=hexD) (a:=d) (b:=d + 1) Tryz.underlying9 rfl rfl rfl rfl rfl (by omega) (by show d + 1≤16;omega)) (by rw [hexD_cut hd])) ?_
   refine yv (y_addstr rfl rfl (by simp;omega)) ?_;refine yv y_as<|Hd.nil<|slots [(1,_),(2,_),(5,_),(6,_),(44,_),(45,_),(46,_)] sbq ?_;refine Hd.inB<|Hd.toK K16 ?_;refine Hd.region<|yv (y_addn rfl rfl (by simp only [InK];omega)) ?_;refine yv y_mv<|Hd.nil<|slots [(1,_),(2,_),(5,_),(6,_),(44,_),(45,_),(46,_)] sbq ?_;refine thenN ?_;exact Hd.again (j + 1,T++[nibB d]) (by omega) sbq (Ent.sep (.pure ⟨(show j + 1≤2 by omega),hT2⟩ enn))
  obtain rfl:j=2:=by omega
  have hT2:T=S0++([32]++hexB (e.b.take (i + 1))):=by rw [hp1.2,hts];rfl
  subst hT2;refine Hd.exit<|Hd.thenExit<|Hd.thenExit<|Hd.inBexit<|Hd.inB<|Hd.toK K12 ?_;refine Hd.region<|yv y_mv<|yv (y_addn rfl rfl (by simp only [InK];omega)) ?_;refine yv y_as<|Hd.nil<|slots [(1,_),(2,_),(5,_),(6,_)] sbq ?_;refine thenN ?_;exact Hd.again (i + 1) (by omega) sbq (Ent.sep (.pure (by omega) enn))
 obtain rfl:i=e.b.length:=by omega
 rw [List.take_length]
 have hhl:=hexB_len e.b
 have hdl:=dg_20 (n:=cap) (by omega)
 refine Hd.exit<|Hd.thenExit<|Hd.thenExit<|Hd.inBexit<|Hd.toK K8 ?_;refine sr fun _ K18=>?_
 refine yv y_mv<|yv (y_addstr rfl rfl (by simp;omega)) ?_;refine yv y_mv<|callE rfl fk171 (rnum_ct _ cap (by omega)) sq ?_;intro _;refine yv (y_addstr rfl rfl (by simp;omega)) ?_;refine yv y_as<|fk [(4,_)] K18 ?_;refine Hd.ret ?_;rw [hfin];exact Hd.ret1 rfl () (by simp only [List.append_assoc];rfl) sq
end Rf
end Go.Proofs.YtmpemhbfgbochaaGreatDoor
namespace Go.Proofs.YtmpemhbfgbochaaGreatDoor
open Go.RX Fx
namespace Wo
open Rf
def imgF (w:WA) (k:Nat):List (List UInt8):=[sNow++dgB w.now.toNat]++(List.range k).flatMap (fdB w)
def wr1L (w:WA) (n:Nat):List (List UInt8):=(w.ws[n]?).toList.map (wireB n)
def imgN (w:WA) (k:Nat):List (List UInt8):=imgF w 96++(List.range k).flatMap (wr1L w)
def imgS (w:WA) (k:Nat):List (List UInt8):=imgN w w.ws.length++(List.range k).flatMap fun s=>sgB w (s + 1)
theorem img_all (w:WA):imgW w=imgS w 31++ntB w:=by unfold imgW imgS imgN imgF;simp only [List.append_assoc];rfl
theorem range_snoc {β:Type} (f:Nat→List β) (k:Nat):(List.range (k + 1)).flatMap f=(List.range k).flatMap f++f k:=by rw [List.range_succ,List.flatMap_append];simp
theorem imgF_s (w:WA) (k:Nat):imgF w (k + 1)=imgF w k++fdB w k:=by unfold imgF;rw [range_snoc,List.append_assoc]
theorem imgN_s (w:WA) (k:Nat):imgN w (k + 1)=imgN w k++wr1L w k:=by unfold imgN;rw [range_snoc,List.append_assoc]
theorem imgS_s (w:WA) (k:Nat):imgS w (k + 1)=imgS w k++sgB w (k + 1):=by unfold imgS;rw [range_snoc,List.append_assoc]
theorem flat_le {β:Type} {f:Nat→List β} (h:∀ n,(f n).length≤1):∀ k,((List.range k).flatMap f).length≤k
 | 0=>Nat.le_refl _
 | k + 1=>by rw [range_snoc,List.length_append];have:=flat_le h k;have:=h k;omega
theorem fdB_le (w:WA) (n:Nat):(fdB w n).length≤1:=by unfold fdB;split<;>simp
theorem wr1L_le (w:WA) (n:Nat):(wr1L w n).length≤1:=by unfold wr1L;cases w.ws[n]?<;>simp
theorem sgB_le (w:WA) (n:Nat):(sgB w n).length≤1:=by unfold sgB;split<;>simp
theorem imgF_le (w:WA) (k:Nat):(imgF w k).length≤k + 1:=by unfold imgF;rw [List.length_append,List.length_singleton];have:=flat_le (fdB_le w) k;omega
theorem imgN_le (w:WA) (k:Nat):(imgN w k).length≤k + 97:=by unfold imgN;rw [List.length_append];have:=flat_le (wr1L_le w) k;have:=imgF_le w 96;omega
theorem imgS_le (w:WA) (k:Nat):(imgS w k).length≤w.ws.length + k + 97:=by unfold imgS;rw [List.length_append];have:=flat_le (fun n=>sgB_le w (n + 1)) k;have:=imgN_le w w.ws.length;omega
def wtB (l:List Nat):List UInt8:=l.flatMap fun k=>[32]++dgB k
def wireD (n:Nat) (x:WireA):List UInt8:=([119,105,114,101,32]++dgB n)++((if 0 < x.bl then [32,108,105,115,116,101,110,32]++(dgB x.bl.toNat++wtB x.wt) else [32]++(endB (x.e 0) x.cap++([32]++endB (x.e 1) x.cap)))++if x.rs=true then [32,114,101,115,101,116] else [])
theorem words_flat (e:EndA) (cap:Nat):(wordsA e cap).flatMap (fun y=>[32]++y)=[32]++endB e cap:=by
 unfold wordsA endB shB
 split<;>simp
theorem wireB_eq (n:Nat) (x:WireA):wireB n x=wireD n x:=by
 unfold wireB wireWs wireD;rw [show ∀ l:List (List UInt8),[sWire,dgB n]++l=[sWire]++(dgB n::l) from fun _=>rfl,spJ_app _ (by simp)]
 have e1:spJ [sWire]=sWire:=by unfold spJ Lib.join;simp [List.intercalate]
 rw [e1,List.flatMap_cons,List.flatMap_append]
 have e2:(if x.rs=true then [sReset] else []).flatMap (fun y=>([32]:List UInt8)++y)=if x.rs=true then [32,114,101,115,101,116] else []:=by split<;>rfl
 have e3:(if 0 < x.bl then [sListen,dgB x.bl.toNat]++x.wt.map dgB else wordsA (x.e 0) x.cap++wordsA (x.e 1) x.cap).flatMap (fun y=>([32]:List UInt8)++y)=if 0 < x.bl then [32,108,105,115,116,101,110,32]++(dgB x.bl.toNat++wtB x.wt) else [32]++(endB (x.e 0) x.cap++([32]++endB (x.e 1) x.cap)):=by
  split
  ·simp [wtB,List.flatMap_map]
  ·rw [List.flatMap_append,words_flat,words_flat];simp only [List.append_assoc]
 rw [e2,e3];simp
theorem wtB_s {l:List Nat} {i m:Nat} (h:l[i]?=some m):wtB (l.take (i + 1))=wtB (l.take i)++([32]++dgB m):=by unfold wtB;rw [List.take_add_one,h,Option.toList_some,List.flatMap_append];simp
theorem endB_len {e:EndA} {cap:Nat} (hc:cap≤65536) (hl:e.b.length≤65536):(endB e cap).length≤140000:=by
 unfold endB ringB
 have h1:=kind_len e.what
 have h2:=sh_len e
 have h3:=hexB_len e.b
 have h4:=dg_20 (n:=cap) (by omega)
 split<;>simp only [List.length_append,List.length_cons,List.length_nil]<;>omega
theorem wtB_len:∀ {l:List Nat},(∀ m∈l,m≤18446744073709551615)→(wtB l).length≤l.length * 21
 | [],_=>Nat.le_refl _
 | m::l,h=>by
  have h1:=dg_20 (h m List.mem_cons_self)
  have h2:=wtB_len (l:=l) fun x hx=>h x (List.mem_cons_of_mem _ hx)
  unfold wtB at h2 ⊢;simp only [List.flatMap_cons,List.length_append,List.length_cons,List.length_nil] at h2 ⊢;omega
theorem at_open {w:WA} (hw:WOk w) {fd n k:Nat} (h:w.at (fd:Int)=some (n,k)):k < 2∧n < 1000∧∃ x,w.ws[n]?=some x:=by
 obtain ⟨hk,x,hx,_⟩:=(atW_iff hw.uq).1 h
 have:=(List.getElem?_eq_some_iff.1 hx).1
 have:=hw.len
 exact ⟨hk,by omega,x,hx⟩
theorem wt_bd {w:WA} (hw:WOk w) {n:Nat} {x:WireA} (hx:w.ws[n]?=some x):∀ m∈x.wt,m < 1000:=fun m hm=>by
 obtain ⟨y,hy,_⟩:=hw.wm m (List.mem_flatMap.2 ⟨x,List.mem_of_getElem? hx,hm⟩)
 have:=(List.getElem?_eq_some_iff.1 hy).1
 have:=hw.len
 omega
theorem nib_lo (x:UInt8):bits .and .u8 (x.toNat:Int) 15=((x.toNat % 16:Nat):Int):=by
 have:∀ n:Fin 256,bits .and .u8 (n.1:Int) 15=((n.1 % 16:Nat):Int):=by decide
 exact this ⟨x.toNat,x.toNat_lt⟩
theorem hex_ct (L:List SP) (l:List UInt8) (hl:l.length≤65536) (ad:Option Addr) (c:Nat) (hR:RdS L 1 ad l.length (bsl l)):Ct Tryz.prog 218 #[.slice ad l.length c] (L) (fun _:Unit=>.string (str (hexB l))) (fun _:Unit=>L):=by
 refine Ct.o1 Tryz.func218 ?_;intro E
 show Hd E 24 _ _ _ _
 refine sr fun _ K1=>?_
 refine yv y_as<|fk [(0,_)] K1 ?_;refine sr fun _ K2=>?_
 refine yv y_as<|fk [(0,_),(3,_)] K2 ?_;refine Hd.seq fun _ K3=>?_
 refine sr fun _ K4=>?_
 refine yv y_mv<|yv (y_len Tryz.underlying30 rfl) ?_;refine yv y_mv<|fk [(3,_),(6,_),(7,_),(8,_)] K4 ?_;refine Hd.block<|Hd.loopK (ι:=Nat×Option Addr×Nat) [(6,_),(7,_)] (fun q_=>[(3,.slice q_.2.1 (hexB (l.take q_.1)).length q_.2.2),(8,.int .i64 (q_.1:Int))]) (fun q_=>pu (q_.1≤l.length)::own 5 1 q_.2.1 (hexB (l.take q_.1)).length q_.2.2 (bsl (hexB (l.take q_.1)))::L) (fun q_=>l.length - q_.1) (0,none,0) sbq sbq (fun q t=>Ent.sep (.pure (Nat.zero_le _) (.ownNil enn)) q t) ?_;rintro ⟨i,ad,c⟩
 try dsimp only
 refine Hd.pure (fun hp0=>?_)
 try dsimp only at hp0
 refine sr fun _ K5=>?_
 refine yv (y_lss rfl rfl) ?_;refine fk [(3,_),(6,_),(7,_),(8,_),(9,_)] K5 ?_;refine Hd.seq fun _ K6=>?_
 refine qz ?_ ?_<;>intro hc0<;>try simp only [hyZ] at hc0
 ·have hi:i < l.length:=by omega
  obtain ⟨x,hx⟩:∃ x,l[i]?=some x:=⟨_,List.getElem?_eq_getElem hi⟩
  have hb8:=u8_lt x
  have hts:hexB (l.take (i + 1))=hexB (l.take i)++[nibB (x.toNat / 16),nibB (x.toNat % 16)]:=by rw [List.take_add_one,hx,Option.toList_some,hexB_snoc]
  have hhl:=hexB_len (l.take i)
  have htl:(l.take i).length=i:=by rw [List.length_take];omega
  refine qv K6<|Hd.seq fun _ K7=>?_
  refine Hd.block<|sr fun _ K8=>?_
  refine yv (y_idxR Tryz.underlying30 sz5 rfl rfl (by omega) (by exact RdS.mono hR sq)) ?_;refine yv (y_loadR1 (v:=B x) ag5 rfl (RdS.mono hR sq) (by rw [Nat.mul_one,List.getElem?_map,hx];rfl)) ?_;refine yv y_as<|fk [(3,_),(5,_),(6,_),(7,_),(8,_)] K8 ?_;refine Hd.draws mixed ?_;simp only [List.length,Nat.zero_add,Nat.reduceAdd];refine Hd.take 0 rfl kq kq kq (fun _=>y_move rfl) fq ?_;refine Hd.take 1 rfl kq kq kq (fun _=>y_move rfl) fq ?_;refine Hd.take 4 rfl kq kq kq (fun _=>y_move rfl) fq ?_;refine Hd.tailAt 7 [2,3,5,6] [7,8,9] rfl rfl rfl kq ?_;simp only [pk,List.getElem?_cons_zero,List.getElem?_cons_succ];refine Ht.yv (y_to (v':=.int .u8 ((x.toNat / 16:Nat):Int)) (y_shr rfl rfl (by decide) (by decide)) (by show Value.int .u8 ((x.toNat:Int) / 2 ^ 4)=_;refine congrArg (Value.int .u8) ?_;omega)) ?_;refine Ht.yv (y_strIx (l:=hexD) (a:=x.toNat / 16) Tryz.underlying9 rfl rfl rfl (hexD_at (by omega))) ?_
  refine Ht.yv (y_to (v':=.int .u8 ((x.toNat % 16:Nat):Int)) (y_and rfl rfl) (by exact congrArg (Value.int .u8) (nib_lo x))) ?_;refine Ht.yv (y_strIx (l:=hexD) (a:=x.toNat % 16) Tryz.underlying9 rfl rfl rfl (hexD_at (by omega))) ?_;refine Ht.nil ?_;refine Hd.bslice (vs:=[(0,_),(1,_)]) rfl (by exact bs218_19 ..) (fun b19=>?_);refine Hd.append Tryz.underlying30 ty5 rfl rfl rfl pkk (by exact RdS.rd (Rd.pt pkk (fun j v e=>by simpa using e)) rfl) (by simp [Value.oneCell'];done) (by simp only [maxLen];omega) (by omega) (fun ad20 cap20=>?_);refine yv y_as<|Hd.nil<|Hd.noPn ?_;refine slots [(3,_),(6,_),(7,_),(8,_)] sbq ?_;refine Hd.inB<|Hd.toK K7 ?_;refine Hd.region<|yv (y_addn rfl rfl (by simp only [InK];omega)) ?_;refine yv y_mv<|Hd.nil<|slots [(3,_),(6,_),(7,_),(8,_)] sbq ?_;refine thenN<|Hd.again (i + 1,ad20,cap20) (by show l.length - (i + 1) < l.length - i;omega) (by (try dsimp only);rw [hts,List.length_append];repeat (first | exact trivial | refine ⟨rfl,?_⟩)) (fun q t=>?_)
  rw [hts];exact Ent.sep (.pure (show i + 1≤l.length by omega) (.eq pkk (own_eq3 (by rw [List.length_append];rfl) rfl (by unfold bsl;rw [List.map_append];rfl)) enn)) q t
 obtain rfl:i=l.length:=by omega
 have hhl:=hexB_len l
 rw [List.take_length];refine Hd.exit<|Hd.thenExit<|Hd.thenExit<|Hd.inBexit<|Hd.toK K3 ?_;refine sr fun _ K9=>?_
 refine yv y_mv<|yv (y_strOf (l:=_) kq Tryz.underlying9 rfl (by exact RdS.own pkk)) ?_;refine yv y_as<|fk [(2,_)] K9 ?_;refine Hd.ret ?_;exact Hd.ret1 rfl () (by rfl) sq
end Wo
end Go.Proofs.YtmpemhbfgbochaaGreatDoor
namespace Go.Proofs.YtmpemhbfgbochaaGreatDoor
open Go.RX Fx
namespace Rf
open Wo
def fdsN (w:WA) (k:Nat):List Int:=((List.range k).filter fun n:Nat=>(w.at (n:Int)).isSome).map fun n:Nat=>(n:Int)
theorem fdsN_succ (w:WA) (k:Nat):fdsN w (k + 1)=fdsN w k++if (w.at (k:Int)).isSome=true then [(k:Int)] else []:=by
 unfold fdsN;rw [List.range_succ,List.filter_append,List.map_append,List.filter_cons]
 split<;>rfl
theorem fdsN_le (w:WA) (k:Nat):(fdsN w k).length≤k:=by
 unfold fdsN;rw [List.length_map];exact Nat.le_trans (List.length_filter_le _ _) (by rw [List.length_range];exact Nat.le_refl _)
theorem rFds_ct (L:List SP) (b:Nat) (w:WA) (hw:WOk w):Ct Tryz.prog 81 #[.pointer (some ⟨b,0,none⟩)] (RwP b w::L) (fun q_:Option Addr×Nat=>.slice q_.1 (fdsW w).length q_.2) (fun q_:Option Addr×Nat=>own 3 1 q_.1 (fdsW w).length q_.2 ((fdsW w).map (Value.int .i64))::RwP b w::L):=by
 refine Ct.o1 Tryz.func81 ?_;intro E
 show Hd E 24 _ _ _ _
 refine sr fun _ K1=>?_
 refine yv y_as<|fk [(0,_)] K1 ?_;refine sr fun _ K2=>?_
 refine yv y_as<|fk [(0,_),(3,_)] K2 ?_;refine Hd.seq fun _ K3=>?_
 refine sr fun _ K4=>?_
 refine yv y_as<|fk [(0,_),(3,_),(4,_)] K4 ?_;refine Hd.block<|Hd.loopK (ι:=Nat×Option Addr×Nat) [(0,_)] (fun q_=>[(3,.slice q_.2.1 (fdsN w q_.1).length q_.2.2),(4,.int .i64 (q_.1:Int))]) (fun q_=>pu (q_.1≤96)::own 3 1 q_.2.1 (fdsN w q_.1).length q_.2.2 ((fdsN w q_.1).map (Value.int .i64))::RwP b w::L) (fun q_=>96 - q_.1) (0,none,0) sbq sbq (fun q t=>Ent.sep (.pure (Nat.zero_le _) (.ownNil enn)) q t) ?_;rintro ⟨k,ad,c⟩
 try dsimp only
 refine Hd.pure (fun hp0=>?_)
 try dsimp only at hp0
 refine Hd.seq fun _ K5=>?_
 refine sr fun _ K6=>?_
 refine yv y_mv<|yv (y_leq rfl rfl) ?_;refine fk [(0,_),(3,_),(4,_),(8,_)] K6 ?_;refine qz ?_ ?_<;>intro hc0<;>try simp only [hyZ] at hc0
 ·have hk:k < 96:=by omega
  have hs:=fdsN_succ w k
  have hl:=fdsN_le w k
  refine qv K5<|Hd.seq fun _ K7=>?_
  refine Hd.block<|sr fun _ K8=>?_
  refine yv y_mv<|yv y_mv<|callE rfl fk117 (rat_ct _ b w hw (k:Int)) sq ?_;intro _;refine yv y_mv<|yv y_ex<|yv y_ex<|yv y_as<|yv y_as<|fk [(0,_),(3,_),(4,_),(5,_)] K8 ?_;refine sr fun _ K9=>?_
  refine yv y_mv<|yv (y_geq rfl rfl) ?_;refine fk [(0,_),(3,_),(4,_),(18,_)] K9 ?_;refine qz ?_ ?_<;>intro hc1<;>try simp only [hyZ] at hc1
  ·have h1:(w.at (k:Int)).isSome=true:=by
    cases h:w.at (k:Int) with
    | some _=>rfl
    | none=>rw [h] at hc1;exact absurd hc1 (by decide)
   rw [if_pos h1] at hs;refine Hd.region<|yv y_mv<|yv y_mv<|Hd.bslice (vs:=[(0,_)]) rfl (by exact bs81_21 ..) (fun b21=>?_);refine Hd.append Tryz.underlying94 ty3 rfl rfl rfl pkk (by exact RdS.rd (Rd.pt pkk (fun j v e=>by simpa using e)) rfl) (by simp [Value.oneCell'];done) (by simp only [maxLen];omega) (by omega) (fun ad22 cap22=>?_);refine yv y_as<|Hd.nil<|slots [(0,_),(3,_),(4,_)] sbq ?_;refine Hd.inB<|Hd.toK K7 ?_;refine Hd.region<|yv y_mv<|yv (y_addn rfl rfl (by simp only [InK];omega)) ?_;refine yv y_as<|Hd.nil<|slots [(0,_),(3,_),(4,_)] sbq ?_;refine thenN<|Hd.again (k + 1,ad22,cap22) (by show 96 - (k + 1) < 96 - k;omega) (by (try dsimp only);rw [hs,List.length_append];repeat (first | exact trivial | refine ⟨rfl,?_⟩)) (fun q t=>?_);rw [hs];exact Ent.sep (.pure (show k + 1≤96 by omega) (.eq pkk (own_eq3 (by rw [List.length_append];rfl) rfl (by rw [List.map_append];rfl)) enn)) q t
  have h1:¬ (w.at (k:Int)).isSome=true:=by
   cases h:w.at (k:Int) with
   | none=>decide
   | some q=>rw [h] at hc1;exact absurd hc1 (by show ¬ (q.1:Int) < 0;omega)
  rw [if_neg h1,List.append_nil] at hs;refine Hd.skip<|Hd.inB<|Hd.toK K7 ?_;refine Hd.region<|yv y_mv<|yv (y_addn rfl rfl (by simp only [InK];omega)) ?_;refine yv y_as<|Hd.nil<|slots [(0,_),(3,_),(4,_)] sbq ?_;refine thenN<|Hd.again (k + 1,ad,c) (by show 96 - (k + 1) < 96 - k;omega) (by (try dsimp only);rw [hs];repeat (first | exact trivial | refine ⟨rfl,?_⟩)) (fun q t=>?_);rw [hs];exact Ent.sep (.pure (show k + 1≤96 by omega) enn) q t
 obtain rfl:k=96:=by omega
 refine Hd.exit<|Hd.thenExit<|Hd.thenExit<|Hd.inBexit<|Hd.toK K3 ?_;refine sr fun _ K10=>?_
 refine yv y_mv<|yv y_as<|fk [(2,_)] K10 ?_;refine Hd.ret ?_;exact Hd.ret1 rfl (ad,c) rfl sq
abbrev VSs (l:List (List UInt8)):List Value:=l.map fun s=>Value.string (str s)
theorem rSameS_ct (L:List SP) (a1:Option Addr) (c1:Nat) (xs:List (List UInt8)) (h1:RdS L 1 a1 xs.length (VSs xs)) (hb1:xs.length≤1000000) (a2:Option Addr) (c2:Nat) (ys:List (List UInt8)) (h2:RdS L 1 a2 ys.length (VSs ys)) (hb2:ys.length≤1000000):Ct Tryz.prog 86 #[.slice a1 xs.length c1,.slice a2 ys.length c2] (L) (fun _:Unit=>.bool (decide (xs=ys))) (fun _:Unit=>L):=by
 refine Ct.o2 Tryz.func86 ?_;intro E
 show Hd E 26 _ _ _ _
 refine sr fun _ K1=>?_
 refine yv y_as<|fk [(0,_),(1,_)] K1 ?_;refine Hd.seq fun _ K2=>?_
 refine sr fun _ K3=>?_
 refine yv y_mv<|yv (y_len Tryz.underlying137 rfl) ?_;refine yv y_mv<|yv (y_len Tryz.underlying137 rfl) ?_;refine yv (y_neq rfl rfl) ?_;refine fk [(0,_),(1,_),(10,_)] K3 ?_;refine qz ?_ ?_<;>intro hc0<;>try simp only [hyZ] at hc0
 ·have hne:xs≠ys:=fun e=>hc0 (by rw [e])
  refine sr fun _ K4=>?_
  refine yv y_as<|fk [(4,_)] K4 ?_;refine Hd.ret<|Hd.thenRet ?_;rw [decide_eq_false hne];exact Hd.ret1 rfl () rfl sq
 have hlen:xs.length=ys.length:=by omega
 refine qv K2<|Hd.seq fun _ K5=>?_
 refine sr fun _ K6=>?_
 refine yv y_as<|fk [(0,_),(1,_),(5,_)] K6 ?_;refine Hd.block<|Hd.loopK (ι:=Nat) [(0,_),(1,_)] (fun i=>[(5,.int .i64 (i:Int))]) (fun i=>pu (i≤xs.length∧∀ j,j < i→xs[j]?=ys[j]?)::L) (fun i=>xs.length - i) 0 sbq sbq (Ent.sep (.pure ⟨Nat.zero_le _,fun j hj=>absurd hj (Nat.not_lt_zero _)⟩ enn)) ?_;intro i
 try dsimp only
 refine Hd.pure (fun hp0=>?_)
 try dsimp only at hp0
 refine Hd.seq fun _ K7=>?_
 refine sr fun _ K8=>?_
 refine yv y_mv<|yv y_mv<|yv (y_len Tryz.underlying137 rfl) ?_;refine yv (y_lss rfl rfl) ?_;refine fk [(0,_),(1,_),(5,_),(14,_)] K8 ?_;refine qz ?_ ?_<;>intro hc1<;>try simp only [hyZ] at hc1
 ·have hi:i < xs.length:=by omega
  obtain ⟨x,hx⟩:∃ x,xs[i]?=some x:=⟨_,List.getElem?_eq_getElem hi⟩
  obtain ⟨y,hy⟩:∃ y,ys[i]?=some y:=⟨_,List.getElem?_eq_getElem (by omega)⟩
  refine qv K7<|Hd.seq fun _ K9=>?_
  refine Hd.block<|Hd.seq fun _ K10=>?_
  refine Hd.quiet mixed kq ?_;refine Hq.yv y_mv ?_;refine Hq.yv y_mv ?_;refine Hq.yv (y_idxR (j:=i) Tryz.underlying137 sz9 rfl rfl hi h1) ?_;refine Hq.yv (y_loadR1 ag9 rfl h1 (by rw [Nat.mul_one,List.getElem?_map,hx];rfl)) ?_;refine Hq.yv y_mv ?_;refine Hq.yv y_mv ?_;refine Hq.yv (y_idxR (j:=i) Tryz.underlying137 sz9 rfl rfl (by omega) h2) ?_;refine Hq.yv (y_loadR1 ag9 rfl h2 (by rw [Nat.mul_one,List.getElem?_map,hy];rfl)) ?_;refine Hq.yv (y_neqstr rfl rfl) ?_;refine Hq.nil ?_;refine sk [(0,_),(1,_),(5,_),(25,_)] K10 ?_;refine qz ?_ ?_<;>intro hc2<;>try simp only [hyZ] at hc2
  ·have hne:xs≠ys:=fun e=>hc2 (by rw [e,hy] at hx;exact (Option.some.inj hx).symm)
   refine sr fun _ K11=>?_
   refine yv y_as<|fk [(4,_)] K11 ?_;refine Hd.ret<|Hd.inBret<|Hd.thenRet<|Hd.thenRet<|Hd.inBret<|Hd.thenRet ?_;rw [decide_eq_false hne];exact Hd.ret1 rfl () rfl sq
  have hxy:x=y:=by simpa using hc2
  have hn2:∀ j,j < i + 1→xs[j]?=ys[j]?:=fun j hj=>by
   rcases Nat.lt_succ_iff_lt_or_eq.1 hj with h | h
   ·exact hp0.2 j h
   ·rw [h,hx,hy,hxy]
  refine Hd.skip<|Hd.inB<|Hd.toK K9 ?_;refine Hd.region<|yv y_mv<|yv (y_addn rfl rfl (by simp only [InK];omega)) ?_;refine yv y_as<|Hd.nil<|slots [(0,_),(1,_),(5,_)] sbq ?_;refine thenN ?_;exact Hd.again (i + 1) (by omega) sbq (Ent.sep (.pure ⟨hi,hn2⟩ enn))
 have heq:xs=ys:=by
  apply List.ext_getElem?;intro j
  by_cases hj:j < i
  ·exact hp0.2 j hj
  ·rw [List.getElem?_eq_none (by omega),List.getElem?_eq_none (by omega)]
 refine Hd.exit<|Hd.thenExit<|Hd.thenExit<|Hd.inBexit<|Hd.toK K5 ?_;refine sr fun _ K12=>?_
 refine yv y_as<|fk [(4,_)] K12 ?_;refine Hd.ret ?_;rw [decide_eq_true heq];exact Hd.ret1 rfl () rfl sq
abbrev VLs (l:List (List UInt8)):List Value:=l.map fun s=>Value.string (str s)
theorem bag_rd {rs:List Row} {n:Nat} {p:Row} {L:List SP} (h:rs[n]?=some p) (k:Nat) (hk:k < 2):RdS (Bag Sd rs::L) 1 (p.2.a k) (p.1.e k).b.length (bsl (p.1.e k).b):=fun q s=>by
 have s1:=bag_out h s
 obtain ⟨h1,h2,d,a,b,x,y⟩:=s1
 obtain ⟨j,k1,k2,d',a',b',hj,z⟩:=x
 have z':=z.up (b'.tr a)
 by_cases e:j=k
 ·subst e;exact RdS.own .here _ z'
 ·have hj':j < 2:=hj
  obtain rfl:k=1 - j:=by omega
  exact RdS.own (.there .here) _ z'
theorem bag_rdW {rs:List Row} {n:Nat} {p:Row} {L:List SP} (h:rs[n]?=some p):RdS (Bag Sd rs::L) 1 p.2.wa p.1.wt.length (nats p.1.wt):=fun q s=>by
 have s1:=bag_out h s
 obtain ⟨h1,h2,d,a,b,x,y⟩:=s1
 obtain ⟨j,k1,k2,d',a',b',hj,z⟩:=x
 exact RdS.own (.there (.there .here)) _ (z.up (b'.tr a))
theorem vls_snoc {l:List (List UInt8)} {x y:List UInt8} (h:x=y):VLs l++[Value.string (str x)]=VLs (l++[y]):=by subst h;simp
theorem imgN_0 (w:WA):imgF w 96=imgN w 0:=by unfold imgN;rw [List.range_zero,List.flatMap_nil,List.append_nil]
theorem imgS_0 (w:WA):imgN w w.ws.length=imgS w 0:=by unfold imgS;rw [List.range_zero,List.flatMap_nil,List.append_nil]
theorem row_cells {rs:List Row} {n:Nat} {p:Row} (h:rs[n]?=some p):∀ j v,(encRW p)[j]?=some v→(rs.flatMap encRW)[n * 20 + j]?=some v:=fun j v hv=>flat_cells encRW 20 encRW_len h j v hv
def ntI:Option (Nat×Nat)→Int
 | none=>-1
 | some p=>(p.1:Int)
theorem ntI_at (o:Option (Nat×Nat)):(ntV o)[0]?=some (.int .i64 (ntI o)):=by cases o<;>rfl
theorem rImage_ct (L:List SP) (b:Nat) (w:WA) (hw:WOk w) (hn:InK .u64 w.now) (hb:∀ c∈w.ct,0≤c∧c≤2000000000):Ct Tryz.prog 88 #[.pointer (some ⟨b,0,none⟩)] (RwP b w::L) (fun q_:Option Addr×Nat=>.slice q_.1 (imgW w).length q_.2) (fun q_:Option Addr×Nat=>own 9 1 q_.1 (imgW w).length q_.2 (VLs (imgW w))::RwP b w::L):=by
 refine Ct.o1 Tryz.func88 ?_;intro E
 show Hd E 170 _ _ _ _
 obtain ⟨nw,hnw⟩:∃ n:Nat,w.now=(n:Int):=⟨w.now.toNat,by simp only [InK] at hn;omega⟩
 have hnb:nw≤18446744073709551615:=by simp only [InK] at hn;omega
 have hnt:w.now.toNat=nw:=by omega
 have hnl:=dg_20 hnb
 refine sr fun _ K1=>?_
 refine yv y_as<|fk [(0,_)] K1 ?_;refine Hd.seq fun _ K2=>?_
 refine Hd.rw .here (fun i hi=>?_);refine Hd.region<|yv y_mv<|yv y_np<|yv (y_f 1 29 Tryz.underlying102 sz29)<|yv (y_load1 (v:=.int .u64 (nw:Int)) ag29 rfl (Rd.pt1 pkk (by rw [←hnw];rfl))) ?_;refine callE rfl fk170 (rdig_ct _ nw hnb) sq ?_;intro _;refine yv (y_addstr rfl rfl (by simp;omega)) ?_;refine Hd.bslice (vs:=[(0,_)]) rfl (by exact bs88_18 ..) (fun b18=>?_);refine Hd.ptOwn (m:=1) pkk rfl (by decide) ?_;refine yv y_as<|fk [(0,_),(3,_)] K2 ?_;refine Hd.seq fun _ K3=>?_
 refine sr fun _ K4=>?_
 refine yv y_as<|fk [(0,_),(3,_),(4,_)] K4 ?_;refine Hd.block<|Hd.loopK (ι:=Nat×Option Addr×Nat) [(0,_)] (fun q_=>[(3,.slice q_.2.1 (imgF w q_.1).length q_.2.2),(4,.int .i64 (q_.1:Int))]) (fun q_=>pu (q_.1≤96)::own 9 1 q_.2.1 (imgF w q_.1).length q_.2.2 (VLs (imgF w q_.1))::RwP b w::L) (fun q_=>96 - q_.1) (0,some ⟨b18,0,none⟩,1) sbq sbq (fun q t=>Ent.sep (.pure (Nat.zero_le _) (.eq (A:=own 9 1 (some ⟨b18,0,none⟩) 1 1 [.string (str ([110,111,119,32]++dgB nw))]) pkk (own_eq3 rfl rfl (by show _=VLs (imgF w 0);unfold imgF;rw [hnt];rfl)) (.ex i (.pure hi enn)))) q t) ?_;rintro ⟨k,ad,c⟩
 try dsimp only
 refine Hd.pure (fun hp0=>?_)
 try dsimp only at hp0
 refine Hd.seq fun _ K5=>?_
 refine sr fun _ K6=>?_
 refine yv y_mv<|yv (y_leq rfl rfl) ?_;refine fk [(0,_),(3,_),(4,_),(20,_)] K6 ?_;refine qz ?_ ?_<;>intro hc0<;>try simp only [hyZ] at hc0
 ·have hk:k < 96:=by omega
  have hs:=imgF_s w k
  have hl:=imgF_le w k
  obtain ⟨o,ho⟩:∃ o,w.at (k:Int)=o:=⟨_,rfl⟩
  refine qv K5<|Hd.seq fun _ K7=>?_
  refine Hd.block<|sr fun _ K8=>?_
  refine yv y_mv<|yv y_mv<|callE rfl fk117 (rat_ct _ b w hw (k:Int)) sq ?_;intro _;rw [ho];refine yv y_mv<|yv y_ex<|yv y_ex<|yv y_as<|yv y_as<|fk [(0,_),(3,_),(4,_),(5,_),(6,_)] K8 ?_;refine Hd.seq fun _ K9=>?_
  refine sr fun _ K10=>?_
  refine yv y_mv<|yv (y_lss rfl rfl) ?_;refine fk [(0,_),(3,_),(4,_),(5,_),(6,_),(30,_)] K10 ?_;refine qz ?_ ?_<;>intro hc1<;>try simp only [hyZ] at hc1
  ·have hnone:o=none:=by
    cases o with
    | none=>rfl
    | some p=>exact absurd hc1 (by show ¬ (p.1:Int) < 0;omega)
   have hf:fdB w k=[]:=by unfold fdB;rw [ho,hnone]
   rw [hf,List.append_nil] at hs;refine Hd.exit<|Hd.thenExit<|Hd.inBexit<|Hd.toK K7 ?_;refine Hd.region<|yv y_mv<|yv (y_addn rfl rfl (by simp only [InK];omega)) ?_;refine yv y_as<|Hd.nil<|slots [(0,_),(3,_),(4,_)] sbq ?_;refine thenN<|Hd.again (k + 1,ad,c) (by show 96 - (k + 1) < 96 - k;omega) (by (try dsimp only);rw [hs];repeat (first | exact trivial | refine ⟨rfl,?_⟩)) (fun q t=>?_);rw [hs];exact Ent.sep (.pure (show k + 1≤96 by omega) enn) q t
  obtain ⟨n,kk,rfl⟩:∃ n kk,o=some (n,kk):=by
   cases o with
   | none=>exact absurd hc1 (by decide)
   | some p=>exact ⟨p.1,p.2,rfl⟩
  simp only [atN,atK]
  obtain ⟨hkk,hn1,x,hx⟩:=at_open hw ho
  have hbl:=hw.wf x (List.mem_of_getElem? hx)
  have hK:fdK w n kk=if 0 < x.bl then 2 else kk:=by unfold fdK;rw [hx];rfl
  have hf:fdB w k=[sFd++(dgB k++(sWire2++(dgB n++(sEnd++dgB (fdK w n kk)))))]:=by unfold fdB;rw [ho]
  have hKb:fdK w n kk≤2:=by rw [hK];split<;>omega
  have h1l:=dg_20 (n:=k) (by omega)
  have h2l:=dg_20 (n:=n) (by omega)
  have h3l:=dg_20 (n:=fdK w n kk) (by omega)
  rw [hf] at hs;refine qv K9<|Hd.cutK (ι:=Unit) [(0,_),(3,_),(4,_),(5,_)] (fun _=>[(6,.int .i64 (fdK w n kk:Int))]) (fun _=>own 9 1 ad (imgF w k).length c (VLs (imgF w k))::RwP b w::L) ?_ ?_ ⟨rfl,rfl,rfl,rfl,trivial⟩
  ·refine Hd.seq fun _ K11=>?_
   refine Hd.rw pkk (fun i hi=>?_)
   obtain ⟨j,hrow⟩:=row_at hi hx
   have hil:n < i.1.length:=by rw [rows_n hi];exact (List.getElem?_eq_some_iff.1 hx).1
   refine Hd.region<|yv y_mv<|yv y_np<|yv (y_f 0 98 Tryz.underlying102 sz98)<|yv (y_l1 ag98 rfl)<|yv y_mv<|yv (y_idxR Tryz.underlying98 sz204 rfl rfl (by omega) (by exact RdS.own pkk)) ?_;refine yv (y_fR 18 3 Tryz.underlying204 sz3) ?_;refine yv (y_rw ag3 rfl hrow 18 rfl) ?_;refine yv (y_gtr rfl rfl) ?_;refine fk [(0,_),(3,_),(4,_),(5,_),(6,_),(39,_)] K11 ?_;refine qz ?_ ?_<;>intro hc2<;>try simp only [hyZ] at hc2
   ·refine Hd.region ?_
    refine yv y_as<|Hd.nil<|slots [(0,_),(3,_),(4,_),(5,_),(6,_)] sbq ?_;refine thenN ?_;exact Hd.meet () ⟨by rw [hK,if_pos (by simpa using hc2)];rfl,by repeat (first | exact trivial | refine ⟨rfl,?_⟩)⟩ (Ent.sep (.pick pkk (.ex i (.pure hi enn))))
   refine Hd.skip<|thenN ?_;exact Hd.meet () ⟨by rw [hK,if_neg (by simpa using hc2)];rfl,by repeat (first | exact trivial | refine ⟨rfl,?_⟩)⟩ (Ent.sep (.pick pkk (.ex i (.pure hi enn))))
  intro _;refine Hd.region<|yv y_mv<|yv y_mv<|callE rfl fk171 (rnum_ct _ k (by omega)) sq ?_;intro _;refine yv (y_addstr rfl rfl (by simp;omega)) ?_;refine yv (y_addstr rfl rfl (by simp;omega)) ?_;refine yv y_mv<|callE rfl fk171 (rnum_ct _ n (by omega)) sq ?_;intro _;refine yv (y_addstr rfl rfl (by simp;omega)) ?_;refine yv (y_addstr rfl rfl (by simp;omega)) ?_;refine yv y_mv<|callE rfl fk171 (rnum_ct _ (fdK w n kk) (by omega)) sq ?_;intro _;refine yv (y_addstr rfl rfl (by simp;omega)) ?_;refine Hd.bslice (vs:=[(0,_)]) rfl (by exact bs88_52 ..) (fun b52=>?_);refine Hd.append Tryz.underlying137 ty9 rfl rfl rfl pkk (by exact RdS.rd (Rd.pt pkk (fun j v e=>by simpa using e)) rfl) (by simp [Value.oneCell'];done) (by simp only [maxLen];omega) (by omega) (fun ad53 cap53=>?_);refine yv y_as<|Hd.nil<|slots [(0,_),(3,_),(4,_)] sbq ?_
  refine Hd.inB<|Hd.toK K7 ?_;refine Hd.region<|yv y_mv<|yv (y_addn rfl rfl (by simp only [InK];omega)) ?_;refine yv y_as<|Hd.nil<|slots [(0,_),(3,_),(4,_)] sbq ?_;refine thenN<|Hd.again (k + 1,ad53,cap53) (by show 96 - (k + 1) < 96 - k;omega) (by (try dsimp only);rw [hs,List.length_append];repeat (first | exact trivial | refine ⟨rfl,?_⟩)) (fun q t=>?_);rw [hs];exact Ent.sep (.pure (show k + 1≤96 by omega) (.eq pkk (own_eq3 (by rw [List.length_append];rfl) rfl (by exact vls_snoc rfl)) enn)) q t
 obtain rfl:k=96:=by omega
 refine Hd.exit<|Hd.thenExit<|Hd.thenExit<|Hd.inBexit<|Hd.toK K3 ?_;refine Hd.seq fun _ K12=>?_
 refine Hd.seq fun _ K13=>?_
 rw [imgN_0 w];refine Hd.rw pkk (fun i hi=>?_)
 have hrl:=rows_n hi
 have hwl:=hw.len
 refine Hd.region<|yv y_as<|fk [(0,_),(3,_),(7,_)] K13 ?_;refine Hd.block<|Hd.loopK (ι:=Nat×Option Addr×Nat) [(0,_)] (fun q_=>[(3,.slice q_.2.1 (imgN w q_.1).length q_.2.2),(7,.int .i64 (q_.1:Int))]) (fun q_=>pu (q_.1≤w.ws.length)::own 9 1 q_.2.1 (imgN w q_.1).length q_.2.2 (VLs (imgN w q_.1))::RwL b w i L) (fun q_=>w.ws.length - q_.1) (0,ad,c) sbq sbq (Ent.sep (.pure (by omega) enn)) ?_;rintro ⟨n,ad,c⟩
 try dsimp only
 refine Hd.pure (fun hp1=>?_)
 try dsimp only at hp1
 refine Hd.seq fun _ K14=>?_
 refine sr fun _ K15=>?_
 refine yv y_mv<|yv y_mv<|yv y_np<|yv (y_f 0 98 Tryz.underlying102 sz98)<|yv (y_l1 ag98 rfl)<|yv (y_len Tryz.underlying98 rfl) ?_;refine yv (y_lss rfl rfl) ?_;refine fk [(0,_),(3,_),(7,_),(60,_)] K15 ?_;refine qz ?_ ?_<;>intro hc3<;>try simp only [hyZ] at hc3
 ·have hn1:n < w.ws.length:=by omega
  obtain ⟨x,hx⟩:∃ x,w.ws[n]?=some x:=⟨_,List.getElem?_eq_getElem hn1⟩
  obtain ⟨j,hrow⟩:=row_at hi hx
  have hxw:=hw.wf x (List.mem_of_getElem? hx)
  have hwt:=wt_bd hw hx
  have hl:=imgN_le w n
  have hs:=imgN_s w n
  have hdn:=dg_20 (n:=n) (by omega)
  have hwr:wr1L w n=[wireD n x]:=by unfold wr1L;rw [hx];show [wireB n x]=_;rw [wireB_eq]
  rw [hwr] at hs;refine qv K14<|Hd.seq fun _ K16=>?_
  refine Hd.block<|sr fun _ K17=>?_
  refine yv y_mv<|yv y_np<|yv (y_f 0 98 Tryz.underlying102 sz98)<|yv (y_l1 ag98 rfl)<|yv y_mv<|yv (y_idxR Tryz.underlying98 sz204 rfl rfl (by omega) (by exact RdS.own pkk)) ?_;refine yv (y_loadRn (vs:=encRW (x,j)) ag204 rfl (RdS.own pkk) (row_cells hrow) (by exact sz204) (by simp)) ?_;refine Hd.alloc zr204 (fun b8=>?_);refine Hd.storeA (us:=encRW (x,j)) sz204 rfl rfl rfl (encRW_one _) pkk (by exact rfl) ?_;refine fk [(0,_),(3,_),(7,_),(8,_)] K17 ?_;refine sr fun _ K18=>?_
  refine yv y_mv<|callE rfl fk171 (rnum_ct _ n (by omega)) sq ?_;intro _;refine yv (y_addstr rfl rfl (by simp;omega)) ?_;refine yv y_as<|fk [(0,_),(3,_),(7,_),(8,_),(9,_)] K18 ?_
  have he0:=endB_len hxw.cap (Nat.le_trans (hxw.le 0 (by decide)) hxw.cap)
  have he1:=endB_len hxw.cap (Nat.le_trans (hxw.le 1 (by decide)) hxw.cap)
  have hwl1:=wtB_len (l:=x.wt) fun m hm=>by have:=hwt m hm;omega
  obtain ⟨W1,hW1⟩:∃ W1,([119,105,114,101,32]++dgB n)++(if 0 < x.bl then [32,108,105,115,116,101,110,32]++(dgB x.bl.toNat++wtB x.wt) else [32]++(endB (x.e 0) x.cap++([32]++endB (x.e 1) x.cap)))=W1:=⟨_,rfl⟩
  have hW1l:W1.length≤300000:=by
   have:=hxw.bl
   have:=dg_20 (n:=x.bl.toNat) (by omega)
   rw [←hW1]
   split<;>simp only [List.length_append,List.length_cons,List.length_nil]<;>omega
  refine Hd.cutK (ι:=Unit) [(0,_),(3,_),(7,_),(8,_)] (fun _=>[(9,.string (str W1))]) (fun _=>pt b8 (encRW (x,j)) 204::own 9 1 ad (imgN w n).length c (VLs (imgN w n))::RwL b w i L) ?_ ?_ ⟨rfl,rfl,rfl,rfl,trivial⟩
  ·refine sr fun _ K19=>?_
   refine yv (y_f 18 3 Tryz.underlying204 sz3)<|yv (y_l1 ag3 rfl)<|yv (y_gtr rfl rfl) ?_;refine fk [(0,_),(3,_),(7,_),(8,_),(9,_),(75,_)] K19 ?_;refine qz ?_ ?_<;>intro hc4<;>try simp only [hyZ] at hc4
   ·have hbt:x.bl=((x.bl.toNat:Nat):Int):=by omega
    have hb2:=hxw.bl
    rw [if_pos hc4] at hW1
    have hdb:=dg_20 (n:=x.bl.toNat) (by omega)
    refine sr fun _ K20=>?_
    refine yv y_mv<|yv (y_addstr rfl rfl (by simp;omega)) ?_;refine yv (y_f 18 3 Tryz.underlying204 sz3)<|yv (y_to (v':=.int .i64 ((x.bl.toNat:Nat):Int)) (y_l1 ag3 rfl) (by exact congrArg (Value.int .i64) hbt)) ?_;refine callE rfl fk171 (rnum_ct _ x.bl.toNat (by omega)) sq ?_;intro _;refine yv (y_addstr rfl rfl (by simp;omega)) ?_;refine yv y_as<|fk [(0,_),(3,_),(7,_),(8,_),(9,_)] K20 ?_;refine sr fun _ K21=>?_
    refine yv y_as<|fk [(0,_),(3,_),(7,_),(8,_),(9,_),(10,_)] K21 ?_;refine Hd.block<|Hd.loopK (ι:=Nat×List UInt8) [(0,_),(3,_),(7,_),(8,_)] (fun q_=>[(9,.string (str q_.2)),(10,.int .i64 (q_.1:Int))]) (fun q_=>pu (q_.1≤x.wt.length∧q_.2=(([119,105,114,101,32]++dgB n)++[32,108,105,115,116,101,110,32]++dgB x.bl.toNat)++wtB (x.wt.take q_.1))::pt b8 (encRW (x,j)) 204::own 9 1 ad (imgN w n).length c (VLs (imgN w n))::RwL b w i L) (fun q_=>x.wt.length - q_.1) (0,([119,105,114,101,32]++dgB n)++[32,108,105,115,116,101,110,32]++dgB x.bl.toNat) sbq sbq (Ent.sep (.pure ⟨Nat.zero_le _,by rw [List.take_zero];exact (List.append_nil _).symm⟩ enn)) ?_;rintro ⟨q,T⟩
    try dsimp only
    refine Hd.pure (fun hp2=>?_)
    try dsimp only at hp2
    refine Hd.seq fun _ K22=>?_
    refine sr fun _ K23=>?_
    refine yv y_mv<|yv (y_f 19 94 Tryz.underlying204 sz94)<|yv (y_l1 ag94 rfl)<|yv (y_len Tryz.underlying94 rfl) ?_;refine yv (y_lss rfl rfl) ?_;refine fk [(0,_),(3,_),(7,_),(8,_),(9,_),(10,_),(86,_)] K23 ?_;refine qz ?_ ?_<;>intro hc5<;>try simp only [hyZ] at hc5
    ·have hq:q < x.wt.length:=by omega
     obtain ⟨m,hm⟩:∃ m,x.wt[q]?=some m:=⟨_,List.getElem?_eq_getElem hq⟩
     have hmb:=hwt m (List.mem_of_getElem? hm)
     have hdm:=dg_20 (n:=m) (by omega)
     have htq:(wtB (x.wt.take q)).length≤2000:=by
      have h1:=wtB_len (l:=x.wt.take q) fun m hm=>by have:=hwt m (List.mem_of_mem_take hm);omega
      rw [List.length_take] at h1;omega
     have hTl:T.length≤3000:=by rw [hp2.2];simp only [List.length_append,List.length_cons,List.length_nil];omega
     have hT2:T++[32]++dgB m=(([119,105,114,101,32]++dgB n)++[32,108,105,115,116,101,110,32]++dgB x.bl.toNat)++wtB (x.wt.take (q + 1)):=by rw [hp2.2,wtB_s hm];simp only [List.append_assoc]
     refine qv K22<|Hd.seq fun _ K24=>?_
     refine Hd.block<|Hd.region<|yv y_mv<|yv (y_addstr rfl rfl (by simp;omega)) ?_;refine yv (y_f 19 94 Tryz.underlying204 sz94)<|yv (y_l1 ag94 rfl)<|yv y_mv<|yv (y_idxR Tryz.underlying94 sz3 rfl rfl (by omega) (by exact RdS.mono (bag_rdW (L:=[]) hrow) sq)) ?_;refine yv (y_loadR1 (v:=.int .i64 (m:Int)) ag3 rfl (RdS.mono (bag_rdW (L:=[]) hrow) sq) (by rw [Nat.mul_one,List.getElem?_map,hm];rfl)) ?_;refine callE rfl fk171 (rnum_ct _ m (by omega)) sq ?_;intro _;refine yv (y_addstr rfl rfl (by simp;omega)) ?_;refine yv y_as<|Hd.nil<|slots [(0,_),(3,_),(7,_),(8,_),(9,_),(10,_)] sbq ?_;refine Hd.inB<|Hd.toK K24 ?_;refine Hd.region<|yv y_mv<|yv (y_addn rfl rfl (by simp only [InK];omega)) ?_;refine yv y_as<|Hd.nil<|slots [(0,_),(3,_),(7,_),(8,_),(9,_),(10,_)] sbq ?_
     refine thenN ?_;exact Hd.again (q + 1,T++[32]++dgB m) (by omega) sbq (Ent.sep (.pure ⟨(show q + 1≤x.wt.length by omega),hT2⟩ enn))
    obtain rfl:q=x.wt.length:=by omega
    have hTe:T=W1:=by rw [hp2.2,←hW1,List.take_length];simp only [List.append_assoc]
    refine Hd.exit<|Hd.thenExit<|Hd.thenExit<|Hd.inBexit<|thenN ?_;exact Hd.meet () ⟨by rw [hTe];rfl,by repeat (first | exact trivial | refine ⟨rfl,?_⟩)⟩ sq
   rw [if_neg (by omega)] at hW1
   obtain ⟨w0,hw0⟩:∃ q:Nat,(x.e 0).what=(q:Int):=⟨(x.e 0).what.toNat,by have:=(hxw.what 0 (by decide)).1;omega⟩
   obtain ⟨w1,hw1⟩:∃ q:Nat,(x.e 1).what=(q:Int):=⟨(x.e 1).what.toNat,by have:=(hxw.what 1 (by decide)).1;omega⟩
   have hv0:w0≤3:=by have:=(hxw.what 0 (by decide)).2;omega
   have hv1:w1≤3:=by have:=(hxw.what 1 (by decide)).2;omega
   refine Hd.drawsH ([pt b8 (encRW (x,j)) 204]) (fun _=>true) mixed ?_;simp only [List.length,Nat.zero_add,Nat.reduceAdd];refine tH 0 rfl y_mv<|tH 1 rfl (y_addstr rfl rfl (by simp;omega)) ?_;refine tH 2 rfl (y_f 0 202 Tryz.underlying204 sz202)<|tH 3 rfl (y_idxA Tryz.underlying202 sz201 rfl rfl (by decide)) ?_;refine tH 4 rfl (y_loadn (us:=[_,_,_,_,_,_,_,_]) ag201 rfl (Rd.pt pkk (by intro j v e;rcases j with _|_|_|_|_|_|_|_|_|_|_|_|j<;>first | exact e | exact absurd e (by simp))) (by exact sz201)) ?_;refine tH 5 rfl (y_f 16 3 Tryz.underlying204 sz3)<|tH 6 rfl (y_l1 ag3 rfl)<|tH 10 rfl (y_f 0 202 Tryz.underlying204 sz202)<|tH 11 rfl (y_idxA Tryz.underlying202 sz201 rfl rfl (by decide)) ?_;refine tH 12 rfl (y_loadn (us:=[_,_,_,_,_,_,_,_]) ag201 rfl (Rd.pt pkk (by intro j v e;rcases j with _|_|_|_|_|_|_|_|_|_|_|_|j<;>first | exact e | exact absurd e (by simp))) (by exact sz201)) ?_
   refine tH 13 rfl (y_f 16 3 Tryz.underlying204 sz3)<|tH 14 rfl (y_l1 ag3 rfl)<|qo 7 ?_;refine callE rfl fk172 (rend_ct (pt b8 (encRW (x,j)) 204::own 9 1 ad (imgN w n).length c (VLs (imgN w n))::RwL b w i L) (x.e 0) w0 hw0 hv0 x.cap hxw.cap (Nat.le_trans (hxw.le 0 (by decide)) hxw.cap) (j.a 0) (j.c 0) (RdS.mono (bag_rd (L:=[]) hrow 0 (by decide)) sq)) sq ?_;intro _;refine qk<|tH 8 rfl (y_addstr rfl rfl (by simp;omega)) ?_;refine tH 9 rfl (y_addstr rfl rfl (by simp;omega)) ?_;refine qo 15 ?_;refine callE rfl fk172 (rend_ct (pt b8 (encRW (x,j)) 204::own 9 1 ad (imgN w n).length c (VLs (imgN w n))::RwL b w i L) (x.e 1) w1 hw1 hv1 x.cap hxw.cap (Nat.le_trans (hxw.le 1 (by decide)) hxw.cap) (j.a 1) (j.c 1) (RdS.mono (bag_rd (L:=[]) hrow 1 (by decide)) sq)) sq ?_;intro _;refine qk<|tH 16 rfl (y_addstr rfl rfl (by simp;omega)) ?_;refine tH 17 rfl y_as ?_
   refine endH kq ?_;refine slots [(0,_),(3,_),(7,_),(8,_),(9,_)] sbq ?_;refine thenN ?_;exact Hd.meet () ⟨by rw [←hW1];simp only [List.append_assoc];rfl,by repeat (first | exact trivial | refine ⟨rfl,?_⟩)⟩ sq
  intro _
  have hWD:wireD n x=W1++if x.rs=true then [32,114,101,115,101,116] else []:=by unfold wireD;rw [←hW1];simp only [List.append_assoc]
  obtain ⟨W2,hW2⟩:∃ W2,wireD n x=W2:=⟨_,rfl⟩
  rw [hW2] at hs hWD;refine Hd.cutK (ι:=Unit) [(0,_),(3,_),(7,_)] (fun _=>[(9,.string (str W2))]) (fun _=>own 9 1 ad (imgN w n).length c (VLs (imgN w n))::RwL b w i L) ?_ ?_ ⟨rfl,rfl,rfl,trivial⟩
  ·refine sr fun _ K25=>?_
   refine yv (y_f 17 4 Tryz.underlying204 sz4)<|yv (y_l1 ag4 rfl)<|fk [(0,_),(3,_),(7,_),(9,_),(116,_)] K25 ?_;refine qz ?_ ?_<;>intro hc6<;>try simp only [hyZ] at hc6
   ·refine Hd.region ?_
    refine yv y_mv<|yv (y_addstr rfl rfl (by simp;omega)) ?_;refine yv y_as<|Hd.nil<|slots [(0,_),(3,_),(7,_),(9,_)] sbq ?_;refine thenN ?_;exact Hd.meet () ⟨by rw [hWD,if_pos hc6];rfl,by repeat (first | exact trivial | refine ⟨rfl,?_⟩)⟩ sq
   refine Hd.skip<|thenN ?_;exact Hd.meet () ⟨by rw [hWD,if_neg (by simpa using hc6),List.append_nil];rfl,by repeat (first | exact trivial | refine ⟨rfl,?_⟩)⟩ sq
  intro _;refine Hd.region<|yv y_mv<|yv y_mv<|Hd.bslice (vs:=[(0,_)]) rfl (by exact bs88_121 ..) (fun b121=>?_);refine Hd.append Tryz.underlying137 ty9 rfl rfl rfl pkk (by exact RdS.rd (Rd.pt pkk (fun j v e=>by simpa using e)) rfl) (by simp [Value.oneCell'];done) (by simp only [maxLen];omega) (by omega) (fun ad122 cap122=>?_);refine yv y_as<|Hd.nil<|slots [(0,_),(3,_),(7,_)] sbq ?_;refine Hd.inB<|Hd.toK K16 ?_;refine Hd.region<|yv y_mv<|yv (y_addn rfl rfl (by simp only [InK];omega)) ?_;refine yv y_as<|Hd.nil<|slots [(0,_),(3,_),(7,_)] sbq ?_;refine thenN<|Hd.again (n + 1,ad122,cap122) (by show w.ws.length - (n + 1) < w.ws.length - n;omega) (by (try dsimp only);rw [hs,List.length_append];repeat (first | exact trivial | refine ⟨rfl,?_⟩)) (fun q t=>?_);rw [hs]
  exact Ent.sep (.pure (show n + 1≤w.ws.length by omega) (.eq pkk (own_eq3 (by rw [List.length_append];rfl) rfl (by exact vls_snoc rfl)) enn)) q t
 obtain rfl:n=w.ws.length:=by omega
 rw [imgS_0 w];refine Hd.exit<|Hd.thenExit<|Hd.thenExit<|Hd.inBexit<|Hd.toK K12 ?_;refine Hd.seq fun _ K26=>?_
 refine sr fun _ K27=>?_
 refine yv y_as<|fk [(0,_),(3,_),(11,_)] K27 ?_;refine Hd.block<|Hd.loopK (ι:=Nat×Option Addr×Nat) [(0,_)] (fun q_=>[(3,.slice q_.2.1 (imgS w q_.1).length q_.2.2),(11,.int .i64 ((q_.1 + 1:Nat):Int))]) (fun q_=>pu (q_.1≤31)::own 9 1 q_.2.1 (imgS w q_.1).length q_.2.2 (VLs (imgS w q_.1))::RwL b w i L) (fun q_=>31 - q_.1) (0,ad,c) sbq sbq (Ent.sep (.pure (by omega) enn)) ?_;rintro ⟨s,ad,c⟩
 try dsimp only
 refine Hd.pure (fun hp3=>?_)
 try dsimp only at hp3
 refine Hd.seq fun _ K28=>?_
 refine sr fun _ K29=>?_
 refine yv y_mv<|yv (y_leq rfl rfl) ?_;refine fk [(0,_),(3,_),(11,_),(124,_)] K29 ?_;refine qz ?_ ?_<;>intro hc7<;>try simp only [hyZ] at hc7
 ·have hsk:s < 31:=by omega
  have hss:=imgS_s w s
  have hsl:=imgS_le w s
  have hhd:=hw.hdl
  have hcl:=hw.ctl
  have hcb:0≤w.ct.getD (s + 1) 0∧w.ct.getD (s + 1) 0≤2000000000:=by
   rw [List.getD_eq_getElem?_getD,List.getElem?_eq_getElem (show s + 1 < w.ct.length by omega)];exact hb _ (List.getElem_mem _)
  obtain ⟨ck,hck⟩:∃ ck:Nat,w.ct.getD (s + 1) 0=(ck:Int):=⟨(w.ct.getD (s + 1) 0).toNat,by omega⟩
  have hcn:(w.ct.getD (s + 1) 0).toNat=ck:=by omega
  have h1l:=dg_20 (n:=s + 1) (by omega)
  have h2l:=dg_20 (n:=ck) (by omega)
  refine qv K28<|Hd.seq fun _ K30=>?_
  refine Hd.block<|sr fun _ K31=>?_
  refine yv y_mv<|yv y_mv<|yv y_np<|yv (y_f 2 99 Tryz.underlying102 sz99)<|yv (y_idxA Tryz.underlying99 sz4 rfl rfl (by omega)) ?_;refine yv (y_load1 (v:=.bool (w.hd.getD (s + 1) false)) ag4 rfl (Rd.pt1 pkk (rc_hd (s:=s + 1) hhd (by omega) (by omega)))) ?_;refine fk [(0,_),(3,_),(11,_),(132,_)] K31 ?_;refine qz ?_ ?_<;>intro hc8<;>try simp only [hyZ] at hc8
  ·have hsg:sgB w (s + 1)=[sSignal++(dgB (s + 1)++([32]++dgB ck))]:=by unfold sgB;rw [if_pos hc8,hcn]
   rw [hsg] at hss;refine Hd.drawsH ([RwH b w i.1.length i.2.1 i.2.2]) (fun _=>true) mixed ?_;simp only [List.length,Nat.zero_add,Nat.reduceAdd];refine tH 0 rfl y_mv<|tH 1 rfl y_mv<|tH 5 rfl y_mv<|tH 6 rfl y_mv<|tH 7 rfl y_np<|tH 8 rfl (y_f 34 100 Tryz.underlying102 sz100)<|tH 9 rfl (y_idxA Tryz.underlying100 sz3 rfl rfl (by omega)) ?_;refine tH 10 rfl (y_load1 (v:=.int .i64 (ck:Int)) ag3 rfl (Rd.pt1 pkk (by rw [←hck];exact rc_ct (s:=s + 1) hhd hcl (by omega) (by omega)))) ?_;refine qo 2 ?_;refine callE rfl fk171 (rnum_ct _ (s + 1) (by omega)) sq ?_;intro _;refine qk<|tH 3 rfl (y_addstr rfl rfl (by simp;omega)) ?_;refine tH 4 rfl (y_addstr rfl rfl (by simp;omega)) ?_;refine qo 11 ?_;refine callE rfl fk171 (rnum_ct _ ck (by omega)) sq ?_;intro _;refine qk<|tH 12 rfl (y_addstr rfl rfl (by simp;omega)) ?_
   refine qo 13 ?_;refine Hd.bslice (vs:=[(0,_)]) rfl (by exact bs88_146 ..) (fun b146=>?_);refine qk<|qo 14 ?_;refine Hd.append Tryz.underlying137 ty9 rfl rfl rfl pkk (by exact RdS.rd (Rd.pt pkk (fun j v e=>by simpa using e)) rfl) (by simp [Value.oneCell'];done) (by simp only [maxLen];omega) (by omega) (fun ad147 cap147=>?_);refine qk<|tH 15 rfl y_as<|endH kq ?_;refine slots [(0,_),(3,_),(11,_)] sbq ?_;refine Hd.inB<|Hd.toK K30 ?_;refine Hd.region<|yv y_mv<|yv (y_addn rfl rfl (by simp only [InK];omega)) ?_;refine yv y_as<|Hd.nil<|slots [(0,_),(3,_),(11,_)] sbq ?_;refine thenN<|Hd.again (s + 1,ad147,cap147) (by show 31 - (s + 1) < 31 - s;omega) (by (try dsimp only);rw [hss,List.length_append];repeat (first | exact trivial | refine ⟨rfl,?_⟩)) (fun q t=>?_);rw [hss];exact Ent.sep (.pure (show s + 1≤31 by omega) (.eq pkk (own_eq3 (by rw [List.length_append];rfl) rfl (by exact vls_snoc rfl)) enn)) q t
  have hsg:sgB w (s + 1)=[]:=by unfold sgB;rw [if_neg (by simpa using hc8)]
  rw [hsg,List.append_nil] at hss;refine Hd.skip<|Hd.inB<|Hd.toK K30 ?_;refine Hd.region<|yv y_mv<|yv (y_addn rfl rfl (by simp only [InK];omega)) ?_;refine yv y_as<|Hd.nil<|slots [(0,_),(3,_),(11,_)] sbq ?_;refine thenN<|Hd.again (s + 1,ad,c) (by show 31 - (s + 1) < 31 - s;omega) (by (try dsimp only);rw [hss];repeat (first | exact trivial | refine ⟨rfl,?_⟩)) (fun q t=>?_);rw [hss];exact Ent.sep (.pure (show s + 1≤31 by omega) enn) q t
 obtain rfl:s=31:=by omega
 have hhd:=hw.hdl
 have hcl:=hw.ctl
 have hall:=img_all w
 have hsl:=imgS_le w 31
 have hntw:=hw.nt
 obtain ⟨o,ho⟩:∃ o,w.nt=o:=⟨_,rfl⟩
 rw [ho] at hntw;refine Hd.exit<|Hd.thenExit<|Hd.thenExit<|Hd.inBexit<|Hd.toK K26 ?_;refine Hd.seq fun _ K32=>?_
 refine sr fun _ K33=>?_
 refine yv y_mv<|yv y_np<|yv (y_f 66 3 Tryz.underlying102 sz3)<|yv (y_load1 (v:=.int .i64 (ntI o)) ag3 rfl (Rd.pt1 pkk (rc_nt (j:=0) hhd hcl (by rw [ho];exact ntI_at o) (by omega)))) ?_;refine yv (y_geq rfl rfl) ?_;refine fk [(0,_),(3,_),(152,_)] K33 ?_;refine qz ?_ ?_<;>intro hc9<;>try simp only [hyZ] at hc9
 ·obtain ⟨n,k,rfl⟩:∃ n k,o=some (n,k):=by
   cases o with
   | none=>exact absurd hc9 (by decide)
   | some p=>exact ⟨p.1,p.2,rfl⟩
  obtain ⟨hk2,x,hx,_⟩:=hntw n k rfl
  have hn1:=(List.getElem?_eq_some_iff.1 hx).1
  have h1l:=dg_20 (n:=n) (by omega)
  have h2l:=dg_20 (n:=k) (by omega)
  have hnb:ntB w=[sNotice++(dgB n++([32]++dgB k))]:=by unfold ntB;rw [ho]
  rw [hnb] at hall;refine Hd.drawsH ([RwH b w i.1.length i.2.1 i.2.2]) (fun _=>true) mixed ?_;simp only [List.length,Nat.zero_add,Nat.reduceAdd];refine tH 0 rfl y_mv<|tH 1 rfl y_mv<|tH 2 rfl y_np<|tH 3 rfl (y_f 66 3 Tryz.underlying102 sz3)<|tH 4 rfl (y_load1 (v:=.int .i64 (n:Int)) ag3 rfl (Rd.pt1 pkk (rc_nt (j:=0) hhd hcl (by rw [ho];rfl) (by omega)))) ?_;refine tH 8 rfl y_mv<|tH 9 rfl y_np<|tH 10 rfl (y_f 67 3 Tryz.underlying102 sz3)<|tH 11 rfl (y_load1 (v:=.int .i64 (k:Int)) ag3 rfl (Rd.pt1 pkk (rc_nt (j:=1) hhd hcl (by rw [ho];rfl) (by omega)))) ?_;refine qo 5 ?_;refine callE rfl fk171 (rnum_ct _ n (by omega)) sq ?_;intro _;refine qk<|tH 6 rfl (y_addstr rfl rfl (by simp;omega)) ?_;refine tH 7 rfl (y_addstr rfl rfl (by simp;omega)) ?_;refine qo 12 ?_;refine callE rfl fk171 (rnum_ct _ k (by omega)) sq ?_
  intro _;refine qk<|tH 13 rfl (y_addstr rfl rfl (by simp;omega)) ?_;refine qo 14 ?_;refine Hd.bslice (vs:=[(0,_)]) rfl (by exact bs88_167 ..) (fun b167=>?_);refine qk<|qo 15 ?_;refine Hd.append Tryz.underlying137 ty9 rfl rfl rfl pkk (by exact RdS.rd (Rd.pt pkk (fun j v e=>by simpa using e)) rfl) (by simp [Value.oneCell'];done) (by simp only [maxLen];omega) (by omega) (fun ad168 cap168=>?_);refine qk<|tH 16 rfl y_as<|endH kq ?_;refine sk [(3,_)] K32 ?_;refine sr fun _ K34=>?_
  refine yv y_mv<|yv y_as<|fk [(2,_)] K34 ?_;refine Hd.ret<|Hd.ret1 rfl (ad168,cap168) (by rw [hall,List.length_append];rfl) (Ent.sep ?_);exact .eq pkk (own_eq3 (by rw [hall,List.length_append];rfl) rfl (by rw [hall];exact vls_snoc rfl)) (.ex i (.pure hi enn))
 have hno:o=none:=by
  cases o with
  | none=>rfl
  | some p=>exact absurd hc9 (by show ¬ (p.1:Int) < 0;omega)
 have hnb:ntB w=[]:=by unfold ntB;rw [ho,hno]
 rw [hnb,List.append_nil] at hall;refine qv K32<|sr fun _ K35=>?_
 refine yv y_mv<|yv y_as<|fk [(2,_)] K35 ?_;refine Hd.ret<|Hd.ret1 rfl (ad,c) (by rw [hall];rfl) (Ent.sep ?_);exact .eq pkk (own_eq3 (by rw [hall]) rfl (by rw [hall])) (.ex i (.pure hi enn))
end Rf
end Go.Proofs.YtmpemhbfgbochaaGreatDoor
namespace Go.Proofs
open Go.Shelf
def Tryz.lays156_ren:Go.Shelf.Ren:=⟨fun | 156=>168 | 165=>220 | 166=>221 | 169=>222 | 240=>243 | 241=>244 | 276=>251 | 277=>252 | n=>n,fun | 31=>137 | 9=>9 | 3=>3 | 4=>4 | 0=>0 | 20=>20 | 72=>296 | 76=>299 | 70=>294 | 37=>30 | 75=>298 | 127=>322 | 164=>328 | 5=>5 | 80=>301 | n=>n,fun | n=>n⟩
theorem Tryz.lays156:Go.Proofs.Lays.n156 Tryz.prog Tryz.lays156_ren:={
  mixed:=by kernel_rfl
  f156:=Tryz.func168.trans (congrArg some (by kernel_rfl))
  f165:=Tryz.func220.trans (congrArg some (by kernel_rfl))
  f166:=Tryz.func221.trans (congrArg some (by kernel_rfl))
  f169:=Tryz.func222.trans (congrArg some (by kernel_rfl))
  f240:=Tryz.func243.trans (congrArg some (by kernel_rfl))
  f241:=Tryz.func244.trans (congrArg some (by kernel_rfl))
  f276:=Tryz.func251.trans (congrArg some (by kernel_rfl))
  f277:=Tryz.func252.trans (congrArg some (by kernel_rfl))
  t0:=Tryz.underlying0
  a0:=Tryz.isAgg0
  z0:=Tryz.sizeOf0
  v0:=Tryz.zeroValue0
  t3:=Tryz.underlying3
  a3:=Tryz.isAgg3
  z3:=Tryz.sizeOf3
  v3:=Tryz.zeroValue3
  t4:=Tryz.underlying4
  a4:=Tryz.isAgg4
  z4:=Tryz.sizeOf4
  v4:=Tryz.zeroValue4
  t9:=Tryz.underlying9
  a9:=Tryz.isAgg9
  z9:=Tryz.sizeOf9
  v9:=Tryz.zeroValue9
  t20:=Tryz.underlying20
  a20:=Tryz.isAgg20
  z20:=Tryz.sizeOf20
  v20:=Tryz.zeroValue20
  t31:=Tryz.underlying137
  a31:=Tryz.isAgg137
  z31:=Tryz.sizeOf137
  v31:=Tryz.zeroValue137
  t37:=Tryz.underlying30
  a37:=Tryz.isAgg30
  z37:=Tryz.sizeOf30
  v37:=Tryz.zeroValue30
  t70:=Tryz.underlying294
  a70:=Tryz.isAgg294
  z70:=Tryz.sizeOf294
  v70:=Tryz.zeroValue294
  t72:=Tryz.underlying296
  a72:=Tryz.isAgg296
  z72:=Tryz.sizeOf296
  v72:=Tryz.zeroValue296
  t75:=Tryz.underlying298
  a75:=Tryz.isAgg298
  z75:=Tryz.sizeOf298
  v75:=Tryz.zeroValue298
  t76:=Tryz.underlying299
  a76:=Tryz.isAgg299
  z76:=Tryz.sizeOf299
  v76:=Tryz.zeroValue299
  t127:=Tryz.underlying322
  a127:=Tryz.isAgg322
  z127:=Tryz.sizeOf322
  v127:=Tryz.zeroValue322
  t164:=Tryz.underlying328
  a164:=Tryz.isAgg328
  z164:=Tryz.sizeOf328
  v164:=Tryz.zeroValue328 }
theorem Tryz.Builder_Extra_156:Builder.Extra Tryz.prog Tryz.lays156_ren:={
  sizeBuilder:=by kernel_rfl
  liesBuilder:=by kernel_rfl
  t5:=Tryz.underlying5
  a5:=Tryz.isAgg5
  z5:=Tryz.sizeOf5
  v5:=Tryz.zeroValue5
  infoByte:=by kernel_rfl
  cellsByte:=by kernel_rfl
  sizeByte:=by kernel_rfl
  neB5:=by decide }
open Go.RowKit in
theorem Tryz.strings_Join (bk o c:Nat) (xs:List ByteArray) (sep:ByteArray) (w:World) (hcells:∀ (j:Nat) x,xs[j]?=some x→w.cell? ⟨bk,o + j,none⟩=some (.string x)) (hbk:bk < w.heap.size) (hN:xs.length≤140737488355328) (hcap:xs.length≤c) (hlen:(Lib.join (xs.map (·.data.toList)) sep.data.toList).length≤140737488355328) :
    Calls Tryz.prog 168 #[.slice (some ⟨bk,o,none⟩) xs.length c,.string sep] w fun e w'=>e=.returned (.string ⟨(Lib.join (xs.map (·.data.toList)) sep.data.toList).toArray⟩)∧Below w.heap.size w w':=Any.strings_Join Tryz.lays156 Tryz.Builder_Extra_156 bk o c xs sep w hcells hbk hN hcap hlen
def Tryz.lays283_ren:Go.Shelf.Ren:=⟨fun | 283=>238 | n=>n,fun | 3=>3 | 9=>9 | 4=>4 | n=>n,fun | n=>n⟩
theorem Tryz.lays283:Go.Proofs.Lays.n283 Tryz.prog Tryz.lays283_ren:={
  mixed:=by kernel_rfl
  f283:=Tryz.func238.trans (congrArg some (by kernel_rfl))
  t3:=Tryz.underlying3
  a3:=Tryz.isAgg3
  z3:=Tryz.sizeOf3
  v3:=Tryz.zeroValue3
  t4:=Tryz.underlying4
  a4:=Tryz.isAgg4
  z4:=Tryz.sizeOf4
  v4:=Tryz.zeroValue4
  t9:=Tryz.underlying9
  a9:=Tryz.isAgg9
  z9:=Tryz.sizeOf9
  v9:=Tryz.zeroValue9 }
open Go.Lib in
theorem Tryz.internal_strconv_small (i:Nat) (h:i < 100) (w:World) :
    Calls Tryz.prog 238 #[.int .i64 i] w fun e w'=>e=.returned (.string ⟨(Lib.decDigits i).toArray⟩)∧w'=w:=Any.internal_strconv_small Tryz.lays283 i h w
def Tryz.laysM284_ren:Go.Shelf.Ren:=⟨fun | 284=>239 | 129=>247 | 317=>246 | 318=>248 | n=>n,fun | 53=>29 | 3=>3 | 212=>324 | 0=>0 | 4=>4 | 46=>321 | 5=>5 | 9=>9 | n=>n,fun | 17=>1 | n=>n⟩
theorem Tryz.laysM284:Go.Proofs.LaysM.n284 Tryz.prog Tryz.laysM284_ren:={
  mixed:=by kernel_rfl
  f129:=Tryz.func247.trans (congrArg some (by kernel_rfl))
  f284:=Tryz.func239.trans (congrArg some (by kernel_rfl))
  f317:=Tryz.func246.trans (congrArg some (by kernel_rfl))
  f318:=Tryz.func248.trans (congrArg some (by kernel_rfl))
  t0:=Tryz.underlying0
  a0:=Tryz.isAgg0
  z0:=Tryz.sizeOf0
  v0:=Tryz.zeroValue0
  t3:=Tryz.underlying3
  a3:=Tryz.isAgg3
  z3:=Tryz.sizeOf3
  v3:=Tryz.zeroValue3
  t4:=Tryz.underlying4
  a4:=Tryz.isAgg4
  z4:=Tryz.sizeOf4
  v4:=Tryz.zeroValue4
  t5:=Tryz.underlying5
  a5:=Tryz.isAgg5
  z5:=Tryz.sizeOf5
  v5:=Tryz.zeroValue5
  t9:=Tryz.underlying9
  a9:=Tryz.isAgg9
  z9:=Tryz.sizeOf9
  v9:=Tryz.zeroValue9
  t46:=Tryz.underlying321
  a46:=Tryz.isAgg321
  z46:=Tryz.sizeOf321
  v46:=Tryz.zeroValue321
  t53:=Tryz.underlying29
  a53:=Tryz.isAgg29
  z53:=Tryz.sizeOf29
  v53:=Tryz.zeroValue29
  t212:=Tryz.underlying324
  a212:=Tryz.isAgg324
  z212:=Tryz.sizeOf324
  v212:=Tryz.zeroValue324
  g17:=by kernel_rfl
  i0:=by kernel_rfl
  i3:=by kernel_rfl
  i4:=by kernel_rfl
  i5:=by kernel_rfl
  i9:=by kernel_rfl
  i46:=by kernel_rfl
  i53:=by kernel_rfl
  i212:=by kernel_rfl
  m17:=by kernel_rfl }
open Go.Lib in
theorem Tryz.internal_strconv_numDigits (u : Nat) (h1 : 1 ≤ u) (h2 : u < 18446744073709551616) (w : World) (htab : Lib.TabIs Tryz.prog w "internal/strconv.uint64pow10" .u64 Lib.pow10Tab) :
    Calls Tryz.prog 239 #[.int .u64 u] w fun e w'=>e=.returned (.int .i64 (Lib.nDigits u))∧w'=w:=Any.internal_strconv_numDigits Tryz.laysM284 u h1 h2 w htab
def Tryz.lays285_ren:Go.Shelf.Ren:=⟨fun | 285=>240 | n=>n,fun | 37=>30 | 53=>29 | 3=>3 | 4=>4 | 51=>325 | 9=>9 | 5=>5 | 0=>0 | n=>n,fun | n=>n⟩
theorem Tryz.lays285:Go.Proofs.Lays.n285 Tryz.prog Tryz.lays285_ren:={
  mixed:=by kernel_rfl
  f285:=Tryz.func240.trans (congrArg some (by kernel_rfl))
  t0:=Tryz.underlying0
  a0:=Tryz.isAgg0
  z0:=Tryz.sizeOf0
  v0:=Tryz.zeroValue0
  t3:=Tryz.underlying3
  a3:=Tryz.isAgg3
  z3:=Tryz.sizeOf3
  v3:=Tryz.zeroValue3
  t4:=Tryz.underlying4
  a4:=Tryz.isAgg4
  z4:=Tryz.sizeOf4
  v4:=Tryz.zeroValue4
  t5:=Tryz.underlying5
  a5:=Tryz.isAgg5
  z5:=Tryz.sizeOf5
  v5:=Tryz.zeroValue5
  t9:=Tryz.underlying9
  a9:=Tryz.isAgg9
  z9:=Tryz.sizeOf9
  v9:=Tryz.zeroValue9
  t37:=Tryz.underlying30
  a37:=Tryz.isAgg30
  z37:=Tryz.sizeOf30
  v37:=Tryz.zeroValue30
  t51:=Tryz.underlying325
  a51:=Tryz.isAgg325
  z51:=Tryz.sizeOf325
  v51:=Tryz.zeroValue325
  t53:=Tryz.underlying29
  a53:=Tryz.isAgg29
  z53:=Tryz.sizeOf29
  v53:=Tryz.zeroValue29 }
open Go.RowKit Go.Sort Go.Lib in
theorem Tryz.internal_strconv_formatBase10 (blk off cap:Nat) (u:Nat) (d:Array UInt8) (w:World) (hH:Holds (fun (b:UInt8)=>Value.int .u8 (b.toNat:Int)) w blk off d) (hu:u < 10 ^ d.size) (hu64:u < 18446744073709551616) (hsz:d.size < 4611686018427387904) :
    Calls Tryz.prog 240 #[.slice (some ⟨blk,off,none⟩) d.size cap,.int .u64 u] w fun e w' =>
      e=.returned (.tuple #[])∧∃ (n v':Nat) (dk:Array UInt8),w'=(putRow (fun (b:UInt8)=>Value.int .u8 (b.toNat:Int)) w blk off dk).drewN n∧FmtInv d.size u 0 v' dk:=Any.internal_strconv_formatBase10 Tryz.lays285 blk off cap u d w hH hu hu64 hsz
def Tryz.laysM171_ren:Go.Shelf.Ren:=⟨fun | 171=>166 | 243=>217 | 246=>242 | 283=>238 | 284=>239 | 285=>240 | 286=>241 | 129=>247 | 317=>246 | 318=>248 | 319=>249 | 320=>250 | 337=>253 | 338=>254 | n=>n,fun | 3=>3 | 9=>9 | 2=>2 | 4=>4 | 171=>316 | 0=>0 | 53=>29 | 37=>30 | 5=>5 | 173=>318 | 212=>324 | 51=>325 | 20=>20 | 213=>326 | 46=>321 | 232=>331 | 233=>332 | n=>n,fun | 17=>1 | 18=>3 | 19=>4 | n=>n⟩
theorem Tryz.laysM171:Go.Proofs.LaysM.n171 Tryz.prog Tryz.laysM171_ren:={
  mixed:=by kernel_rfl
  f129:=Tryz.func247.trans (congrArg some (by kernel_rfl))
  f171:=Tryz.func166.trans (congrArg some (by kernel_rfl))
  f243:=Tryz.func217.trans (congrArg some (by kernel_rfl))
  f246:=Tryz.func242.trans (congrArg some (by kernel_rfl))
  f283:=Tryz.func238.trans (congrArg some (by kernel_rfl))
  f284:=Tryz.func239.trans (congrArg some (by kernel_rfl))
  f285:=Tryz.func240.trans (congrArg some (by kernel_rfl))
  f286:=Tryz.func241.trans (congrArg some (by kernel_rfl))
  f317:=Tryz.func246.trans (congrArg some (by kernel_rfl))
  f318:=Tryz.func248.trans (congrArg some (by kernel_rfl))
  f319:=Tryz.func249.trans (congrArg some (by kernel_rfl))
  f320:=Tryz.func250.trans (congrArg some (by kernel_rfl))
  f337:=Tryz.func253.trans (congrArg some (by kernel_rfl))
  f338:=Tryz.func254.trans (congrArg some (by kernel_rfl))
  t0:=Tryz.underlying0
  a0:=Tryz.isAgg0
  z0:=Tryz.sizeOf0
  v0:=Tryz.zeroValue0
  t2:=Tryz.underlying2
  a2:=Tryz.isAgg2
  z2:=Tryz.sizeOf2
  v2:=Tryz.zeroValue2
  t3:=Tryz.underlying3
  a3:=Tryz.isAgg3
  z3:=Tryz.sizeOf3
  v3:=Tryz.zeroValue3
  t4:=Tryz.underlying4
  a4:=Tryz.isAgg4
  z4:=Tryz.sizeOf4
  v4:=Tryz.zeroValue4
  t5:=Tryz.underlying5
  a5:=Tryz.isAgg5
  z5:=Tryz.sizeOf5
  v5:=Tryz.zeroValue5
  t9:=Tryz.underlying9
  a9:=Tryz.isAgg9
  z9:=Tryz.sizeOf9
  v9:=Tryz.zeroValue9
  t20:=Tryz.underlying20
  a20:=Tryz.isAgg20
  z20:=Tryz.sizeOf20
  v20:=Tryz.zeroValue20
  t37:=Tryz.underlying30
  a37:=Tryz.isAgg30
  z37:=Tryz.sizeOf30
  v37:=Tryz.zeroValue30
  t46:=Tryz.underlying321
  a46:=Tryz.isAgg321
  z46:=Tryz.sizeOf321
  v46:=Tryz.zeroValue321
  t51:=Tryz.underlying325
  a51:=Tryz.isAgg325
  z51:=Tryz.sizeOf325
  v51:=Tryz.zeroValue325
  t53:=Tryz.underlying29
  a53:=Tryz.isAgg29
  z53:=Tryz.sizeOf29
  v53:=Tryz.zeroValue29
  t171:=Tryz.underlying316
  a171:=Tryz.isAgg316
  z171:=Tryz.sizeOf316
  v171:=Tryz.zeroValue316
  t173:=Tryz.underlying318
  a173:=Tryz.isAgg318
  z173:=Tryz.sizeOf318
  v173:=Tryz.zeroValue318
  t212:=Tryz.underlying324
  a212:=Tryz.isAgg324
  z212:=Tryz.sizeOf324
  v212:=Tryz.zeroValue324
  t213:=Tryz.underlying326
  a213:=Tryz.isAgg326
  z213:=Tryz.sizeOf326
  t232:=Tryz.underlying331
  a232:=Tryz.isAgg331
  z232:=Tryz.sizeOf331
  v232:=Tryz.zeroValue331
  t233:=Tryz.underlying332
  a233:=Tryz.isAgg332
  z233:=Tryz.sizeOf332
  v233:=Tryz.zeroValue332
  g17:=by kernel_rfl
  g18:=by kernel_rfl
  g19:=by kernel_rfl
  i0:=by kernel_rfl
  i2:=by kernel_rfl
  i3:=by kernel_rfl
  i4:=by kernel_rfl
  i5:=by kernel_rfl
  i9:=by kernel_rfl
  i20:=by kernel_rfl
  i37:=by kernel_rfl
  i46:=by kernel_rfl
  i51:=by kernel_rfl
  i53:=by kernel_rfl
  i171:=by kernel_rfl
  i173:=by kernel_rfl
  i212:=by kernel_rfl
  i232:=by kernel_rfl
  i233:=by kernel_rfl
  m17:=by kernel_rfl
  m18:=by kernel_rfl
  m19:=by kernel_rfl }
open Go.RowKit Go.Sort Go.Lib in
theorem Tryz.strconv_Itoa (n : Int) (h0 : -9223372036854775808 ≤ n) (h1 : n ≤ 9223372036854775807) (w : World) (htab : Lib.TabIs Tryz.prog w "internal/strconv.uint64pow10" .u64 Lib.pow10Tab) :
    Calls Tryz.prog 166 #[.int .i64 n] w fun e w'=>e=.returned (.string ⟨(Lib.itoa n).toArray⟩)∧∃ k os,w'=grow (w.drewN k) os:=Any.strconv_Itoa Tryz.laysM171 n h0 h1 w htab
end Go.Proofs
