/-
  Worlds: Connect.
-/
import Derived.Test.YtmpemhbfgbochaaGreatDoorZBufevPlaysH
set_option linter.unusedSimpArgs false
set_option linter.unusedVariables false
set_option linter.unnecessarySimpa false
set_option maxRecDepth 8000
set_option maxHeartbeats 2000000
open Go.RX.Hd (yv y2 n1 fk sk sr tH callE heldK qo qk qn qt qz qv endH thenN slots)
namespace Go.Proofs.YtmpemhbfgbochaaGreatDoor
open Go.RX Fx
namespace Wo
theorem clonen_ct (L:List SP) (ad:Option Addr) (c:Nat) (xs:List Nat) (h:RdS L 1 ad xs.length (nats xs)) (hb:xs.length≤10000000):Ct Tryz.prog 203 #[.slice ad xs.length c] (L) (fun q_:Option Addr×Nat=>.slice q_.1 xs.length q_.2) (fun q_:Option Addr×Nat=>own 3 1 q_.1 xs.length q_.2 (nats xs)::L):=by
 refine Ct.o1 Tryz.func203 ?_;intro E
 show Hd E 8 _ _ _ _
 refine Hd.rdsF h (fun _ hnil=>?_);refine sr fun _ K1=>?_
 refine yv y_as<|fk [(0,_)] K1 ?_;refine Hd.seq fun _ K2=>?_
 refine sr fun _ K3=>?_
 refine yv y_mv<|yv (y_eql_slice Tryz.underlying94 rfl rfl) ?_;refine fk [(0,_),(4,_)] K3 ?_;refine qz ?_ ?_<;>intro hc0<;>try simp only [hyZ] at hc0
 ·refine sr fun _ K4=>?_
  refine yv y_as<|fk [(2,_)] K4 ?_;refine Hd.ret<|Hd.thenRet ?_
  have h0:xs=[]:=by
   have:=hnil (by simpa using hc0)
   simpa using this
  subst h0;exact Hd.ret1 rfl (none,0) rfl (Ent.sep (.ownNil .same))
 refine qv K2<|sr fun _ K5=>?_
 refine Hd.bslice (vs:=[]) rfl (by exact bs203_5 ..) (fun b5=>?_);refine Hd.ownNil 3 1 (some ⟨b5,0,none⟩) ?_;refine yv y_mv<|Hd.append Tryz.underlying94 ty3 rfl rfl rfl pkk (by exact RdS.mono h sq) (by simp [Value.oneCell'];done) (by simp only [maxLen];omega) (by omega) (fun ad7 cap7=>?_);refine yv y_as<|fk [(2,_)] K5 ?_;refine Hd.ret ?_;exact Hd.ret1 rfl (ad7,cap7) (by simp;rfl) (Ent.sep (.eq pkk (own_eq (by omega) (by simp)) enn))
theorem conn_yes {w:WA} {n:Nat} {x:WireA} {m:Int} (hx:w.ws[n]?=some x):connR w n m=if x.bl=0∨(x.e 0).what≠1 then ((0,116),w) else if m < 1∨65536 < m then ((0,2),w) else if x.bl≤(x.wt.length:Int) then ((0,113),w)
  else if 1000≤w.ws.length then ((0,112),w) else ((((w.ws.length:Nat):Int),(0:Int)),(w.addW (connW m.toNat)).setW n (waitW x w.ws.length)):=by
 unfold connR;rw [if_neg (by omega),Int.toNat_natCast,hx]
theorem conn_off {w:WA} {n m:Int} (h:n < 0∨(w.ws.length:Int)≤n):connR w n m=((0,116),w):=by
 unfold connR
 have e:(if n < 0 then none else w.ws[n.toNat]?)=none:=by
  split
  ·rfl
  ·exact List.getElem?_eq_none (by omega)
 rw [e]
theorem wire_wait {b m:Nat} {x:WireA} {i:WI} {wa:Option Addr} {wc:Nat} {L:List SP} (hi:WIOk x i):∀ h,sep (pt b (encW (waitW x m) { i with wa:=wa,wc:=wc }) 198::own 3 1 wa (x.wt++[m]).length wc (nats (x.wt++[m]))::RgO (i.p 0) x.cap (x.e 0).b::RgO (i.p (1 - 0)) x.cap (x.e (1 - 0)).b::L) h→sep (WireP b (waitW x m)::L) h:=fun h s=>by
 have e0:=(wait_e x m 0).2.2.2.2
 have e1:=(wait_e x m 1).2.2.2.2
 refine wire_fold (x:=waitW x m) (i:={ i with wa:=wa,wc:=wc }) (k:=0) ⟨fun j hj=>by rw [(wait_e x m j).2.2.1];exact hi.rd j hj⟩ (by omega) h ?_;unfold WireB;rw [e0,show ((waitW x m).e (1 - 0)).b=(x.e 1).b from e1];exact Ent.sep (show Ent _ (WireH b (waitW x m) { i with wa:=wa,wc:=wc }::RgO (i.p 0) x.cap (x.e 0).b::RgO (i.p (1 - 0)) x.cap (x.e (1 - 0)).b::own 3 1 wa (x.wt++[m]).length wc (nats (x.wt++[m]))::L) from enn) h s
theorem conn0_ct (L:List SP) (wb:Nat) (w:WA) (n m:Int) (hn:n < 0∨(w.ws.length:Int)≤n):Ct Tryz.prog 136 #[.pointer (some ⟨wb,0,none⟩),.int .i64 n,.int .i64 m] (WorldP wb w::L) (fun _:Unit=>.tuple #[.int .i64 0,.int .i64 116]) (fun _:Unit=>WorldP wb w::L):=by
 refine Ct.o3 Tryz.func136 ?_;intro E
 show Hd E 143 _ _ _ _
 refine Hd.world .here (fun i hw hrs=>?_)
 have hrl:i.rs.length=w.ws.length:=by rw [←hrs,List.length_map]
 refine sr fun _ K1=>?_
 refine yv y_as<|yv y_as<|fk [(0,_),(1,_),(2,_)] K1 ?_;refine Hd.seq fun _ K2=>?_
 refine Hd.block<|sr fun _ K3=>?_
 refine yv y_mv<|callE rfl fk114 (wnone_ct _ wb w.at w i.rs.length i) sq ?_;intro _;refine yv y_as<|fk [(0,_),(1,_),(2,_),(10,_)] K3 ?_;refine Hd.condF rfl ?_;refine sr fun _ K4=>?_
 refine yv y_mv<|yv (y_lss rfl rfl) ?_;refine yv y_mv<|Hd.part (gd:=16) rfl (fun hg3_16=>?_) (fun hg3_16=>?_)
 ·try simp only [hyZ] at hg3_16
  refine n1<|n1<|n1<|n1<|n1<|n1<|n1<|yv (y_pickT rfl rfl) ?_;refine yv y_mv<|Hd.part (gd:=25) rfl (fun hg3_25=>?_) (fun hg3_25=>?_)
  ·try simp only [hyZ] at hg3_25
   refine n1<|n1<|n1<|n1<|n1<|n1<|n1<|n1<|n1<|n1<|n1<|yv (y_pickT rfl rfl) ?_;refine yv y_mv<|Hd.part (gd:=38) rfl (fun hg3_38=>?_) (fun hg3_38=>?_)
   ·try simp only [hyZ] at hg3_38
    refine n1<|n1<|n1<|n1<|n1<|n1<|n1<|n1<|n1<|n1<|n1<|n1<|n1<|yv (y_pickT rfl rfl) ?_;refine yv y_as<|fk [(0,_),(1,_),(2,_),(13,_)] K4 ?_;refine Hd.condT rfl ?_;refine sr fun _ K5=>?_
    refine yv y_as<|yv y_as<|fk [(6,_),(7,_)] K5 ?_;refine Hd.ret<|Hd.inBret<|Hd.thenRet ?_;exact Hd.ret2 rfl () rfl rfl rfl (Ent.sep (.ex i (.pure ⟨hw,hrs⟩ enn)))
   try simp only [hyZ] at hg3_38
   exfalso;simp at hg3_38;done
  try simp only [hyZ] at hg3_25
  exfalso;simp at hg3_25;done
 try simp only [hyZ] at hg3_16
 refine y2 y_mv<|y2 y_mv<|y2 y_np<|y2 (y_f 288 184 Tryz.underlying186 sz184)<|y2 (y_load1 ag184 rfl (Rd.pt1 pkk (by exact woT_at (j:=0) (by omega) rfl))) ?_;refine y2 (y_len Tryz.underlying184 rfl) ?_;refine y2 (y_geq rfl rfl) ?_;refine yv (y_pickF rfl rfl) ?_;refine yv y_mv<|Hd.part (gd:=25) rfl (fun hg3_25=>?_) (fun hg3_25=>?_)
 ·try simp only [hyZ] at hg3_25
  refine n1<|n1<|n1<|n1<|n1<|n1<|n1<|n1<|n1<|n1<|n1<|yv (y_pickT rfl rfl) ?_;refine yv y_mv<|Hd.part (gd:=38) rfl (fun hg3_38=>?_) (fun hg3_38=>?_)
  ·try simp only [hyZ] at hg3_38
   refine n1<|n1<|n1<|n1<|n1<|n1<|n1<|n1<|n1<|n1<|n1<|n1<|n1<|yv (y_pickT rfl rfl) ?_;refine yv y_as<|fk [(0,_),(1,_),(2,_),(13,_)] K4 ?_;refine Hd.condT rfl ?_;refine sr fun _ K6=>?_
   refine yv y_as<|yv y_as<|fk [(6,_),(7,_)] K6 ?_;refine Hd.ret<|Hd.inBret<|Hd.thenRet ?_;exact Hd.ret2 rfl () rfl rfl rfl (Ent.sep (.ex i (.pure ⟨hw,hrs⟩ enn)))
  try simp only [hyZ] at hg3_38
  exfalso;simp at hg3_38;done
 try simp only [hyZ] at hg3_25
 exfalso;omega
theorem conn1_ct (L:List SP) (wb:Nat) (w:WA) (n:Nat) (x:WireA) (hx:w.ws[n]?=some x) (m:Int):Ct Tryz.prog 136 #[.pointer (some ⟨wb,0,none⟩),.int .i64 (n:Int),.int .i64 m] (WorldP wb w::L) (fun _:Unit=>.tuple #[.int .i64 (connR w n m).1.1,.int .i64 (connR w n m).1.2]) (fun _:Unit=>WorldP wb (connR w n m).2::L):=by
 refine Ct.o3 Tryz.func136 ?_;intro E
 show Hd E 143 _ _ _ _
 refine Hd.world .here (fun i hw hrs=>?_)
 have hrl:i.rs.length=w.ws.length:=by rw [←hrs,List.length_map]
 obtain ⟨b,hb⟩:=rs_at hrs hx
 have hnl:n < i.rs.length:=(List.getElem?_eq_some_iff.1 hb).1
 have hok:=conn_ok hw (n:Int) m
 have hcr:=conn_yes (m:=m) hx
 have hwl:=wt_le hw hx
 have hwe:=hw.len
 refine sr fun _ K1=>?_
 refine yv y_as<|yv y_as<|fk [(0,_),(1,_),(2,_)] K1 ?_;refine Hd.seq fun _ K2=>?_
 refine Hd.block<|sr fun _ K3=>?_
 refine yv y_mv<|callE rfl fk114 (wnone_ct _ wb w.at w i.rs.length i) sq ?_;intro _;refine yv y_as<|fk [(0,_),(1,_),(2,_),(10,_)] K3 ?_;refine Hd.condF rfl ?_;refine Hd.seq fun _ K4=>?_
 refine Hd.wOut pkk hb ?_;refine Hd.wire .here 0 (by omega) (fun i2 hi=>?_);refine Hd.region<|yv y_mv<|yv (y_lss rfl rfl) ?_;refine yv y_mv ?_;apply Hd.org 8 16 24 [(0,_),(1,_),(2,_)] rfl sbq
 ·intro hg3_16
  try simp only [hyZ] at hg3_16
  simp only [List.take];refine n1<|n1<|n1<|n1<|n1<|n1<|n1<|yv (y_pickT rfl rfl) ?_;exact Hd.mn
 ·intro hg3_16
  try simp only [hyZ] at hg3_16
  simp only [List.take];refine y2 y_mv<|y2 y_mv<|y2 y_np<|y2 (y_f 288 184 Tryz.underlying186 sz184)<|y2 (y_load1 ag184 rfl (Rd.pt1 pkk (by exact woT_at (j:=0) (by omega) rfl))) ?_;refine y2 (y_len Tryz.underlying184 rfl) ?_;refine y2 (y_geq rfl rfl) ?_;refine yv (y_pickF rfl rfl) ?_;exact Hd.mn
 simp only [List.drop];refine yv y_mv ?_;apply Hd.org (q:=decide (x.bl=0)) 12 25 37 [(0,_),(1,_),(2,_)] rfl sbq
 ·intro hg3_25
  try simp only [hyZ] at hg3_25
  simp only [List.take];refine n1<|n1<|n1<|n1<|n1<|n1<|n1<|n1<|n1<|n1<|n1<|yv (y_pickT rfl rfl) ?_;exact Hd.mn
 ·intro hg3_25
  try simp only [hyZ] at hg3_25
  simp only [List.take];refine y2 y_mv<|y2 y_np<|y2 (y_f 288 184 Tryz.underlying186 sz184)<|y2 (y_load1 ag184 rfl (Rd.pt1 pkk (by exact woT_at (j:=0) (by omega) rfl))) ?_;refine y2 y_mv<|y2 (y_idxR Tryz.underlying184 sz189 rfl rfl (by omega) (by exact RdS.own pkk)) ?_;refine y2 (y_loadR1 ag189 rfl (by exact RdS.own pkk) (by exact pws_at hb)) ?_;refine y2 y_np<|y2 (y_f 15 3 Tryz.underlying198 sz3)<|y2 (y_l1 ag3 rfl)<|y2 (y_eql rfl rfl) ?_;refine yv (y_pickF rfl rfl) ?_;exact Hd.mn
 simp only [List.drop];refine yv y_mv ?_;apply Hd.org (q:=decide ((x.e 0).what≠1)) 14 38 52 [(0,_),(1,_),(2,_)] rfl sbq
 ·intro hg3_38
  try simp only [hyZ] at hg3_38
  simp only [List.take];refine n1<|n1<|n1<|n1<|n1<|n1<|n1<|n1<|n1<|n1<|n1<|n1<|n1<|yv (y_pickT rfl rfl) ?_;exact Hd.mn
 ·intro hg3_38
  try simp only [hyZ] at hg3_38
  simp only [List.take];refine y2 y_mv<|y2 y_np<|y2 (y_f 288 184 Tryz.underlying186 sz184)<|y2 (y_load1 ag184 rfl (Rd.pt1 pkk (by exact woT_at (j:=0) (by omega) rfl))) ?_;refine y2 y_mv<|y2 (y_idxR Tryz.underlying184 sz189 rfl rfl (by omega) (by exact RdS.own pkk)) ?_;refine y2 (y_loadR1 ag189 rfl (by exact RdS.own pkk) (by exact pws_at hb)) ?_;refine y2 y_np<|y2 (y_f 0 196 Tryz.underlying198 sz196)<|y2 (y_idxA Tryz.underlying196 sz195 rfl rfl (by decide)) ?_;refine y2 (y_f 0 3 Tryz.underlying195 sz3)<|y2 (y_l1 ag3 rfl)<|y2 (y_neq rfl rfl) ?_;refine yv (y_pickF rfl rfl) ?_;exact Hd.mn
 simp only [List.drop];refine yv y_as<|fk [(0,_),(1,_),(2,_),(13,_)] K4 ?_;refine qz ?_ ?_<;>intro hc1<;>try simp only [hyZ] at hc1
 ·refine sr fun _ K5=>?_
  refine yv y_as<|yv y_as<|fk [(6,_),(7,_)] K5 ?_;refine Hd.ret<|Hd.inBret<|Hd.thenRet ?_
  have h1:x.bl=0∨(x.e 0).what≠1:=by
   rcases hc1 with (h | h) | h
   ·omega
   ·exact .inl h
   ·exact .inr h
  rw [hcr,if_pos h1];exact Hd.ret2 rfl () rfl rfl rfl (fun q s=>world_back (k:=0) hw hrs hb hi (by omega) q (Ent.sep enn q s))
 rw [if_neg (by rintro (h | h);exact hc1.1.2 h;exact h hc1.2)] at hcr;refine sr fun _ K6=>?_
 refine yv y_mv<|callE rfl fk191 (cap_ct _ m) sq ?_;intro _;refine yv (y_not rfl)<|yv y_as<|fk [(0,_),(1,_),(2,_),(53,_)] K6 ?_;refine qz ?_ ?_<;>intro hc2<;>try simp only [hyZ] at hc2
 ·refine sr fun _ K7=>?_
  refine yv y_as<|yv y_as<|fk [(6,_),(7,_)] K7 ?_;refine Hd.ret<|Hd.inBret<|Hd.thenRet ?_;rw [hcr,if_pos (by omega)];exact Hd.ret2 rfl () rfl rfl rfl (fun q s=>world_back (k:=0) hw hrs hb hi (by omega) q (Ent.sep enn q s))
 rw [if_neg (by omega)] at hcr;refine Hd.seq fun _ K8=>?_
 refine Hd.quiet mixed kq ?_;refine Hq.yv y_mv ?_;refine Hq.yv y_np ?_;refine Hq.yv (y_f 288 184 Tryz.underlying186 sz184) ?_;refine Hq.yv (y_load1 ag184 rfl (Rd.pt1 pkk (by exact woT_at (j:=0) (by omega) rfl))) ?_;refine Hq.yv y_mv ?_;refine Hq.yv (y_idxR Tryz.underlying184 sz189 rfl rfl (by omega) (by exact RdS.own pkk)) ?_;refine Hq.yv (y_loadR1 ag189 rfl (by exact RdS.own pkk) (by exact pws_at hb)) ?_;refine Hq.yv y_np ?_;refine Hq.yv (y_f 16 94 Tryz.underlying198 sz94) ?_;refine Hq.yv (y_l1 ag94 rfl) ?_;refine Hq.yv (y_len Tryz.underlying94 rfl) ?_;refine Hq.yv y_mv ?_;refine Hq.yv y_np ?_;refine Hq.yv (y_f 288 184 Tryz.underlying186 sz184) ?_;refine Hq.yv (y_load1 ag184 rfl (Rd.pt1 pkk (by exact woT_at (j:=0) (by omega) rfl))) ?_;refine Hq.yv y_mv ?_;refine Hq.yv (y_idxR Tryz.underlying184 sz189 rfl rfl (by omega) (by exact RdS.own pkk)) ?_;refine Hq.yv (y_loadR1 ag189 rfl (by exact RdS.own pkk) (by exact pws_at hb)) ?_
 refine Hq.yv y_np ?_;refine Hq.yv (y_f 15 3 Tryz.underlying198 sz3) ?_;refine Hq.yv (y_l1 ag3 rfl) ?_;refine Hq.yv (y_geq rfl rfl) ?_;refine Hq.yv y_as ?_;refine Hq.nil ?_;refine sk [(0,_),(1,_),(2,_),(57,_)] K8 ?_;refine qz ?_ ?_<;>intro hc3<;>try simp only [hyZ] at hc3
 ·refine sr fun _ K9=>?_
  refine yv y_as<|yv y_as<|fk [(6,_),(7,_)] K9 ?_;refine Hd.ret<|Hd.inBret<|Hd.thenRet ?_;rw [hcr,if_pos (by omega)];exact Hd.ret2 rfl () rfl rfl rfl (fun q s=>world_back (k:=0) hw hrs hb hi (by omega) q (Ent.sep enn q s))
 rw [if_neg (by omega)] at hcr;refine sr fun _ K10=>?_
 refine yv y_mv<|yv y_np<|yv (y_f 288 184 Tryz.underlying186 sz184)<|yv (y_load1 ag184 rfl (Rd.pt1 pkk (by exact woT_at (j:=0) (by omega) rfl))) ?_;refine yv (y_len Tryz.underlying184 rfl) ?_;refine yv (y_geq rfl rfl) ?_;refine yv y_as<|fk [(0,_),(1,_),(2,_),(80,_)] K10 ?_;refine qz ?_ ?_<;>intro hc4<;>try simp only [hyZ] at hc4
 ·refine sr fun _ K11=>?_
  refine yv y_as<|yv y_as<|fk [(6,_),(7,_)] K11 ?_;refine Hd.ret<|Hd.inBret<|Hd.thenRet ?_;rw [hcr,if_pos (by omega)];exact Hd.ret2 rfl () rfl rfl rfl (fun q s=>world_back (k:=0) hw hrs hb hi (by omega) q (Ent.sep enn q s))
 rw [if_neg (by omega)] at hcr
 obtain ⟨mm,rfl⟩:∃ k:Nat,m=(k:Int):=⟨m.toNat,by omega⟩
 rw [Int.toNat_natCast] at hcr;refine Hd.skip<|Hd.inB<|Hd.toK K2 ?_;refine sr fun _ K12=>?_
 refine yv y_mv<|callE rfl fk111 (both_ct _ mm (by omega) (by omega)) sq ?_;intro bn;refine yv y_as<|fk [(0,_),(1,_),(8,_)] K12 ?_;refine Hd.seq fun _ K13=>?_
 refine Hd.wire .here 1 (by omega) (fun i3 hi3=>?_);refine Hd.region<|yv y_mv<|yv y_np<|yv (y_f 0 196 Tryz.underlying198 sz196)<|yv (y_idxA Tryz.underlying196 sz195 rfl rfl (by decide)) ?_;refine yv (y_f 0 3 Tryz.underlying195 sz3)<|Hd.store1 sz3 rfl rfl rfl pkk (by simp;done) ?_
 try simp only [hyS]
 refine Hd.nil ?_;rw [show (encW (halfW mm 2) i3).set (0 + 0 + 1 * 7 + 0) (.int .i64 2)=encW (connW mm) i3 from rfl];refine Hd.heap (WireP bn (connW mm)::_) (fun q s=>wire_close (x:=halfW mm 2) (f:=fun e=>{ e with what:=2 }) (k:=1) (k':=1) hi3 (by omega) (fun _=>rfl) (fun _=>rfl) q (by exact Ent.sep enn q s)) ?_;refine sk [(0,_),(1,_),(8,_)] K13 ?_;refine sr fun _ K14=>?_
 refine yv y_mv<|yv y_np<|yv (y_f 288 184 Tryz.underlying186 sz184)<|yv (y_load1 ag184 rfl (Rd.pt1 pkk (by exact woT_at (j:=0) (by omega) rfl))) ?_;refine yv y_mv<|yv (y_idxR Tryz.underlying184 sz189 rfl rfl (by omega) (by exact RdS.own pkk)) ?_;refine yv (y_loadR1 ag189 rfl (by exact RdS.own pkk) (by exact pws_at hb)) ?_;refine yv y_as<|fk [(0,_),(8,_),(9,_)] K14 ?_;refine Hd.cutK (ι:=Option Addr×Nat) [(0,_),(8,_),(9,_)] (fun _=>[]) (fun j=>pt b (encW (x.wts (x.wt++[w.ws.length])) { i2 with wa:=j.1,wc:=j.2 }) 198::own 3 1 j.1 (x.wt++[w.ws.length]).length j.2 (nats (x.wt++[w.ws.length]))::RgO (i2.p 0) x.cap (x.e 0).b::RgO (i2.p (1 - 0)) x.cap (x.e (1 - 0)).b::WireP bn (connW mm)::WoR wb n w i L) ?_ ?_ ⟨rfl,rfl,rfl,trivial⟩
 ·refine Hd.drawsH ([WireH b x i2,WoH wb w.at w i.rs.length i,own 3 1 i2.wa x.wt.length i2.wc (nats x.wt)]) (fun j=>!([15].contains j)) mixed ?_
  simp only [List.length,Nat.zero_add,Nat.reduceAdd];refine tH 0 rfl y_mv<|tH 1 rfl y_mv<|tH 2 rfl y_np<|tH 3 rfl (y_f 16 94 Tryz.underlying198 sz94)<|tH 4 rfl (y_l1 ag94 rfl)<|tH 6 rfl y_mv<|tH 7 rfl y_np<|tH 8 rfl (y_f 288 184 Tryz.underlying186 sz184)<|tH 9 rfl (y_load1 ag184 rfl (Rd.pt1 pkk (by exact woT_at (j:=0) (by omega) rfl))) ?_;refine tH 10 rfl (y_len Tryz.underlying184 rfl) ?_;refine Hd.eitherH 5 11 rfl rfl kq ?_ ?_
  ·refine callE rfl fk203 (clonen_ct _ i2.wa i2.wc x.wt ?hD (by omega)) sq ?_
   case hD=>exact RdS.own pkk
   rintro ⟨ca,cc⟩;dsimp only;refine qk<|qo 11 ?_;refine Hd.bslice (vs:=[(0,_)]) rfl (by exact bs136_112 ..) (fun b112=>?_);refine qk<|qo 12 ?_;refine Hd.append Tryz.underlying94 ty3 rfl rfl rfl pkk (by exact RdS.rd (Rd.pt pkk (fun j v e=>by simpa using e)) rfl) (by simp [Value.oneCell'];done) (by simp only [maxLen];omega) (by omega) (fun ad113 cap113=>?_);refine qk<|qo 13 ?_;refine yv y_np<|qk<|tH 14 rfl (y_f 16 94 Tryz.underlying198 sz94)<|qo 15 ?_;refine Hd.store1 sz94 rfl rfl rfl pkk (by simp;done) ?_
   try simp only [hyS]
   refine qn<|endH kq ?_;refine slots [(0,_),(8,_),(9,_)] sbq ?_;refine thenN ?_
   have el:(x.wt++[w.ws.length]).length=x.wt.length + 1:=by simp
   exact Hd.meet (ad113,cap113) sbq (Ent.sep (.eq pkk (pt_eq (by show _=encW (x.wts (x.wt++[w.ws.length])) { i2 with wa:=ad113,wc:=cap113 };show _=encE _ _++(encE _ _++[_,_,Value.slice ad113 (x.wt++[w.ws.length]).length cap113]);rw [el];rfl)) (.eq pkk (own_eq3 el.symm rfl (by simp [nats,hrl])) enn)))
  refine Hd.bslice (vs:=[(0,_)]) rfl (by exact bs136_112 ..) (fun b112=>?_);refine qk<|qo 5 ?_;refine callE rfl fk203 (clonen_ct _ i2.wa i2.wc x.wt ?hD (by omega)) sq ?_
  case hD=>exact RdS.own pkk
  rintro ⟨ca,cc⟩;dsimp only;refine qk<|qo 12 ?_;refine Hd.append Tryz.underlying94 ty3 rfl rfl rfl pkk (by exact RdS.rd (Rd.pt pkk (fun j v e=>by simpa using e)) rfl) (by simp [Value.oneCell'];done) (by simp only [maxLen];omega) (by omega) (fun ad113 cap113=>?_);refine qk<|qo 13 ?_;refine yv y_np<|qk<|tH 14 rfl (y_f 16 94 Tryz.underlying198 sz94)<|qo 15 ?_;refine Hd.store1 sz94 rfl rfl rfl pkk (by simp;done) ?_
  try simp only [hyS]
  refine qn<|endH kq ?_;refine slots [(0,_),(8,_),(9,_)] sbq ?_;refine thenN ?_
  have el:(x.wt++[w.ws.length]).length=x.wt.length + 1:=by simp
  exact Hd.meet (ad113,cap113) sbq (Ent.sep (.eq pkk (pt_eq (by show _=encW (x.wts (x.wt++[w.ws.length])) { i2 with wa:=ad113,wc:=cap113 };show _=encE _ _++(encE _ _++[_,_,Value.slice ad113 (x.wt++[w.ws.length]).length cap113]);rw [el];rfl)) (.eq pkk (own_eq3 el.symm rfl (by simp [nats,hrl])) enn)))
 rintro ⟨ad113,cap113⟩;dsimp only;refine Hd.seq fun _ K15=>?_
 refine Hd.tail 11 mixed kq ?_;simp only [List.take,List.drop];refine Ht.yv y_mv ?_;refine Ht.yv y_np ?_;refine Ht.yv (y_f 0 196 Tryz.underlying198 sz196) ?_;refine Ht.yv (y_idxA Tryz.underlying196 sz195 rfl rfl (by decide)) ?_;refine Ht.yv (y_f 5 29 Tryz.underlying195 sz29) ?_;refine Ht.yv (y_l1 ag29 rfl) ?_;refine Ht.yv (y_add rfl rfl) ?_;refine Ht.yv y_np ?_;refine Ht.yv (y_f 0 196 Tryz.underlying198 sz196) ?_;refine Ht.yv (y_idxA Tryz.underlying196 sz195 rfl rfl (by decide)) ?_;refine Ht.yv (y_f 5 29 Tryz.underlying195 sz29) ?_;refine Ht.nil ?_;refine Hd.store1 sz29 rfl rfl rfl pkk (by simp;done) ?_
 try simp only [hyS]
 refine Hd.nil<|Hd.heap (WireP b (waitW x w.ws.length)::_) (fun q s=>wire_wait (x:=x) (i:=i2) (m:=w.ws.length) hi q (by exact Ent.sep (.eq pkk (pt_eq (by rfl)) enn) q s)) ?_;refine sk [(0,_),(8,_)] K15 ?_;refine sr fun _ K16=>?_
 refine yv y_mv<|yv y_mv<|yv y_np<|yv (y_f 288 184 Tryz.underlying186 sz184)<|yv (y_load1 ag184 rfl (Rd.pt1 pkk (by exact woT_at (j:=0) (by omega) rfl))) ?_;refine yv y_mv<|Hd.bslice (vs:=[(0,_)]) rfl (by exact bs136_133 ..) (fun b133=>?_);refine Hd.append Tryz.underlying184 ty189 rfl rfl rfl pkk (by exact RdS.rd (Rd.pt pkk (fun j v e=>by simpa using e)) rfl) (by simp [Value.oneCell'];done) (by simp only [maxLen];omega) (by omega) (fun ad134 cap134=>?_);refine yv y_np<|yv (y_f 288 184 Tryz.underlying186 sz184)<|Hd.store1 sz184 rfl rfl rfl pkk (by rw [List.length_append,fdC_len];simp) ?_
 try simp only [hyS]
 refine Hd.nil ?_;rw [show (fdC w.at++woT w i.rs.length i).set (0 + 288) (.slice ad134 (i.rs.length + 1) cap134)=fdC w.at++woT w (i.rs.length + 1) { i with wa:=ad134,wc:=cap134 } by rw [List.set_append_right _ _ (by rw [fdC_len];omega),fdC_len];rfl];refine sk [(0,_)] K16 ?_;refine sr fun _ K17=>?_
 refine yv y_mv<|yv y_np<|yv (y_f 288 184 Tryz.underlying186 sz184)<|yv (y_load1 ag184 rfl (Rd.pt1 pkk (by exact woT_at (j:=0) (by omega) rfl))) ?_;refine yv (y_len Tryz.underlying184 rfl) ?_;refine yv (y_to (v':=.int .i64 (w.ws.length:Int)) (y_subn rfl rfl (by simp only [InK];omega)) (by (congr 1;omega))) ?_;refine yv y_as<|yv y_as<|fk [(6,_),(7,_)] K17 ?_;refine Hd.ret ?_;rw [hcr] at hok ⊢
 have hl:(i.rs++[(bn,connW mm)]).length=i.rs.length + 1:=by simp
 have hbb:(i.rs++[(bn,connW mm)])[n]?=some (b,x):=by rw [List.getElem?_append_left hnl];exact hb
 have hst:(i.rs++[(bn,connW mm)]).set n (b,waitW x w.ws.length)=i.rs.set n (b,waitW x w.ws.length)++[(bn,connW mm)]:=List.set_append_left _ _ hnl
 have hfs:(i.rs.set n (b,waitW x w.ws.length)++[(bn,connW mm)]).map Prod.fst=(i.rs++[(bn,connW mm)]).map Prod.fst:=by rw [←hst,set_fst hbb]
 have hws:(i.rs.set n (b,waitW x w.ws.length)++[(bn,connW mm)]).map Prod.snd=((w.addW (connW mm)).setW n (waitW x w.ws.length)).ws:=by
  rw [←hst,List.map_set,List.map_append,hrs];rfl
 refine Hd.ret2 rfl () rfl rfl rfl (sep_trans (B:=WireP b (waitW x w.ws.length)::Wires (i.rs.take n)::Wires (i.rs.drop (n + 1))::WireP bn (connW mm)::WoH wb w.at w (i.rs.length + 1) { i with wa:=ad134,wc:=cap134 }::own 189 1 ad134 (i.rs.length + 1) cap134 (pws i.rs++[ptr (some bn)])::SigP i.sb w.hd w.ct::L) (Ent.sep (.pick pkk (.pick pkk (.pick pkk (.pick pkk (.pick pkk (.eq pkk (own_eq3 rfl rfl (by rfl)) enn))))))) ?_);refine sep_trans (fun q s=>ws_in hnl s) ?_;refine sep_trans (B:=WireP bn (connW mm)::Wires (i.rs.set n (b,waitW x w.ws.length))::_) (Ent.sep (.pick pkk (.pick pkk .same))) ?_;refine sep_trans (fun q s=>ws_add s) ?_;refine sep_trans (Ent.sep ?_) (world_all (w:=w) (i:={ i with rs:=i.rs++[(bn,connW mm)],wa:=ad134,wc:=cap134 }) (rs':=i.rs.set n (b,waitW x w.ws.length)++[(bn,connW mm)]) hok.1 hfs hws hok.2.1 rfl);exact .pick pkk (.eq pkk (pt_eq (show fdC w.at++woT w (i.rs.length + 1) { i with wa:=ad134,wc:=cap134 }=fdC w.at++woT w (i.rs++[(bn,connW mm)]).length { i with rs:=i.rs++[(bn,connW mm)],wa:=ad134,wc:=cap134 } by rw [hl])) (.eq pkk (own_eq3 hl.symm rfl (pws_app ..)) enn))
theorem wconn_ct (L:List SP) (wb:Nat) (w:WA) (n m:Int) :
  Ct Tryz.prog 136 #[.pointer (some ⟨wb,0,none⟩),.int .i64 n,.int .i64 m] (WorldP wb w::L) (fun _:Unit=>.tuple #[.int .i64 (connR w n m).1.1,.int .i64 (connR w n m).1.2]) (fun _=>WorldP wb (connR w n m).2::L):=by
 by_cases h:n < 0∨(w.ws.length:Int)≤n
 ·rw [conn_off h]
  exact conn0_ct L wb w n m h
 ·obtain ⟨k,rfl⟩:∃ k:Nat,n=(k:Int):=⟨n.toNat,by omega⟩
  exact conn1_ct L wb w k _ (List.getElem?_eq_getElem (by omega)) m
end Wo
end Go.Proofs.YtmpemhbfgbochaaGreatDoor
namespace Go.Proofs.YtmpemhbfgbochaaGreatDoor
open Go.RX Fx
namespace Rf
open Wo
theorem mkX1_r (n j:Nat) (hj:j < 2):(encRW (mkX 1 n j j,jz)).set (0 + 0 + j * 8 + 2) (.bool true)=encRW (mkX 1 n (j + 1) j,jz):=by
 rcases (show j=0∨j=1 by omega) with rfl | rfl<;>rfl
theorem mkX1_w (n j:Nat) (hj:j < 2):(encRW (mkX 1 n (j + 1) j,jz)).set (0 + 0 + j * 8 + 3) (.bool true)=encRW (mkX 1 n (j + 1) (j + 1),jz):=by
 rcases (show j=0∨j=1 by omega) with rfl | rfl<;>rfl
theorem conn_b (n:Nat):((connW n).e 0).b=[]∧((connW n).e 1).b=[]∧(connW n).wt=[]:=⟨rfl,rfl,rfl⟩
theorem conn_set {w:WA} {n:Nat} {y z:WireA} (h:n < w.ws.length):(w.addW y).setW n z=(w.setW n z).addW y:=by
 show ({ w with ws:=(w.ws++[y]).set n z }:WA)={ w with ws:=w.ws.set n z++[y] }
 rw [List.set_append_left _ _ h]
theorem rConn0_ct (L:List SP) (b:Nat) (w:WA) (n m:Int) (hn:n < 0∨(w.ws.length:Int)≤n):Ct Tryz.prog 137 #[.pointer (some ⟨b,0,none⟩),.int .i64 n,.int .i64 m] (RwP b w::L) (fun _:Unit=>.tuple #[.int .i64 0,.int .i64 116]) (fun _:Unit=>RwP b w::L):=by
 refine Ct.o3 Tryz.func137 ?_;intro E
 show Hd E 149 _ _ _ _
 refine Hd.rw .here (fun i hi=>?_)
 have hrl:=rows_n hi
 refine sr fun _ K1=>?_
 refine yv y_as<|yv y_as<|fk [(0,_),(1,_),(2,_)] K1 ?_;refine Hd.seq fun _ K2=>?_
 refine sr fun _ K3=>?_
 refine yv y_mv<|yv (y_lss rfl rfl) ?_;refine yv y_mv<|Hd.part (gd:=13) rfl (fun hg1_13=>?_) (fun hg1_13=>?_)
 ·try simp only [hyZ] at hg1_13
  refine n1<|n1<|n1<|n1<|n1<|n1<|n1<|yv (y_pickT rfl rfl) ?_;refine yv y_mv<|Hd.part (gd:=22) rfl (fun hg1_22=>?_) (fun hg1_22=>?_)
  ·try simp only [hyZ] at hg1_22
   refine n1<|n1<|n1<|n1<|n1<|n1<|n1<|n1<|n1<|yv (y_pickT rfl rfl) ?_;refine yv y_mv<|Hd.part (gd:=33) rfl (fun hg1_33=>?_) (fun hg1_33=>?_)
   ·try simp only [hyZ] at hg1_33
    refine n1<|n1<|n1<|n1<|n1<|n1<|n1<|n1<|n1<|n1<|n1<|yv (y_pickT rfl rfl) ?_;refine fk [(0,_),(1,_),(2,_),(45,_)] K3 ?_;refine Hd.condT rfl ?_;refine sr fun _ K4=>?_
    refine yv y_as<|yv y_as<|fk [(6,_),(7,_)] K4 ?_;refine Hd.ret<|Hd.thenRet ?_;exact Hd.ret2 rfl () rfl rfl rfl (rw_fold hi)
   try simp only [hyZ] at hg1_33
   exfalso;simp at hg1_33;done
  try simp only [hyZ] at hg1_22
  exfalso;simp at hg1_22;done
 try simp only [hyZ] at hg1_13
 refine y2 y_mv<|y2 y_mv<|y2 y_np<|y2 (y_f 0 98 Tryz.underlying102 sz98)<|y2 (y_l1 ag98 rfl)<|y2 (y_len Tryz.underlying98 rfl) ?_;refine y2 (y_geq rfl rfl) ?_;refine yv (y_pickF rfl rfl) ?_;refine yv y_mv<|Hd.part (gd:=22) rfl (fun hg1_22=>?_) (fun hg1_22=>?_)
 ·try simp only [hyZ] at hg1_22
  refine n1<|n1<|n1<|n1<|n1<|n1<|n1<|n1<|n1<|yv (y_pickT rfl rfl) ?_;refine yv y_mv<|Hd.part (gd:=33) rfl (fun hg1_33=>?_) (fun hg1_33=>?_)
  ·try simp only [hyZ] at hg1_33
   refine n1<|n1<|n1<|n1<|n1<|n1<|n1<|n1<|n1<|n1<|n1<|yv (y_pickT rfl rfl) ?_;refine fk [(0,_),(1,_),(2,_),(45,_)] K3 ?_;refine Hd.condT rfl ?_;refine sr fun _ K5=>?_
   refine yv y_as<|yv y_as<|fk [(6,_),(7,_)] K5 ?_;refine Hd.ret<|Hd.thenRet ?_;exact Hd.ret2 rfl () rfl rfl rfl (rw_fold hi)
  try simp only [hyZ] at hg1_33
  exfalso;simp at hg1_33;done
 try simp only [hyZ] at hg1_22
 exfalso;omega
theorem rConn1_ct (L:List SP) (b:Nat) (w:WA) (hw:WOk w) (n:Nat) (x:WireA) (hx:w.ws[n]?=some x) (m:Int):Ct Tryz.prog 137 #[.pointer (some ⟨b,0,none⟩),.int .i64 (n:Int),.int .i64 m] (RwP b w::L) (fun _:Unit=>.tuple #[.int .i64 (connR w n m).1.1,.int .i64 (connR w n m).1.2]) (fun _:Unit=>RwP b (connR w n m).2::L):=by
 refine Ct.o3 Tryz.func137 ?_;intro E
 show Hd E 149 _ _ _ _
 refine Hd.rw .here (fun i hi=>?_)
 have hrl:=rows_n hi
 obtain ⟨j,hrow⟩:=row_at hi hx
 have hn:n < i.1.length:=(List.getElem?_eq_some_iff.1 hrow).1
 have hlen:=hw.len
 have hwt:=wt_le hw hx
 have hcr:=conn_yes (m:=m) hx
 refine sr fun _ K1=>?_
 refine yv y_as<|yv y_as<|fk [(0,_),(1,_),(2,_)] K1 ?_;refine Hd.seq fun _ K2=>?_
 refine sr fun _ K3=>?_
 refine yv y_mv<|yv (y_lss rfl rfl) ?_;refine yv y_mv<|Hd.part (gd:=13) rfl (fun hg1_13=>?_) (fun hg1_13=>?_)
 ·try simp only [hyZ] at hg1_13
  exfalso;omega
 try simp only [hyZ] at hg1_13
 refine y2 y_mv<|y2 y_mv<|y2 y_np<|y2 (y_f 0 98 Tryz.underlying102 sz98)<|y2 (y_l1 ag98 rfl)<|y2 (y_len Tryz.underlying98 rfl) ?_;refine y2 (y_geq rfl rfl) ?_;refine yv (y_pickF rfl rfl) ?_;refine yv y_mv<|Hd.part (gd:=22) rfl (fun hg1_22=>?_) (fun hg1_22=>?_)
 ·try simp only [hyZ] at hg1_22
  exfalso;omega
 try simp only [hyZ] at hg1_22
 refine y2 y_mv<|y2 y_np<|y2 (y_f 0 98 Tryz.underlying102 sz98)<|y2 (y_l1 ag98 rfl)<|y2 y_mv<|y2 (y_idxR Tryz.underlying98 sz204 rfl rfl (by omega) (by exact RdS.own pkk)) ?_;refine y2 (y_fR 18 3 Tryz.underlying204 sz3) ?_;refine y2 (y_rw ag3 rfl hrow 18 rfl) ?_;refine y2 (y_eql rfl rfl) ?_;refine yv (y_pickF rfl rfl) ?_;refine yv y_mv<|Hd.part (gd:=33) rfl (fun hg1_33=>?_) (fun hg1_33=>?_)
 ·try simp only [hyZ] at hg1_33
  refine n1<|n1<|n1<|n1<|n1<|n1<|n1<|n1<|n1<|n1<|n1<|yv (y_pickT rfl rfl) ?_;refine fk [(0,_),(1,_),(2,_),(45,_)] K3 ?_;refine Hd.condT rfl ?_;refine sr fun _ K4=>?_
  refine yv y_as<|yv y_as<|fk [(6,_),(7,_)] K4 ?_;refine Hd.ret<|Hd.thenRet ?_
  have h1:x.bl=0:=by simpa using hg1_33
  rw [hcr,if_pos (.inl h1)];exact Hd.ret2 rfl () rfl rfl rfl (rw_fold hi)
 try simp only [hyZ] at hg1_33
 refine y2 y_mv<|y2 y_np<|y2 (y_f 0 98 Tryz.underlying102 sz98)<|y2 (y_l1 ag98 rfl)<|y2 y_mv<|y2 (y_idxR Tryz.underlying98 sz204 rfl rfl (by omega) (by exact RdS.own pkk)) ?_;refine y2 (y_fR 0 202 Tryz.underlying204 sz202) ?_;refine y2 (y_idxAR Tryz.underlying202 sz201 rfl rfl (by decide)) ?_;refine y2 (y_fR 0 3 Tryz.underlying201 sz3) ?_;refine y2 (y_rc ag3 rfl hrow (k:=0) (by decide) 0 rfl (ho:=by show n * 20 + 0 + 0 * 8 + 0=n * 20 + 0 * 8 + 0;omega)) ?_;refine y2 (y_neq rfl rfl) ?_;refine yv (y_pickF rfl rfl) ?_;refine fk [(0,_),(1,_),(2,_),(45,_)] K3 ?_;refine qz ?_ ?_<;>intro hc0<;>try simp only [hyZ] at hc0
 ·refine sr fun _ K5=>?_
  refine yv y_as<|yv y_as<|fk [(6,_),(7,_)] K5 ?_;refine Hd.ret<|Hd.thenRet ?_
  have h1:(x.e 0).what≠1:=by simpa using hc0
  rw [hcr,if_pos (.inr h1)];exact Hd.ret2 rfl () rfl rfl rfl (rw_fold hi)
 have hbl:¬ (x.bl=0):=by simpa using hg1_33
 have hwh:(x.e 0).what=1:=by simpa using hc0
 rw [if_neg (by rintro (h | h);exact hbl h;exact h hwh)] at hcr;refine qv K2<|Hd.seq fun _ K6=>?_
 refine sr fun _ K7=>?_
 refine yv y_mv<|yv (y_lss rfl rfl) ?_;refine yv y_mv ?_;apply Hd.org 3 48 51 [(0,_),(1,_),(2,_)] rfl sbq
 ·intro hg3_48
  try simp only [hyZ] at hg3_48
  simp only [List.take];refine n1<|n1<|yv (y_pickT rfl rfl) ?_;exact Hd.mn
 ·intro hg3_48
  try simp only [hyZ] at hg3_48
  simp only [List.take];refine y2 y_mv<|y2 (y_gtr rfl rfl) ?_;refine yv (y_pickF rfl rfl) ?_;exact Hd.mn
 simp only [List.drop];refine fk [(0,_),(1,_),(2,_),(51,_)] K7 ?_;refine qz ?_ ?_<;>intro hc1<;>try simp only [hyZ] at hc1
 ·refine sr fun _ K8=>?_
  refine yv y_as<|yv y_as<|fk [(6,_),(7,_)] K8 ?_;refine Hd.ret<|Hd.thenRet ?_;rw [hcr,if_pos (by omega)];exact Hd.ret2 rfl () rfl rfl rfl (rw_fold hi)
 rw [if_neg (by omega)] at hcr;refine qv K6<|Hd.seq fun _ K9=>?_
 refine Hd.seq fun _ K10=>?_
 refine Hd.quiet mixed kq ?_;refine Hq.yv y_mv ?_;refine Hq.yv y_np ?_;refine Hq.yv (y_f 0 98 Tryz.underlying102 sz98) ?_;refine Hq.yv (y_l1 ag98 rfl) ?_;refine Hq.yv y_mv ?_;refine Hq.yv (y_idxR Tryz.underlying98 sz204 rfl rfl (by omega) (by exact RdS.own pkk)) ?_;refine Hq.yv (y_fR 19 94 Tryz.underlying204 sz94) ?_;refine Hq.yv (y_rw ag94 rfl hrow 19 rfl) ?_;refine Hq.yv (y_len Tryz.underlying94 rfl) ?_;refine Hq.yv y_mv ?_;refine Hq.yv y_np ?_;refine Hq.yv (y_f 0 98 Tryz.underlying102 sz98) ?_;refine Hq.yv (y_l1 ag98 rfl) ?_;refine Hq.yv y_mv ?_;refine Hq.yv (y_idxR Tryz.underlying98 sz204 rfl rfl (by omega) (by exact RdS.own pkk)) ?_;refine Hq.yv (y_fR 18 3 Tryz.underlying204 sz3) ?_;refine Hq.yv (y_rw ag3 rfl hrow 18 rfl) ?_;refine Hq.yv (y_geq rfl rfl) ?_;refine Hq.nil ?_;refine sk [(0,_),(1,_),(2,_),(69,_)] K10 ?_;refine qz ?_ ?_<;>intro hc2<;>try simp only [hyZ] at hc2
 ·refine sr fun _ K11=>?_
  refine yv y_as<|yv y_as<|fk [(6,_),(7,_)] K11 ?_;refine Hd.ret<|Hd.thenRet ?_;rw [hcr,if_pos (by omega)];exact Hd.ret2 rfl () rfl rfl rfl (rw_fold hi)
 rw [if_neg (by omega)] at hcr;refine qv K9<|Hd.seq fun _ K12=>?_
 refine sr fun _ K13=>?_
 refine yv y_mv<|yv y_np<|yv (y_f 0 98 Tryz.underlying102 sz98)<|yv (y_l1 ag98 rfl)<|yv (y_len Tryz.underlying98 rfl) ?_;refine yv (y_geq rfl rfl) ?_;refine fk [(0,_),(1,_),(2,_),(75,_)] K13 ?_;refine qz ?_ ?_<;>intro hc3<;>try simp only [hyZ] at hc3
 ·refine sr fun _ K14=>?_
  refine yv y_as<|yv y_as<|fk [(6,_),(7,_)] K14 ?_;refine Hd.ret<|Hd.thenRet ?_;rw [hcr,if_pos (by omega)];exact Hd.ret2 rfl () rfl rfl rfl (rw_fold hi)
 rw [if_neg (by omega)] at hcr
 obtain ⟨mm,rfl⟩:∃ k:Nat,m=(k:Int):=⟨m.toNat,by omega⟩
 rw [Int.toNat_natCast] at hcr;refine qv K12<|sr fun _ K15=>?_
 refine yv y_mv<|yv (y_build (vs:=[(1,_)]) rfl (bd_rx mm)) ?_;refine Hd.alloc zr204 (fun b8=>?_);refine Hd.storeA (us:=encRW (mkX 0 mm 0 0,jz)) sz204 rfl rfl rfl (encRW_one _) pkk (by exact rfl) ?_;refine fk [(0,_),(1,_),(8,_)] K15 ?_;refine Hd.seq fun _ K16=>?_
 refine sr fun _ K17=>?_
 refine Hd.heap (pt b8 (encRW (mkX 1 mm 0 0,jz)) 204::RwL b w i L) (Ent.sep (.eq pkk (pt_eq (by rfl)) enn)) ?_;refine yv y_as<|fk [(0,_),(1,_),(8,_),(9,_)] K17 ?_;refine Hd.block<|Hd.loopK (ι:=Nat) [(0,_),(1,_),(8,_)] (fun q=>[(9,.int .i64 (q:Int))]) (fun q=>pu (q≤2)::pt b8 (encRW (mkX 1 mm q q,jz)) 204::RwL b w i L) (fun q=>2 - q) 0 sbq sbq (Ent.sep (.pure (by omega) enn)) ?_;intro q
 try dsimp only
 refine Hd.pure (fun hp0=>?_)
 try dsimp only at hp0
 refine Hd.seq fun _ K18=>?_
 refine sr fun _ K19=>?_
 refine yv y_mv<|yv (y_lss rfl rfl) ?_;refine fk [(0,_),(1,_),(8,_),(9,_),(79,_)] K19 ?_;refine qz ?_ ?_<;>intro hc4<;>try simp only [hyZ] at hc4
 ·have hq:q < 2:=by omega
  refine qv K18<|Hd.seq fun _ K20=>?_
  refine Hd.block<|sr fun _ K21=>?_
  refine yv y_mv<|yv (y_f 0 202 Tryz.underlying204 sz202)<|yv (y_idxA Tryz.underlying202 sz201 rfl rfl (by omega)) ?_;refine yv (y_f 2 4 Tryz.underlying201 sz4)<|Hd.store1 sz4 rfl rfl rfl pkk (by simp;omega) ?_
  try simp only [hyS]
  refine Hd.nil ?_;rw [mkX1_r mm q hq];refine sk [(0,_),(1,_),(8,_),(9,_)] K21 ?_;refine Hd.region<|yv y_mv<|yv (y_f 0 202 Tryz.underlying204 sz202)<|yv (y_idxA Tryz.underlying202 sz201 rfl rfl (by omega)) ?_;refine yv (y_f 3 4 Tryz.underlying201 sz4)<|Hd.store1 sz4 rfl rfl rfl pkk (by simp;omega) ?_
  try simp only [hyS]
  refine Hd.nil ?_;rw [mkX1_w mm q hq];refine slots [(0,_),(1,_),(8,_),(9,_)] sbq ?_;refine Hd.inB<|Hd.toK K20 ?_;refine Hd.region<|yv y_mv<|yv (y_addn rfl rfl (by simp only [InK];omega)) ?_;refine yv y_as<|Hd.nil<|slots [(0,_),(1,_),(8,_),(9,_)] sbq ?_;refine thenN ?_;exact Hd.again (q + 1) (by omega) sbq (Ent.sep (.pure (by omega) enn))
 obtain rfl:q=2:=by omega
 refine Hd.exit<|Hd.thenExit<|Hd.thenExit<|Hd.inBexit<|Hd.toK K16 ?_;refine sr fun _ K22=>?_
 refine yv (y_f 0 202 Tryz.underlying204 sz202)<|yv (y_idxA Tryz.underlying202 sz201 rfl rfl (by decide)) ?_;refine yv (y_f 0 3 Tryz.underlying201 sz3)<|Hd.store1 sz3 rfl rfl rfl pkk (by simp;done) ?_
 try simp only [hyS]
 refine Hd.nil ?_;rw [show (encRW (mkX 1 mm 2 2,jz)).set (0 + 0 + 1 * 8 + 0) (.int .i64 2)=encRW (connW mm,jz) from rfl];refine Hd.bagOut pkk hrow ?_;refine Hd.sd .here 0 (by decide) ?_;refine Hd.heap (own 3 1 none 0 0 []::_) (Ent.sep (.ownNil .same)) ?_;refine sk [(0,_),(1,_),(8,_)] K22 ?_;refine sr fun _ K23=>?_
 refine yv y_as<|fk [(0,_),(1,_),(8,_),(10,_)] K23 ?_;refine sr fun _ K24=>?_
 refine yv y_mv<|yv y_mv<|yv y_np<|yv (y_f 0 98 Tryz.underlying102 sz98)<|yv (y_l1 ag98 rfl)<|yv y_mv<|yv (y_idxR Tryz.underlying98 sz204 rfl rfl (by omega) (by exact RdS.own pkk)) ?_;refine yv (y_fR 19 94 Tryz.underlying204 sz94) ?_;refine yv (y_to (v':=.slice j.wa x.wt.length j.wc) (y_rw ag94 rfl hrow 19 rfl) (by rfl)) ?_;refine Hd.append Tryz.underlying94 ty3 rfl rfl rfl (us:=[]) pkk (RdS.own (ad:=j.wa) (us:=nats x.wt) pkk) nat_one (by simp only [maxLen];omega) (by omega) (fun ad102 cap102=>?_);refine yv y_as<|Hd.nil ?_;rw [Nat.zero_add,List.nil_append];refine sk [(0,_),(1,_),(8,_),(10,_)] K24 ?_;refine Hd.seq fun _ K25=>?_
 refine Hd.drawsH ([RwH b w i.1.length i.2.1 i.2.2,OwR i]) (fun j=>!([15].contains j)) mixed ?_;simp only [List.length,Nat.zero_add,Nat.reduceAdd];refine tH 0 rfl y_mv<|tH 1 rfl y_np<|tH 2 rfl (y_f 0 98 Tryz.underlying102 sz98)<|tH 3 rfl (y_l1 ag98 rfl)<|tH 4 rfl y_mv<|tH 5 rfl y_mv<|tH 6 rfl y_mv<|tH 7 rfl y_np<|tH 8 rfl (y_f 0 98 Tryz.underlying102 sz98)<|tH 9 rfl (y_l1 ag98 rfl)<|tH 10 rfl (y_len Tryz.underlying98 rfl) ?_;refine qo 11 ?_;refine Hd.bslice (vs:=[(0,_)]) rfl (by exact bs137_114 ..) (fun b114=>?_);refine qk<|qo 12 ?_;refine Hd.append Tryz.underlying94 ty3 rfl rfl rfl pkk (by exact RdS.rd (Rd.pt pkk (fun j v e=>by simpa using e)) rfl) (by simp [Value.oneCell'];done) (by simp only [maxLen];omega) (by omega) (fun ad115 cap115=>?_);refine qk<|qo 13 ?_
 refine yv (y_idxR Tryz.underlying98 sz204 rfl rfl (by omega) (by exact RdS.own pkk)) ?_;refine qk<|tH 14 rfl (y_fR 19 94 Tryz.underlying204 sz94) ?_;refine qo 15 ?_;refine Hd.storeO1 sz94 rfl rfl rfl pkk (by rw [rows_len encRW_len];omega) ?_
 try simp only [hyS]
 refine qn<|endH kq ?_;rw [rset_wts (l:=x.wt++[w.ws.length]) hrow (by omega) (by simp)]
 obtain ⟨X1,hX1⟩:∃ X1,X1=x.wts (x.wt++[w.ws.length]):=⟨_,rfl⟩
 have hx3:(w.setW n X1).ws[n]?=some X1:=setW_self hx
 have hup:(X1.up 0 fun e=>{ e with inn:=IntKind.u64.wrap ((X1.e 0).inn + 1) })=waitW x w.ws.length:=by
  rw [hX1];exact (up_eq (x:=x.wts (x.wt++[w.ws.length])) (k:=0) (g:=fun e=>{ e with inn:=IntKind.u64.wrap (e.inn + 1) }) rfl).trans rfl
 refine Hd.heap (RwP b (w.setW n (x.wts (x.wt++[w.ws.length])))::pt b8 (encRW (connW mm,jz)) 204::L) (fun q s=>rw_put hi hn q (Ent.sep enn q (sd_wts (X:=x) (j:=j) (l:=x.wt++[w.ws.length]) (a:=ad115) (c:=cap115) q (Ent.sep (.eq pkk (own_eq3 (by simp) rfl (by simp [nats,hrl])) enn) q s)))) ?_;rw [←hX1];refine Hd.rw .here (fun i3 hi3=>?_)
 have hrl3:=rows_n hi3
 obtain ⟨j3,hrow3⟩:=row_at hi3 hx3
 have hn3:n < i3.1.length:=(List.getElem?_eq_some_iff.1 hrow3).1
 refine sk [(0,_),(1,_),(8,_)] K25 ?_;refine Hd.seq fun _ K26=>?_
 refine Hd.drawsH ([RwH b (w.setW n X1) i3.1.length i3.2.1 i3.2.2,OwR i3]) (fun j=>!([15].contains j)) mixed ?_;simp only [List.length,Nat.zero_add,Nat.reduceAdd];refine tH 0 rfl y_mv<|tH 1 rfl y_np<|tH 2 rfl (y_f 0 98 Tryz.underlying102 sz98)<|tH 3 rfl (y_l1 ag98 rfl)<|tH 4 rfl y_mv<|tH 5 rfl (y_idxR Tryz.underlying98 sz204 rfl rfl (by omega) (by exact RdS.own pkk)) ?_;refine tH 6 rfl (y_fR 0 202 Tryz.underlying204 sz202) ?_;refine tH 7 rfl (y_idxAR Tryz.underlying202 sz201 rfl rfl (by decide)) ?_;refine tH 8 rfl (y_fR 6 29 Tryz.underlying201 sz29) ?_;refine tH 9 rfl (y_rc ag29 rfl hrow3 (k:=0) (by decide) 6 rfl (ho:=by show n * 20 + 0 + 0 * 8 + 6=n * 20 + 0 * 8 + 6;omega)) ?_;refine tH 10 rfl (y_add rfl rfl) ?_;refine qo 11 ?_;refine yv (y_idxR Tryz.underlying98 sz204 rfl rfl (by omega) (by exact RdS.own pkk)) ?_;refine qk ?_
 refine qo 12 ?_;refine yv (y_fR 0 202 Tryz.underlying204 sz202) ?_;refine qk<|qo 13 ?_;refine yv (y_idxAR Tryz.underlying202 sz201 rfl rfl (by decide)) ?_;refine qk<|tH 14 rfl (y_fR 6 29 Tryz.underlying201 sz29) ?_;refine qo 15 ?_;refine Hd.storeO1 sz29 rfl rfl rfl pkk (show n * 20 + 0 + 0 * 8 + 6 < (i3.1.flatMap encRW).length by rw [rows_len encRW_len];omega) ?_;refine qn<|endH kq ?_;rw [rset_inn (k:=0) (o:=n * 20 + 0 + 0 * 8 + 6) hrow3 (by decide) (by omega),hup]
 refine Hd.heap (RwP b (w.setW n (waitW x w.ws.length))::pt b8 (encRW (connW mm,jz)) 204::L) (fun q s=>by
  have h:=rw_head (x':=waitW x w.ws.length) (L:=pt b8 (encRW (connW mm,jz)) 204::L) hi3 hrow3 (fun k hk=>by rw [←hup];exact up_b X1 0 (f:=fun e=>{ e with inn:=IntKind.u64.wrap ((X1.e 0).inn + 1) }) (fun _=>rfl) k) (by rw [←hup];rfl) q (Ent.sep enn q s)
  rwa [setW_setW] at h) ?_
 refine Hd.rw .here (fun i4 hi4=>?_)
 have hrl4:=rows_n hi4
 rw [setW_len] at hrl4;refine sk [(0,_),(8,_)] K26 ?_;refine Hd.seq fun _ K27=>?_
 refine Hd.drawsH ([RwH b (w.setW n (waitW x w.ws.length)) i4.1.length i4.2.1 i4.2.2,pt b8 (encRW (connW mm,jz)) 204]) (fun j=>!([10].contains j)) mixed ?_;simp only [List.length,Nat.zero_add,Nat.reduceAdd];refine tH 0 rfl y_mv<|tH 1 rfl y_mv<|tH 2 rfl y_np<|tH 3 rfl (y_f 0 98 Tryz.underlying102 sz98)<|tH 4 rfl (y_l1 ag98 rfl)<|tH 5 rfl (y_loadn ag204 rfl (Rd.pt pkk (by exact fun j v e=>by rw [Nat.zero_add];exact e)) (by exact sz204)) ?_;refine qo 6 ?_;refine Hd.bslice (vs:=[(0,_)]) rfl (by exact bs137_139 ..) (fun b139=>?_);refine qk<|qo 7 ?_;refine Hd.append Tryz.underlying98 ty204 rfl rfl rfl pkk (by exact RdS.rd (Rd.pt pkk (fun j v e=>by simpa using e)) rfl) (by simp [Value.oneCell'];done) (by simp only [maxLen];omega) (by omega) (fun ad140 cap140=>?_);refine qk<|qo 8 ?_;refine yv y_np<|qk ?_
 refine tH 9 rfl (y_f 0 98 Tryz.underlying102 sz98)<|qo 10 ?_;refine Hd.store1 sz98 rfl rfl rfl pkk (by simp;done) ?_
 try simp only [hyS]
 refine qn<|endH kq ?_;refine Hd.heap (RwP b ((w.setW n (waitW x w.ws.length)).addW (connW mm))::L) (fun q s=>rw_add (i:=i4) hi4 (conn_b mm) q (by exact Ent.sep (.pick pkk (.eq pkk (own_eq3 rfl rfl (by rfl)) enn)) q s)) ?_;rw [←conn_set (w:=w) (n:=n) (by omega)];refine Hd.rw .here (fun i5 hi5=>?_)
 have hrl5:=rows_n hi5
 rw [setW_len,show (w.addW (connW mm)).ws.length=w.ws.length + 1 from by show (w.ws++[_]).length=_;rw [List.length_append];rfl] at hrl5;refine sk [(0,_)] K27 ?_;refine sr fun _ K28=>?_
 refine yv y_mv<|yv y_np<|yv (y_f 0 98 Tryz.underlying102 sz98)<|yv (y_l1 ag98 rfl)<|yv (y_len Tryz.underlying98 rfl) ?_;refine yv (y_to (v':=.int .i64 ((w.ws.length:Nat):Int)) (y_subn rfl rfl (by simp only [InK];omega)) (by (congr 1;omega))) ?_;refine yv y_as<|yv y_as<|fk [(6,_),(7,_)] K28 ?_;refine Hd.ret ?_;rw [hcr];exact Hd.ret2 rfl () rfl rfl rfl (rw_fold hi5)
theorem rConnect_ct (L:List SP) (b:Nat) (w:WA) (hw:WOk w) (n m:Int):Ct Tryz.prog 137 #[.pointer (some ⟨b,0,none⟩),.int .i64 n,.int .i64 m] (RwP b w::L) (fun _:Unit=>.tuple #[.int .i64 (connR w n m).1.1,.int .i64 (connR w n m).1.2]) (fun _=>RwP b (connR w n m).2::L):=by
 by_cases h:n < 0∨(w.ws.length:Int)≤n
 ·have e:connR w n m=((0,116),w):=by
   unfold connR
   by_cases h0:n < 0
   ·rw [if_pos h0]
   ·rw [if_neg h0,List.getElem?_eq_none (by omega)]
  rw [e];exact rConn0_ct L b w n m h
 ·obtain ⟨q,rfl⟩:∃ q:Nat,n=(q:Int):=⟨n.toNat,by omega⟩
  exact rConn1_ct L b w hw q _ (List.getElem?_eq_getElem (by omega)) m
end Rf
end Go.Proofs.YtmpemhbfgbochaaGreatDoor
namespace Go.Proofs.YtmpemhbfgbochaaGreatDoor
open Go.RX Fx
namespace Bu
open Wo
theorem wrap_u64 (x:Int):IntKind.u64.wrap x=x % 18446744073709551616:=by simp [IntKind.wrap,IntKind.bits,IntKind.signed]
abbrev encRb (fd:Int) (a0:Option Addr) (c0:Nat) (s:SdA) (a1:Option Addr) (c1:Nat) (t:SdA):List Value:=[.int .i64 fd,.slice a0 s.c.length c0,.bool s.on,.bool s.ended,.int .i64 s.low,.int .i64 s.high,.int .u64 s.after,.int .u64 s.at_,.slice a1 t.c.length c1,.bool t.on,.bool t.ended,.int .i64 t.low,.int .i64 t.high,.int .u64 t.after,.int .u64 t.at_]
abbrev RbH (b:Nat) (fd:Int) (a0:Option Addr) (c0:Nat) (s:SdA) (a1:Option Addr) (c1:Nat) (t:SdA):SP:=pt b (encRb fd a0 c0 s a1 c1 t) 71
abbrev OwB (a:Option Addr) (c:Nat) (l:List UInt8):SP:=own 5 1 a l.length c (bsl l)
structure RbI where
 a0:Option Addr
 c0:Nat
 a1:Option Addr
 c1:Nat
abbrev RbL (b:Nat) (x:BfA) (i:RbI) (L:List SP):List SP:=RbH b x.fd i.a0 i.c0 (x.s 0) i.a1 i.c1 (x.s 1)::OwB i.a0 i.c0 (x.s 0).c::OwB i.a1 i.c1 (x.s 1).c::L
def RbP (b:Nat) (x:BfA):SP:=RX.ex fun i:RbI=>RbL b x i []
theorem Hd.rb {E:World} {n:Nat} {ds:List Deferred} {st:List (Nat×Value)} {L L':List SP} {K:Act→World→Prop} {b:Nat} {x:BfA} (p:Pick L (RbP b x) L') (h:∀ i:RbI,Hd E n ds st (RbL b x i L') K):Hd E n ds st L K :=
 Hd.exs (f:=fun i:RbI=>RbL b x i []) p h
theorem rb_put {b:Nat} {fd:Int} {a0 a1:Option Addr} {c0 c1:Nat} {s t:SdA} {x':BfA} {L:List SP} (h0:x'.s 0=s) (h1:x'.s 1=t) (hf:x'.fd=fd):∀ k,sep (RbH b fd a0 c0 s a1 c1 t::OwB a0 c0 s.c::OwB a1 c1 t.c::L) k→sep (RbP b x'::L) k:=fun k h=>by
 subst h0;subst h1;subst hf;exact Ent.sep (.ex (⟨a0,c0,a1,c1⟩:RbI) (show Ent _ ([RbH b x'.fd a0 c0 (x'.s 0) a1 c1 (x'.s 1),OwB a0 c0 (x'.s 0).c,OwB a1 c1 (x'.s 1).c]++L) from enn)) k h
theorem rb_fold {b:Nat} {x:BfA} {i:RbI} {L:List SP}:∀ k,sep (RbL b x i L) k→sep (RbP b x::L) k:=rb_put rfl rfl rfl
theorem rdl_ct (L:List SP) (now after:Int) (hn:InK .u64 now) (ha:InK .u64 after):Ct Tryz.prog 154 #[.int .u64 now,.int .u64 after] (L) (fun _:Unit=>.int .u64 (dl now after)) (fun _:Unit=>L):=by
 refine Ct.o2 Tryz.func154 ?_;intro E
 show Hd E 15 _ _ _ _
 simp only [InK] at hn ha;refine sr fun _ K1=>?_
 refine yv y_as<|fk [(0,_),(1,_)] K1 ?_;refine Hd.seq fun _ K2=>?_
 refine sr fun _ K3=>?_
 refine yv y_mv<|yv (y_eql rfl rfl) ?_;refine fk [(0,_),(1,_),(7,_)] K3 ?_;refine qz ?_ ?_<;>intro hc0<;>try simp only [hyZ] at hc0
 ·refine sr fun _ K4=>?_
  refine yv y_as<|fk [(4,_)] K4 ?_;refine Hd.ret<|Hd.thenRet ?_;rw [show dl now after=18446744073709551615 by unfold dl;split<;>omega];exact Hd.ret1 rfl () rfl sq
 refine qv K2<|sr fun _ K5=>?_
 refine yv y_mv<|yv y_mv<|yv (y_add rfl rfl) ?_;refine yv y_as<|fk [(0,_),(5,_)] K5 ?_;refine Hd.seq fun _ K6=>?_
 refine sr fun _ K7=>?_
 refine yv y_mv<|yv y_mv<|yv (y_lss rfl rfl) ?_;refine fk [(5,_),(13,_)] K7 ?_;refine qz ?_ ?_<;>intro hc1<;>try simp only [hyZ] at hc1
 ·refine sr fun _ K8=>?_
  refine yv y_as<|fk [(4,_)] K8 ?_;refine Hd.ret<|Hd.thenRet ?_;rw [wrap_u64] at hc1;rw [show dl now after=18446744073709551615 by unfold dl;split<;>omega];exact Hd.ret1 rfl () rfl sq
 refine qv K6<|sr fun _ K9=>?_
 refine yv y_mv<|yv y_as<|fk [(4,_)] K9 ?_;refine Hd.ret ?_;rw [wrap_u64] at hc1;rw [show dl now after=IntKind.u64.wrap (now + after) by rw [wrap_u64];unfold dl;split<;>omega];exact Hd.ret1 rfl () rfl sq
theorem rsetIn_ct (L:List SP) (b:Nat) (fd:Int) (a0:Option Addr) (c0:Nat) (s:SdA) (a1:Option Addr) (c1:Nat) (t:SdA) (now:Int) (hn:InK .u64 now) (ha:InK .u64 s.after):Ct Tryz.prog 69 #[.pointer (some ⟨b,0,none⟩),.int .u64 now] (RbH b fd a0 c0 s a1 c1 t::L) (fun _:Unit=>.tuple #[]) (fun _:Unit=>RbH b fd a0 c0 (setA 0 now s) a1 c1 t::L):=by
 refine Ct.o2 Tryz.func69 ?_;intro E
 show Hd E 32 _ _ _ _
 refine sr fun _ K1=>?_
 refine yv y_mv<|yv y_np<|yv (y_f 1 69 Tryz.underlying71 sz69)<|yv (y_f 6 29 Tryz.underlying69 sz29)<|Hd.store1 sz29 rfl rfl rfl pkk (by simp;done) ?_
 try simp only [hyS]
 refine fk [(0,_),(1,_)] K1 ?_;refine sr fun _ K2=>?_
 refine yv y_mv<|yv y_np<|yv (y_f 1 69 Tryz.underlying71 sz69)<|yv (y_f 1 4 Tryz.underlying69 sz4)<|yv (y_l1 ag4 rfl)<|yv y_mv ?_;apply Hd.andg 7 13 20 [(0,_),(1,_)] rfl sbq
 ·intro hg1_13
  try simp only [hyZ] at hg1_13
  simp only [List.take];refine y2 y_mv<|y2 y_np<|y2 (y_f 1 69 Tryz.underlying71 sz69)<|y2 (y_f 5 29 Tryz.underlying69 sz29)<|y2 (y_l1 ag29 rfl)<|y2 (y_gtr rfl rfl) ?_;refine yv (y_pickT rfl rfl) ?_;exact Hd.mn
 ·intro hg1_13
  try simp only [hyZ] at hg1_13
  simp only [List.take];refine n1<|n1<|n1<|n1<|n1<|n1<|yv (y_pickF rfl rfl) ?_;exact Hd.mn
 simp only [List.drop];refine fk [(0,_),(1,_),(20,_)] K2 ?_;refine qz ?_ ?_<;>intro hc0<;>try simp only [hyZ] at hc0
 ·refine Hd.region ?_
  refine yv y_mv<|yv y_mv<|yv y_mv<|yv y_np<|yv (y_f 1 69 Tryz.underlying71 sz69)<|yv (y_f 5 29 Tryz.underlying69 sz29)<|yv (y_l1 ag29 rfl)<|callE rfl fk154 (rdl_ct _ now s.after hn ha) sq ?_;intro _;refine yv y_np<|yv (y_f 1 69 Tryz.underlying71 sz69)<|yv (y_f 6 29 Tryz.underlying69 sz29)<|Hd.store1 sz29 rfl rfl rfl pkk (by simp;done) ?_
  try simp only [hyS]
  refine Hd.nil<|slots [] sbq ?_;rw [set0_yes hc0.1 hc0.2];exact Hd.end0 rfl () rfl (Ent.sep (.eq pkk (pt_eq (by rfl)) enn))
 refine Hd.skip ?_;rw [set0_no ha hc0];exact Hd.end0 rfl () rfl (Ent.sep (.eq pkk (pt_eq (by rfl)) enn))
theorem rsetOut_ct (L:List SP) (b:Nat) (fd:Int) (a0:Option Addr) (c0:Nat) (s:SdA) (a1:Option Addr) (c1:Nat) (t:SdA) (now:Int) (hn:InK .u64 now) (ha:InK .u64 t.after):Ct Tryz.prog 70 #[.pointer (some ⟨b,0,none⟩),.int .u64 now] (RbH b fd a0 c0 s a1 c1 t::L) (fun _:Unit=>.tuple #[]) (fun _:Unit=>RbH b fd a0 c0 s a1 c1 (setA 1 now t)::L):=by
 refine Ct.o2 Tryz.func70 ?_;intro E
 show Hd E 41 _ _ _ _
 refine sr fun _ K1=>?_
 refine yv y_mv<|yv y_np<|yv (y_f 8 69 Tryz.underlying71 sz69)<|yv (y_f 6 29 Tryz.underlying69 sz29)<|Hd.store1 sz29 rfl rfl rfl pkk (by simp;done) ?_
 try simp only [hyS]
 refine fk [(0,_),(1,_)] K1 ?_;refine sr fun _ K2=>?_
 refine yv y_mv<|yv y_np<|yv (y_f 8 69 Tryz.underlying71 sz69)<|yv (y_f 1 4 Tryz.underlying69 sz4)<|yv (y_l1 ag4 rfl)<|yv y_mv ?_;apply Hd.andg 7 13 20 [(0,_),(1,_)] rfl sbq
 ·intro hg1_13
  try simp only [hyZ] at hg1_13
  simp only [List.take];refine y2 y_mv<|y2 y_np<|y2 (y_f 8 69 Tryz.underlying71 sz69)<|y2 (y_f 5 29 Tryz.underlying69 sz29)<|y2 (y_l1 ag29 rfl)<|y2 (y_gtr rfl rfl) ?_;refine yv (y_pickT rfl rfl) ?_;exact Hd.mn
 ·intro hg1_13
  try simp only [hyZ] at hg1_13
  simp only [List.take];refine n1<|n1<|n1<|n1<|n1<|n1<|yv (y_pickF rfl rfl) ?_;exact Hd.mn
 simp only [List.drop];refine yv y_mv ?_;apply Hd.andg 8 21 29 [(0,_),(1,_)] rfl sbq
 ·intro hg1_21
  try simp only [hyZ] at hg1_21
  simp only [List.take];refine y2 y_mv<|y2 y_np<|y2 (y_f 8 69 Tryz.underlying71 sz69)<|y2 (y_f 0 30 Tryz.underlying69 sz30)<|y2 (y_l1 ag30 rfl)<|y2 (y_len Tryz.underlying30 rfl) ?_;refine y2 (y_gtr rfl rfl) ?_;refine yv (y_pickT rfl rfl) ?_;exact Hd.mn
 ·intro hg1_21
  try simp only [hyZ] at hg1_21
  simp only [List.take];refine n1<|n1<|n1<|n1<|n1<|n1<|n1<|yv (y_pickF rfl rfl) ?_;exact Hd.mn
 simp only [List.drop];refine fk [(0,_),(1,_),(29,_)] K2 ?_;refine qz ?_ ?_<;>intro hc0<;>try simp only [hyZ] at hc0
 ·refine Hd.region ?_
  refine yv y_mv<|yv y_mv<|yv y_mv<|yv y_np<|yv (y_f 8 69 Tryz.underlying71 sz69)<|yv (y_f 5 29 Tryz.underlying69 sz29)<|yv (y_l1 ag29 rfl)<|callE rfl fk154 (rdl_ct _ now t.after hn ha) sq ?_;intro _;refine yv y_np<|yv (y_f 8 69 Tryz.underlying71 sz69)<|yv (y_f 6 29 Tryz.underlying69 sz29)<|Hd.store1 sz29 rfl rfl rfl pkk (by simp;done) ?_
  try simp only [hyS]
  refine Hd.nil<|slots [] sbq ?_;rw [set1_yes hc0.1.1 hc0.1.2 hc0.2];exact Hd.end0 rfl () rfl (Ent.sep (.eq pkk (pt_eq (by rfl)) enn))
 refine Hd.skip ?_;rw [set1_no ha hc0];exact Hd.end0 rfl () rfl (Ent.sep (.eq pkk (pt_eq (by rfl)) enn))
theorem hasW {m:Int} (h:Six m) {k:Nat} (hk:k < 2):decide (Int.tmod (IntKind.i64.wrap (m.tdiv (flagA k))) 2=1)=hasA m k:=by
 rcases h with rfl | rfl | rfl | rfl<;>rcases (show k=0∨k=1 by omega) with rfl | rfl<;>decide
theorem rhas26_ct (L:List SP) (m bit:Int) (h:Six m) (k:Nat) (hk:k < 2) (hb:bit=flagA k):Ct Tryz.prog 68 #[.int .i64 m,.int .i64 bit] (L) (fun _:Unit=>.bool (hasA m k)) (fun _:Unit=>L):=by
 refine Ct.o2 Tryz.func68 ?_;intro E
 show Hd E 10 _ _ _ _
 have h1:1≤bit∧bit≤4:=by rw [hb];unfold flagA;split<;>omega
 have hm:0≤m∧m≤6:=by rcases h with h | h | h | h<;>omega
 refine sr fun _ K1=>?_
 refine yv y_as<|fk [(0,_),(1,_)] K1 ?_;refine sr fun _ K2=>?_
 refine yv y_mv<|yv y_mv<|yv (y_quo rfl rfl (by omega)) ?_;refine yv (y_rem rfl rfl (by omega)) ?_;refine yv (y_eql rfl rfl) ?_;refine yv y_as<|fk [(4,_)] K2 ?_;refine Hd.ret ?_;exact Hd.ret1 rfl () (by rw [hb,←hasW h hk];rfl) sq
theorem rsides_ct (L:List SP) (m:Int) (hm:InK .i64 m):Ct Tryz.prog 67 #[.int .i64 m] (L) (fun _:Unit=>.bool (decide (bits .andNot .i64 m 6=0))) (fun _:Unit=>L):=by
 refine Ct.o1 Tryz.func67 ?_;intro E
 show Hd E 17 _ _ _ _
 refine sr fun _ K1=>?_
 refine yv y_as<|fk [(0,_)] K1 ?_;refine sr fun _ K2=>?_
 refine yv y_mv<|yv (y_eql rfl rfl) ?_;refine yv y_mv ?_;apply Hd.org 3 5 8 [(0,_)] rfl sbq
 ·intro hg1_5
  try simp only [hyZ] at hg1_5
  simp only [List.take];refine n1<|n1<|yv (y_pickT rfl rfl) ?_;exact Hd.mn
 ·intro hg1_5
  try simp only [hyZ] at hg1_5
  simp only [List.take];refine y2 y_mv<|y2 (y_eql rfl rfl) ?_;refine yv (y_pickF rfl rfl) ?_;exact Hd.mn
 simp only [List.drop];refine yv y_mv ?_;apply Hd.org 3 9 12 [(0,_)] rfl sbq
 ·intro hg1_9
  try simp only [hyZ] at hg1_9
  simp only [List.take];refine n1<|n1<|yv (y_pickT rfl rfl) ?_;exact Hd.mn
 ·intro hg1_9
  try simp only [hyZ] at hg1_9
  simp only [List.take];refine y2 y_mv<|y2 (y_eql rfl rfl) ?_;refine yv (y_pickF rfl rfl) ?_;exact Hd.mn
 simp only [List.drop];refine yv y_mv ?_;apply Hd.org 3 13 16 [] rfl sbq
 ·intro hg1_13
  try simp only [hyZ] at hg1_13
  simp only [List.take];refine n1<|n1<|yv (y_pickT rfl rfl) ?_;exact Hd.mn
 ·intro hg1_13
  try simp only [hyZ] at hg1_13
  simp only [List.take];refine y2 y_mv<|y2 (y_eql rfl rfl) ?_;refine yv (y_pickF rfl rfl) ?_;exact Hd.mn
 simp only [List.drop];refine yv y_as<|fk [(2,_)] K2 ?_;refine Hd.ret ?_;rw [show decide (bits .andNot .i64 m 6=0)=decide (Six m) from decide_eq_decide.2 (six_of hm)];exact Hd.ret1 rfl () (by simp [Six,Bool.or_assoc];rfl) sq
theorem no2 {a b:Bool} (h:a=false∨b=true):¬ (a=true∧b=false):=by cases a<;>cases b<;>simp_all
theorem en_fd (x:BfA) (now m:Int):(enB x now m).fd=x.fd:=by unfold enB;split<;>rfl
theorem dis_fd (x:BfA) (m:Int):(disB x m).fd=x.fd:=by unfold disB;split<;>rfl
theorem mrk_fd (x:BfA) (s l h:Int):(mrkB x s l h).fd=x.fd:=by unfold mrkB;split<;>rfl
theorem en_s {x:BfA} {now m:Int} (hz:bits .andNot .i64 m 6=0) {k:Nat} (hk:k < 2):(enB x now m).s k=if hasA m k=true∧(x.s k).on=false then setA k now { x.s k with on:=true } else x.s k:=by
 rw [show enB x now m=effB (onF now) x (sidesA m) from if_pos hz,effS _ _ _ hk];unfold onF
 cases hasA m k<;>cases (x.s k).on<;>rfl
theorem renable_ct (L:List SP) (b:Nat) (x:BfA) (ht:TmOk x) (now m:Int) (hn:InK .u64 now) (hm:InK .i64 m):Ct Tryz.prog 13 #[.pointer (some ⟨b,0,none⟩),.int .u64 now,.int .i64 m] (RbP b x::L) (fun _:Unit=>.int .i64 (enE m)) (fun _:Unit=>RbP b (enB x now m)::L):=by
 refine Ct.o3 Tryz.func13 ?_;intro E
 show Hd E 46 _ _ _ _
 refine Hd.rb .here (fun i=>?_);refine sr fun _ K1=>?_
 refine yv y_as<|fk [(0,_),(1,_),(2,_)] K1 ?_;refine sr fun _ K2=>?_
 refine yv y_mv<|callE rfl fk67 (rsides_ct _ m hm) sq ?_;intro _;refine yv y_as<|fk [(0,_),(1,_),(2,_),(7,_)] K2 ?_;refine Hd.seq fun _ K3=>?_
 refine sr fun _ K4=>?_
 refine yv y_mv<|yv (y_not rfl)<|fk [(0,_),(1,_),(2,_),(11,_)] K4 ?_;refine qz ?_ ?_<;>intro hc0<;>try simp only [hyZ] at hc0
 ·have hz:¬ bits .andNot .i64 m 6=0:=by simpa using hc0
  refine sr fun _ K5=>?_
  refine yv y_as<|fk [(6,_)] K5 ?_;refine Hd.ret<|Hd.thenRet ?_;rw [show enE m=2 from if_neg hz,show enB x now m=x from if_neg hz];exact Hd.ret1 rfl () rfl rb_fold
 have hz:bits .andNot .i64 m 6=0:=by simpa using hc0
 have h6:=(six_of hm).1 hz
 refine qv K3<|Hd.seq fun _ K6=>?_
 refine sr fun _ K7=>?_
 refine yv y_mv<|callE rfl fk68 (rhas26_ct _ m 2 h6 0 (by decide) rfl) sq ?_;intro _;refine yv y_mv ?_;apply Hd.andg 7 14 21 [(0,_),(1,_),(2,_)] rfl sbq
 ·intro hg4_14
  try simp only [hyZ] at hg4_14
  simp only [List.take];refine y2 y_mv<|y2 y_np<|y2 (y_f 1 69 Tryz.underlying71 sz69)<|y2 (y_f 1 4 Tryz.underlying69 sz4)<|y2 (y_l1 ag4 rfl)<|y2 (y_not rfl)<|yv (y_pickT rfl rfl) ?_;exact Hd.mn
 ·intro hg4_14
  try simp only [hyZ] at hg4_14
  simp only [List.take];refine n1<|n1<|n1<|n1<|n1<|n1<|yv (y_pickF rfl rfl) ?_;exact Hd.mn
 simp only [List.drop];refine fk [(0,_),(1,_),(2,_),(21,_)] K7 ?_;refine qz ?_ ?_<;>intro hc1<;>try simp only [hyZ] at hc1
 ·have e0:=(en_s (x:=x) (now:=now) hz (show 0 < 2 by decide)).trans (if_pos hc1)
  refine sr fun _ K8=>?_
  refine yv y_mv<|yv y_np<|yv (y_f 1 69 Tryz.underlying71 sz69)<|yv (y_f 1 4 Tryz.underlying69 sz4)<|Hd.store1 sz4 rfl rfl rfl pkk (by simp;done) ?_
  try simp only [hyS]
  refine fk [(0,_),(1,_),(2,_)] K8 ?_;refine Hd.region<|yv y_mv<|yv y_mv<|callE rfl fk69 (rsetIn_ct _ b x.fd i.a0 i.c0 { x.s 0 with on:=true } i.a1 i.c1 (x.s 1) now hn (ht 0 (by decide)).1) sq ?_;intro _;refine fk [(0,_),(1,_),(2,_)] K6 ?_;refine Hd.seq fun _ K9=>?_
  refine sr fun _ K10=>?_
  refine yv y_mv<|callE rfl fk68 (rhas26_ct _ m 4 h6 1 (by decide) rfl) sq ?_;intro _;refine yv y_mv ?_;apply Hd.andg 7 31 38 [(0,_),(1,_)] rfl sbq
  ·intro hg7_31
   try simp only [hyZ] at hg7_31
   simp only [List.take];refine y2 y_mv<|y2 y_np<|y2 (y_f 8 69 Tryz.underlying71 sz69)<|y2 (y_f 1 4 Tryz.underlying69 sz4)<|y2 (y_l1 ag4 rfl)<|y2 (y_not rfl)<|yv (y_pickT rfl rfl) ?_;exact Hd.mn
  ·intro hg7_31
   try simp only [hyZ] at hg7_31
   simp only [List.take];refine n1<|n1<|n1<|n1<|n1<|n1<|yv (y_pickF rfl rfl) ?_;exact Hd.mn
  simp only [List.drop];refine fk [(0,_),(1,_),(38,_)] K10 ?_;refine qz ?_ ?_<;>intro hc2<;>try simp only [hyZ] at hc2
  ·have e1:=(en_s (x:=x) (now:=now) hz (show 1 < 2 by decide)).trans (if_pos hc2)
   refine sr fun _ K11=>?_
   refine yv y_mv<|yv y_np<|yv (y_f 8 69 Tryz.underlying71 sz69)<|yv (y_f 1 4 Tryz.underlying69 sz4)<|Hd.store1 sz4 rfl rfl rfl pkk (by simp;done) ?_
   try simp only [hyS]
   refine fk [(0,_),(1,_)] K11 ?_;refine Hd.region<|yv y_mv<|yv y_mv<|callE rfl fk70 (rsetOut_ct _ b x.fd i.a0 i.c0 (setA 0 now { x.s 0 with on:=true }) i.a1 i.c1 { x.s 1 with on:=true } now hn (ht 1 (by decide)).1) sq ?_;intro _;refine fk [] K9 ?_;refine sr fun _ K12=>?_
   refine yv y_as<|fk [(6,_)] K12 ?_;refine Hd.ret ?_;rw [show enE m=0 from if_pos hz];exact Hd.ret1 rfl () rfl (fun q s=>rb_put (fd:=x.fd) (a0:=i.a0) (c0:=i.c0) (a1:=i.a1) (c1:=i.c1) e0 e1 (en_fd _ _ _) q (Ent.sep enn q s))
  have e1:=(en_s (x:=x) (now:=now) hz (show 1 < 2 by decide)).trans (if_neg (no2 hc2))
  refine qv K9<|sr fun _ K13=>?_
  refine yv y_as<|fk [(6,_)] K13 ?_;refine Hd.ret ?_;rw [show enE m=0 from if_pos hz];exact Hd.ret1 rfl () rfl (fun q s=>rb_put (fd:=x.fd) (a0:=i.a0) (c0:=i.c0) (a1:=i.a1) (c1:=i.c1) e0 e1 (en_fd _ _ _) q (Ent.sep enn q s))
 have e0:=(en_s (x:=x) (now:=now) hz (show 0 < 2 by decide)).trans (if_neg (no2 hc1))
 refine qv K6<|Hd.seq fun _ K14=>?_
 refine sr fun _ K15=>?_
 refine yv y_mv<|callE rfl fk68 (rhas26_ct _ m 4 h6 1 (by decide) rfl) sq ?_;intro _;refine yv y_mv ?_;apply Hd.andg 7 31 38 [(0,_),(1,_)] rfl sbq
 ·intro hg7_31
  try simp only [hyZ] at hg7_31
  simp only [List.take];refine y2 y_mv<|y2 y_np<|y2 (y_f 8 69 Tryz.underlying71 sz69)<|y2 (y_f 1 4 Tryz.underlying69 sz4)<|y2 (y_l1 ag4 rfl)<|y2 (y_not rfl)<|yv (y_pickT rfl rfl) ?_;exact Hd.mn
 ·intro hg7_31
  try simp only [hyZ] at hg7_31
  simp only [List.take];refine n1<|n1<|n1<|n1<|n1<|n1<|yv (y_pickF rfl rfl) ?_;exact Hd.mn
 simp only [List.drop];refine fk [(0,_),(1,_),(38,_)] K15 ?_;refine qz ?_ ?_<;>intro hc2<;>try simp only [hyZ] at hc2
 ·have e1:=(en_s (x:=x) (now:=now) hz (show 1 < 2 by decide)).trans (if_pos hc2)
  refine sr fun _ K16=>?_
  refine yv y_mv<|yv y_np<|yv (y_f 8 69 Tryz.underlying71 sz69)<|yv (y_f 1 4 Tryz.underlying69 sz4)<|Hd.store1 sz4 rfl rfl rfl pkk (by simp;done) ?_
  try simp only [hyS]
  refine fk [(0,_),(1,_)] K16 ?_;refine Hd.region<|yv y_mv<|yv y_mv<|callE rfl fk70 (rsetOut_ct _ b x.fd i.a0 i.c0 (x.s 0) i.a1 i.c1 { x.s 1 with on:=true } now hn (ht 1 (by decide)).1) sq ?_;intro _;refine fk [] K14 ?_;refine sr fun _ K17=>?_
  refine yv y_as<|fk [(6,_)] K17 ?_;refine Hd.ret ?_;rw [show enE m=0 from if_pos hz];exact Hd.ret1 rfl () rfl (fun q s=>rb_put (fd:=x.fd) (a0:=i.a0) (c0:=i.c0) (a1:=i.a1) (c1:=i.c1) e0 e1 (en_fd _ _ _) q (Ent.sep enn q s))
 have e1:=(en_s (x:=x) (now:=now) hz (show 1 < 2 by decide)).trans (if_neg (no2 hc2))
 refine qv K14<|sr fun _ K18=>?_
 refine yv y_as<|fk [(6,_)] K18 ?_;refine Hd.ret ?_;rw [show enE m=0 from if_pos hz];exact Hd.ret1 rfl () rfl (fun q s=>rb_put (fd:=x.fd) (a0:=i.a0) (c0:=i.c0) (a1:=i.a1) (c1:=i.c1) e0 e1 (en_fd _ _ _) q (Ent.sep enn q s))
theorem dis_s {x:BfA} {m:Int} (hz:bits .andNot .i64 m 6=0) {k:Nat} (hk:k < 2):(disB x m).s k=if hasA m k=true then { x.s k with on:=false,at_:=NV } else x.s k:=by
 rw [show disB x m=effB offF x (sidesA m) from if_pos hz,effS _ _ _ hk]
theorem rdisable_ct (L:List SP) (b:Nat) (x:BfA) (m:Int) (hm:InK .i64 m):Ct Tryz.prog 15 #[.pointer (some ⟨b,0,none⟩),.int .i64 m] (RbP b x::L) (fun _:Unit=>.int .i64 (enE m)) (fun _:Unit=>RbP b (disB x m)::L):=by
 refine Ct.o2 Tryz.func15 ?_;intro E
 show Hd E 30 _ _ _ _
 refine Hd.rb .here (fun i=>?_);refine sr fun _ K1=>?_
 refine yv y_as<|fk [(0,_),(1,_)] K1 ?_;refine sr fun _ K2=>?_
 refine yv y_mv<|callE rfl fk67 (rsides_ct _ m hm) sq ?_;intro _;refine yv y_as<|fk [(0,_),(1,_),(5,_)] K2 ?_;refine Hd.seq fun _ K3=>?_
 refine sr fun _ K4=>?_
 refine yv y_mv<|yv (y_not rfl)<|fk [(0,_),(1,_),(9,_)] K4 ?_;refine qz ?_ ?_<;>intro hc0<;>try simp only [hyZ] at hc0
 ·have hz:¬ bits .andNot .i64 m 6=0:=by simpa using hc0
  refine sr fun _ K5=>?_
  refine yv y_as<|fk [(4,_)] K5 ?_;refine Hd.ret<|Hd.thenRet ?_;rw [show enE m=2 from if_neg hz,show disB x m=x from if_neg hz];exact Hd.ret1 rfl () rfl rb_fold
 have hz:bits .andNot .i64 m 6=0:=by simpa using hc0
 have h6:=(six_of hm).1 hz
 refine qv K3<|Hd.seq fun _ K6=>?_
 refine sr fun _ K7=>?_
 refine yv y_mv<|callE rfl fk68 (rhas26_ct _ m 2 h6 0 (by decide) rfl) sq ?_;intro _;refine fk [(0,_),(1,_),(11,_)] K7 ?_;refine qz ?_ ?_<;>intro hc1<;>try simp only [hyZ] at hc1
 ·have e0:=(dis_s (x:=x) hz (show 0 < 2 by decide)).trans (if_pos hc1)
  refine sr fun _ K8=>?_
  refine yv y_mv<|yv y_np<|yv (y_f 1 69 Tryz.underlying71 sz69)<|yv (y_f 1 4 Tryz.underlying69 sz4)<|Hd.store1 sz4 rfl rfl rfl pkk (by simp;done) ?_
  try simp only [hyS]
  refine fk [(0,_),(1,_)] K8 ?_;refine Hd.region<|yv y_mv<|yv y_np<|yv (y_f 1 69 Tryz.underlying71 sz69)<|yv (y_f 6 29 Tryz.underlying69 sz29)<|Hd.store1 sz29 rfl rfl rfl pkk (by simp;done) ?_
  try simp only [hyS]
  refine fk [(0,_),(1,_)] K6 ?_;refine Hd.seq fun _ K9=>?_
  refine sr fun _ K10=>?_
  refine yv y_mv<|callE rfl fk68 (rhas26_ct _ m 4 h6 1 (by decide) rfl) sq ?_;intro _;refine fk [(0,_),(21,_)] K10 ?_;refine qz ?_ ?_<;>intro hc2<;>try simp only [hyZ] at hc2
  ·have e1:=(dis_s (x:=x) hz (show 1 < 2 by decide)).trans (if_pos hc2)
   refine sr fun _ K11=>?_
   refine yv y_mv<|yv y_np<|yv (y_f 8 69 Tryz.underlying71 sz69)<|yv (y_f 1 4 Tryz.underlying69 sz4)<|Hd.store1 sz4 rfl rfl rfl pkk (by simp;done) ?_
   try simp only [hyS]
   refine fk [(0,_)] K11 ?_;refine Hd.region<|yv y_mv<|yv y_np<|yv (y_f 8 69 Tryz.underlying71 sz69)<|yv (y_f 6 29 Tryz.underlying69 sz29)<|Hd.store1 sz29 rfl rfl rfl pkk (by simp;done) ?_
   try simp only [hyS]
   refine fk [] K9 ?_;refine sr fun _ K12=>?_
   refine yv y_as<|fk [(4,_)] K12 ?_;refine Hd.ret ?_;rw [show enE m=0 from if_pos hz];exact Hd.ret1 rfl () rfl (fun q s=>rb_put (fd:=x.fd) (a0:=i.a0) (c0:=i.c0) (a1:=i.a1) (c1:=i.c1) e0 e1 (dis_fd _ _) q (Ent.sep enn q s))
  have e1:=(dis_s (x:=x) hz (show 1 < 2 by decide)).trans (if_neg (by rw [hc2];decide))
  refine qv K9<|sr fun _ K13=>?_
  refine yv y_as<|fk [(4,_)] K13 ?_;refine Hd.ret ?_;rw [show enE m=0 from if_pos hz];exact Hd.ret1 rfl () rfl (fun q s=>rb_put (fd:=x.fd) (a0:=i.a0) (c0:=i.c0) (a1:=i.a1) (c1:=i.c1) e0 e1 (dis_fd _ _) q (Ent.sep enn q s))
 have e0:=(dis_s (x:=x) hz (show 0 < 2 by decide)).trans (if_neg (by rw [hc1];decide))
 refine qv K6<|Hd.seq fun _ K14=>?_
 refine sr fun _ K15=>?_
 refine yv y_mv<|callE rfl fk68 (rhas26_ct _ m 4 h6 1 (by decide) rfl) sq ?_;intro _;refine fk [(0,_),(21,_)] K15 ?_;refine qz ?_ ?_<;>intro hc2<;>try simp only [hyZ] at hc2
 ·have e1:=(dis_s (x:=x) hz (show 1 < 2 by decide)).trans (if_pos hc2)
  refine sr fun _ K16=>?_
  refine yv y_mv<|yv y_np<|yv (y_f 8 69 Tryz.underlying71 sz69)<|yv (y_f 1 4 Tryz.underlying69 sz4)<|Hd.store1 sz4 rfl rfl rfl pkk (by simp;done) ?_
  try simp only [hyS]
  refine fk [(0,_)] K16 ?_;refine Hd.region<|yv y_mv<|yv y_np<|yv (y_f 8 69 Tryz.underlying71 sz69)<|yv (y_f 6 29 Tryz.underlying69 sz29)<|Hd.store1 sz29 rfl rfl rfl pkk (by simp;done) ?_
  try simp only [hyS]
  refine fk [] K14 ?_;refine sr fun _ K17=>?_
  refine yv y_as<|fk [(4,_)] K17 ?_;refine Hd.ret ?_;rw [show enE m=0 from if_pos hz];exact Hd.ret1 rfl () rfl (fun q s=>rb_put (fd:=x.fd) (a0:=i.a0) (c0:=i.c0) (a1:=i.a1) (c1:=i.c1) e0 e1 (dis_fd _ _) q (Ent.sep enn q s))
 have e1:=(dis_s (x:=x) hz (show 1 < 2 by decide)).trans (if_neg (by rw [hc2];decide))
 refine qv K14<|sr fun _ K18=>?_
 refine yv y_as<|fk [(4,_)] K18 ?_;refine Hd.ret ?_;rw [show enE m=0 from if_pos hz];exact Hd.ret1 rfl () rfl (fun q s=>rb_put (fd:=x.fd) (a0:=i.a0) (c0:=i.c0) (a1:=i.a1) (c1:=i.c1) e0 e1 (dis_fd _ _) q (Ent.sep enn q s))
theorem mrk_s {x:BfA} {side low high:Int} (hb:mrkBad side low high=false) {k:Nat} (hk:k < 2):(mrkB x side low high).s k=if hasA side k=true then { x.s k with low:=low,high:=high } else x.s k:=by
 rw [show mrkB x side low high=effB (mrkF low high) x (sidesA side) from if_neg (by rw [hb];simp),effS _ _ _ hk]
theorem rmarks_ct (L:List SP) (b:Nat) (x:BfA) (hh:(x.s 1).high=0) (side low high:Int):Ct Tryz.prog 17 #[.pointer (some ⟨b,0,none⟩),.int .i64 side,.int .i64 low,.int .i64 high] (RbP b x::L) (fun _:Unit=>.int .i64 (mrkE side low high)) (fun _:Unit=>RbP b (mrkB x side low high)::L):=by
 refine Ct.o4 Tryz.func17 ?_;intro E
 show Hd E 65 _ _ _ _
 refine Hd.rb .here (fun i=>?_);refine sr fun _ K1=>?_
 refine yv y_as<|fk [(0,_),(1,_),(2,_),(3,_)] K1 ?_;refine Hd.seq fun _ K2=>?_
 refine sr fun _ K3=>?_
 refine yv y_mv<|yv (y_neq rfl rfl) ?_;refine yv y_mv ?_;apply Hd.andg 3 11 14 [(0,_),(1,_),(2,_),(3,_)] rfl sbq
 ·intro hg1_11
  try simp only [hyZ] at hg1_11
  simp only [List.take];refine y2 y_mv<|y2 (y_neq rfl rfl) ?_;refine yv (y_pickT rfl rfl) ?_;exact Hd.mn
 ·intro hg1_11
  try simp only [hyZ] at hg1_11
  simp only [List.take];refine n1<|n1<|yv (y_pickF rfl rfl) ?_;exact Hd.mn
 simp only [List.drop];refine yv y_mv ?_;apply Hd.org 3 15 18 [(0,_),(1,_),(2,_),(3,_)] rfl sbq
 ·intro hg1_15
  try simp only [hyZ] at hg1_15
  simp only [List.take];refine n1<|n1<|yv (y_pickT rfl rfl) ?_;exact Hd.mn
 ·intro hg1_15
  try simp only [hyZ] at hg1_15
  simp only [List.take];refine y2 y_mv<|y2 (y_lss rfl rfl) ?_;refine yv (y_pickF rfl rfl) ?_;exact Hd.mn
 simp only [List.drop];refine yv y_mv ?_;apply Hd.org 3 19 22 [(0,_),(1,_),(2,_),(3,_)] rfl sbq
 ·intro hg1_19
  try simp only [hyZ] at hg1_19
  simp only [List.take];refine n1<|n1<|yv (y_pickT rfl rfl) ?_;exact Hd.mn
 ·intro hg1_19
  try simp only [hyZ] at hg1_19
  simp only [List.take];refine y2 y_mv<|y2 (y_lss rfl rfl) ?_;refine yv (y_pickF rfl rfl) ?_;exact Hd.mn
 simp only [List.drop];refine yv y_mv ?_;apply Hd.org 3 23 26 [(0,_),(1,_),(2,_),(3,_)] rfl sbq
 ·intro hg1_23
  try simp only [hyZ] at hg1_23
  simp only [List.take];refine n1<|n1<|yv (y_pickT rfl rfl) ?_;exact Hd.mn
 ·intro hg1_23
  try simp only [hyZ] at hg1_23
  simp only [List.take];refine y2 y_mv<|y2 (y_gtr rfl rfl) ?_;refine yv (y_pickF rfl rfl) ?_;exact Hd.mn
 simp only [List.drop];refine yv y_mv ?_;apply Hd.org 3 27 30 [(0,_),(1,_),(2,_),(3,_)] rfl sbq
 ·intro hg1_27
  try simp only [hyZ] at hg1_27
  simp only [List.take];refine n1<|n1<|yv (y_pickT rfl rfl) ?_;exact Hd.mn
 ·intro hg1_27
  try simp only [hyZ] at hg1_27
  simp only [List.take];refine y2 y_mv<|y2 (y_gtr rfl rfl) ?_;refine yv (y_pickF rfl rfl) ?_;exact Hd.mn
 simp only [List.drop];refine yv y_mv ?_;apply Hd.org (q:=(decide (high > 0) && decide (high < low))) 8 31 39 [(0,_),(1,_),(2,_),(3,_)] rfl sbq
 ·intro hg1_31
  try simp only [hyZ] at hg1_31
  simp only [List.take];refine n1<|n1<|n1<|n1<|n1<|n1<|n1<|yv (y_pickT rfl rfl) ?_;exact Hd.mn
 ·intro hg1_31
  try simp only [hyZ] at hg1_31
  simp only [List.take];refine y2 y_mv<|y2 (y_gtr rfl rfl) ?_;refine y2 y_mv ?_;apply Hd.andg 4 34 38 [(0,_),(1,_),(2,_),(3,_),(31,_)] rfl sbq
  ·intro hg1_34
   try simp only [hyZ] at hg1_34
   simp only [List.take];refine y2 y_mv<|y2 y_mv<|y2 (y_lss rfl rfl) ?_;refine y2 (y_pickT rfl rfl) ?_;exact Hd.mn
  ·intro hg1_34
   try simp only [hyZ] at hg1_34
   simp only [List.take];refine n1<|n1<|n1<|y2 (y_pickF rfl rfl) ?_;exact Hd.mn
  simp only [List.drop];refine yv (y_pickF rfl rfl) ?_;exact Hd.mn
 simp only [List.drop];refine yv y_mv ?_;apply Hd.org (q:=(decide (side=4) && decide (high > 0))) 7 40 47 [(0,_),(1,_),(2,_),(3,_)] rfl sbq
 ·intro hg1_40
  try simp only [hyZ] at hg1_40
  simp only [List.take];refine n1<|n1<|n1<|n1<|n1<|n1<|yv (y_pickT rfl rfl) ?_;exact Hd.mn
 ·intro hg1_40
  try simp only [hyZ] at hg1_40
  simp only [List.take];refine y2 y_mv<|y2 (y_eql rfl rfl) ?_;refine y2 y_mv ?_;apply Hd.andg 3 43 46 [(0,_),(1,_),(2,_),(3,_),(40,_)] rfl sbq
  ·intro hg1_43
   try simp only [hyZ] at hg1_43
   simp only [List.take];refine y2 y_mv<|y2 (y_gtr rfl rfl) ?_;refine y2 (y_pickT rfl rfl) ?_;exact Hd.mn
  ·intro hg1_43
   try simp only [hyZ] at hg1_43
   simp only [List.take];refine n1<|n1<|y2 (y_pickF rfl rfl) ?_;exact Hd.mn
  simp only [List.drop];refine yv (y_pickF rfl rfl) ?_;exact Hd.mn
 simp only [List.drop];refine fk [(0,_),(1,_),(2,_),(3,_),(47,_)] K3 ?_;refine qz ?_ ?_<;>intro hc0<;>try simp only [hyZ] at hc0
 ·have hb:mrkBad side low high=true:=by unfold mrkBad;simp only [Bool.or_eq_true,Bool.and_eq_true,decide_eq_true_eq];omega
  refine sr fun _ K4=>?_
  refine yv y_as<|fk [(8,_)] K4 ?_;refine Hd.ret<|Hd.thenRet ?_;rw [show mrkE side low high=2 from if_pos hb,show mrkB x side low high=x from if_pos hb];exact Hd.ret1 rfl () rfl rb_fold
 have hb:mrkBad side low high=false:=by unfold mrkBad;simp only [Bool.or_eq_false_iff,Bool.and_eq_false_iff,decide_eq_false_iff_not];omega
 have hE:mrkE side low high=0:=if_neg (by rw [hb];decide)
 refine qv K2<|Hd.seq fun _ K5=>?_
 refine sr fun _ K6=>?_
 refine yv y_mv<|yv (y_eql rfl rfl) ?_;refine fk [(0,_),(2,_),(3,_),(49,_)] K6 ?_;refine qz ?_ ?_<;>intro hc1<;>try simp only [hyZ] at hc1
 ·have e0:=(mrk_s (x:=x) hb (show 0 < 2 by decide)).trans (if_pos (by rw [hc1];decide))
  have e1:=(mrk_s (x:=x) hb (show 1 < 2 by decide)).trans (if_neg (by rw [hc1];decide))
  refine sr fun _ K7=>?_
  refine yv y_mv<|yv y_mv<|yv y_np<|yv (y_f 1 69 Tryz.underlying71 sz69)<|yv (y_f 3 3 Tryz.underlying69 sz3)<|Hd.store1 sz3 rfl rfl rfl pkk (by simp;done) ?_
  try simp only [hyS]
  refine fk [(0,_),(3,_)] K7 ?_;refine Hd.region<|yv y_mv<|yv y_mv<|yv y_np<|yv (y_f 1 69 Tryz.underlying71 sz69)<|yv (y_f 4 3 Tryz.underlying69 sz3)<|Hd.store1 sz3 rfl rfl rfl pkk (by simp;done) ?_
  try simp only [hyS]
  refine fk [] K5 ?_;refine sr fun _ K8=>?_
  refine yv y_as<|fk [(8,_)] K8 ?_;refine Hd.ret ?_;rw [hE];exact Hd.ret1 rfl () rfl (fun q s=>rb_put (fd:=x.fd) (a0:=i.a0) (c0:=i.c0) (a1:=i.a1) (c1:=i.c1) e0 e1 (mrk_fd _ _ _ _) q (Ent.sep enn q s))
 have h4:side=4:=by omega
 have hz:high=0:=by omega
 have e0:=(mrk_s (x:=x) hb (show 0 < 2 by decide)).trans (if_neg (by rw [h4];decide))
 have e1:(mrkB x side low high).s 1={ x.s 1 with low:=low }:=by rw [mrk_s hb (show 1 < 2 by decide),if_pos (by rw [h4];decide),hz,←hh]
 refine Hd.region<|yv y_mv<|yv y_mv<|yv y_np<|yv (y_f 8 69 Tryz.underlying71 sz69)<|yv (y_f 3 3 Tryz.underlying69 sz3)<|Hd.store1 sz3 rfl rfl rfl pkk (by simp;done) ?_
 try simp only [hyS]
 refine fk [] K5 ?_;refine sr fun _ K9=>?_
 refine yv y_as<|fk [(8,_)] K9 ?_;refine Hd.ret ?_;rw [hE];exact Hd.ret1 rfl () rfl (fun q s=>rb_put (fd:=x.fd) (a0:=i.a0) (c0:=i.c0) (a1:=i.a1) (c1:=i.c1) e0 e1 (mrk_fd _ _ _ _) q (Ent.sep enn q s))
theorem rtimeouts_ct (L:List SP) (b:Nat) (x:BfA) (now r w:Int) (hn:InK .u64 now) (hr:InK .u64 r) (hw:InK .u64 w):Ct Tryz.prog 19 #[.pointer (some ⟨b,0,none⟩),.int .u64 now,.int .u64 r,.int .u64 w] (RbP b x::L) (fun _:Unit=>.tuple #[]) (fun _:Unit=>RbP b (tmB x now r w)::L):=by
 refine Ct.o4 Tryz.func19 ?_;intro E
 show Hd E 24 _ _ _ _
 refine Hd.rb .here (fun i=>?_);refine sr fun _ K1=>?_
 refine yv y_mv<|yv y_mv<|yv y_np<|yv (y_f 1 69 Tryz.underlying71 sz69)<|yv (y_f 5 29 Tryz.underlying69 sz29)<|Hd.store1 sz29 rfl rfl rfl pkk (by simp;done) ?_
 try simp only [hyS]
 refine fk [(0,_),(1,_),(3,_)] K1 ?_;refine sr fun _ K2=>?_
 refine yv y_mv<|yv y_mv<|yv y_np<|yv (y_f 8 69 Tryz.underlying71 sz69)<|yv (y_f 5 29 Tryz.underlying69 sz29)<|Hd.store1 sz29 rfl rfl rfl pkk (by simp;done) ?_
 try simp only [hyS]
 refine fk [(0,_),(1,_)] K2 ?_;refine sr fun _ K3=>?_
 refine yv y_mv<|yv y_mv<|callE rfl fk69 (rsetIn_ct _ b x.fd i.a0 i.c0 { x.s 0 with after:=r } i.a1 i.c1 { x.s 1 with after:=w } now hn hr) sq ?_;intro _;refine fk [(0,_),(1,_)] K3 ?_;refine Hd.region<|yv y_mv<|yv y_mv<|callE rfl fk70 (rsetOut_ct _ b x.fd i.a0 i.c0 (setA 0 now { x.s 0 with after:=r }) i.a1 i.c1 { x.s 1 with after:=w } now hn hw) sq ?_;intro _;refine Hd.nil<|slots [] sbq ?_;exact Hd.end0 rfl () rfl (fun q s=>rb_put (fd:=x.fd) (a0:=i.a0) (c0:=i.c0) (a1:=i.a1) (c1:=i.c1) (x':=tmB x now r w) (s:=setA 0 now { x.s 0 with after:=r }) (t:=setA 1 now { x.s 1 with after:=w }) rfl rfl rfl q (Ent.sep enn q s))
theorem rnew26_ct (L:List SP) (fd:Int):Ct Tryz.prog 11 #[.int .i64 fd] (L) (fun b:Nat=>.pointer (some ⟨b,0,none⟩)) (fun b:Nat=>RbP b (newB fd)::L):=by
 refine Ct.o1 Tryz.func11 ?_;intro E
 show Hd E 8 _ _ _ _
 refine sr fun _ K1=>?_
 refine yv y_as<|fk [(0,_)] K1 ?_;refine sr fun _ K2=>?_
 refine yv y_mv<|yv (y_build (vs:=[(6,_)]) rfl (by exact bd11_4 ..)) ?_;refine yv (y_build (vs:=[(1,_),(6,_)]) rfl (by exact bd11_5 ..)) ?_;refine yv (y_build (vs:=[(0,_),(1,_),(2,_)]) rfl (by exact bd11_6 ..)) ?_;refine Hd.box rfl rfl (fun b7=>?_);refine yv y_as<|fk [(2,_)] K2 ?_;refine Hd.ret ?_;exact Hd.ret1 rfl b7 rfl (fun q s=>rb_put (x':=newB fd) (fd:=fd) (a0:=none) (c0:=0) (a1:=none) (c1:=0) (s:=s0 false) (t:=s0 true) rfl rfl rfl q (Ent.sep (.eq pkk (pt_eq (by rfl)) (.ownNil (.ownNil enn))) q s))
theorem addA_app {l bs:List UInt8} (h:bs.length≤1048576 - l.length):addA l bs=l++bs:=if_pos h
theorem rbwrite_ct (L:List SP) (b:Nat) (x:BfA) (ht:TmOk x) (hcl:(x.s 1).c.length≤1048576) (now:Int) (hn:InK .u64 now) (ad:Option Addr) (c:Nat) (bs:List UInt8) (hD:RdS L 1 ad bs.length (bsl bs)) (hmc:bs.length≤c) (hm:bs.length≤70368744177664):Ct Tryz.prog 21 #[.pointer (some ⟨b,0,none⟩),.int .u64 now,.slice ad bs.length c] (RbP b x::L) (fun _:Unit=>.int .i64 (wrE x bs)) (fun _:Unit=>RbP b (wrB x now bs)::L):=by
 refine Ct.o3 Tryz.func21 ?_;intro E
 show Hd E 41 _ _ _ _
 refine Hd.rb .here (fun i=>?_);refine sr fun _ K1=>?_
 refine yv y_as<|fk [(0,_),(1,_),(2,_)] K1 ?_;refine Hd.seq fun _ K2=>?_
 refine sr fun _ K3=>?_
 refine yv y_mv<|yv y_np<|yv (y_f 8 69 Tryz.underlying71 sz69)<|yv (y_f 0 30 Tryz.underlying69 sz30)<|yv (y_l1 ag30 rfl)<|yv (y_len Tryz.underlying30 rfl) ?_;refine yv y_mv<|yv (y_len Tryz.underlying30 rfl) ?_;refine yv (y_addn rfl rfl (by simp only [InK];omega)) ?_;refine yv (y_gtr rfl rfl) ?_;refine fk [(0,_),(1,_),(2,_),(17,_)] K3 ?_;refine qz ?_ ?_<;>intro hc0<;>try simp only [hyZ] at hc0
 ·have ha:addE (x.s 1).c bs=70:=by unfold addE;rw [if_neg (by omega)]
  refine sr fun _ K4=>?_
  refine yv y_as<|fk [(6,_)] K4 ?_;refine Hd.ret<|Hd.thenRet ?_;rw [show wrE x bs=70 from ha,show wrB x now bs=x by unfold wrB;rw [if_pos (by rw [ha];decide)]];exact Hd.ret1 rfl () rfl rb_fold
 have hle:bs.length≤1048576 - (x.s 1).c.length:=by omega
 have ha:addE (x.s 1).c bs=0:=if_pos hle
 have hap:=addA_app hle
 have hw0:wrE x bs=0:=ha
 refine qv K2<|sr fun _ K5=>?_
 refine yv y_as<|fk [(0,_),(1,_),(2,_),(7,_)] K5 ?_;refine Hd.seq fun _ K6=>?_
 refine Hd.ownNil 5 1 none ?_;refine Hd.region<|yv y_mv<|yv y_mv<|yv y_np<|yv (y_f 8 69 Tryz.underlying71 sz69)<|yv (y_f 0 30 Tryz.underlying69 sz30)<|yv (y_l1 ag30 rfl)<|Hd.append Tryz.underlying30 ty5 rfl rfl rfl pkk (by first | exact RdS.rd (Rd.pt pkk (fun j v e=>by simpa using e)) rfl | (exact RdS.own pkk)) (by simp [Value.oneCell'];done) (by simp only [maxLen];omega) (by omega) (fun ad24 cap24=>?_);refine yv y_as<|fk [(0,_),(1,_),(2,_),(7,_)] K6 ?_;refine sr fun _ K7=>?_
 refine yv y_mv<|yv y_mv<|yv y_mv<|Hd.append Tryz.underlying30 ty5 rfl rfl rfl pkk (by exact RdS.mono hD sq) (by simp [Value.oneCell'];done) (by simp only [maxLen];omega) (by omega) (fun ad28 cap28=>?_);refine yv y_np<|yv (y_f 8 69 Tryz.underlying71 sz69)<|yv (y_f 0 30 Tryz.underlying69 sz30)<|Hd.store1 sz30 rfl rfl rfl pkk (by simp;done) ?_
 try simp only [hyS]
 refine Hd.nil<|Hd.heap (RbH b x.fd i.a0 i.c0 (x.s 0) ad28 cap28 { x.s 1 with c:=(x.s 1).c++bs }::OwB i.a0 i.c0 (x.s 0).c::OwB ad28 cap28 ((x.s 1).c++bs)::L) (fun q s=>Ent.sep (.eq pkk (pt_eq (by simp only [encRb,List.length_append,Nat.zero_add])) (.pick pkk (.eq pkk (own_eq3 (by rw [List.length_append,Nat.zero_add]) rfl (by unfold bsl;simp)) enn))) q s) ?_;refine sk [(0,_),(1,_)] K7 ?_;refine Hd.seq fun _ K8=>?_
 refine sr fun _ K9=>?_
 refine yv y_mv<|yv y_np<|yv (y_f 8 69 Tryz.underlying71 sz69)<|yv (y_f 6 29 Tryz.underlying69 sz29)<|yv (y_l1 ag29 rfl)<|yv (y_eql rfl rfl) ?_;refine fk [(0,_),(1,_),(37,_)] K9 ?_;refine qz ?_ ?_<;>intro hc1<;>try simp only [hyZ] at hc1
 ·refine Hd.region ?_
  refine yv y_mv<|yv y_mv<|callE rfl fk70 (rsetOut_ct _ b x.fd i.a0 i.c0 (x.s 0) ad28 cap28 { x.s 1 with c:=(x.s 1).c++bs } now hn (ht 1 (by decide)).1) sq ?_;intro _;refine fk [] K8 ?_;refine sr fun _ K10=>?_
  refine yv y_as<|fk [(6,_)] K10 ?_;refine Hd.ret ?_;rw [hw0,show wrB x now bs=x.up 1 fun s=>setA 1 now { s with c:=addA s.c bs } by unfold wrB;rw [if_neg (by rw [ha];decide),if_pos hc1]];exact Hd.ret1 rfl () rfl (fun q s=>rb_put (fd:=x.fd) (x':=x.up 1 fun s=>setA 1 now { s with c:=addA s.c bs }) (a0:=i.a0) (c0:=i.c0) (a1:=ad28) (c1:=cap28) (s:=x.s 0) (t:=setA 1 now { x.s 1 with c:=(x.s 1).c++bs }) rfl (by show setA 1 now { x.s 1 with c:=addA (x.s 1).c bs }=_;rw [hap]) rfl q (Ent.sep enn q s))
 refine qv K8<|sr fun _ K11=>?_
 refine yv y_as<|fk [(6,_)] K11 ?_;refine Hd.ret ?_;rw [hw0,show wrB x now bs=x.up 1 fun s=>{ s with c:=addA s.c bs } by unfold wrB;rw [if_neg (by rw [ha];decide),if_neg hc1]];exact Hd.ret1 rfl () rfl (fun q s=>rb_put (fd:=x.fd) (x':=x.up 1 fun s=>{ s with c:=addA s.c bs }) (a0:=i.a0) (c0:=i.c0) (a1:=ad28) (c1:=cap28) (s:=x.s 0) (t:={ x.s 1 with c:=(x.s 1).c++bs }) rfl (by show { x.s 1 with c:=addA (x.s 1).c bs }=_;rw [hap]) rfl q (Ent.sep enn q s))
theorem rbread_ct (L:List SP) (b:Nat) (x:BfA) (n:Int):Ct Tryz.prog 23 #[.pointer (some ⟨b,0,none⟩),.int .i64 n] (RbP b x::L) (fun q_:Option Addr×Nat=>.slice q_.1 (readA x n).length q_.2) (fun q_:Option Addr×Nat=>own 5 1 q_.1 (readA x n).length (readA x n).length (bsl (readA x n))::RbP b (readB x n)::L):=by
 refine Ct.o2 Tryz.func23 ?_;intro E
 show Hd E 35 _ _ _ _
 refine Hd.rb .here (fun i=>?_);refine Hd.ownCap (e:=5) (ad:=i.a0) (m:=(x.s 0).c.length) (cap:=i.c0) pkk (fun hcap=>?_);refine sr fun _ K1=>?_
 refine yv y_as<|fk [(0,_),(1,_)] K1 ?_;refine Hd.seq fun _ K2=>?_
 refine sr fun _ K3=>?_
 refine yv y_mv<|yv (y_lss rfl rfl) ?_;refine fk [(0,_),(1,_),(7,_)] K3 ?_;refine qz ?_ ?_<;>intro hc0<;>try simp only [hyZ] at hc0
 ·refine sr fun _ K4=>?_
  refine yv y_as<|fk [(4,_)] K4 ?_;refine Hd.ret<|Hd.thenRet ?_;rw [show readA x n=[] by unfold readA;rw [if_pos hc0],show readB x n=x by unfold readB;rw [if_pos hc0]];exact Hd.ret1 rfl (none,0) rfl (fun q s=>Ent.sep (.ownNil .same) q (rb_fold q s))
 obtain ⟨kn,hkn⟩:∃ q,q=min n.toNat (x.s 0).c.length:=⟨_,rfl⟩
 have hkl:kn≤(x.s 0).c.length:=by omega
 have hkc:kn≤i.c0:=by omega
 have htk:(x.s 0).c.take n.toNat=(x.s 0).c.take kn:=by
  rw [hkn]
  rcases Nat.le_total n.toNat (x.s 0).c.length with h | h
  ·rw [Nat.min_eq_left h]
  ·rw [Nat.min_eq_right h,List.take_length,List.take_of_length_le h]
 have hdk:(x.s 0).c.drop n.toNat=(x.s 0).c.drop kn:=by
  rw [hkn]
  rcases Nat.le_total n.toNat (x.s 0).c.length with h | h
  ·rw [Nat.min_eq_left h]
  ·rw [Nat.min_eq_right h,List.drop_length,List.drop_of_length_le h]
 have htl:((x.s 0).c.take kn).length=kn:=by rw [List.length_take];omega
 have hA:readA x n=(x.s 0).c.take kn:=by unfold readA;rw [if_neg (by omega),htk]
 have hB:readB x n=x.up 0 fun s=>{ s with c:=s.c.drop n.toNat }:=if_neg (by omega)
 refine qv K2<|sr fun _ K5=>?_
 refine yv y_mv<|yv y_mv<|yv y_np<|yv (y_f 1 69 Tryz.underlying71 sz69)<|yv (y_f 0 30 Tryz.underlying69 sz30)<|yv (y_l1 ag30 rfl)<|yv (y_len Tryz.underlying30 rfl) ?_;refine yv (y_to (v':=.int .i64 (kn:Int)) (y_min rfl rfl) (by (congr 1;omega))) ?_;refine yv y_as<|fk [(0,_),(1,_)] K5 ?_;refine sr fun _ K6=>?_
 refine yv y_mv<|yv y_np<|yv (y_f 1 69 Tryz.underlying71 sz69)<|yv (y_f 0 30 Tryz.underlying69 sz30)<|yv (y_l1 ag30 rfl)<|yv y_mv<|yv (y_slo_xoxN Tryz.underlying30 sz5 rfl rfl (by omega)) ?_;refine yv y_as<|fk [(0,_),(1,_),(5,_)] K6 ?_;refine sr fun _ K7=>?_
 refine yv y_mv<|yv y_mv<|yv y_np<|yv (y_f 1 69 Tryz.underlying71 sz69)<|yv (y_f 0 30 Tryz.underlying69 sz30)<|yv (y_l1 ag30 rfl)<|yv y_mv<|yv (y_slo_oxxN Tryz.underlying30 sz5 rfl rfl (by omega)) ?_;refine yv y_np<|yv (y_f 1 69 Tryz.underlying71 sz69)<|yv (y_f 0 30 Tryz.underlying69 sz30)<|Hd.store1 sz30 rfl rfl rfl pkk (by simp;done) ?_
 try simp only [hyS]
 refine Hd.nil<|Hd.ownSplit (e:=5) (ad:=i.a0) (m:=(x.s 0).c.length) (cap:=i.c0) (us:=bsl (x.s 0).c) pkk kn (bsl ((x.s 0).c.take kn)) (bsl ((x.s 0).c.drop kn)) hkl (by unfold bsl;rw [←List.map_append,List.take_append_drop]) (by unfold bsl;rw [List.length_map,htl,Nat.mul_one]) ?_;refine Hd.heap (RbP b (x.up 0 fun s=>{ s with c:=s.c.drop n.toNat })::own 5 1 i.a0 kn kn (bsl ((x.s 0).c.take kn))::L) (fun q s=>rb_put (fd:=x.fd) (x':=x.up 0 fun s=>{ s with c:=s.c.drop n.toNat }) (a0:=cutA i.a0 1 kn i.c0) (c0:=i.c0 - kn) (a1:=i.a1) (c1:=i.c1) (s:={ x.s 0 with c:=(x.s 0).c.drop kn }) (t:=x.s 1) (by show { x.s 0 with c:=(x.s 0).c.drop n.toNat }=_;rw [hdk]) rfl rfl q (Ent.sep (.eq pkk (pt_eq (by simp only [encRb,List.length_drop])) (.eq pkk (own_eq3 (by rw [List.length_drop]) rfl rfl) enn)) q s)) ?_;refine sk [(5,_)] K7 ?_;refine sr fun _ K8=>?_
 refine yv y_mv<|yv y_as<|fk [(4,_)] K8 ?_;refine Hd.ret ?_;rw [hA,htl,hB];exact Hd.ret1 rfl (i.a0,i.c0) rfl sq
theorem andor {a b:Bool} {p q:Prop} [Decidable p] [Decidable q] (h:(a=false∨b=true)∨¬ p∧¬ q):((a && !b) && (decide p || decide q))=false:=by
 rcases h with (h | h) | ⟨h1,h2⟩
 ·rw [h];rfl
 ·rw [h];cases a<;>rfl
 ·rw [decide_eq_false h1,decide_eq_false h2];exact Bool.and_false _
theorem andn {a b:Bool} {p:Prop} [Decidable p] (h:(a=false∨b=true)∨¬ p):((a && !b) && decide p)=false:=by
 rcases h with (h | h) | h
 ·rw [h];rfl
 ·rw [h];cases a<;>rfl
 ·rw [decide_eq_false h];exact Bool.and_false _
theorem rwants26_ct (L:List SP) (b:Nat) (x:BfA):Ct Tryz.prog 31 #[.pointer (some ⟨b,0,none⟩)] (RbP b x::L) (fun _:Unit=>.int .i64 (wantsA x)) (fun _:Unit=>RbP b x::L):=by
 refine Ct.o1 Tryz.func31 ?_;intro E
 show Hd E 66 _ _ _ _
 refine Hd.rb .here (fun i=>?_);refine sr fun _ K1=>?_
 refine yv y_as<|fk [(0,_)] K1 ?_;refine sr fun _ K2=>?_
 refine yv y_as<|fk [(0,_),(3,_)] K2 ?_;refine Hd.seq fun _ K3=>?_
 refine Hd.seq fun _ K4=>?_
 refine Hd.quiet mixed kq ?_;refine Hq.yv y_mv ?_;refine Hq.yv y_np ?_;refine Hq.yv (y_f 1 69 Tryz.underlying71 sz69) ?_;refine Hq.yv (y_f 1 4 Tryz.underlying69 sz4) ?_;refine Hq.yv (y_l1 ag4 rfl) ?_;refine Hq.yv y_mv ?_;apply Hq.andg 7 9 16 [(0,_),(3,_)] rfl ⟨rfl,rfl,trivial⟩
 ·intro hg2_9
  try simp only [hyZ] at hg2_9
  simp only [List.take];refine Hq.yg rfl rfl y_mv ?_;refine Hq.yg rfl rfl y_np ?_;refine Hq.yg rfl rfl (y_f 1 69 Tryz.underlying71 sz69) ?_;refine Hq.yg rfl rfl (y_f 2 4 Tryz.underlying69 sz4) ?_;refine Hq.yg rfl rfl (y_l1 ag4 rfl) ?_;refine Hq.yg rfl rfl (y_not rfl) ?_;refine Hq.yv (y_pickT rfl rfl) ?_;exact Hq.mend sbq
 ·intro hg2_9
  try simp only [hyZ] at hg2_9
  simp only [List.take];refine Hq.ng rfl rfl rfl ?_;refine Hq.ng rfl rfl rfl ?_;refine Hq.ng rfl rfl rfl ?_;refine Hq.ng rfl rfl rfl ?_;refine Hq.ng rfl rfl rfl ?_;refine Hq.ng rfl rfl rfl ?_;refine Hq.yv (y_pickF rfl rfl) ?_;exact Hq.mend sbq
 simp only [List.drop];refine Hq.yv y_mv ?_;apply Hq.andg (q:=(decide ((x.s 0).high=0) || decide (((x.s 0).c.length:Int) < (x.s 0).high))) 21 17 38 [(0,_),(3,_)] rfl ⟨rfl,rfl,trivial⟩
 ·intro hg2_17
  try simp only [hyZ] at hg2_17
  simp only [List.take];refine Hq.yg rfl rfl y_mv ?_;refine Hq.yg rfl rfl y_np ?_;refine Hq.yg rfl rfl (y_f 1 69 Tryz.underlying71 sz69) ?_;refine Hq.yg rfl rfl (y_f 4 3 Tryz.underlying69 sz3) ?_;refine Hq.yg rfl rfl (y_l1 ag3 rfl) ?_;refine Hq.yg rfl rfl (y_eql rfl rfl) ?_;refine Hq.yg rfl rfl y_mv ?_;apply Hq.org 13 24 37 [(0,_),(3,_),(17,_)] rfl ⟨rfl,rfl,rfl,trivial⟩
  ·intro hg2_24
   try simp only [hyZ] at hg2_24
   simp only [List.take];refine Hq.ng rfl rfl rfl ?_;refine Hq.ng rfl rfl rfl ?_;refine Hq.ng rfl rfl rfl ?_;refine Hq.ng rfl rfl rfl ?_;refine Hq.ng rfl rfl rfl ?_;refine Hq.ng rfl rfl rfl ?_;refine Hq.ng rfl rfl rfl ?_;refine Hq.ng rfl rfl rfl ?_;refine Hq.ng rfl rfl rfl ?_;refine Hq.ng rfl rfl rfl ?_;refine Hq.ng rfl rfl rfl ?_;refine Hq.ng rfl rfl rfl ?_;refine Hq.yg rfl rfl (y_pickT rfl rfl) ?_;exact Hq.mend sbq
  ·intro hg2_24
   try simp only [hyZ] at hg2_24
   simp only [List.take];refine Hq.yg rfl rfl y_mv ?_;refine Hq.yg rfl rfl y_np ?_;refine Hq.yg rfl rfl (y_f 1 69 Tryz.underlying71 sz69) ?_;refine Hq.yg rfl rfl (y_f 0 30 Tryz.underlying69 sz30) ?_;refine Hq.yg rfl rfl (y_l1 ag30 rfl) ?_;refine Hq.yg rfl rfl (y_len Tryz.underlying30 rfl) ?_;refine Hq.yg rfl rfl y_mv ?_;refine Hq.yg rfl rfl y_np ?_;refine Hq.yg rfl rfl (y_f 1 69 Tryz.underlying71 sz69) ?_;refine Hq.yg rfl rfl (y_f 4 3 Tryz.underlying69 sz3) ?_;refine Hq.yg rfl rfl (y_l1 ag3 rfl) ?_;refine Hq.yg rfl rfl (y_lss rfl rfl) ?_;refine Hq.yg rfl rfl (y_pickF rfl rfl) ?_;exact Hq.mend sbq
  simp only [List.drop];refine Hq.yv (y_pickT rfl rfl) ?_;exact Hq.mend sbq
 ·intro hg2_17
  try simp only [hyZ] at hg2_17
  simp only [List.take];refine Hq.ng rfl rfl rfl ?_;refine Hq.ng rfl rfl rfl ?_;refine Hq.ng rfl rfl rfl ?_;refine Hq.ng rfl rfl rfl ?_;refine Hq.ng rfl rfl rfl ?_;refine Hq.ng rfl rfl rfl ?_;refine Hq.ng rfl rfl rfl ?_;refine Hq.ng rfl rfl rfl ?_;refine Hq.ng rfl rfl rfl ?_;refine Hq.ng rfl rfl rfl ?_;refine Hq.ng rfl rfl rfl ?_;refine Hq.ng rfl rfl rfl ?_;refine Hq.ng rfl rfl rfl ?_;refine Hq.ng rfl rfl rfl ?_;refine Hq.ng rfl rfl rfl ?_;refine Hq.ng rfl rfl rfl ?_;refine Hq.ng rfl rfl rfl ?_;refine Hq.ng rfl rfl rfl ?_;refine Hq.ng rfl rfl rfl ?_;refine Hq.ng rfl rfl rfl ?_;refine Hq.yv (y_pickF rfl rfl) ?_;exact Hq.mend sbq
 simp only [List.drop];refine Hq.nil ?_;refine sk [(0,_),(3,_),(38,_)] K4 ?_;refine qz ?_ ?_<;>intro hc0<;>try simp only [hyZ] at hc0
 ·have w0:wa0 (x.s 0)=true:=by unfold wa0;simpa using hc0
  refine Hd.region<|yv y_mv<|yv (y_addn rfl rfl (by simp only [InK];omega)) ?_;refine yv y_as<|fk [(0,_),(3,_)] K3 ?_;refine Hd.seq fun _ K5=>?_
  refine sr fun _ K6=>?_
  refine yv y_mv<|yv y_np<|yv (y_f 8 69 Tryz.underlying71 sz69)<|yv (y_f 1 4 Tryz.underlying69 sz4)<|yv (y_l1 ag4 rfl)<|yv y_mv ?_;apply Hd.andg 7 46 53 [(0,_),(3,_)] rfl sbq
  ·intro hg4_46
   try simp only [hyZ] at hg4_46
   simp only [List.take];refine y2 y_mv<|y2 y_np<|y2 (y_f 8 69 Tryz.underlying71 sz69)<|y2 (y_f 2 4 Tryz.underlying69 sz4)<|y2 (y_l1 ag4 rfl)<|y2 (y_not rfl)<|yv (y_pickT rfl rfl) ?_;exact Hd.mn
  ·intro hg4_46
   try simp only [hyZ] at hg4_46
   simp only [List.take];refine n1<|n1<|n1<|n1<|n1<|n1<|yv (y_pickF rfl rfl) ?_;exact Hd.mn
  simp only [List.drop];refine yv y_mv ?_;apply Hd.andg 8 54 62 [(3,_)] rfl sbq
  ·intro hg4_54
   try simp only [hyZ] at hg4_54
   simp only [List.take];refine y2 y_mv<|y2 y_np<|y2 (y_f 8 69 Tryz.underlying71 sz69)<|y2 (y_f 0 30 Tryz.underlying69 sz30)<|y2 (y_l1 ag30 rfl)<|y2 (y_len Tryz.underlying30 rfl) ?_;refine y2 (y_gtr rfl rfl) ?_;refine yv (y_pickT rfl rfl) ?_;exact Hd.mn
  ·intro hg4_54
   try simp only [hyZ] at hg4_54
   simp only [List.take];refine n1<|n1<|n1<|n1<|n1<|n1<|n1<|yv (y_pickF rfl rfl) ?_;exact Hd.mn
  simp only [List.drop];refine fk [(3,_),(62,_)] K6 ?_;refine qz ?_ ?_<;>intro hc1<;>try simp only [hyZ] at hc1
  ·have w1:wa1 (x.s 1)=true:=by unfold wa1;simpa using hc1
   refine Hd.region<|yv y_mv<|yv (y_addn rfl rfl (by simp only [InK];omega)) ?_;refine yv y_as<|fk [(3,_)] K5 ?_;refine sr fun _ K7=>?_
   refine yv y_mv<|yv y_as<|fk [(2,_)] K7 ?_;refine Hd.ret ?_;exact Hd.ret1 rfl () (by rw [wantsA_eq,w0,w1];rfl) rb_fold
  have w1:wa1 (x.s 1)=false:=andn (hc1.imp id (fun h=>by omega))
  refine qv K5<|sr fun _ K8=>?_
  refine yv y_mv<|yv y_as<|fk [(2,_)] K8 ?_;refine Hd.ret ?_;exact Hd.ret1 rfl () (by rw [wantsA_eq,w0,w1];rfl) rb_fold
 have w0:wa0 (x.s 0)=false:=andor (hc0.imp id (fun h=>⟨by omega,by omega⟩))
 refine qv K3<|Hd.seq fun _ K9=>?_
 refine sr fun _ K10=>?_
 refine yv y_mv<|yv y_np<|yv (y_f 8 69 Tryz.underlying71 sz69)<|yv (y_f 1 4 Tryz.underlying69 sz4)<|yv (y_l1 ag4 rfl)<|yv y_mv ?_;apply Hd.andg 7 46 53 [(0,_),(3,_)] rfl sbq
 ·intro hg4_46
  try simp only [hyZ] at hg4_46
  simp only [List.take];refine y2 y_mv<|y2 y_np<|y2 (y_f 8 69 Tryz.underlying71 sz69)<|y2 (y_f 2 4 Tryz.underlying69 sz4)<|y2 (y_l1 ag4 rfl)<|y2 (y_not rfl)<|yv (y_pickT rfl rfl) ?_;exact Hd.mn
 ·intro hg4_46
  try simp only [hyZ] at hg4_46
  simp only [List.take];refine n1<|n1<|n1<|n1<|n1<|n1<|yv (y_pickF rfl rfl) ?_;exact Hd.mn
 simp only [List.drop];refine yv y_mv ?_;apply Hd.andg 8 54 62 [(3,_)] rfl sbq
 ·intro hg4_54
  try simp only [hyZ] at hg4_54
  simp only [List.take];refine y2 y_mv<|y2 y_np<|y2 (y_f 8 69 Tryz.underlying71 sz69)<|y2 (y_f 0 30 Tryz.underlying69 sz30)<|y2 (y_l1 ag30 rfl)<|y2 (y_len Tryz.underlying30 rfl) ?_;refine y2 (y_gtr rfl rfl) ?_;refine yv (y_pickT rfl rfl) ?_;exact Hd.mn
 ·intro hg4_54
  try simp only [hyZ] at hg4_54
  simp only [List.take];refine n1<|n1<|n1<|n1<|n1<|n1<|n1<|yv (y_pickF rfl rfl) ?_;exact Hd.mn
 simp only [List.drop];refine fk [(3,_),(62,_)] K10 ?_;refine qz ?_ ?_<;>intro hc1<;>try simp only [hyZ] at hc1
 ·have w1:wa1 (x.s 1)=true:=by unfold wa1;simpa using hc1
  refine Hd.region<|yv y_mv<|yv (y_addn rfl rfl (by simp only [InK];omega)) ?_;refine yv y_as<|fk [(3,_)] K9 ?_;refine sr fun _ K11=>?_
  refine yv y_mv<|yv y_as<|fk [(2,_)] K11 ?_;refine Hd.ret ?_;exact Hd.ret1 rfl () (by rw [wantsA_eq,w0,w1];rfl) rb_fold
 have w1:wa1 (x.s 1)=false:=andn (hc1.imp id (fun h=>by omega))
 refine qv K9<|sr fun _ K12=>?_
 refine yv y_mv<|yv y_as<|fk [(2,_)] K12 ?_;refine Hd.ret ?_;exact Hd.ret1 rfl () (by rw [wantsA_eq,w0,w1];rfl) rb_fold
theorem renabled_ct (L:List SP) (b:Nat) (x:BfA):Ct Tryz.prog 33 #[.pointer (some ⟨b,0,none⟩)] (RbP b x::L) (fun _:Unit=>.int .i64 (onM x (sidesA 6))) (fun _:Unit=>RbP b x::L):=by
 refine Ct.o1 Tryz.func33 ?_;intro E
 show Hd E 19 _ _ _ _
 refine Hd.rb .here (fun i=>?_);refine sr fun _ K1=>?_
 refine yv y_as<|fk [(0,_)] K1 ?_;refine sr fun _ K2=>?_
 refine yv y_as<|fk [(0,_),(3,_)] K2 ?_;refine Hd.seq fun _ K3=>?_
 refine sr fun _ K4=>?_
 refine yv y_mv<|yv y_np<|yv (y_f 1 69 Tryz.underlying71 sz69)<|yv (y_f 1 4 Tryz.underlying69 sz4)<|yv (y_l1 ag4 rfl)<|fk [(0,_),(3,_),(8,_)] K4 ?_;refine qz ?_ ?_<;>intro hc0<;>try simp only [hyZ] at hc0
 ·refine Hd.region ?_
  refine yv y_mv<|yv (y_addn rfl rfl (by simp only [InK];omega)) ?_;refine yv y_as<|fk [(0,_),(3,_)] K3 ?_;refine Hd.seq fun _ K5=>?_
  refine sr fun _ K6=>?_
  refine yv y_mv<|yv y_np<|yv (y_f 8 69 Tryz.underlying71 sz69)<|yv (y_f 1 4 Tryz.underlying69 sz4)<|yv (y_l1 ag4 rfl)<|fk [(3,_),(15,_)] K6 ?_;refine qz ?_ ?_<;>intro hc1<;>try simp only [hyZ] at hc1
  ·refine Hd.region ?_
   refine yv y_mv<|yv (y_addn rfl rfl (by simp only [InK];omega)) ?_;refine yv y_as<|fk [(3,_)] K5 ?_;refine sr fun _ K7=>?_
   refine yv y_mv<|yv y_as<|fk [(2,_)] K7 ?_;refine Hd.ret ?_;exact Hd.ret1 rfl () (by rw [onM6,hc0,hc1];rfl) rb_fold
  refine qv K5<|sr fun _ K8=>?_
  refine yv y_mv<|yv y_as<|fk [(2,_)] K8 ?_;refine Hd.ret ?_;exact Hd.ret1 rfl () (by rw [onM6,hc0,hc1];rfl) rb_fold
 refine qv K3<|Hd.seq fun _ K9=>?_
 refine sr fun _ K10=>?_
 refine yv y_mv<|yv y_np<|yv (y_f 8 69 Tryz.underlying71 sz69)<|yv (y_f 1 4 Tryz.underlying69 sz4)<|yv (y_l1 ag4 rfl)<|fk [(3,_),(15,_)] K10 ?_;refine qz ?_ ?_<;>intro hc1<;>try simp only [hyZ] at hc1
 ·refine Hd.region ?_
  refine yv y_mv<|yv (y_addn rfl rfl (by simp only [InK];omega)) ?_;refine yv y_as<|fk [(3,_)] K9 ?_;refine sr fun _ K11=>?_
  refine yv y_mv<|yv y_as<|fk [(2,_)] K11 ?_;refine Hd.ret ?_;exact Hd.ret1 rfl () (by rw [onM6,hc0,hc1];rfl) rb_fold
 refine qv K9<|sr fun _ K12=>?_
 refine yv y_mv<|yv y_as<|fk [(2,_)] K12 ?_;refine Hd.ret ?_;exact Hd.ret1 rfl () (by rw [onM6,hc0,hc1];rfl) rb_fold
theorem rdeadline26_ct (L:List SP) (b:Nat) (x:BfA):Ct Tryz.prog 35 #[.pointer (some ⟨b,0,none⟩)] (RbP b x::L) (fun _:Unit=>.int .u64 (min (x.s 0).at_ (x.s 1).at_)) (fun _:Unit=>RbP b x::L):=by
 refine Ct.o1 Tryz.func35 ?_;intro E
 show Hd E 14 _ _ _ _
 refine Hd.rb .here (fun i=>?_);refine sr fun _ K1=>?_
 refine yv y_as<|fk [(0,_)] K1 ?_;refine Hd.seq fun _ K2=>?_
 refine Hd.quiet mixed kq ?_;refine Hq.yv y_mv ?_;refine Hq.yv y_np ?_;refine Hq.yv (y_f 1 69 Tryz.underlying71 sz69) ?_;refine Hq.yv (y_f 6 29 Tryz.underlying69 sz29) ?_;refine Hq.yv (y_l1 ag29 rfl) ?_;refine Hq.yv y_mv ?_;refine Hq.yv y_np ?_;refine Hq.yv (y_f 8 69 Tryz.underlying71 sz69) ?_;refine Hq.yv (y_f 6 29 Tryz.underlying69 sz29) ?_;refine Hq.yv (y_l1 ag29 rfl) ?_;refine Hq.yv (y_min rfl rfl) ?_;refine Hq.yv y_as ?_;refine Hq.nil ?_;refine sk [(2,_)] K2 ?_;refine Hd.ret ?_;exact Hd.ret1 rfl () rfl rb_fold
abbrev ToQ (bt:Nat) (t:ToA):SP:=pt bt (encT t) 62
theorem lt_s {x:BfA} {now:Int} {k:Nat} (hk:k < 2):(effB (ltF now) x (sidesA 6)).s k=if lateK now (x.s k)=true then { x.s k with on:=false,at_:=NV } else x.s k:=by
 rw [effS _ _ _ hk,if_pos (by rcases (show k=0∨k=1 by omega) with rfl | rfl<;>decide)];rfl
theorem lk_yes {now:Int} {s:SdA} (h:s.at_≠18446744073709551615∧s.at_≤now):lateK now s=true:=by
 unfold lateK NV;simp only [Bool.not_eq_true',Bool.or_eq_false_iff,decide_eq_false_iff_not];omega
theorem lk_no {now:Int} {s:SdA} (h:¬ (s.at_≠18446744073709551615∧s.at_≤now)):lateK now s=false:=by
 unfold lateK NV;simp only [Bool.not_eq_false',Bool.or_eq_true,decide_eq_true_eq];omega
theorem rlate_ct (L:List SP) (b:Nat) (x:BfA) (now:Int):Ct Tryz.prog 28 #[.pointer (some ⟨b,0,none⟩),.int .u64 now] (RbP b x::L) (fun _:Unit=>.agg (encT { noT with ev:=lateT x now (sidesA 6) }).toArray) (fun _:Unit=>RbP b (effB (ltF now) x (sidesA 6))::L):=by
 refine Ct.o2 Tryz.func28 ?_;intro E
 show Hd E 60 _ _ _ _
 refine Hd.rb .here (fun i=>?_);refine sr fun _ K1=>?_
 refine Hd.alloc zr62 (fun b4=>?_);refine fk [(0,_),(1,_),(4,_)] K1 ?_;refine sr fun _ K2=>?_
 refine Hd.alloc zr62 (fun b5=>?_);refine fk [(0,_),(1,_),(4,_),(5,_)] K2 ?_;refine Hd.seq fun _ K3=>?_
 refine sr fun _ K4=>?_
 refine yv y_mv<|yv y_np<|yv (y_f 1 69 Tryz.underlying71 sz69)<|yv (y_f 6 29 Tryz.underlying69 sz29)<|yv (y_l1 ag29 rfl)<|yv (y_neq rfl rfl) ?_;refine yv y_mv ?_;apply Hd.andg 8 12 20 [(0,_),(1,_),(4,_),(5,_)] rfl sbq
 ·intro hg2_12
  try simp only [hyZ] at hg2_12
  simp only [List.take];refine y2 y_mv<|y2 y_np<|y2 (y_f 1 69 Tryz.underlying71 sz69)<|y2 (y_f 6 29 Tryz.underlying69 sz29)<|y2 (y_l1 ag29 rfl)<|y2 y_mv<|y2 (y_leq rfl rfl) ?_;refine yv (y_pickT rfl rfl) ?_;exact Hd.mn
 ·intro hg2_12
  try simp only [hyZ] at hg2_12
  simp only [List.take];refine n1<|n1<|n1<|n1<|n1<|n1<|n1<|yv (y_pickF rfl rfl) ?_;exact Hd.mn
 simp only [List.drop];refine fk [(0,_),(1,_),(4,_),(5,_),(20,_)] K4 ?_;refine qz ?_ ?_<;>intro hc0<;>try simp only [hyZ] at hc0
 ·have k0:=lk_yes (now:=now) (s:=x.s 0) (by omega)
  have e0:=(lt_s (x:=x) (now:=now) (show 0 < 2 by decide)).trans (if_pos k0)
  refine sr fun _ K5=>?_
  refine yv y_mv<|yv y_np<|yv (y_f 1 69 Tryz.underlying71 sz69)<|yv (y_f 1 4 Tryz.underlying69 sz4)<|Hd.store1 sz4 rfl rfl rfl pkk (by simp;done) ?_
  try simp only [hyS]
  refine fk [(0,_),(1,_),(4,_),(5,_)] K5 ?_;refine sr fun _ K6=>?_
  refine yv y_mv<|yv y_np<|yv (y_f 1 69 Tryz.underlying71 sz69)<|yv (y_f 6 29 Tryz.underlying69 sz29)<|Hd.store1 sz29 rfl rfl rfl pkk (by simp;done) ?_
  try simp only [hyS]
  refine fk [(0,_),(1,_),(4,_),(5,_)] K6 ?_;refine Hd.region<|yv (y_f 2 3 Tryz.underlying62 sz3)<|Hd.store1 sz3 rfl rfl rfl pkk (by decide) ?_
  try simp only [hyS]
  refine fk [(0,_),(1,_),(4,_),(5,_)] K3 ?_;refine Hd.seq fun _ K7=>?_
  refine sr fun _ K8=>?_
  refine yv y_mv<|yv y_np<|yv (y_f 8 69 Tryz.underlying71 sz69)<|yv (y_f 6 29 Tryz.underlying69 sz29)<|yv (y_l1 ag29 rfl)<|yv (y_neq rfl rfl) ?_;refine yv y_mv ?_;apply Hd.andg 8 36 44 [(0,_),(4,_),(5,_)] rfl sbq
  ·intro hg6_36
   try simp only [hyZ] at hg6_36
   simp only [List.take];refine y2 y_mv<|y2 y_np<|y2 (y_f 8 69 Tryz.underlying71 sz69)<|y2 (y_f 6 29 Tryz.underlying69 sz29)<|y2 (y_l1 ag29 rfl)<|y2 y_mv<|y2 (y_leq rfl rfl) ?_;refine yv (y_pickT rfl rfl) ?_;exact Hd.mn
  ·intro hg6_36
   try simp only [hyZ] at hg6_36
   simp only [List.take];refine n1<|n1<|n1<|n1<|n1<|n1<|n1<|yv (y_pickF rfl rfl) ?_;exact Hd.mn
  simp only [List.drop];refine fk [(0,_),(4,_),(5,_),(44,_)] K8 ?_;refine qz ?_ ?_<;>intro hc1<;>try simp only [hyZ] at hc1
  ·have k1:=lk_yes (now:=now) (s:=x.s 1) (by omega)
   have e1:=(lt_s (x:=x) (now:=now) (show 1 < 2 by decide)).trans (if_pos k1)
   refine sr fun _ K9=>?_
   refine yv y_mv<|yv y_np<|yv (y_f 8 69 Tryz.underlying71 sz69)<|yv (y_f 1 4 Tryz.underlying69 sz4)<|Hd.store1 sz4 rfl rfl rfl pkk (by simp;done) ?_
   try simp only [hyS]
   refine fk [(0,_),(4,_),(5,_)] K9 ?_;refine sr fun _ K10=>?_
   refine yv y_mv<|yv y_np<|yv (y_f 8 69 Tryz.underlying71 sz69)<|yv (y_f 6 29 Tryz.underlying69 sz29)<|Hd.store1 sz29 rfl rfl rfl pkk (by simp;done) ?_
   try simp only [hyS]
   refine fk [(4,_),(5,_)] K10 ?_;refine Hd.region<|yv (y_f 2 3 Tryz.underlying62 sz3)<|yv (y_l1 ag3 rfl)<|yv (y_remn rfl rfl (by omega) (by omega)) ?_;refine yv (y_addn rfl rfl (by simp only [InK];omega)) ?_;refine yv (y_addn rfl rfl (by simp only [InK];omega)) ?_;refine yv (y_f 2 3 Tryz.underlying62 sz3)<|Hd.store1 sz3 rfl rfl rfl pkk (by decide) ?_
   try simp only [hyS]
   refine fk [(4,_),(5,_)] K7 ?_;refine Hd.seq fun _ K11=>?_
   refine Hd.heap (RbP b (effB (ltF now) x (sidesA 6))::_) (fun q s=>rb_put (fd:=x.fd) (a0:=i.a0) (c0:=i.c0) (a1:=i.a1) (c1:=i.c1) e0 e1 rfl q (by exact Ent.sep enn q s)) ?_;refine Hd.heap (ToQ b5 { noT with ev:=lateT x now (sidesA 6) }::_) (fun q s=>Ent.sep (.eq pkk (pt_eq (by rw [late6,k0,k1];rfl)) .same) q s) ?_;refine Hd.region<|yv (y_loadn (us:=encT { noT with ev:=lateT x now (sidesA 6) }) ag62 rfl (Rd.pt pkk (fun j v e=>by rw [Nat.zero_add];exact e)) (by exact sz62)) ?_;refine Hd.storeA (us:=encT { noT with ev:=lateT x now (sidesA 6) }) sz62 rfl rfl rfl (by simp [Value.oneCell']) pkk (by exact rfl) ?_;refine fk [(4,_)] K11 ?_;refine Hd.ret ?_;exact Hd.retC rfl () ag62 rfl (Rd.pt (us:=encT { noT with ev:=lateT x now (sidesA 6) }) pkk (fun j v e=>by rw [Nat.zero_add];exact e)) (by exact sz62) rfl sq
  have k1:=lk_no (now:=now) (s:=x.s 1) (by omega)
  have e1:=(lt_s (x:=x) (now:=now) (show 1 < 2 by decide)).trans (if_neg (by rw [k1];decide))
  refine qv K7<|Hd.seq fun _ K12=>?_
  refine Hd.heap (RbP b (effB (ltF now) x (sidesA 6))::_) (fun q s=>rb_put (fd:=x.fd) (a0:=i.a0) (c0:=i.c0) (a1:=i.a1) (c1:=i.c1) e0 e1 rfl q (by exact Ent.sep enn q s)) ?_;refine Hd.heap (ToQ b5 { noT with ev:=lateT x now (sidesA 6) }::_) (fun q s=>Ent.sep (.eq pkk (pt_eq (by rw [late6,k0,k1];rfl)) .same) q s) ?_;refine Hd.region<|yv (y_loadn (us:=encT { noT with ev:=lateT x now (sidesA 6) }) ag62 rfl (Rd.pt pkk (fun j v e=>by rw [Nat.zero_add];exact e)) (by exact sz62)) ?_;refine Hd.storeA (us:=encT { noT with ev:=lateT x now (sidesA 6) }) sz62 rfl rfl rfl (by simp [Value.oneCell']) pkk (by exact rfl) ?_;refine fk [(4,_)] K12 ?_;refine Hd.ret ?_;exact Hd.retC rfl () ag62 rfl (Rd.pt (us:=encT { noT with ev:=lateT x now (sidesA 6) }) pkk (fun j v e=>by rw [Nat.zero_add];exact e)) (by exact sz62) rfl sq
 have k0:=lk_no (now:=now) (s:=x.s 0) (by omega)
 have e0:=(lt_s (x:=x) (now:=now) (show 0 < 2 by decide)).trans (if_neg (by rw [k0];decide))
 refine qv K3<|Hd.seq fun _ K13=>?_
 refine sr fun _ K14=>?_
 refine yv y_mv<|yv y_np<|yv (y_f 8 69 Tryz.underlying71 sz69)<|yv (y_f 6 29 Tryz.underlying69 sz29)<|yv (y_l1 ag29 rfl)<|yv (y_neq rfl rfl) ?_;refine yv y_mv ?_;apply Hd.andg 8 36 44 [(0,_),(4,_),(5,_)] rfl sbq
 ·intro hg6_36
  try simp only [hyZ] at hg6_36
  simp only [List.take];refine y2 y_mv<|y2 y_np<|y2 (y_f 8 69 Tryz.underlying71 sz69)<|y2 (y_f 6 29 Tryz.underlying69 sz29)<|y2 (y_l1 ag29 rfl)<|y2 y_mv<|y2 (y_leq rfl rfl) ?_;refine yv (y_pickT rfl rfl) ?_;exact Hd.mn
 ·intro hg6_36
  try simp only [hyZ] at hg6_36
  simp only [List.take];refine n1<|n1<|n1<|n1<|n1<|n1<|n1<|yv (y_pickF rfl rfl) ?_;exact Hd.mn
 simp only [List.drop];refine fk [(0,_),(4,_),(5,_),(44,_)] K14 ?_;refine qz ?_ ?_<;>intro hc1<;>try simp only [hyZ] at hc1
 ·have k1:=lk_yes (now:=now) (s:=x.s 1) (by omega)
  have e1:=(lt_s (x:=x) (now:=now) (show 1 < 2 by decide)).trans (if_pos k1)
  refine sr fun _ K15=>?_
  refine yv y_mv<|yv y_np<|yv (y_f 8 69 Tryz.underlying71 sz69)<|yv (y_f 1 4 Tryz.underlying69 sz4)<|Hd.store1 sz4 rfl rfl rfl pkk (by simp;done) ?_
  try simp only [hyS]
  refine fk [(0,_),(4,_),(5,_)] K15 ?_;refine sr fun _ K16=>?_
  refine yv y_mv<|yv y_np<|yv (y_f 8 69 Tryz.underlying71 sz69)<|yv (y_f 6 29 Tryz.underlying69 sz29)<|Hd.store1 sz29 rfl rfl rfl pkk (by simp;done) ?_
  try simp only [hyS]
  refine fk [(4,_),(5,_)] K16 ?_;refine Hd.region<|yv (y_f 2 3 Tryz.underlying62 sz3)<|yv (y_l1 ag3 rfl)<|yv (y_remn rfl rfl (by omega) (by omega)) ?_;refine yv (y_addn rfl rfl (by simp only [InK];omega)) ?_;refine yv (y_addn rfl rfl (by simp only [InK];omega)) ?_;refine yv (y_f 2 3 Tryz.underlying62 sz3)<|Hd.store1 sz3 rfl rfl rfl pkk (by decide) ?_
  try simp only [hyS]
  refine fk [(4,_),(5,_)] K13 ?_;refine Hd.seq fun _ K17=>?_
  refine Hd.heap (RbP b (effB (ltF now) x (sidesA 6))::_) (fun q s=>rb_put (fd:=x.fd) (a0:=i.a0) (c0:=i.c0) (a1:=i.a1) (c1:=i.c1) e0 e1 rfl q (by exact Ent.sep enn q s)) ?_;refine Hd.heap (ToQ b5 { noT with ev:=lateT x now (sidesA 6) }::_) (fun q s=>Ent.sep (.eq pkk (pt_eq (by rw [late6,k0,k1];rfl)) .same) q s) ?_;refine Hd.region<|yv (y_loadn (us:=encT { noT with ev:=lateT x now (sidesA 6) }) ag62 rfl (Rd.pt pkk (fun j v e=>by rw [Nat.zero_add];exact e)) (by exact sz62)) ?_;refine Hd.storeA (us:=encT { noT with ev:=lateT x now (sidesA 6) }) sz62 rfl rfl rfl (by simp [Value.oneCell']) pkk (by exact rfl) ?_;refine fk [(4,_)] K17 ?_;refine Hd.ret ?_;exact Hd.retC rfl () ag62 rfl (Rd.pt (us:=encT { noT with ev:=lateT x now (sidesA 6) }) pkk (fun j v e=>by rw [Nat.zero_add];exact e)) (by exact sz62) rfl sq
 have k1:=lk_no (now:=now) (s:=x.s 1) (by omega)
 have e1:=(lt_s (x:=x) (now:=now) (show 1 < 2 by decide)).trans (if_neg (by rw [k1];decide))
 refine qv K13<|Hd.seq fun _ K18=>?_
 refine Hd.heap (RbP b (effB (ltF now) x (sidesA 6))::_) (fun q s=>rb_put (fd:=x.fd) (a0:=i.a0) (c0:=i.c0) (a1:=i.a1) (c1:=i.c1) e0 e1 rfl q (by exact Ent.sep enn q s)) ?_;refine Hd.heap (ToQ b5 { noT with ev:=lateT x now (sidesA 6) }::_) (fun q s=>Ent.sep (.eq pkk (pt_eq (by rw [late6,k0,k1];rfl)) .same) q s) ?_;refine Hd.region<|yv (y_loadn (us:=encT { noT with ev:=lateT x now (sidesA 6) }) ag62 rfl (Rd.pt pkk (fun j v e=>by rw [Nat.zero_add];exact e)) (by exact sz62)) ?_;refine Hd.storeA (us:=encT { noT with ev:=lateT x now (sidesA 6) }) sz62 rfl rfl rfl (by simp [Value.oneCell']) pkk (by exact rfl) ?_;refine fk [(4,_)] K18 ?_;refine Hd.ret ?_;exact Hd.retC rfl () ag62 rfl (Rd.pt (us:=encT { noT with ev:=lateT x now (sidesA 6) }) pkk (fun j v e=>by rw [Nat.zero_add];exact e)) (by exact sz62) rfl sq
theorem eoN (a:Bool) (b:Int) (h:¬ (a=true∨b≠0)):a=false∧b=0:=by
 cases a
 ·exact ⟨rfl,Decidable.byContradiction fun g=>h (.inr g)⟩
 ·exact absurd (.inl rfl) h
theorem rread26_ct (L:List SP) (b rb bt:Nat) (x:BfA) (w:WA) (hw:WOk w) (ht:TmOk x) (hcl:(x.s 0).c.length≤1048576) (hh:InK .i64 (x.s 0).high) (now most:Int) (hn:InK .u64 now) (hm:InK .i64 most):Ct Tryz.prog 76 #[.pointer (some ⟨b,0,none⟩),.pointer (some ⟨rb,0,none⟩),.int .u64 now,.int .i64 most,.pointer (some ⟨bt,0,none⟩)] (RbP b x::Rf.RwP rb w::ToQ bt noT::L) (fun _:Unit=>.tuple #[]) (fun _:Unit=>RbP b (readS ⟨x,w,noT⟩ now most).x::Rf.RwP rb (readS ⟨x,w,noT⟩ now most).w::ToQ bt (readS ⟨x,w,noT⟩ now most).t::L):=by
 refine Ct.o5 Tryz.func76 ?_;intro E
 show Hd E 143 _ _ _ _
 simp only [InK] at hh hm;refine Hd.rb .here (fun i=>?_);refine Hd.ownCap (e:=5) (ad:=i.a0) (m:=(x.s 0).c.length) (cap:=i.c0) pkk (fun hcap=>?_)
 have hS:¬ rdN (x.s 0) most < 1→readS ⟨x,w,noT⟩ now most=rdP ⟨x,w,noT⟩ now (readR w x.fd (rdN (x.s 0) most)):=fun h=>if_neg h
 have hle:=readR_le w x.fd (rdN (x.s 0) most)
 have hend:=readR_end w x.fd (rdN (x.s 0) most)
 obtain ⟨N,hN⟩:∃ N,rdN (x.s 0) most=N:=⟨_,rfl⟩
 have hN0:=hN
 unfold rdN at hN0;rw [hN] at hS hle hend
 obtain ⟨⟨⟨bs,eo,ec⟩,w'⟩,hrr⟩:∃ rr,readR w x.fd N=rr:=⟨_,rfl⟩
 rw [hrr] at hS hle hend;dsimp only at hle hend;refine sr fun _ K1=>?_
 refine yv y_mv<|yv y_mv<|yv y_np<|yv (y_f 1 69 Tryz.underlying71 sz69)<|yv (y_f 0 30 Tryz.underlying69 sz30)<|yv (y_l1 ag30 rfl)<|yv (y_len Tryz.underlying30 rfl) ?_;refine yv (y_subn rfl rfl (by simp only [InK];omega)) ?_;refine yv (y_min rfl rfl) ?_;refine yv (y_min rfl rfl) ?_;refine yv y_as<|fk [(0,_),(1,_),(2,_),(4,_),(10,_)] K1 ?_;refine Hd.cutK (ι:=Unit) [(0,_),(1,_),(2,_),(4,_)] (fun _=>[(10,.int .i64 N)]) (fun _=>RbL b x i (Rf.RwP rb w::ToQ bt noT::L)) ?_ ?_ ⟨rfl,rfl,rfl,rfl,trivial⟩
 ·refine sr fun _ K2=>?_
  refine yv y_mv<|yv y_np<|yv (y_f 1 69 Tryz.underlying71 sz69)<|yv (y_f 4 3 Tryz.underlying69 sz3)<|yv (y_l1 ag3 rfl)<|yv (y_gtr rfl rfl) ?_;refine fk [(0,_),(1,_),(2,_),(4,_),(10,_),(30,_)] K2 ?_;refine qz ?_ ?_<;>intro hc0<;>try simp only [hyZ] at hc0
  ·refine Hd.quiet mixed kq ?_
   refine Hq.yv y_mv ?_;refine Hq.yv y_mv ?_;refine Hq.yv y_np ?_;refine Hq.yv (y_f 1 69 Tryz.underlying71 sz69) ?_;refine Hq.yv (y_f 4 3 Tryz.underlying69 sz3) ?_;refine Hq.yv (y_l1 ag3 rfl) ?_;refine Hq.yv y_mv ?_;refine Hq.yv y_np ?_;refine Hq.yv (y_f 1 69 Tryz.underlying71 sz69) ?_;refine Hq.yv (y_f 0 30 Tryz.underlying69 sz30) ?_;refine Hq.yv (y_l1 ag30 rfl) ?_;refine Hq.yv (y_len Tryz.underlying30 rfl) ?_;refine Hq.yv (y_subn rfl rfl (by simp only [InK];omega)) ?_;refine Hq.yv (y_min rfl rfl) ?_;refine Hq.yv y_as ?_;refine Hq.nil ?_;refine slots [(0,_),(1,_),(2,_),(4,_),(10,_)] sbq ?_;refine thenN ?_;rw [if_pos hc0] at hN0;exact Hd.meet () ⟨congrArg (fun z=>some (Value.int .i64 z)) (by omega),by repeat (first | exact trivial | refine ⟨rfl,?_⟩)⟩ sq
  refine Hd.skip<|thenN ?_;rw [if_neg (by omega)] at hN0;exact Hd.meet () ⟨congrArg (fun z=>some (Value.int .i64 z)) (by omega),by repeat (first | exact trivial | refine ⟨rfl,?_⟩)⟩ sq
 intro _;refine Hd.seq fun _ K3=>?_
 refine sr fun _ K4=>?_
 refine yv y_mv<|yv (y_lss rfl rfl) ?_;refine fk [(0,_),(1,_),(2,_),(4,_),(10,_),(46,_)] K4 ?_;refine qz ?_ ?_<;>intro hc1<;>try simp only [hyZ] at hc1
 ·refine Hd.ret ?_
  refine Hd.thenRet ?_;rw [show readS ⟨x,w,noT⟩ now most=⟨x,w,noT⟩ from if_pos (by rw [hN];exact hc1)];exact Hd.ret0 rfl () rfl (fun q s=>rb_fold q (Ent.sep enn q s))
 have hbl:bs.length≤1048576 - (x.s 0).c.length:=by
  split at hN0<;>omega
 have hap:=addA_app hbl
 refine qv K3<|sr fun _ K5=>?_
 refine yv y_mv<|yv y_mv<|yv y_np<|yv (y_f 0 3 Tryz.underlying71 sz3)<|yv (y_l1 ag3 rfl)<|yv y_mv<|callE rfl fk55 (Rf.rRead_ct _ rb w hw x.fd N) sq ?_;rintro ⟨ad,c⟩;rw [hrr];dsimp only;refine yv y_mv<|yv y_ex<|yv y_ex<|yv y_ex<|yv y_as<|yv y_as<|yv y_as<|fk [(0,_),(2,_),(4,_),(11,_),(12,_),(13,_)] K5 ?_;refine Hd.seq fun _ K6=>?_
 refine sr fun _ K7=>?_
 refine yv y_mv<|yv (y_eql rfl rfl) ?_;refine fk [(0,_),(2,_),(4,_),(11,_),(12,_),(13,_),(59,_)] K7 ?_;refine qz ?_ ?_<;>intro hc2<;>try simp only [hyZ] at hc2
 ·refine Hd.ret ?_
  refine Hd.thenRet ?_
  have heo:eo=false:=by
   cases eo
   ·rfl
   ·have:=hend rfl;omega
  rw [show readS ⟨x,w,noT⟩ now most=⟨x,w',noT⟩ from (hS (by omega)).trans<|(if_neg (by rw [heo];simp)).trans (if_pos hc2)];exact Hd.ret0 rfl () rfl (fun q s=>rb_fold q (Ent.sep enn q s))
 refine qv K6<|Hd.seq fun _ K8=>?_
 refine sr fun _ K9=>?_
 refine yv y_mv<|yv y_mv ?_;apply Hd.org 3 61 64 [(0,_),(2,_),(4,_),(11,_),(12,_),(13,_)] rfl sbq
 ·intro hg6_61
  try simp only [hyZ] at hg6_61
  simp only [List.take];refine n1<|n1<|yv (y_pickT rfl rfl) ?_;exact Hd.mn
 ·intro hg6_61
  try simp only [hyZ] at hg6_61
  simp only [List.take];refine y2 y_mv<|y2 (y_neq rfl rfl) ?_;refine yv (y_pickF rfl rfl) ?_;exact Hd.mn
 simp only [List.drop];refine fk [(0,_),(2,_),(4,_),(11,_),(12,_),(13,_),(64,_)] K9 ?_;refine qz ?_ ?_<;>intro hc3<;>try simp only [hyZ] at hc3
 ·refine sr fun _ K10=>?_
  refine yv y_mv<|yv y_np<|yv (y_f 1 69 Tryz.underlying71 sz69)<|yv (y_f 1 4 Tryz.underlying69 sz4)<|Hd.store1 sz4 rfl rfl rfl pkk (by simp;done) ?_
  try simp only [hyS]
  refine fk [(0,_),(4,_),(12,_),(13,_)] K10 ?_;refine sr fun _ K11=>?_
  refine yv y_mv<|yv y_np<|yv (y_f 1 69 Tryz.underlying71 sz69)<|yv (y_f 2 4 Tryz.underlying69 sz4)<|Hd.store1 sz4 rfl rfl rfl pkk (by simp;done) ?_
  try simp only [hyS]
  refine fk [(0,_),(4,_),(12,_),(13,_)] K11 ?_;refine sr fun _ K12=>?_
  refine yv y_mv<|yv y_np<|yv (y_f 1 69 Tryz.underlying71 sz69)<|yv (y_f 6 29 Tryz.underlying69 sz29)<|Hd.store1 sz29 rfl rfl rfl pkk (by simp;done) ?_
  try simp only [hyS]
  refine fk [(4,_),(12,_),(13,_)] K12 ?_;refine sr fun _ K13=>?_
  refine yv y_mv<|yv y_mv<|yv y_np<|yv (y_f 2 3 Tryz.underlying62 sz3)<|yv (y_l1 ag3 rfl)<|yv (y_add rfl rfl) ?_;refine yv y_np<|yv (y_f 2 3 Tryz.underlying62 sz3)<|Hd.store1 sz3 rfl rfl rfl pkk (by decide) ?_
  try simp only [hyS]
  refine fk [(4,_),(12,_),(13,_)] K13 ?_;refine Hd.seq fun _ K14=>?_
  refine sr fun _ K15=>?_
  refine yv y_mv<|fk [(4,_),(13,_),(85,_)] K15 ?_;refine qz ?_ ?_<;>intro hc4<;>try simp only [hyZ] at hc4
  ·refine Hd.region ?_
   refine yv y_mv<|yv y_mv<|yv y_np<|yv (y_f 2 3 Tryz.underlying62 sz3)<|yv (y_l1 ag3 rfl)<|yv (y_add rfl rfl) ?_;refine yv y_np<|yv (y_f 2 3 Tryz.underlying62 sz3)<|Hd.store1 sz3 rfl rfl rfl pkk (by decide) ?_
   try simp only [hyS]
   refine fk [] K14 ?_;refine Hd.ret<|Hd.thenRet ?_;rw [show readS ⟨x,w,noT⟩ now most=⟨x.up 0 fun s=>stopF s,w',stopT noT 17 0⟩ from (hS (by omega)).trans (if_pos hc4)];exact Hd.ret0 rfl () rfl (fun q s=>rb_put (fd:=x.fd) (a0:=i.a0) (c0:=i.c0) (a1:=i.a1) (c1:=i.c1) (x':=x.up 0 fun s=>stopF s) (s:=stopF (x.s 0)) (t:=x.s 1) rfl rfl rfl q (Ent.sep (.pick pkk (.pick pkk (.pick pkk (.pick pkk (.eq pkk (pt_eq (by rfl)) enn))))) q s))
  refine sr fun _ K16=>?_
  refine yv y_mv<|yv y_mv<|yv y_np<|yv (y_f 2 3 Tryz.underlying62 sz3)<|yv (y_l1 ag3 rfl)<|yv (y_add rfl rfl) ?_;refine yv y_np<|yv (y_f 2 3 Tryz.underlying62 sz3)<|Hd.store1 sz3 rfl rfl rfl pkk (by decide) ?_
  try simp only [hyS]
  refine fk [(4,_),(13,_)] K16 ?_;refine Hd.region<|yv y_mv<|yv y_mv<|yv y_np<|yv (y_f 3 3 Tryz.underlying62 sz3)<|Hd.store1 sz3 rfl rfl rfl pkk (by decide) ?_
  try simp only [hyS]
  refine fk [] K14 ?_;refine Hd.ret<|Hd.thenRet ?_
  have hec:ec≠0:=by
   rcases hc3 with g | g
   ·rw [hc4] at g;exact absurd g (by decide)
   ·exact g
  rw [show readS ⟨x,w,noT⟩ now most=⟨x.up 0 fun s=>stopF s,w',stopT noT 33 ec⟩ from (hS (by omega)).trans<|(if_neg (by rw [hc4];simp)).trans ((if_neg hc2).trans (if_pos hec))];exact Hd.ret0 rfl () rfl (fun q s=>rb_put (fd:=x.fd) (a0:=i.a0) (c0:=i.c0) (a1:=i.a1) (c1:=i.c1) (x':=x.up 0 fun s=>stopF s) (s:=stopF (x.s 0)) (t:=x.s 1) rfl rfl rfl q (Ent.sep (.pick pkk (.pick pkk (.pick pkk (.pick pkk (.eq pkk (pt_eq (by rfl)) enn))))) q s))
 have hc3':=eoN eo ec (by simpa using hc3)
 refine qv K8<|sr fun _ K17=>?_
 refine yv y_as<|fk [(0,_),(2,_),(4,_),(11,_),(14,_)] K17 ?_;refine Hd.seq fun _ K18=>?_
 refine Hd.ownNil 5 1 none ?_;refine Hd.region<|yv y_mv<|yv y_mv<|yv y_np<|yv (y_f 1 69 Tryz.underlying71 sz69)<|yv (y_f 0 30 Tryz.underlying69 sz30)<|yv (y_l1 ag30 rfl)<|Hd.append Tryz.underlying30 ty5 rfl rfl rfl pkk (by first | exact RdS.rd (Rd.pt pkk (fun j v e=>by simpa using e)) rfl | (exact RdS.own pkk)) (by simp [Value.oneCell'];done) (by simp only [maxLen];omega) (by omega) (fun ad112 cap112=>?_);refine yv y_as<|fk [(0,_),(2,_),(4,_),(11,_),(14,_)] K18 ?_;refine sr fun _ K19=>?_
 refine yv y_mv<|yv y_mv<|yv y_mv<|Hd.append Tryz.underlying30 ty5 rfl rfl rfl pkk (by first | exact RdS.rd (Rd.pt pkk (fun j v e=>by simpa using e)) rfl | (exact RdS.own pkk)) (by simp [Value.oneCell'];done) (by simp only [maxLen];omega) (by omega) (fun ad116 cap116=>?_);refine yv y_np<|yv (y_f 1 69 Tryz.underlying71 sz69)<|yv (y_f 0 30 Tryz.underlying69 sz30)<|Hd.store1 sz30 rfl rfl rfl pkk (by simp;done) ?_
 try simp only [hyS]
 refine Hd.nil<|Hd.heap (RbH b x.fd ad116 cap116 { x.s 0 with c:=(x.s 0).c++bs } i.a1 i.c1 (x.s 1)::OwB ad116 cap116 ((x.s 0).c++bs)::OwB i.a1 i.c1 (x.s 1).c::Rf.RwP rb w'::ToQ bt noT::L) (fun q s=>Ent.sep (.eq pkk (pt_eq (by simp only [encRb,List.length_append,Nat.zero_add])) (.eq pkk (own_eq3 (by rw [List.length_append,Nat.zero_add]) rfl (by unfold bsl;simp)) enn)) q s) ?_;refine sk [(0,_),(2,_),(4,_),(11,_)] K19 ?_;refine sr fun _ K20=>?_
 refine yv y_mv<|yv y_mv<|yv (y_len Tryz.underlying30 rfl) ?_;refine yv y_np<|yv (y_f 4 3 Tryz.underlying62 sz3)<|Hd.store1 sz3 rfl rfl rfl pkk (by decide) ?_
 try simp only [hyS]
 refine fk [(0,_),(2,_),(4,_)] K20 ?_;refine Hd.seq fun _ K21=>?_
 refine Hd.drawsH ([RbH b x.fd ad116 cap116 { x.s 0 with c:=(x.s 0).c++bs } i.a1 i.c1 (x.s 1)]) (fun j=>!(([1000]:List Nat).contains j)) mixed ?_;simp only [List.length,Nat.zero_add,Nat.reduceAdd];refine tH 0 rfl y_mv<|tH 1 rfl y_mv<|tH 2 rfl y_np<|tH 3 rfl (y_f 1 69 Tryz.underlying71 sz69)<|tH 4 rfl (y_f 0 30 Tryz.underlying69 sz30)<|tH 5 rfl (y_l1 ag30 rfl)<|tH 6 rfl (y_len Tryz.underlying30 rfl) ?_;refine tH 7 rfl y_mv<|tH 8 rfl y_np<|tH 9 rfl (y_f 1 69 Tryz.underlying71 sz69)<|tH 10 rfl (y_f 3 3 Tryz.underlying69 sz3)<|tH 11 rfl (y_l1 ag3 rfl)<|tH 12 rfl (y_geq rfl rfl) ?_;refine tH 13 rfl y_np<|tH 14 rfl (y_f 0 4 Tryz.underlying62 sz4)<|qo 15 ?_;refine Hd.store1 sz4 rfl rfl rfl pkk (by simp;done) ?_
 try simp only [hyS]
 refine qk<|endH kq ?_;refine sk [(0,_),(2,_)] K21 ?_;refine Hd.region<|yv y_mv<|yv y_mv<|callE rfl fk69 (rsetIn_ct _ b x.fd ad116 cap116 { x.s 0 with c:=(x.s 0).c++bs } i.a1 i.c1 (x.s 1) now hn (ht 0 (by decide)).1) sq ?_;intro _;refine Hd.nil<|slots [] sbq ?_;rw [show readS ⟨x,w,noT⟩ now most=⟨x.up 0 (getF now bs),w',{ noT with i:=(bs.length:Int),r:=decide (((addA (x.s 0).c bs).length:Int) ≥ (x.s 0).low) }⟩ from (hS (by omega)).trans<|(if_neg (by rw [hc3'.1];simp)).trans ((if_neg hc2).trans (if_neg (fun g=>g hc3'.2))),hap];exact Hd.end0 rfl () rfl (fun q s=>rb_put (fd:=x.fd) (a0:=ad116) (c0:=cap116) (a1:=i.a1) (c1:=i.c1) (x':=x.up 0 (getF now bs)) (s:=setA 0 now { x.s 0 with c:=(x.s 0).c++bs }) (t:=x.s 1) (by show setA 0 now { x.s 0 with c:=addA (x.s 0).c bs }=_;rw [hap]) rfl rfl q (Ent.sep (.pick pkk (.pick pkk (.pick pkk (.pick pkk (.eq pkk (pt_eq (by rfl)) enn))))) q s))
def Ev3 (t:ToA):Prop:=t.ev=0∨t.ev=17∨t.ev=33
theorem off_take {s:SdA} {much N:Int} (h:N=min much (min 4096 (s.c.length:Int))) (h1:¬ N < 1):offA s much=s.c.take N.toNat∧(s.c.take N.toNat).length=N.toNat:=by
 have hl:(s.c.take N.toNat).length=N.toNat:=by rw [List.length_take];omega
 refine ⟨?_,hl⟩;unfold offA Bc.cpy;rw [if_neg (by omega),show (0:Int).toNat=0 from rfl,List.drop_zero];apply List.ext_getElem?;intro i;rw [List.getElem?_take,List.getElem?_take]
 split<;>split
 ·rfl
 ·exact List.getElem?_eq_none (by omega)
 ·exact (List.getElem?_eq_none (by omega)).symm
 ·rfl
theorem off_none {s:SdA} {much N:Int} (h:N=min much (min 4096 (s.c.length:Int))) (h1:N < 1):(offA s much).length=0:=by
 unfold offA Bc.cpy
 split
 ·rfl
 ·rw [show (0:Int).toNat=0 from rfl,List.drop_zero,List.length_take];omega
theorem rd_take {L L':List SP} {e m cap kn:Nat} {ad:Option Addr} {l:List UInt8} (p:Pick L (RX.own e 1 ad m cap (bsl l)) L') (hk:kn≤m):RdS L 1 ad kn (bsl (l.take kn)):=by
 have:=(RdS.own p).head hk
 rwa [Nat.mul_one,bsl_take] at this
theorem ev_yes {n:Int} (h:n=0∨n=17∨n=33) (hc:(n + 2) / 32 % 2=0):bits .or .i64 n 34=n + 2 + 32:=by
 rcases h with rfl | rfl | rfl<;>revert hc<;>decide
theorem ev_no {n:Int} (h:n=0∨n=17∨n=33) (hc:¬ (n + 2) / 32 % 2=0):bits .or .i64 n 34=n + 2:=by
 rcases h with rfl | rfl | rfl<;>revert hc<;>decide
theorem rwrite26_ct (L:List SP) (b rb bt:Nat) (x:BfA) (w:WA) (t:ToA) (te:Ev3 t) (hw:WOk w) (ht:TmOk x) (hcl:(x.s 1).c.length≤1048576) (now much:Int) (hn:InK .u64 now) (hm:InK .i64 much):Ct Tryz.prog 77 #[.pointer (some ⟨b,0,none⟩),.pointer (some ⟨rb,0,none⟩),.int .u64 now,.int .i64 much,.pointer (some ⟨bt,0,none⟩)] (RbP b x::Rf.RwP rb w::ToQ bt t::L) (fun _:Unit=>.tuple #[]) (fun _:Unit=>RbP b (writeS ⟨x,w,t⟩ now much).x::Rf.RwP rb (writeS ⟨x,w,t⟩ now much).w::ToQ bt (writeS ⟨x,w,t⟩ now much).t::L):=by
 refine Ct.o5 Tryz.func77 ?_;intro E
 show Hd E 121 _ _ _ _
 simp only [InK] at hm;refine Hd.rb .here (fun i=>?_);refine Hd.ownCap (e:=5) (ad:=i.a1) (m:=(x.s 1).c.length) (cap:=i.c1) pkk (fun hcap=>?_)
 obtain ⟨N,hN⟩:∃ N,N=min much (min 4096 ((x.s 1).c.length:Int)):=⟨_,rfl⟩
 have hte:t.ev=0∨t.ev=17∨t.ev=33:=te
 refine sr fun _ K1=>?_
 refine yv y_mv<|yv y_mv<|yv y_np<|yv (y_f 8 69 Tryz.underlying71 sz69)<|yv (y_f 0 30 Tryz.underlying69 sz30)<|yv (y_l1 ag30 rfl)<|yv (y_len Tryz.underlying30 rfl) ?_;refine yv (y_min rfl rfl) ?_;refine yv (y_to (v':=.int .i64 N) (y_min rfl rfl) (by (rw [hN]))) ?_;refine yv y_as<|fk [(0,_),(1,_),(2,_),(4,_),(10,_)] K1 ?_;refine Hd.seq fun _ K2=>?_
 refine sr fun _ K3=>?_
 refine yv y_mv<|yv (y_lss rfl rfl) ?_;refine fk [(0,_),(1,_),(2,_),(4,_),(10,_),(23,_)] K3 ?_;refine qz ?_ ?_<;>intro hc0<;>try simp only [hyZ] at hc0
 ·refine Hd.ret ?_
  refine Hd.thenRet ?_;rw [show writeS ⟨x,w,t⟩ now much=⟨x,w,t⟩ from if_pos (off_none hN hc0)];exact Hd.ret0 rfl () rfl rb_fold
 obtain ⟨hof,hol⟩:=off_take hN (by omega)
 obtain ⟨kn,hkn⟩:∃ k:Nat,N=(k:Int):=⟨N.toNat,by omega⟩
 have hkl:kn≤(x.s 1).c.length:=by omega
 rw [hkn,Int.toNat_natCast] at hof hol
 have hS:writeS ⟨x,w,t⟩ now much=wrP ⟨x,w,t⟩ now (writeR w x.fd ((x.s 1).c.take kn)):=by
  rw [←hof];exact if_neg (by rw [hof,hol];omega)
 have hle:=writeR_le w x.fd ((x.s 1).c.take kn)
 have hge:=writeR_ge w x.fd ((x.s 1).c.take kn)
 obtain ⟨⟨⟨m,ec⟩,w'⟩,hrr⟩:∃ rr,writeR w x.fd ((x.s 1).c.take kn)=rr:=⟨_,rfl⟩
 rw [hrr] at hS hle hge;dsimp only at hle hge;rw [hol] at hle
 obtain ⟨mn,hmn⟩:∃ k:Nat,m=(k:Int):=⟨m.toNat,by omega⟩
 subst hmn;rw [hkn];refine qv K2<|Hd.seq fun _ K4=>?_
 refine Hd.drawsH ([RbH b x.fd i.a0 i.c0 (x.s 0) i.a1 i.c1 (x.s 1)]) (fun _=>true) mixed ?_;simp only [List.length,Nat.zero_add,Nat.reduceAdd];refine tH 0 rfl y_mv<|tH 1 rfl y_mv<|tH 2 rfl y_np<|tH 3 rfl (y_f 0 3 Tryz.underlying71 sz3)<|tH 4 rfl (y_l1 ag3 rfl)<|tH 5 rfl y_mv<|tH 6 rfl y_np<|tH 7 rfl (y_f 8 69 Tryz.underlying71 sz69)<|tH 8 rfl (y_f 0 30 Tryz.underlying69 sz30)<|tH 9 rfl (y_l1 ag30 rfl)<|tH 10 rfl y_mv<|tH 11 rfl (y_slo_xoxN Tryz.underlying30 sz5 rfl rfl (by omega)) ?_;refine qo 12 ?_;refine callE rfl fk56 (Rf.rWrite_ct _ rb w hw x.fd i.a1 kn i.c1 ((x.s 1).c.take kn) hol ?hA (by omega) (by omega)) sq ?_
 case hA=>exact rd_take (ad:=i.a1) pkk hkl
 intro _;rw [hrr];dsimp only;refine qk<|tH 13 rfl y_mv<|tH 14 rfl y_ex<|tH 15 rfl y_ex<|tH 16 rfl y_as<|tH 17 rfl y_as<|endH kq ?_;refine sk [(0,_),(2,_),(4,_),(11,_),(12,_)] K4 ?_;refine Hd.seq fun _ K5=>?_
 refine sr fun _ K6=>?_
 refine yv y_mv<|yv (y_eql rfl rfl) ?_;refine fk [(0,_),(2,_),(4,_),(11,_),(12,_),(41,_)] K6 ?_;refine qz ?_ ?_<;>intro hc1<;>try simp only [hyZ] at hc1
 ·refine Hd.ret ?_
  refine Hd.thenRet ?_;rw [show writeS ⟨x,w,t⟩ now much=⟨x,w',t⟩ from hS.trans<|(if_neg (by show ¬ ec=0;omega)).trans (if_pos hc1)];exact Hd.ret0 rfl () rfl (fun q s=>rb_fold q (Ent.sep enn q s))
 refine qv K5<|Hd.seq fun _ K7=>?_
 refine sr fun _ K8=>?_
 refine yv y_mv<|yv (y_neq rfl rfl) ?_;refine fk [(0,_),(2,_),(4,_),(11,_),(12,_),(43,_)] K8 ?_;refine qz ?_ ?_<;>intro hc2<;>try simp only [hyZ] at hc2
 ·refine sr fun _ K9=>?_
  refine yv y_mv<|yv y_np<|yv (y_f 8 69 Tryz.underlying71 sz69)<|yv (y_f 1 4 Tryz.underlying69 sz4)<|Hd.store1 sz4 rfl rfl rfl pkk (by simp;done) ?_
  try simp only [hyS]
  refine fk [(0,_),(4,_),(12,_)] K9 ?_;refine sr fun _ K10=>?_
  refine yv y_mv<|yv y_np<|yv (y_f 8 69 Tryz.underlying71 sz69)<|yv (y_f 2 4 Tryz.underlying69 sz4)<|Hd.store1 sz4 rfl rfl rfl pkk (by simp;done) ?_
  try simp only [hyS]
  refine fk [(0,_),(4,_),(12,_)] K10 ?_;refine sr fun _ K11=>?_
  refine yv y_mv<|yv y_np<|yv (y_f 8 69 Tryz.underlying71 sz69)<|yv (y_f 6 29 Tryz.underlying69 sz29)<|Hd.store1 sz29 rfl rfl rfl pkk (by simp;done) ?_
  try simp only [hyS]
  refine fk [(4,_),(12,_)] K11 ?_;refine sr fun _ K12=>?_
  refine yv y_mv<|yv y_mv<|yv y_np<|yv (y_f 2 3 Tryz.underlying62 sz3)<|yv (y_l1 ag3 rfl)<|yv (y_addn rfl rfl (by simp only [InK];omega)) ?_;refine yv y_np<|yv (y_f 2 3 Tryz.underlying62 sz3)<|Hd.store1 sz3 rfl rfl rfl pkk (by simp;done) ?_
  try simp only [hyS]
  refine fk [(4,_),(12,_)] K12 ?_;refine Hd.seq fun _ K13=>?_
  refine sr fun _ K14=>?_
  refine yv y_mv<|yv y_np<|yv (y_f 2 3 Tryz.underlying62 sz3)<|yv (y_l1 ag3 rfl)<|yv (y_quon rfl rfl (by omega) (by omega) (by simp only [InK];omega)) ?_;refine yv (y_remn rfl rfl (by omega) (by omega)) ?_;refine yv (y_eql rfl rfl) ?_;refine fk [(4,_),(12,_),(70,_)] K14 ?_;refine qz ?_ ?_<;>intro hc3<;>try simp only [hyZ] at hc3
  ·have hE:=ev_yes hte hc3
   refine Hd.region<|yv y_mv<|yv y_mv<|yv y_np<|yv (y_f 2 3 Tryz.underlying62 sz3)<|yv (y_l1 ag3 rfl)<|yv (y_addn rfl rfl (by simp only [InK];omega)) ?_;refine yv y_np<|yv (y_f 2 3 Tryz.underlying62 sz3)<|Hd.store1 sz3 rfl rfl rfl pkk (by simp;done) ?_
   try simp only [hyS]
   refine fk [(4,_),(12,_)] K13 ?_;refine Hd.seq fun _ K15=>?_
   refine sr fun _ K16=>?_
   refine yv y_mv<|yv y_np<|yv (y_f 3 3 Tryz.underlying62 sz3)<|yv (y_l1 ag3 rfl)<|yv (y_eql rfl rfl) ?_;refine fk [(4,_),(12,_),(83,_)] K16 ?_;refine qz ?_ ?_<;>intro hc4<;>try simp only [hyZ] at hc4
   ·have hF:stopE t ec=ec:=if_pos hc4
    refine Hd.region<|yv y_mv<|yv y_mv<|yv y_np<|yv (y_f 3 3 Tryz.underlying62 sz3)<|Hd.store1 sz3 rfl rfl rfl pkk (by simp;done) ?_
    try simp only [hyS]
    refine fk [] K15 ?_;refine Hd.ret<|Hd.thenRet ?_;rw [show writeS ⟨x,w,t⟩ now much=⟨x.up 1 fun s=>stopF s,w',stopT t 34 ec⟩ from hS.trans<|(if_neg (by exact hc2)).trans (if_neg (by exact hc1))];exact Hd.ret0 rfl () rfl (fun q s=>rb_put (fd:=x.fd) (a0:=i.a0) (c0:=i.c0) (a1:=i.a1) (c1:=i.c1) (x':=x.up 1 fun s=>stopF s) (s:=x.s 0) (t:=stopF (x.s 1)) rfl rfl rfl q (Ent.sep (.pick pkk (.pick pkk (.pick pkk (.pick pkk (.eq pkk (pt_eq (by show _=[Value.bool t.r,.bool t.w,.int .i64 (bits .or .i64 t.ev 34),.int .i64 (stopE t ec),.int .i64 t.i,.int .i64 t.o];rw [hE,hF];rfl)) enn))))) q s))
   have hF:stopE t ec=t.e:=if_neg hc4
   refine qv K15<|Hd.ret<|Hd.thenRet ?_;rw [show writeS ⟨x,w,t⟩ now much=⟨x.up 1 fun s=>stopF s,w',stopT t 34 ec⟩ from hS.trans<|(if_neg (by exact hc2)).trans (if_neg (by exact hc1))];exact Hd.ret0 rfl () rfl (fun q s=>rb_put (fd:=x.fd) (a0:=i.a0) (c0:=i.c0) (a1:=i.a1) (c1:=i.c1) (x':=x.up 1 fun s=>stopF s) (s:=x.s 0) (t:=stopF (x.s 1)) rfl rfl rfl q (Ent.sep (.pick pkk (.pick pkk (.pick pkk (.pick pkk (.eq pkk (pt_eq (by show _=[Value.bool t.r,.bool t.w,.int .i64 (bits .or .i64 t.ev 34),.int .i64 (stopE t ec),.int .i64 t.i,.int .i64 t.o];rw [hE,hF];done)) enn))))) q s))
  have hE:=ev_no hte hc3
  refine qv K13<|Hd.seq fun _ K17=>?_
  refine sr fun _ K18=>?_
  refine yv y_mv<|yv y_np<|yv (y_f 3 3 Tryz.underlying62 sz3)<|yv (y_l1 ag3 rfl)<|yv (y_eql rfl rfl) ?_;refine fk [(4,_),(12,_),(83,_)] K18 ?_;refine qz ?_ ?_<;>intro hc4<;>try simp only [hyZ] at hc4
  ·have hF:stopE t ec=ec:=if_pos hc4
   refine Hd.region<|yv y_mv<|yv y_mv<|yv y_np<|yv (y_f 3 3 Tryz.underlying62 sz3)<|Hd.store1 sz3 rfl rfl rfl pkk (by simp;done) ?_
   try simp only [hyS]
   refine fk [] K17 ?_;refine Hd.ret<|Hd.thenRet ?_;rw [show writeS ⟨x,w,t⟩ now much=⟨x.up 1 fun s=>stopF s,w',stopT t 34 ec⟩ from hS.trans<|(if_neg (by exact hc2)).trans (if_neg (by exact hc1))];exact Hd.ret0 rfl () rfl (fun q s=>rb_put (fd:=x.fd) (a0:=i.a0) (c0:=i.c0) (a1:=i.a1) (c1:=i.c1) (x':=x.up 1 fun s=>stopF s) (s:=x.s 0) (t:=stopF (x.s 1)) rfl rfl rfl q (Ent.sep (.pick pkk (.pick pkk (.pick pkk (.pick pkk (.eq pkk (pt_eq (by show _=[Value.bool t.r,.bool t.w,.int .i64 (bits .or .i64 t.ev 34),.int .i64 (stopE t ec),.int .i64 t.i,.int .i64 t.o];rw [hE,hF];rfl)) enn))))) q s))
  have hF:stopE t ec=t.e:=if_neg hc4
  refine qv K17<|Hd.ret<|Hd.thenRet ?_;rw [show writeS ⟨x,w,t⟩ now much=⟨x.up 1 fun s=>stopF s,w',stopT t 34 ec⟩ from hS.trans<|(if_neg (by exact hc2)).trans (if_neg (by exact hc1))];exact Hd.ret0 rfl () rfl (fun q s=>rb_put (fd:=x.fd) (a0:=i.a0) (c0:=i.c0) (a1:=i.a1) (c1:=i.c1) (x':=x.up 1 fun s=>stopF s) (s:=x.s 0) (t:=stopF (x.s 1)) rfl rfl rfl q (Ent.sep (.pick pkk (.pick pkk (.pick pkk (.pick pkk (.eq pkk (pt_eq (by show _=[Value.bool t.r,.bool t.w,.int .i64 (bits .or .i64 t.ev 34),.int .i64 (stopE t ec),.int .i64 t.i,.int .i64 t.o];rw [hE,hF];done)) enn))))) q s))
 refine qv K7<|sr fun _ K19=>?_
 refine yv y_mv<|yv y_mv<|yv y_np<|yv (y_f 8 69 Tryz.underlying71 sz69)<|yv (y_f 0 30 Tryz.underlying69 sz30)<|yv (y_l1 ag30 rfl)<|yv y_mv<|yv (y_slo_oxxN Tryz.underlying30 sz5 rfl rfl (by omega)) ?_;refine yv y_np<|yv (y_f 8 69 Tryz.underlying71 sz69)<|yv (y_f 0 30 Tryz.underlying69 sz30)<|Hd.store1 sz30 rfl rfl rfl pkk (by simp;done) ?_
 try simp only [hyS]
 refine Hd.nil<|Hd.ownSplit (e:=5) (ad:=i.a1) (m:=(x.s 1).c.length) (cap:=i.c1) (us:=bsl (x.s 1).c) pkk mn (bsl ((x.s 1).c.take mn)) (bsl ((x.s 1).c.drop mn)) (by omega) (by unfold bsl;rw [←List.map_append,List.take_append_drop]) (by unfold bsl;rw [List.length_map,List.length_take];omega) ?_;refine Hd.heap (RbH b x.fd i.a0 i.c0 (x.s 0) (cutA i.a1 1 mn i.c1) (i.c1 - mn) { x.s 1 with c:=(x.s 1).c.drop mn }::OwB i.a0 i.c0 (x.s 0).c::OwB (cutA i.a1 1 mn i.c1) (i.c1 - mn) ((x.s 1).c.drop mn)::Rf.RwP rb w'::ToQ bt t::L) (fun q s=>Ent.sep (.eq pkk (pt_eq (by simp only [encRb,List.length_drop])) (.pick pkk (.eq pkk (own_eq3 (by rw [List.length_drop]) rfl rfl) enn))) q s) ?_;refine sk [(0,_),(2,_),(4,_),(11,_)] K19 ?_;refine sr fun _ K20=>?_
 refine yv y_mv<|yv y_mv<|yv y_np<|yv (y_f 5 3 Tryz.underlying62 sz3)<|Hd.store1 sz3 rfl rfl rfl pkk (by simp;done) ?_
 try simp only [hyS]
 refine fk [(0,_),(2,_),(4,_)] K20 ?_;refine Hd.seq fun _ K21=>?_
 refine Hd.drawsH ([RbH b x.fd i.a0 i.c0 (x.s 0) (cutA i.a1 1 mn i.c1) (i.c1 - mn) { x.s 1 with c:=(x.s 1).c.drop mn }]) (fun j=>!(([1000]:List Nat).contains j)) mixed ?_;simp only [List.length,Nat.zero_add,Nat.reduceAdd];refine tH 0 rfl y_mv<|tH 1 rfl y_mv<|tH 2 rfl y_np<|tH 3 rfl (y_f 8 69 Tryz.underlying71 sz69)<|tH 4 rfl (y_f 0 30 Tryz.underlying69 sz30)<|tH 5 rfl (y_l1 ag30 rfl)<|tH 6 rfl (y_len Tryz.underlying30 rfl) ?_;refine tH 7 rfl y_mv<|tH 8 rfl y_np<|tH 9 rfl (y_f 8 69 Tryz.underlying71 sz69)<|tH 10 rfl (y_f 3 3 Tryz.underlying69 sz3)<|tH 11 rfl (y_l1 ag3 rfl)<|tH 12 rfl (y_leq rfl rfl) ?_;refine tH 13 rfl y_np<|tH 14 rfl (y_f 1 4 Tryz.underlying62 sz4)<|qo 15 ?_;refine Hd.store1 sz4 rfl rfl rfl pkk (by simp;done) ?_
 try simp only [hyS]
 refine qk<|endH kq ?_;refine sk [(0,_),(2,_)] K21 ?_;refine Hd.region<|yv y_mv<|yv y_mv<|callE rfl fk70 (rsetOut_ct _ b x.fd i.a0 i.c0 (x.s 0) (cutA i.a1 1 mn i.c1) (i.c1 - mn) { x.s 1 with c:=(x.s 1).c.drop mn } now hn (ht 1 (by decide)).1) sq ?_;intro _;refine Hd.nil<|slots [] sbq ?_;rw [show writeS ⟨x,w,t⟩ now much=⟨x.up 1 (putF now (mn:Int)),w',{ t with o:=(mn:Int),w:=decide (((((x.s 1).c.drop mn).length:Nat):Int)≤(x.s 1).low) }⟩ from hS.trans (if_pos hc2)];exact Hd.end0 rfl () rfl (fun q s=>rb_put (fd:=x.fd) (a0:=i.a0) (c0:=i.c0) (a1:=cutA i.a1 1 mn i.c1) (c1:=i.c1 - mn) (x':=x.up 1 (putF now (mn:Int))) (s:=x.s 0) (t:=setA 1 now { x.s 1 with c:=(x.s 1).c.drop mn }) rfl rfl rfl q (Ent.sep (.pick pkk (.pick pkk (.pick pkk (.pick pkk (.eq pkk (pt_eq (by rfl)) enn))))) q s))
end Bu
end Go.Proofs.YtmpemhbfgbochaaGreatDoor
namespace Go.Proofs.YtmpemhbfgbochaaGreatDoor
open Go.RX Fx
namespace Wo
theorem read_ok {w:WA} (h:WOk w) (fd n:Int):WOk (readR w fd n).2:=by
 unfold readR
 split
 ·exact h
 ·split
  ·exact h
  ·rename_i m k hk _ x hx
   split
   ·exact h
   ·split
    ·exact h
    ·split
     ·exact h
     ·split
      ·rename_i hr _ _ _
       exact h.setW hx (smW_take (h.wf x (List.mem_of_getElem? hx)) (h.at_lt hk).2.2.1 (by simpa using hr))
      ·split
       ·exact h
       ·exact h
end Wo
namespace Bu
open Wo
theorem stepR_s1 (x:BfA) (w:WA) (now flags most:Int):(stepR x w now flags most).x.s 1=x.s 1:=by
 unfold stepR readS rdP
 repeat' split
 all_goals rfl
theorem rdP_ev (x:BfA) (w:WA) (now:Int) (r:(List UInt8×Bool×Int)×WA):Ev3 (rdP ⟨x,w,noT⟩ now r).t:=by
 unfold rdP Ev3
 split
 ·right;left
  dsimp only
  decide
 ·split
  ·left;rfl
  ·split
   ·right;right
    dsimp only
    decide
   ·left;rfl
theorem stepR_ev (x:BfA) (w:WA) (now flags most:Int):Ev3 (stepR x w now flags most).t:=by
 unfold stepR readS
 split
 ·split
  ·exact Or.inl rfl
  ·exact rdP_ev _ _ _ _
 ·exact Or.inl rfl
theorem stepR_ok {w:WA} (h:WOk w) (x:BfA) (now flags most:Int):WOk (stepR x w now flags most).w:=by
 have:=read_ok h x.fd (rdN (x.s 0) most)
 unfold stepR readS rdP
 repeat' split
 all_goals first
  | exact h
  | exact this
theorem rstep26_ct (L:List SP) (b rb:Nat) (x:BfA) (w:WA) (hw:WOk w) (ht:TmOk x) (hh:InK .i64 (x.s 0).high) (hcl:∀ k,k < 2→(x.s k).c.length≤1048576) (now flags most much:Int) (hn:InK .u64 now) (hm:InK .i64 most) (hmu:InK .i64 much):Ct Tryz.prog 26 #[.pointer (some ⟨b,0,none⟩),.pointer (some ⟨rb,0,none⟩),.int .u64 now,.int .i64 flags,.int .i64 most,.int .i64 much] (RbP b x::Rf.RwP rb w::L) (fun _:Unit=>.agg (encT (stepS x w now flags most much).t).toArray) (fun _:Unit=>RbP b (stepS x w now flags most much).x::Rf.RwP rb (stepS x w now flags most much).w::L):=by
 refine Ct.o6 Tryz.func26 ?_;intro E
 show Hd E 42 _ _ _ _
 refine sr fun _ K1=>?_
 refine Hd.alloc zr62 (fun b12=>?_);refine fk [(0,_),(1,_),(2,_),(3,_),(4,_),(5,_),(12,_)] K1 ?_;refine sr fun _ K2=>?_
 refine Hd.alloc zr62 (fun b13=>?_);refine fk [(0,_),(1,_),(2,_),(3,_),(4,_),(5,_),(12,_),(13,_)] K2 ?_;refine sr fun _ K3=>?_
 refine yv y_mv<|callE rfl fk31 (rwants26_ct _ b x) sq ?_;intro _;refine yv y_as<|fk [(0,_),(1,_),(2,_),(3,_),(4,_),(5,_),(12,_),(13,_),(14,_)] K3 ?_;refine Hd.heap (ToQ b13 noT::pt b12 (encT noT) 62::RbP b x::Rf.RwP rb w::L) (fun q s=>Ent.sep (.eq pkk (pt_eq (by rfl)) (.eq pkk (pt_eq (by rfl)) enn)) q s) ?_;refine Hd.cutK (ι:=Unit) [(0,_),(1,_),(2,_),(3,_),(5,_),(12,_),(13,_),(14,_)] (fun _=>[]) (fun _=>RbP b (stepR x w now flags most).x::Rf.RwP rb (stepR x w now flags most).w::ToQ b13 (stepR x w now flags most).t::pt b12 (encT noT) 62::L) ?_ ?_ ⟨rfl,rfl,rfl,rfl,rfl,rfl,rfl,rfl,trivial⟩
 ·refine sr fun _ K4=>?_
  refine yv y_mv<|callE rfl fk68 (rhas26_ct _ (wantsA x) 2 (wants_six x) 0 (by decide) rfl) sq ?_;intro _;refine yv y_mv ?_;apply Hd.andg 4 19 23 [(0,_),(1,_),(2,_),(3,_),(4,_),(5,_),(12,_),(13,_),(14,_)] rfl sbq
  ·intro hg3_19
   try simp only [hyZ] at hg3_19
   simp only [List.take];refine y2 y_mv<|y2 (y_and rfl rfl) ?_;refine y2 (y_gtr rfl rfl) ?_;refine yv (y_pickT rfl rfl) ?_;exact Hd.mn
  ·intro hg3_19
   try simp only [hyZ] at hg3_19
   simp only [List.take];refine n1<|n1<|n1<|yv (y_pickF rfl rfl) ?_;exact Hd.mn
  simp only [List.drop];refine fk [(0,_),(1,_),(2,_),(3,_),(4,_),(5,_),(12,_),(13,_),(14,_),(23,_)] K4 ?_;refine qz ?_ ?_<;>intro hc0<;>try simp only [hyZ] at hc0
  ·refine Hd.region ?_
   refine yv y_mv<|yv y_mv<|yv y_mv<|yv y_mv<|callE rfl fk76 (rread26_ct _ b rb b13 x w hw ht (hcl 0 (by decide)) hh now most hn hm) sq ?_;intro _;refine Hd.nil<|slots [(0,_),(1,_),(2,_),(3,_),(5,_),(12,_),(13,_),(14,_)] sbq ?_;refine thenN ?_;rw [show stepR x w now flags most=readS ⟨x,w,noT⟩ now most from if_pos ((and2 flags (wants_six x)).2 hc0)];exact Hd.meet () sbq sq
  refine Hd.skip<|thenN ?_
  rw [show stepR x w now flags most=⟨x,w,noT⟩ from if_neg (fun h=>by
   have:=(and2 flags (wants_six x)).1 h
   rcases hc0 with g | g
   ·rw [g] at this;exact absurd this.1 (by decide)
   ·have:=this.2;omega)]
  exact Hd.meet () sbq sq
 intro _;refine Hd.cutK (ι:=Unit) [(12,_),(13,_)] (fun _=>[]) (fun _=>RbP b (stepS x w now flags most much).x::Rf.RwP rb (stepS x w now flags most much).w::ToQ b13 (stepS x w now flags most much).t::pt b12 (encT noT) 62::L) ?_ ?_ ⟨rfl,rfl,trivial⟩
 ·refine sr fun _ K5=>?_
  refine yv y_mv<|callE rfl fk68 (rhas26_ct _ (wantsA x) 4 (wants_six x) 1 (by decide) rfl) sq ?_;intro _;refine yv y_mv ?_;apply Hd.andg 4 31 35 [(0,_),(1,_),(2,_),(5,_),(12,_),(13,_)] rfl sbq
  ·intro hg5_31
   try simp only [hyZ] at hg5_31
   simp only [List.take];refine y2 y_mv<|y2 (y_and rfl rfl) ?_;refine y2 (y_gtr rfl rfl) ?_;refine yv (y_pickT rfl rfl) ?_;exact Hd.mn
  ·intro hg5_31
   try simp only [hyZ] at hg5_31
   simp only [List.take];refine n1<|n1<|n1<|yv (y_pickF rfl rfl) ?_;exact Hd.mn
  simp only [List.drop];refine fk [(0,_),(1,_),(2,_),(5,_),(12,_),(13,_),(35,_)] K5 ?_;refine qz ?_ ?_<;>intro hc1<;>try simp only [hyZ] at hc1
  ·refine Hd.region ?_
   refine yv y_mv<|yv y_mv<|yv y_mv<|yv y_mv<|callE rfl fk77 (rwrite26_ct _ b rb b13 (stepR x w now flags most).x (stepR x w now flags most).w (stepR x w now flags most).t (stepR_ev x w now flags most) (stepR_ok hw x now flags most) (tm_stepR ht hn w flags most) (by rw [stepR_s1];exact hcl 1 (by decide)) now much hn hmu) sq ?_;intro _;refine Hd.nil<|slots [(12,_),(13,_)] sbq ?_;refine thenN ?_;rw [show stepS x w now flags most much=writeS (stepR x w now flags most) now much from if_pos ((and4 flags (wants_six x)).2 hc1)];exact Hd.meet () sbq sq
  refine Hd.skip<|thenN ?_
  rw [show stepS x w now flags most much=stepR x w now flags most from if_neg (fun h=>by
   have:=(and4 flags (wants_six x)).1 h
   rcases hc1 with g | g
   ·rw [g] at this;exact absurd this.1 (by decide)
   ·have:=this.2;omega)]
  exact Hd.meet () sbq sq
 intro _;refine sr fun _ K6=>?_
 refine yv (y_loadn (us:=encT (stepS x w now flags most much).t) ag62 rfl (Rd.pt pkk (fun j v e=>by rw [Nat.zero_add];exact e)) (by exact sz62)) ?_;refine Hd.storeA (us:=encT (stepS x w now flags most much).t) sz62 rfl rfl rfl (by simp [Value.oneCell']) pkk (by exact rfl) ?_;refine fk [(12,_)] K6 ?_;refine Hd.ret ?_;exact Hd.retC rfl () ag62 rfl (Rd.pt (us:=encT (stepS x w now flags most much).t) pkk (fun j v e=>by rw [Nat.zero_add];exact e)) (by exact sz62) rfl sq
theorem open_v (r:RdyA):(!allEq (encR r) [.bool false,.bool false,.bool false,.bool false,.bool false,.int .u64 0,.int .u64 0] && r.op)=r.op:=by
 cases h:r.op
 ·simp
 ·simp [allEq,eqv,h]
theorem ropen26_ct (L:List SP) (rb:Nat) (w:WA) (hw:WOk w) (fd:Int):Ct Tryz.prog 10 #[.pointer (some ⟨rb,0,none⟩),.int .i64 fd] (Rf.RwP rb w::L) (fun _:Unit=>.bool (readyR w fd).op) (fun _:Unit=>Rf.RwP rb w::L):=by
 refine Ct.o2 Tryz.func10 ?_;intro E
 show Hd E 16 _ _ _ _
 refine sr fun _ K1=>?_
 refine yv y_as<|fk [(0,_),(1,_)] K1 ?_;refine sr fun _ K2=>?_
 refine yv y_mv<|yv y_mv<|callE rfl fk63 (Rf.rReady_ct _ rb w hw fd) sq ?_;intro _;refine Hd.alloc zr112 (fun b5=>?_);refine Hd.storeA (us:=encR (readyR w fd)) sz112 rfl rfl rfl (by simp [Value.oneCell']) pkk (by exact rfl) ?_;refine fk [(5,_)] K2 ?_;refine sr fun _ K3=>?_
 refine yv (y_loadn (us:=encR (readyR w fd)) ag112 rfl (Rd.pt pkk (fun j v e=>by rw [Nat.zero_add];exact e)) (by exact sz112)) ?_;refine yv (y_build (vs:=[]) rfl (by exact bd10_10 ..)) ?_;refine yv (y_neq_agg rfl rfl eqt112 rfl ⟨rfl,rfl⟩) ?_;refine yv y_mv ?_;apply Hd.andg 3 12 15 [] rfl sbq
 ·intro hg2_12
  try simp only [hyZ] at hg2_12
  simp only [List.take];refine y2 (y_f 0 4 Tryz.underlying112 sz4)<|y2 (y_l1 ag4 rfl)<|yv (y_pickT rfl rfl) ?_;exact Hd.mn
 ·intro hg2_12
  try simp only [hyZ] at hg2_12
  simp only [List.take];refine n1<|n1<|yv (y_pickF rfl rfl) ?_;exact Hd.mn
 simp only [List.drop];refine yv y_as<|fk [(4,_)] K3 ?_;refine Hd.ret ?_;exact Hd.ret1 rfl () (congrArg (fun z=>some (Value.bool z)) (open_v (readyR w fd))) sq
theorem told_ct (L:List SP) (t:ToA):Ct Tryz.prog 25 #[.agg (encT t).toArray,.agg (encT t).toArray] (L) (fun _:Unit=>.bool true) (fun _:Unit=>L):=by
 refine Ct.o2 Tryz.func25 ?_;intro E
 show Hd E 45 _ _ _ _
 refine sr fun _ K1=>?_
 refine Hd.box rfl rfl (fun b2=>?_);refine Hd.box rfl rfl (fun b3=>?_);refine yv y_as<|fk [(2,_),(3,_)] K1 ?_;refine sr fun _ K2=>?_
 refine yv (y_f 0 4 Tryz.underlying58 sz4)<|yv (y_l1 ag4 rfl)<|yv (y_f 0 4 Tryz.underlying62 sz4)<|yv (y_l1 ag4 rfl)<|yv (y_eqlb Tryz.underlying4 rfl rfl) ?_;refine yv y_mv ?_;apply Hd.andg 6 10 16 [(2,_),(3,_)] rfl sbq
 ·intro hg1_10
  try simp only [hyZ] at hg1_10
  simp only [List.take];refine y2 (y_f 1 4 Tryz.underlying58 sz4)<|y2 (y_l1 ag4 rfl)<|y2 (y_f 1 4 Tryz.underlying62 sz4)<|y2 (y_l1 ag4 rfl)<|y2 (y_eqlb Tryz.underlying4 rfl rfl) ?_;refine yv (y_pickT rfl rfl) ?_;exact Hd.mn
 ·intro hg1_10
  try simp only [hyZ] at hg1_10
  simp only [List.take];refine n1<|n1<|n1<|n1<|n1<|yv (y_pickF rfl rfl) ?_;exact Hd.mn
 simp only [List.drop];refine yv y_mv ?_;apply Hd.andg 6 17 23 [(2,_),(3,_)] rfl sbq
 ·intro hg1_17
  try simp only [hyZ] at hg1_17
  simp only [List.take];refine y2 (y_f 2 3 Tryz.underlying58 sz3)<|y2 (y_l1 ag3 rfl)<|y2 (y_f 2 3 Tryz.underlying62 sz3)<|y2 (y_l1 ag3 rfl)<|y2 (y_eqlT rfl rfl) ?_;refine yv (y_pickT rfl rfl) ?_;exact Hd.mn
 ·intro hg1_17
  try simp only [hyZ] at hg1_17
  simp only [List.take];refine n1<|n1<|n1<|n1<|n1<|yv (y_pickF rfl rfl) ?_;exact Hd.mn
 simp only [List.drop];refine yv y_mv ?_;apply Hd.andg 6 24 30 [(2,_),(3,_)] rfl sbq
 ·intro hg1_24
  try simp only [hyZ] at hg1_24
  simp only [List.take];refine y2 (y_f 3 34 Tryz.underlying58 sz34)<|y2 (y_l1 ag34 rfl)<|y2 (y_f 3 3 Tryz.underlying62 sz3)<|y2 (y_l1 ag3 rfl)<|y2 (y_eqlT rfl rfl) ?_;refine yv (y_pickT rfl rfl) ?_;exact Hd.mn
 ·intro hg1_24
  try simp only [hyZ] at hg1_24
  simp only [List.take];refine n1<|n1<|n1<|n1<|n1<|yv (y_pickF rfl rfl) ?_;exact Hd.mn
 simp only [List.drop];refine yv y_mv ?_;apply Hd.andg 6 31 37 [(2,_),(3,_)] rfl sbq
 ·intro hg1_31
  try simp only [hyZ] at hg1_31
  simp only [List.take];refine y2 (y_f 4 3 Tryz.underlying58 sz3)<|y2 (y_l1 ag3 rfl)<|y2 (y_f 4 3 Tryz.underlying62 sz3)<|y2 (y_l1 ag3 rfl)<|y2 (y_eqlT rfl rfl) ?_;refine yv (y_pickT rfl rfl) ?_;exact Hd.mn
 ·intro hg1_31
  try simp only [hyZ] at hg1_31
  simp only [List.take];refine n1<|n1<|n1<|n1<|n1<|yv (y_pickF rfl rfl) ?_;exact Hd.mn
 simp only [List.drop];refine yv y_mv ?_;apply Hd.andg 6 38 44 [] rfl sbq
 ·intro hg1_38
  try simp only [hyZ] at hg1_38
  simp only [List.take];refine y2 (y_f 5 3 Tryz.underlying58 sz3)<|y2 (y_l1 ag3 rfl)<|y2 (y_f 5 3 Tryz.underlying62 sz3)<|y2 (y_l1 ag3 rfl)<|y2 (y_eqlT rfl rfl) ?_;refine yv (y_pickT rfl rfl) ?_;exact Hd.mn
 ·intro hg1_38
  try simp only [hyZ] at hg1_38
  simp only [List.take];refine n1<|n1<|n1<|n1<|n1<|yv (y_pickF rfl rfl) ?_;exact Hd.mn
 simp only [List.drop];refine yv y_as<|fk [(4,_)] K2 ?_;refine Hd.ret ?_;exact Hd.ret1 rfl () (by simp;rfl) sq
end Bu
end Go.Proofs.YtmpemhbfgbochaaGreatDoor
