/-
  Worlds: New, none, find, both. Worlds: a wire turns; Read, Write. Worlds: Read, Write. Worlds: Write, Ready. Worlds: Ready. Worlds: both, the free numbers.
-/
import Derived.Test.YtmpemhbfgbochaaGreatDoorZBufevPlaysC
set_option linter.unusedSimpArgs false
set_option linter.unusedVariables false
set_option linter.unnecessarySimpa false
set_option maxRecDepth 8000
set_option maxHeartbeats 2000000
open Go.RX.Hd (yv y2 n1 fk sk sr tH callE heldK qo qk qn qt qz qv endH thenN slots)
namespace Go.Proofs.YtmpemhbfgbochaaGreatDoor
open Go.RX Fx
namespace Wo
theorem bd_sig:Tryz.prog.built 270 []=some ((List.replicate 32 false).map Value.bool++(List.replicate 32 (0:Int)).map (Value.int .i64)).toArray:=by kernel_rfl
theorem signew_ct (L:List SP):Ct Tryz.prog 109 #[] (L) (fun sb:Nat=>.pointer (some ⟨sb,0,none⟩)) (fun sb:Nat=>SigP sb (List.replicate 32 false) (List.replicate 32 0)::L):=by
 refine Ct.o0 Tryz.func109 ?_;intro E
 show Hd E 3 _ _ _ _
 refine sr fun _ K1=>?_
 refine yv y_as<|fk [] K1 ?_;refine sr fun _ K2=>?_
 refine yv (y_build (vs:=[]) rfl bd_sig) ?_;refine Hd.box (us:=(List.replicate 32 false).map Value.bool++(List.replicate 32 (0:Int)).map (Value.int .i64)) rfl rfl (fun b2=>?_);refine yv y_as<|fk [(0,_)] K2 ?_;refine Hd.ret ?_;exact Hd.ret1 rfl b2 rfl sq
def newA:WA:=⟨[],0,List.replicate 32 false,List.replicate 32 0,none⟩
theorem newA_ok:WOk newA:=⟨fun _ _ _ _ _ _ h=>(by cases h),fun _ h=>(by cases h),by decide,rfl,rfl,fun _ h=>(by cases h),.nil,fun _ h=>(by cases h),fun _ _ h=>(by cases h),fun m x h=>by simp [newA] at h⟩
theorem bd_world (sb:Nat):Tryz.prog.built 186 [(2,ptr (some sb))]=some (fdC newA.at++woT newA 0 ⟨[],none,0,sb⟩).toArray:=by kernel_rfl
theorem wnew_ct (L:List SP):Ct Tryz.prog 42 #[] (L) (fun wb:Nat=>.pointer (some ⟨wb,0,none⟩)) (fun wb:Nat=>WorldP wb newA::L):=by
 refine Ct.o0 Tryz.func42 ?_;intro E
 show Hd E 4 _ _ _ _
 refine sr fun _ K1=>?_
 refine yv y_as<|fk [] K1 ?_;refine sr fun _ K2=>?_
 refine callE rfl fk109 (signew_ct _) sq ?_;intro sb;refine yv (y_build (vs:=[(2,_)]) rfl (bd_world sb)) ?_;refine Hd.box (us:=fdC newA.at++woT newA 0 ⟨[],none,0,sb⟩) rfl rfl (fun b3=>?_);refine yv y_as<|fk [(0,_)] K2 ?_;refine Hd.ret<|Hd.heap (Wires []::pt b3 (fdC newA.at++woT newA 0 ⟨[],none,0,sb⟩) 186::SigP sb (List.replicate 32 false) (List.replicate 32 0)::L) (fun k s=>ws_nil s) ?_;exact Hd.ret1 rfl b3 rfl (Ent.sep (.ex ⟨[],none,0,sb⟩ (.pure ⟨newA_ok,rfl⟩ (.eq pkk (pt_eq (by rfl)) (.ownNil enn)))))
theorem wnone_ct (L:List SP) (wb:Nat) (t:Int→Option (Nat×Nat)) (w:WA) (n:Nat) (i:WoI):Ct Tryz.prog 114 #[.pointer (some ⟨wb,0,none⟩)] (WoH wb t w n i::L) (fun _:Unit=>.bool false) (fun _:Unit=>WoH wb t w n i::L):=by
 refine Ct.o1 Tryz.func114 ?_;intro E
 show Hd E 12 _ _ _ _
 refine sr fun _ K1=>?_
 refine yv y_as<|fk [(0,_)] K1 ?_;refine sr fun _ K2=>?_
 refine yv y_mv<|yv (y_eql_pointer Tryz.underlying37 rfl rfl) ?_;refine yv y_mv<|y2 y_mv<|y2 y_np<|y2 (y_f 289 179 Tryz.underlying186 sz179)<|y2 (y_load1 ag179 rfl (Rd.pt1 pkk (by rw [List.getElem?_append_right (by rw [fdC_len];omega),fdC_len];rfl))) ?_;refine y2 (y_eql_pointer Tryz.underlying179 rfl rfl) ?_;refine yv (y_pickF rfl rfl) ?_;refine yv y_as<|fk [(2,_)] K2 ?_;refine Hd.ret ?_;exact Hd.ret1 rfl () (by rfl) sq
def fdErr (o:Option (Nat×Nat)):Int:=if o.isSome then 0 else 110
def wfb (i:WoI) (o:Option (Nat×Nat)):Option Nat:=o.bind fun p=>(i.rs[p.1]?).map Prod.fst
theorem fdC_at0 {t:Int→Option (Nat×Nat)} {tl:List Value} {fd j:Nat} {v:Value} (hf:fd < 96) (hv:(plc (t (fd:Int)))[j]?=some v):(fdC t++tl)[0 + 0 + fd * 3 + j]?=some v:=fdC_at hf (by omega) hv
theorem plc0 (o:Option (Nat×Nat)):(plc o)[0]?=some (.bool o.isSome):=by cases o<;>rfl
theorem rs_at {w:WA} {i:WoI} (h:i.rs.map Prod.snd=w.ws) {n:Nat} {x:WireA} (hn:w.ws[n]?=some x):∃ b,i.rs[n]?=some (b,x):=by
 rw [←h,List.getElem?_map] at hn
 cases hr:i.rs[n]? with
 | none=>rw [hr] at hn;cases hn
 | some p=>rw [hr] at hn;obtain ⟨b,y⟩:=p;obtain rfl:=Option.some.inj hn;exact ⟨b,rfl⟩
theorem pws_at {i:WoI} {n b:Nat} {x:WireA} (h:i.rs[n]?=some (b,x)):(pws i.rs)[n * 1]?=some (ptr (some b)):=by rw [Nat.mul_one,List.getElem?_map,h];rfl
theorem wfb_eq {i:WoI} {n k b:Nat} {x:WireA} (h:i.rs[n]?=some (b,x)):wfb i (some (n,k))=some b:=by
 show ((i.rs[n]?).map Prod.fst)=_
 rw [h];rfl
theorem find_ct (L:List SP) (wb:Nat) (w:WA) (i:WoI) (hw:WOk w) (hrs:i.rs.map Prod.snd=w.ws) (fd:Int):Ct Tryz.prog 112 #[.pointer (some ⟨wb,0,none⟩),.int .i64 fd] (WoL wb w i L) (fun _:Unit=>.tuple #[.agg (plc (w.at fd)).toArray,ptr (wfb i (w.at fd)),.int .i64 (fdErr (w.at fd))]) (fun _:Unit=>WoL wb w i L):=by
 refine Ct.o2 Tryz.func112 ?_;intro E
 show Hd E 48 _ _ _ _
 refine sr fun _ K1=>?_
 refine Hd.alloc zr182 (fun b4=>?_);refine yv y_as<|yv y_as<|fk [(0,_),(1,_),(4,_)] K1 ?_;refine Hd.seq fun _ K2=>?_
 refine Hd.block<|sr fun _ K3=>?_
 refine yv y_mv<|callE rfl fk114 (wnone_ct _ wb w.at w i.rs.length i) sq ?_;intro _;refine yv y_as<|fk [(0,_),(1,_),(4,_),(7,_)] K3 ?_;refine Hd.condF rfl ?_;refine sr fun _ K4=>?_
 refine yv y_mv<|yv (y_lss rfl rfl) ?_;refine yv y_mv ?_;apply Hd.org 3 14 17 [(0,_),(1,_),(4,_)] rfl sbq
 ·intro hg3_14
  try simp only [hyZ] at hg3_14
  simp only [List.take];refine n1<|n1<|yv (y_pickT rfl rfl) ?_;exact Hd.mn
 ·intro hg3_14
  try simp only [hyZ] at hg3_14
  simp only [List.take];refine y2 y_mv<|y2 (y_gtr rfl rfl) ?_;refine yv (y_pickF rfl rfl) ?_;exact Hd.mn
 simp only [List.drop];refine yv y_mv ?_;apply Hd.org 9 18 27 [(0,_),(1,_),(4,_)] rfl sbq
 ·intro hg3_18
  try simp only [hyZ] at hg3_18
  simp only [List.take];refine n1<|n1<|n1<|n1<|n1<|n1<|n1<|n1<|yv (y_pickT rfl rfl) ?_;exact Hd.mn
 ·intro hg3_18
  try simp only [hyZ] at hg3_18
  simp only [List.take];refine y2 y_mv<|y2 y_mv<|y2 y_np<|y2 (y_f 0 183 Tryz.underlying186 sz183)<|y2 (y_idxA (j:=fd.toNat) Tryz.underlying183 sz182 rfl (by exact congrArg (fun z=>some (Value.int .i64 z)) (Int.toNat_of_nonneg (show 0≤fd by omega)).symm) (by omega)) ?_;refine y2 (y_f 0 4 Tryz.underlying182 sz4)<|y2 (y_load1 ag4 rfl (Rd.pt1 pkk (by exact fdC_at (fd:=fd.toNat) (by omega) (show 0 + 0 + fd.toNat * 3 + 0=fd.toNat * 3 + 0 by omega) (by rw [show ((fd.toNat:Nat):Int)=fd by omega];exact plc0 _)))) ?_;refine y2 (y_not rfl)<|yv (y_pickF rfl rfl) ?_;exact Hd.mn
 simp only [List.drop];refine yv y_as<|fk [(0,_),(1,_),(4,_),(11,_)] K4 ?_;refine qz ?_ ?_<;>intro hc1<;>try simp only [hyZ] at hc1
 ·have hno:w.at fd=none:=by
   cases h:w.at fd with
   | none=>rfl
   | some p =>
    obtain ⟨n,k⟩:=p
    have h1:=hw.at_lt h
    exfalso
    rcases hc1 with (h2 | h2) | h2
    ·omega
    ·omega
    ·rw [h] at h2;cases h2
  refine sr fun _ K5=>?_
  refine yv (y_build (cs:=(plc none).toArray) (vs:=[]) rfl kq) ?_;refine Hd.storeA (us:=plc none) sz182 rfl rfl rfl (plc_one _) pkk (by exact rfl) ?_;refine yv y_as<|yv y_as<|fk [(4,_),(5,_),(6,_)] K5 ?_;refine Hd.ret<|Hd.inBret<|Hd.thenRet ?_;exact Hd.retCTT rfl () ag182 rfl rfl rfl (Rd.pt pkk (fun j v e=>by rw [Nat.zero_add];exact e)) (by exact sz182) (by rw [hno];rfl) sq
 have hf0:0≤fd∧fd≤95:=by omega
 obtain ⟨n,k,hnk⟩:∃ n k,w.at fd=some (n,k):=by
  cases h:w.at fd with
  | none=>rw [h] at hc1;exact absurd hc1.2 (by simp)
  | some p=>exact ⟨p.1,p.2,rfl⟩
 obtain ⟨_,_,hk,hn,x,hx,_,_⟩:=hw.at_lt hnk
 obtain ⟨b,hb⟩:=rs_at hrs hx
 have hnl:n < i.rs.length:=(List.getElem?_eq_some_iff.1 hb).1
 obtain ⟨f,hf⟩:∃ f:Nat,fd=(f:Int):=⟨fd.toNat,by omega⟩
 subst hf
 have hf96:f < 96:=by omega
 have hp:plc (w.at (f:Int))=[.bool true,.int .i64 (n:Int),.int .i64 (k:Int)]:=by rw [hnk];rfl
 refine Hd.skip<|Hd.inB<|Hd.toK K2 ?_;refine Hd.seq fun _ K6=>?_
 refine Hd.drawsH ([WoH wb w.at w i.rs.length i,own 189 1 i.wa i.rs.length i.wc (pws i.rs)]) (fun j=>!(([1000]:List Nat).contains j)) mixed ?_;simp only [List.length,Nat.zero_add,Nat.reduceAdd];refine tH 0 rfl y_mv<|tH 1 rfl y_mv<|tH 2 rfl y_np<|tH 3 rfl (y_f 0 183 Tryz.underlying186 sz183)<|tH 4 rfl (y_idxA Tryz.underlying183 sz182 rfl rfl (by omega)) ?_;refine tH 5 rfl (y_loadn (us:=[.bool true,.int .i64 (n:Int),.int .i64 (k:Int)]) ag182 rfl (Rd.pt pkk (fun j v e=>fdC_at0 hf96 (by rw [hp];exact e))) (by exact sz182)) ?_;refine tH 6 rfl y_mv<|tH 7 rfl y_np<|tH 8 rfl (y_f 288 184 Tryz.underlying186 sz184)<|tH 9 rfl (y_load1 ag184 rfl (Rd.pt1 pkk (by rw [List.getElem?_append_right (by rw [fdC_len];omega),fdC_len];rfl))) ?_;refine tH 10 rfl y_mv<|tH 11 rfl y_mv<|tH 12 rfl y_np ?_
 refine tH 13 rfl (y_f 0 183 Tryz.underlying186 sz183)<|tH 14 rfl (y_idxA Tryz.underlying183 sz182 rfl rfl (by omega)) ?_;refine tH 15 rfl (y_f 1 3 Tryz.underlying182 sz3)<|tH 16 rfl (y_load1 ag3 rfl (Rd.pt1 pkk (by exact fdC_at (j:=1) hf96 (by omega) (by rw [hp];rfl)))) ?_;refine tH 17 rfl (y_idxR Tryz.underlying184 sz189 rfl rfl (by omega) (by exact RdS.own pkk)) ?_;refine tH 18 rfl (y_loadR1 ag189 rfl (by exact RdS.own pkk) (by exact pws_at hb)) ?_;refine qo 19 ?_;refine Hd.storeA (us:=[.bool true,.int .i64 (n:Int),.int .i64 (k:Int)]) sz182 rfl rfl rfl (by simp [Value.oneCell']) pkk (by exact rfl) ?_;refine qk<|tH 20 rfl y_as<|tH 21 rfl y_as<|endH kq ?_;refine sk [(4,_),(5,_),(6,_)] K6 ?_;refine Hd.ret ?_;exact Hd.retCTT rfl () ag182 rfl rfl rfl (Rd.pt (us:=[.bool true,.int .i64 (n:Int),.int .i64 (k:Int)]) pkk (fun j v e=>by rw [Nat.zero_add];exact e)) (by exact sz182) (by rw [hnk,wfb_eq hb];rfl) sq
end Wo
end Go.Proofs.YtmpemhbfgbochaaGreatDoor
namespace Go.Proofs.YtmpemhbfgbochaaGreatDoor
open Go.RX Fx
namespace Wo
def WA.setW (w:WA) (n:Nat) (x:WireA):WA:={ w with ws:=w.ws.set n x }
structure SmW (x x':WireA):Prop where
 e:∀ k,k < 2→(x'.e k).what=(x.e k).what∧(x'.e k).fd=(x.e k).fd∧(x'.e k).rd=(x.e k).rd∧(x'.e k).wr=(x.e k).wr
 wt:x'.wt=x.wt
 bl:x'.bl=x.bl
 cap:x'.cap=x.cap
 le:∀ k,k < 2→(x'.e k).b.length≤x.cap
 nb:∀ k,k < 2→(x.e k).rd=false→(x'.e k).b=[]
theorem set_at {α:Type} {l:List α} {n m:Nat} {x y:α} (h:(l.set n x)[m]?=some y):(m=n∧y=x)∨(m≠n∧l[m]?=some y):=by
 by_cases e:m=n
 ·subst e
  have hl:m < l.length:=by have:=(List.getElem?_eq_some_iff.1 h).1;rwa [List.length_set] at this
  rw [List.getElem?_set_self hl] at h;exact .inl ⟨rfl,(Option.some.inj h).symm⟩
 ·rw [List.getElem?_set_ne (Ne.symm e)] at h;exact .inr ⟨e,h⟩
theorem flatMap_set {α β:Type} {f:α→List β}:∀ {l:List α} {n:Nat} {x x':α},l[n]?=some x→f x'=f x→(l.set n x').flatMap f=l.flatMap f
 | [],_,_,_,h,_=>by simp at h
 | a::l,0,x,x',h,e=>by
  obtain rfl:a=x:=by simpa using h
  show f x'++_=f a++_
  rw [e]
 | a::l,n + 1,x,x',h,e=>by
  show f a++(l.set n x').flatMap f=f a++l.flatMap f
  rw [flatMap_set (by simpa using h) e]
theorem WOk.setW {w:WA} (h:WOk w) {n:Nat} {x x':WireA} (hx:w.ws[n]?=some x) (hs:SmW x x'):WOk (w.setW n x'):=by
 have hxm:=List.mem_of_getElem? hx
 have hwf:=h.wf x hxm
 have hfm:(w.setW n x').ws.flatMap WireA.wt=w.ws.flatMap WireA.wt:=flatMap_set hx hs.wt
 have hat:∀ {m:Nat} {y:WireA},(w.setW n x').ws[m]?=some y→∃ z,w.ws[m]?=some z∧∀ k,k < 2→(y.e k).what=(z.e k).what∧(y.e k).fd=(z.e k).fd∧(y.e k).rd=(z.e k).rd:=fun hm=>by
  rcases set_at hm with ⟨rfl,rfl⟩ | ⟨_,hm⟩
  ·exact ⟨x,hx,fun k hk=>⟨(hs.e k hk).1,(hs.e k hk).2.1,(hs.e k hk).2.2.1⟩⟩
  ·exact ⟨_,hm,fun _ _=>⟨rfl,rfl,rfl⟩⟩
 have hta:∀ {m:Nat} {z:WireA},w.ws[m]?=some z→∃ y,(w.setW n x').ws[m]?=some y∧∀ k,k < 2→(y.e k).what=(z.e k).what∧(y.e k).fd=(z.e k).fd∧(y.e k).rd=(z.e k).rd:=fun {m} {z} hm=>by
  by_cases e:m=n
  ·subst e
   rw [hx] at hm;obtain rfl:=Option.some.inj hm;exact ⟨x',by show (w.ws.set m x')[m]?=_;rw [List.getElem?_set_self (List.getElem?_eq_some_iff.1 hx).1],fun k hk=>⟨(hs.e k hk).1,(hs.e k hk).2.1,(hs.e k hk).2.2.1⟩⟩
  ·exact ⟨z,by show (w.ws.set n x')[m]?=_;rw [List.getElem?_set_ne (Ne.symm e)];exact hm,fun _ _=>⟨rfl,rfl,rfl⟩⟩
 refine ⟨?_,?_,?_,h.hdl,h.ctl,?_,by rw [hfm];exact h.wn,?_,?_,fun m y hm=>by
  rcases set_at hm with ⟨rfl,rfl⟩ | ⟨_,hm⟩
  ·rw [hs.wt];exact h.ns _ _ hx
  ·exact h.ns _ _ hm⟩
 ·intro a b y z k j ha hb hk hj h1 h2 h3
  obtain ⟨y',ha',hy⟩:=hat ha
  obtain ⟨z',hb',hz⟩:=hat hb
  exact h.uq a b y' z' k j ha' hb' hk hj ((hy k hk).1 ▸ h1) ((hz j hj).1 ▸ h2) (by rw [←(hy k hk).2.1,←(hz j hj).2.1];exact h3)
 ·intro y hy k hk h1
  obtain ⟨m,hm,e⟩:=List.getElem_of_mem hy
  obtain ⟨z,hz,he⟩:=hat (m:=m) (y:=y) (by rw [List.getElem?_eq_getElem hm,e])
  have:=h.fd z (List.mem_of_getElem? hz) k hk ((he k hk).1 ▸ h1)
  rw [(he k hk).2.1];exact this
 ·show (w.ws.set n x').length≤1000;rw [List.length_set];exact h.len
 ·intro y hy
  rcases List.mem_or_eq_of_mem_set hy with hy | rfl
  ·exact h.wf y hy
  ·exact ⟨fun k hk=>by rw [(hs.e k hk).2.2.2,(hs.e (1 - k) (by omega)).2.2.1];exact hwf.wr k hk,fun k hk=>by rw [hs.cap];exact hs.le k hk,fun k hk hr=>hs.nb k hk (by rw [←(hs.e k hk).2.2.1];exact hr),by rw [hs.cap];exact hwf.cap,fun k hk=>by rw [(hs.e k hk).1];exact hwf.what k hk,by rw [hs.bl,hs.wt];exact hwf.bl,fun h1=>by rw [(hs.e 0 (by omega)).2.2.1,(hs.e 1 (by omega)).2.2.1];exact hwf.ou (by rw [←(hs.e 1 (by omega)).1];exact h1)⟩
 ·intro m hm
  rw [hfm] at hm
  obtain ⟨z,hz,h0⟩:=h.wm m hm
  obtain ⟨y,hy,he⟩:=hta hz
  exact ⟨y,hy,by rw [(he 0 (by omega)).1];exact h0⟩
 ·intro m k hm
  obtain ⟨hk,z,hz,h0,h1⟩:=h.nt m k hm
  obtain ⟨y,hy,he⟩:=hta hz
  exact ⟨hk,y,hy,by rw [(he 0 (by omega)).2.2];exact h0,by rw [(he 1 (by omega)).2.2];exact h1⟩
theorem WOk.setW_at {w:WA} (h:WOk w) {n:Nat} {x x':WireA} (hx:w.ws[n]?=some x) (hs:SmW x x'):(w.setW n x').at=w.at:=by
 funext fd
 refine atW_ext (h.setW hx hs).uq h.uq fun m k hk=>?_
 show (∃ y,(w.ws.set n x')[m]?=some y∧_)↔_
 by_cases e:m=n
 ·subst e
  rw [List.getElem?_set_self (List.getElem?_eq_some_iff.1 hx).1,hx]
  have:=hs.e k hk
  constructor
  ·rintro ⟨y,hy,h1,h2⟩;obtain rfl:=Option.some.inj hy;exact ⟨x,rfl,this.1 ▸ h1,this.2.1 ▸ h2⟩
  ·rintro ⟨y,hy,h1,h2⟩;obtain rfl:=Option.some.inj hy;exact ⟨x',rfl,by rw [this.1];exact h1,by rw [this.2.1];exact h2⟩
 ·rw [List.getElem?_set_ne (Ne.symm e)]
theorem pws_set {rs:List (Nat×WireA)} {n b:Nat} {x x':WireA} (h:rs[n]?=some (b,x)):pws (rs.set n (b,x'))=pws rs:=by
 unfold pws;rw [List.map_set];apply List.ext_getElem?;intro j
 by_cases e:n=j
 ·subst e
  rw [List.getElem?_set_self (by rw [List.length_map];exact (List.getElem?_eq_some_iff.1 h).1),List.getElem?_map,h];rfl
 ·rw [List.getElem?_set_ne e]
theorem world_fold {wb n b:Nat} {w:WA} {i:WoI} {x x':WireA} {L:List SP} (hw:WOk w) (hrs:i.rs.map Prod.snd=w.ws) (hb:i.rs[n]?=some (b,x)) (hs:SmW x x') :
  ∀ h,sep (WoH wb w.at w i.rs.length i::own 189 1 i.wa i.rs.length i.wc (pws i.rs)::SigP i.sb w.hd w.ct::WireP b x'::Wires (i.rs.take n)::Wires (i.rs.drop (n + 1))::L) h→sep (WorldP wb (w.setW n x')::L) h:=by
 intro h s
 have hx:w.ws[n]?=some x:=by rw [←hrs,List.getElem?_map,hb];rfl
 have hn:=(List.getElem?_eq_some_iff.1 hb).1
 have h1:sep (WireP b x'::Wires (i.rs.take n)::Wires (i.rs.drop (n + 1))::WoH wb w.at w i.rs.length i::own 189 1 i.wa i.rs.length i.wc (pws i.rs)::SigP i.sb w.hd w.ct::L) h:=Ent.sep enn h s
 have h2:=ws_in hn h1
 have hat:=hw.setW_at hx hs
 have hl:(i.rs.set n (b,x')).length=i.rs.length:=List.length_set ..
 have hp:=pws_set (x':=x') hb
 refine Ent.sep (.ex { i with rs:=i.rs.set n (b,x') } (.pure ⟨hw.setW hx hs,by show (i.rs.set n (b,x')).map Prod.snd=w.ws.set n x';rw [List.map_set,hrs]⟩ ?_)) h h2;exact .eq pkk (pt_eq (show fdC w.at++woT w i.rs.length i=fdC (w.setW n x').at++woT (w.setW n x') (i.rs.set n (b,x')).length { i with rs:=i.rs.set n (b,x') } by rw [hat,hl];rfl)) (.eq pkk (own_eq3 hl.symm rfl hp.symm) enn)
theorem Hd.wOut {E:World} {n:Nat} {ds:List Deferred} {st:List (Nat×Value)} {L L':List SP} {K:Act→World→Prop} {rs:List (Nat×WireA)} {j b:Nat} {x:WireA} (p:Pick L (Wires rs) L') (hj:rs[j]?=some (b,x)) (h:Hd E n ds st (WireP b x::Wires (rs.take j)::Wires (rs.drop (j + 1))::L') K):Hd E n ds st L K:=Hd.heap _ (fun _ s=>ws_out hj (p.sep s)) h
theorem smW_rise {x:WireA} (h:WfW x) (k:Nat) (i o:Bool):SmW x (x.up k (riseE i o)):=by
 have hb:∀ j,((x.up k (riseE i o)).e j).b=(x.e j).b:=fun j=>by
  by_cases e:j=k
  ·subst e;rw [up_at];rfl
  ·rw [up_ne _ _ e]
 refine ⟨fun j _=>?_,rfl,rfl,rfl,fun j hj=>by rw [hb];exact h.le j hj,fun j hj hr=>by rw [hb];exact h.nb j hj hr⟩
 by_cases e:j=k
 ·subst e;rw [up_at];exact ⟨rfl,rfl,rfl,rfl⟩
 ·rw [up_ne _ _ e];exact ⟨rfl,rfl,rfl,rfl⟩
theorem SmW.wf {x x':WireA} (hs:SmW x x') (h:WfW x):WfW x' :=
 ⟨fun k hk=>by rw [(hs.e k hk).2.2.2,(hs.e (1 - k) (by omega)).2.2.1];exact h.wr k hk,fun k hk=>by rw [hs.cap];exact hs.le k hk,fun k hk hr=>hs.nb k hk (by rw [←(hs.e k hk).2.2.1];exact hr),by rw [hs.cap];exact h.cap,fun k hk=>by rw [(hs.e k hk).1];exact h.what k hk,by rw [hs.bl,hs.wt];exact h.bl,fun h1=>by rw [(hs.e 0 (by omega)).2.2.1,(hs.e 1 (by omega)).2.2.1];exact h.ou (by rw [←(hs.e 1 (by omega)).1];exact h1)⟩
theorem SmW.trans {x y z:WireA} (h1:SmW x y) (h2:SmW y z):SmW x z :=
 ⟨fun k hk=>by
  obtain ⟨a1,a2,a3,a4⟩:=h1.e k hk
  obtain ⟨b1,b2,b3,b4⟩:=h2.e k hk
  exact ⟨by rw [b1,a1],by rw [b2,a2],by rw [b3,a3],by rw [b4,a4]⟩,by rw [h2.wt,h1.wt],by rw [h2.bl,h1.bl],by rw [h2.cap,h1.cap],fun k hk=>by rw [←h1.cap];exact h2.le k hk,fun k hk hr=>h2.nb k hk (by rw [(h1.e k hk).2.2.1];exact hr)⟩
theorem smW_bytes {x:WireA} (h:WfW x) {k:Nat} {l:List UInt8} (hl:l.length≤x.cap) (hr:(x.e k).rd=true):SmW x (x.up k fun e=>{ e with b:=l }):=by
 refine ⟨fun j _=>?_,rfl,rfl,rfl,fun j hj=>?_,fun j hj hf=>?_⟩
 ·by_cases e:j=k
  ·subst e;rw [up_at];exact ⟨rfl,rfl,rfl,rfl⟩
  ·rw [up_ne _ _ e];exact ⟨rfl,rfl,rfl,rfl⟩
 ·by_cases e:j=k
  ·subst e;rw [up_at];exact hl
  ·rw [up_ne _ _ e];exact h.le j hj
 ·by_cases e:j=k
  ·subst e;rw [hr] at hf;cases hf
  ·rw [up_ne _ _ e];exact h.nb j hj hf
theorem smW_take {x:WireA} (h:WfW x) {k n:Nat} (hk:k < 2) (hr:(x.e k).rd=true):SmW x (takeW x k n):=by
 have h1:SmW x (x.up k fun e=>{ e with b:=e.b.drop n }):=by
  rw [show (x.up k fun e=>{ e with b:=e.b.drop n })=x.up k fun e=>{ e with b:=(x.e k).b.drop n } from up_eq rfl];exact smW_bytes h (by have:=h.le k hk;rw [List.length_drop];omega) hr
 exact h1.trans (smW_rise (h1.wf h) _ _ _)
theorem smW_put {x:WireA} (h:WfW x) {k:Nat} (hk:k < 2) (bs:List UInt8) (hr:(x.e (1 - k)).rd=true):SmW x (putW x k bs):=by
 have h1:SmW x (x.up (1 - k) fun e=>{ e with b:=e.b++bs.take (putN x k bs) }):=by
  rw [show (x.up (1 - k) fun e=>{ e with b:=e.b++bs.take (putN x k bs) })=x.up (1 - k) fun e=>{ e with b:=(x.e (1 - k)).b++bs.take (putN x k bs) } from up_eq rfl];refine smW_bytes h ?_ hr
  have:=h.le (1 - k) (by omega)
  rw [List.length_append,List.length_take];unfold putN;omega
 exact h1.trans (smW_rise (h1.wf h) _ _ _)
end Wo
end Go.Proofs.YtmpemhbfgbochaaGreatDoor
namespace Go.Proofs.YtmpemhbfgbochaaGreatDoor
open Go.RX Fx
namespace Wo
theorem setW_same {w:WA} {n:Nat} {x:WireA} (h:w.ws[n]?=some x):w.setW n x=w:=by
 obtain ⟨hn,e⟩:=List.getElem?_eq_some_iff.1 h
 unfold WA.setW;rw [←e,List.set_getElem_self]
theorem smW_same {x:WireA} (h:WfW x):SmW x x:=⟨fun _ _=>⟨rfl,rfl,rfl,rfl⟩,rfl,rfl,rfl,h.le,h.nb⟩
abbrev WoR (wb n:Nat) (w:WA) (i:WoI) (L:List SP):List SP:=WoH wb w.at w i.rs.length i::own 189 1 i.wa i.rs.length i.wc (pws i.rs)::SigP i.sb w.hd w.ct::Wires (i.rs.take n)::Wires (i.rs.drop (n + 1))::L
theorem world_fold' {wb n b:Nat} {w:WA} {i:WoI} {x x':WireA} {L:List SP} (hw:WOk w) (hrs:i.rs.map Prod.snd=w.ws) (hb:i.rs[n]?=some (b,x)) (hs:SmW x x') :
  ∀ h,sep (WireP b x'::WoR wb n w i L) h→sep (WorldP wb (w.setW n x')::L) h :=
 fun h s=>world_fold hw hrs hb hs h (Ent.sep enn h s)
theorem world_same {wb n b:Nat} {w:WA} {i:WoI} {x:WireA} {L:List SP} (hw:WOk w) (hrs:i.rs.map Prod.snd=w.ws) (hb:i.rs[n]?=some (b,x)) :
  ∀ h,sep (WireP b x::WoR wb n w i L) h→sep (WorldP wb w::L) h:=by
 have hx:w.ws[n]?=some x:=by rw [←hrs,List.getElem?_map,hb];rfl
 have:=world_fold' (wb:=wb) (L:=L) hw hrs hb (smW_same (hw.wf x (List.mem_of_getElem? hx)))
 rwa [setW_same hx] at this
theorem world_back {wb n b k:Nat} {w:WA} {i:WoI} {x:WireA} {i2:WI} {L:List SP} (hw:WOk w) (hrs:i.rs.map Prod.snd=w.ws) (hb:i.rs[n]?=some (b,x)) (hi:WIOk x i2) (hk:k < 2) :
  ∀ h,sep (WireL b x i2 k (WoR wb n w i L)) h→sep (WorldP wb w::L) h :=
 fun h s=>world_same hw hrs hb h (wire_fold hi hk h s)
def readR (w:WA) (fd n:Int):(List UInt8×Bool×Int)×WA:=match w.at fd with
 | none=>(([],false,110),w)
 | some (m,k)=>match w.ws[m]? with
  | none=>(([],false,110),w)
  | some x =>
   if (x.e k).rd=false then (([],false,111),w) else if n < 1 then (([],false,2),w) else if x.rs=true then (([],false,115),w)
   else if (x.e k).b≠[] then (((x.e k).b.take n.toNat,false,0),w.setW m (takeW x k n.toNat))
   else if silentW x k=true then (([],true,0),w) else (([],false,113),w)
theorem takeW_nil {x:WireA} {k n:Nat} (h:(x.e k).b=[]):takeW x k n=x:=by
 unfold takeW
 have e2:(x.up k fun e=>{ e with b:=e.b.drop n })=x:=up_id (by
  show { x.e k with b:=(x.e k).b.drop n }=x.e k
  rw [h,List.drop_nil,←h])
 rw [e2,h];exact up_id (by simp [riseE])
theorem wread_ct (L:List SP) (wb:Nat) (w:WA) (fd n:Int):Ct Tryz.prog 54 #[.pointer (some ⟨wb,0,none⟩),.int .i64 fd,.int .i64 n] (WorldP wb w::L) (fun q_:Option Addr×Nat=>.tuple #[.slice q_.1 (readR w fd n).1.1.length q_.2,.bool (readR w fd n).1.2.1,.int .i64 (readR w fd n).1.2.2]) (fun q_:Option Addr×Nat=>own 5 1 q_.1 (readR w fd n).1.1.length q_.2 (bsl (readR w fd n).1.1)::WorldP wb (readR w fd n).2::L):=by
 refine Ct.o3 Tryz.func54 ?_;intro E
 show Hd E 53 _ _ _ _
 refine Hd.world .here (fun i hw hrs=>?_);refine sr fun _ K1=>?_
 refine yv y_as<|yv y_as<|yv y_as<|fk [(0,_),(1,_),(2,_)] K1 ?_;refine sr fun _ K2=>?_
 refine yv y_mv<|yv y_mv<|callE rfl fk112 (find_ct _ wb w i hw hrs fd) sq ?_;intro _;refine yv y_mv<|yv y_ex<|yv y_ex<|yv y_ex<|Hd.alloc zr182 (fun b9=>?_);refine Hd.storeA (us:=plc (w.at fd)) (by rw [plc_len];exact sz182) rfl rfl rfl (plc_one _) pkk (by rw [plc_len];rfl) ?_;refine yv y_as<|yv y_as<|fk [(2,_),(8,_),(9,_),(10,_)] K2 ?_;refine Hd.seq fun _ K3=>?_
 refine Hd.block<|sr fun _ K4=>?_
 refine yv y_mv<|yv (y_neq rfl rfl) ?_;refine yv y_as<|fk [(2,_),(8,_),(9,_),(10,_),(18,_)] K4 ?_;refine qz ?_ ?_<;>intro hc0<;>try simp only [hyZ] at hc0
 ·refine sr fun _ K5=>?_
  refine yv y_mv<|yv y_as<|yv y_as<|yv y_as<|fk [(6,_),(7,_),(8,_)] K5 ?_;refine Hd.ret<|Hd.inBret<|Hd.thenRet ?_
  have hno:w.at fd=none:=by
   cases h:w.at fd with
   | none=>rfl
   | some p=>rw [h] at hc0;exact absurd rfl hc0
  rw [show readR w fd n=(([],false,110),w) by unfold readR;rw [hno]];exact Hd.ret3 rfl (none,0) rfl rfl rfl (by rw [hno];rfl) (Ent.sep (.ownNil (.ex i (.pure ⟨hw,hrs⟩ enn))))
 obtain ⟨m,k,hnk⟩:∃ m k,w.at fd=some (m,k):=by
  cases h:w.at fd with
  | none=>rw [h] at hc0;exact absurd hc0 (by decide)
  | some p=>exact ⟨p.1,p.2,rfl⟩
 obtain ⟨_,_,hk,hn,x,hx,_,_⟩:=hw.at_lt hnk
 obtain ⟨b,hb⟩:=rs_at hrs hx
 have hwf:=hw.wf x (List.mem_of_getElem? hx)
 have hk1:1 - k < 2:=by omega
 have hrd:readR w fd n=if (x.e k).rd=false then (([],false,111),w) else if n < 1 then (([],false,2),w) else if x.rs=true then (([],false,115),w)
   else if (x.e k).b≠[] then (((x.e k).b.take n.toNat,false,0),w.setW m (takeW x k n.toNat))
   else if silentW x k=true then (([],true,0),w) else (([],false,113),w):=by
  unfold readR;rw [hnk];dsimp only;rw [hx]
 rw [hnk,wfb_eq hb];refine Hd.wOut pkk hb ?_;refine Hd.wire .here k hk (fun i2 hi=>?_);refine Hd.seq fun _ K6=>?_
 refine Hd.quiet mixed kq ?_;refine Hq.yv y_mv ?_;refine Hq.yv (y_f 2 3 Tryz.underlying182 sz3) ?_;refine Hq.yv (y_l1 ag3 rfl) ?_;refine Hq.yv y_np ?_;refine Hq.yv (y_f 0 196 Tryz.underlying198 sz196) ?_;refine Hq.yv (y_idxA Tryz.underlying196 sz195 rfl rfl (by omega)) ?_;refine Hq.yv (y_f 2 193 Tryz.underlying195 sz193) ?_;refine Hq.yv (y_load1 ag193 rfl (Rd.pt1 pkk (by exact enc_at 2 hk (by omega) (by omega) rfl))) ?_;refine Hq.yv (y_to (v':=.bool (!(x.e k).rd)) (y_eql_pointer Tryz.underlying193 rfl rfl) (by (show Value.bool (Option.isNone _)=_;rw [ptr_no,hi.rd k hk]))) ?_;refine Hq.yv y_as ?_;refine Hq.nil ?_;refine sk [(2,_),(9,_),(10,_),(22,_)] K6 ?_;refine qz ?_ ?_<;>intro hc1<;>try simp only [hyZ] at hc1
 ·refine sr fun _ K7=>?_
  refine yv y_as<|yv y_as<|yv y_as<|fk [(6,_),(7,_),(8,_)] K7 ?_;refine Hd.ret<|Hd.inBret<|Hd.thenRet ?_;rw [hrd,if_pos hc1];exact Hd.ret3 rfl (none,0) rfl rfl rfl rfl (Ent.sep (.ownNil .same) |> fun h q s=>h q (world_back hw hrs hb hi hk q (Ent.sep enn q s)))
 rw [if_neg (by rw [hc1];simp)] at hrd;refine sr fun _ K8=>?_
 refine yv y_mv<|yv (y_lss rfl rfl) ?_;refine yv y_as<|fk [(2,_),(9,_),(10,_),(32,_)] K8 ?_;refine qz ?_ ?_<;>intro hc2<;>try simp only [hyZ] at hc2
 ·refine sr fun _ K9=>?_
  refine yv y_as<|yv y_as<|yv y_as<|fk [(6,_),(7,_),(8,_)] K9 ?_;refine Hd.ret<|Hd.inBret<|Hd.thenRet ?_;rw [hrd,if_pos hc2];exact Hd.ret3 rfl (none,0) rfl rfl rfl rfl (Ent.sep (.ownNil .same) |> fun h q s=>h q (world_back hw hrs hb hi hk q (Ent.sep enn q s)))
 rw [if_neg (by omega)] at hrd;refine sr fun _ K10=>?_
 refine yv y_mv<|yv y_np<|yv (y_f 14 4 Tryz.underlying198 sz4)<|yv (y_l1 ag4 rfl)<|yv y_as<|fk [(2,_),(9,_),(10,_),(35,_)] K10 ?_;refine qz ?_ ?_<;>intro hc3<;>try simp only [hyZ] at hc3
 ·refine sr fun _ K11=>?_
  refine yv y_as<|yv y_as<|yv y_as<|fk [(6,_),(7,_),(8,_)] K11 ?_;refine Hd.ret<|Hd.inBret<|Hd.thenRet ?_;rw [hrd,if_pos hc3];exact Hd.ret3 rfl (none,0) rfl rfl rfl rfl (Ent.sep (.ownNil .same) |> fun h q s=>h q (world_back hw hrs hb hi hk q (Ent.sep enn q s)))
 rw [if_neg (by rw [hc3];simp)] at hrd;refine Hd.skip<|Hd.inB<|Hd.toK K3 ?_;refine Hd.seq fun _ K12=>?_
 refine Hd.seq fun _ K13=>?_
 refine Hd.heap (WireP b x::pt b9 (plc (some (m,k))) 182::WoR wb m w i L) (fun q s=>wire_fold hi hk q (Ent.sep enn q s)) ?_;refine Hd.region<|yv y_mv<|yv (y_f 2 3 Tryz.underlying182 sz3)<|yv (y_l1 ag3 rfl)<|yv y_mv<|callE rfl fk118 (take_ct _ b x k hk hc1 n) sq ?_;rintro ⟨ad,c⟩;dsimp only;refine yv y_as<|fk [(6,_),(9,_),(10,_)] K13 ?_;refine sr fun _ K14=>?_
 refine yv y_mv<|yv (y_len Tryz.underlying30 rfl) ?_;refine yv (y_gtr rfl rfl) ?_;refine fk [(6,_),(9,_),(10,_),(47,_)] K14 ?_;refine qz ?_ ?_<;>intro hc4<;>try simp only [hyZ] at hc4
 ·refine sr fun _ K15=>?_
  refine yv y_mv<|yv y_as<|yv y_as<|yv y_as<|fk [(6,_),(7,_),(8,_)] K15 ?_;refine Hd.ret<|Hd.thenRet ?_
  have hne:(x.e k).b≠[]:=fun h=>by rw [h] at hc4;simp at hc4
  rw [hrd,if_pos hne];exact Hd.ret3 rfl (ad,c) rfl rfl rfl rfl (fun q s=>Ent.sep (show Ent (WorldP wb (w.setW m (takeW x k n.toNat))::own 5 1 ad ((x.e k).b.take n.toNat).length c (bsl ((x.e k).b.take n.toNat))::L) (own 5 1 ad ((x.e k).b.take n.toNat).length c (bsl ((x.e k).b.take n.toNat))::WorldP wb (w.setW m (takeW x k n.toNat))::L) from enn) q (world_fold' hw hrs hb (smW_take hwf hk hc1) q (Ent.sep enn q s)))
 have hnl:(x.e k).b=[]:=by
  have h1:((x.e k).b.take n.toNat).length=0:=by omega
  rw [List.length_take] at h1;exact List.eq_nil_of_length_eq_zero (by omega)
 rw [if_neg (by rw [hnl];simp)] at hrd;rw [takeW_nil hnl];refine qv K12<|Hd.seq fun _ K16=>?_
 refine sr fun _ K17=>?_
 refine yv y_mv<|yv (y_f 2 3 Tryz.underlying182 sz3)<|yv (y_l1 ag3 rfl)<|callE rfl fk119 (silent_ct _ b x k hk) sq ?_;intro _;refine fk [(52,_)] K17 ?_;refine qz ?_ ?_<;>intro hc5<;>try simp only [hyZ] at hc5
 ·refine sr fun _ K18=>?_
  refine yv y_as<|yv y_as<|yv y_as<|fk [(6,_),(7,_),(8,_)] K18 ?_;refine Hd.ret<|Hd.thenRet ?_;rw [hrd,if_pos hc5];exact Hd.ret3 rfl (none,0) rfl rfl rfl rfl (Ent.sep (.ownNil .same) |> fun h q s=>h q (world_same hw hrs hb q (Ent.sep enn q s)))
 refine qv K16<|sr fun _ K19=>?_
 refine yv y_as<|yv y_as<|yv y_as<|fk [(6,_),(7,_),(8,_)] K19 ?_;refine Hd.ret ?_;rw [hrd,if_neg (by rw [hc5];simp)];exact Hd.ret3 rfl (none,0) rfl rfl rfl rfl (Ent.sep (.ownNil .same) |> fun h q s=>h q (world_same hw hrs hb q (Ent.sep enn q s)))
end Wo
end Go.Proofs.YtmpemhbfgbochaaGreatDoor
namespace Go.Proofs.YtmpemhbfgbochaaGreatDoor
open Go.RX Fx
namespace Wo
def writeR (w:WA) (fd:Int) (bs:List UInt8):(Int×Int)×WA:=match w.at fd with
 | none=>((0,110),w)
 | some (m,k)=>match w.ws[m]? with
  | none=>((0,110),w)
  | some x =>
   if (x.e k).wr=false then ((0,111),w) else if x.rs=true then ((0,115),w) else if (x.e k).shut=true∨(x.e (1 - k)).what=3 then ((0,114),w)
   else if bs.length=0 then ((0,0),w) else if putN x k bs=0 then ((0,113),w) else ((((putN x k bs:Nat):Int),0),w.setW m (putW x k bs))
theorem putW_zero {x:WireA} {k:Nat} {bs:List UInt8} (h:putN x k bs=0):putW x k bs=x:=by
 unfold putW;rw [h]
 have e2:(x.up (1 - k) fun e=>{ e with b:=e.b++bs.take 0 })=x:=up_id (by simp)
 rw [e2];exact up_id (by simp [riseE])
theorem wwrite_ct (L:List SP) (wb:Nat) (w:WA) (fd:Int) (ad:Option Addr) (m c:Nat) (bs:List UInt8) (hm:bs.length=m) (hR:RdS L 1 ad m (bsl bs)) (hml:m≤70368744177664) (hmc:m≤c):Ct Tryz.prog 44 #[.pointer (some ⟨wb,0,none⟩),.int .i64 fd,.slice ad m c] (WorldP wb w::L) (fun _:Unit=>.tuple #[.int .i64 (writeR w fd bs).1.1,.int .i64 (writeR w fd bs).1.2]) (fun _:Unit=>WorldP wb (writeR w fd bs).2::L):=by
 refine Ct.o3 Tryz.func44 ?_;intro E
 show Hd E 71 _ _ _ _
 refine Hd.world .here (fun i hw hrs=>?_);refine sr fun _ K1=>?_
 refine yv y_as<|yv y_as<|fk [(0,_),(1,_),(2,_)] K1 ?_;refine sr fun _ K2=>?_
 refine yv y_mv<|yv y_mv<|callE rfl fk112 (find_ct _ wb w i hw hrs fd) sq ?_;intro _;refine yv y_mv<|yv y_ex<|yv y_ex<|yv y_ex<|Hd.alloc zr182 (fun b8=>?_);refine Hd.storeA (us:=plc (w.at fd)) (by rw [plc_len];exact sz182) rfl rfl rfl (plc_one _) pkk (by rw [plc_len];rfl) ?_;refine yv y_as<|yv y_as<|fk [(2,_),(8,_),(9,_),(10,_)] K2 ?_;refine Hd.seq fun _ K3=>?_
 refine Hd.block<|sr fun _ K4=>?_
 refine yv y_mv<|yv (y_neq rfl rfl) ?_;refine yv y_as<|fk [(2,_),(8,_),(9,_),(10,_),(19,_)] K4 ?_;refine qz ?_ ?_<;>intro hc0<;>try simp only [hyZ] at hc0
 ·refine sr fun _ K5=>?_
  refine yv y_mv<|yv y_as<|yv y_as<|fk [(6,_),(7,_)] K5 ?_;refine Hd.ret<|Hd.inBret<|Hd.thenRet ?_
  have hno:w.at fd=none:=by
   cases h:w.at fd with
   | none=>rfl
   | some p=>rw [h] at hc0;exact absurd rfl hc0
  rw [show writeR w fd bs=((0,110),w) by unfold writeR;rw [hno]];exact Hd.ret2 rfl () rfl rfl (by rw [hno];rfl) (Ent.sep (.ex i (.pure ⟨hw,hrs⟩ enn)))
 obtain ⟨m0,k,hnk⟩:∃ m k,w.at fd=some (m,k):=by
  cases h:w.at fd with
  | none=>rw [h] at hc0;exact absurd hc0 (by decide)
  | some p=>exact ⟨p.1,p.2,rfl⟩
 obtain ⟨_,_,hk,hn,x,hx,_,_⟩:=hw.at_lt hnk
 obtain ⟨b,hb⟩:=rs_at hrs hx
 have hwf:=hw.wf x (List.mem_of_getElem? hx)
 have hk1:1 - k < 2:=by omega
 have hrd:writeR w fd bs=if (x.e k).wr=false then ((0,111),w) else if x.rs=true then ((0,115),w) else if (x.e k).shut=true∨(x.e (1 - k)).what=3 then ((0,114),w)
   else if bs.length=0 then ((0,0),w) else if putN x k bs=0 then ((0,113),w) else ((((putN x k bs:Nat):Int),0),w.setW m0 (putW x k bs)):=by
  unfold writeR;rw [hnk];dsimp only;rw [hx]
 rw [hnk,wfb_eq hb];refine Hd.wOut pkk hb ?_;refine Hd.wire .here k hk (fun i2 hi=>?_);refine Hd.seq fun _ K6=>?_
 refine Hd.quiet mixed kq ?_;refine Hq.yv y_mv ?_;refine Hq.yv (y_f 2 3 Tryz.underlying182 sz3) ?_;refine Hq.yv (y_l1 ag3 rfl) ?_;refine Hq.yv y_np ?_;refine Hq.yv (y_f 0 196 Tryz.underlying198 sz196) ?_;refine Hq.yv (y_idxA Tryz.underlying196 sz195 rfl rfl (by omega)) ?_;refine Hq.yv (y_f 3 4 Tryz.underlying195 sz4) ?_;refine Hq.yv (y_load1 ag4 rfl (Rd.pt1 pkk (by exact enc_at 3 hk (by omega) (by omega) rfl))) ?_;refine Hq.yv (y_not rfl) ?_;refine Hq.yv y_as ?_;refine Hq.nil ?_;refine sk [(2,_),(8,_),(9,_),(23,_)] K6 ?_;refine qz ?_ ?_<;>intro hc1<;>try simp only [hyZ] at hc1
 ·refine sr fun _ K7=>?_
  refine yv y_as<|yv y_as<|fk [(6,_),(7,_)] K7 ?_;refine Hd.ret<|Hd.inBret<|Hd.thenRet ?_;rw [hrd,if_pos hc1];exact Hd.ret2 rfl () rfl rfl rfl (fun q s=>world_back hw hrs hb hi hk q (Ent.sep enn q s))
 rw [if_neg (by rw [hc1];simp)] at hrd;refine sr fun _ K8=>?_
 refine yv y_mv<|yv y_np<|yv (y_f 14 4 Tryz.underlying198 sz4)<|yv (y_l1 ag4 rfl)<|yv y_as<|fk [(2,_),(8,_),(9,_),(33,_)] K8 ?_;refine qz ?_ ?_<;>intro hc2<;>try simp only [hyZ] at hc2
 ·refine sr fun _ K9=>?_
  refine yv y_as<|yv y_as<|fk [(6,_),(7,_)] K9 ?_;refine Hd.ret<|Hd.inBret<|Hd.thenRet ?_;rw [hrd,if_pos hc2];exact Hd.ret2 rfl () rfl rfl rfl (fun q s=>world_back hw hrs hb hi hk q (Ent.sep enn q s))
 rw [if_neg (by rw [hc2];simp)] at hrd;refine Hd.seq fun _ K10=>?_
 refine Hd.quiet mixed kq ?_;refine Hq.yv y_mv ?_;refine Hq.yv (y_f 2 3 Tryz.underlying182 sz3) ?_;refine Hq.yv (y_l1 ag3 rfl) ?_;refine Hq.yv y_np ?_;refine Hq.yv (y_f 0 196 Tryz.underlying198 sz196) ?_;refine Hq.yv (y_idxA Tryz.underlying196 sz195 rfl rfl (by omega)) ?_;refine Hq.yv (y_f 4 4 Tryz.underlying195 sz4) ?_;refine Hq.yv (y_load1 ag4 rfl (Rd.pt1 pkk (by exact enc_at 4 hk (by omega) (by omega) rfl))) ?_;refine Hq.yv y_mv ?_;apply Hq.org 11 47 58 [(2,_),(8,_),(9,_)] rfl ⟨rfl,rfl,rfl,trivial⟩
 ·intro hg8_47
  try simp only [hyZ] at hg8_47
  simp only [List.take];refine Hq.ng rfl rfl rfl ?_;refine Hq.ng rfl rfl rfl ?_;refine Hq.ng rfl rfl rfl ?_;refine Hq.ng rfl rfl rfl ?_;refine Hq.ng rfl rfl rfl ?_;refine Hq.ng rfl rfl rfl ?_;refine Hq.ng rfl rfl rfl ?_;refine Hq.ng rfl rfl rfl ?_;refine Hq.ng rfl rfl rfl ?_;refine Hq.ng rfl rfl rfl ?_;refine Hq.yv (y_pickT rfl rfl) ?_;exact Hq.mend sbq
 ·intro hg8_47
  try simp only [hyZ] at hg8_47
  simp only [List.take];refine Hq.yg rfl rfl y_mv ?_;refine Hq.yg rfl rfl (y_f 2 3 Tryz.underlying182 sz3) ?_;refine Hq.yg rfl rfl (y_l1 ag3 rfl) ?_;refine Hq.yg rfl rfl (y_to (v':=.int .i64 ((1 - k:Nat):Int)) (y_subn rfl rfl (by simp only [InK];omega)) (by (congr 1;omega))) ?_;refine Hq.yg rfl rfl y_np ?_;refine Hq.yg rfl rfl (y_f 0 196 Tryz.underlying198 sz196) ?_;refine Hq.yg rfl rfl (y_idxA Tryz.underlying196 sz195 rfl rfl (by omega)) ?_;refine Hq.yg rfl rfl (y_f 0 3 Tryz.underlying195 sz3) ?_;refine Hq.yg rfl rfl (y_load1 ag3 rfl (Rd.pt1 pkk (by exact enc_at 0 hk1 (by omega) (by omega) rfl))) ?_;refine Hq.yg rfl rfl (y_eql rfl rfl) ?_;refine Hq.yv (y_pickF rfl rfl) ?_;exact Hq.mend sbq
 simp only [List.drop];refine Hq.yv y_as ?_;refine Hq.nil ?_;refine sk [(2,_),(8,_),(9,_),(38,_)] K10 ?_;refine qz ?_ ?_<;>intro hc3<;>try simp only [hyZ] at hc3
 ·refine sr fun _ K11=>?_
  refine yv y_as<|yv y_as<|fk [(6,_),(7,_)] K11 ?_;refine Hd.ret<|Hd.inBret<|Hd.thenRet ?_;rw [hrd,if_pos hc3];exact Hd.ret2 rfl () rfl rfl rfl (fun q s=>world_back hw hrs hb hi hk q (Ent.sep enn q s))
 have hns:¬ ((x.e k).shut=true∨(x.e (1 - k)).what=3):=by
  rintro (h | h)
  ·rw [h] at hc3;cases hc3.1
  ·exact hc3.2 h
 rw [if_neg hns] at hrd;refine sr fun _ K12=>?_
 refine yv y_mv<|yv (y_len Tryz.underlying30 rfl) ?_;refine yv (y_eql rfl rfl) ?_;refine yv y_as<|fk [(2,_),(8,_),(9,_),(59,_)] K12 ?_;refine qz ?_ ?_<;>intro hc4<;>try simp only [hyZ] at hc4
 ·refine sr fun _ K13=>?_
  refine yv y_as<|yv y_as<|fk [(6,_),(7,_)] K13 ?_;refine Hd.ret<|Hd.inBret<|Hd.thenRet ?_;rw [hrd,if_pos (by omega)];exact Hd.ret2 rfl () rfl rfl rfl (fun q s=>world_back hw hrs hb hi hk q (Ent.sep enn q s))
 rw [if_neg (by omega)] at hrd;refine Hd.skip<|Hd.inB<|Hd.toK K3 ?_;refine Hd.seq fun _ K14=>?_
 have hr1:(x.e (1 - k)).rd=true:=by rw [←hwf.wr k hk];exact hc1
 refine Hd.heap (WireP b x::pt b8 (plc (some (m0,k))) 182::WoR wb m0 w i L) (fun q s=>wire_fold hi hk q (Ent.sep enn q s)) ?_;refine Hd.region<|yv y_mv<|yv (y_f 2 3 Tryz.underlying182 sz3)<|yv (y_l1 ag3 rfl)<|yv y_mv<|callE rfl fk113 (put_ct _ b x k hk hr1 ad m c bs hm ?hD hml hmc) sq ?_
 case hD=>exact RdS.mono hR sq
 intro _;refine yv y_as<|fk [(11,_)] K14 ?_;refine Hd.seq fun _ K15=>?_
 refine sr fun _ K16=>?_
 refine yv y_mv<|yv (y_eql rfl rfl) ?_;refine fk [(11,_),(69,_)] K16 ?_;refine qz ?_ ?_<;>intro hc5<;>try simp only [hyZ] at hc5
 ·refine sr fun _ K17=>?_
  refine yv y_as<|yv y_as<|fk [(6,_),(7,_)] K17 ?_;refine Hd.ret<|Hd.thenRet ?_
  have h0:putN x k bs=0:=by omega
  rw [hrd,if_pos h0];rw [putW_zero h0];exact Hd.ret2 rfl () rfl rfl rfl (fun q s=>world_same hw hrs hb q (Ent.sep enn q s))
 refine qv K15<|sr fun _ K18=>?_
 refine yv y_mv<|yv y_as<|yv y_as<|fk [(6,_),(7,_)] K18 ?_;refine Hd.ret ?_;rw [hrd,if_neg (by omega)];exact Hd.ret2 rfl () rfl rfl rfl (fun q s=>world_fold' hw hrs hb (smW_put hwf hk bs hr1) q (Ent.sep enn q s))
end Wo
end Go.Proofs.YtmpemhbfgbochaaGreatDoor
namespace Go.Proofs.YtmpemhbfgbochaaGreatDoor
open Go.RX Fx
namespace Wo
structure RdyA where
 op:Bool
 i:Bool
 o:Bool
 h:Bool
 e:Bool
 r:Int
 w:Int
abbrev encR (r:RdyA):List Value:=[.bool r.op,.bool r.i,.bool r.o,.bool r.h,.bool r.e,.int .u64 r.r,.int .u64 r.w]
def noRdy:RdyA:=⟨false,false,false,false,false,0,0⟩
def readyW (x:WireA) (k:Nat):RdyA :=
 if x.bl > 0 then ⟨true,decide ((x.wt.length:Int) > 0),false,false,false,(x.e k).inn,(x.e k).out⟩
 else ⟨true,(x.e k).rd && ((decide (((x.e k).b.length:Int) > 0) || silentW x k) || x.rs),((x.e k).wr && !(x.e k).shut) && ((decide ((x.e (1 - k)).what=3) || x.rs) || decide (((x.cap - (x.e (1 - k)).b.length:Nat):Int) > 0)),decide ((x.e (1 - k)).what=3),x.rs,(x.e k).inn,(x.e k).out⟩
def readyR (w:WA) (fd:Int):RdyA:=match w.at fd with
 | none=>noRdy
 | some (m,k)=>match w.ws[m]? with
  | none=>noRdy
  | some x=>readyW x k
theorem rlenO_ct (L:List SP) (p:Option Nat) (hp:p.isSome=true) (cap:Nat) (l:List UInt8):Ct Tryz.prog 150 #[ptr p] (RgO p cap l::L) (fun _:Unit=>.int .i64 (l.length:Int)) (fun _=>RgO p cap l::L):=by
 obtain ⟨rb,rfl⟩:=Option.isSome_iff_exists.1 hp
 exact rlen_ct L rb cap l
theorem rroomO_ct (L:List SP) (p:Option Nat) (hp:p.isSome=true) (cap:Nat) (l:List UInt8):Ct Tryz.prog 151 #[ptr p] (RgO p cap l::L) (fun _:Unit=>.int .i64 ((cap - l.length:Nat):Int)) (fun _=>RgO p cap l::L):=by
 obtain ⟨rb,rfl⟩:=Option.isSome_iff_exists.1 hp
 exact rroom_ct L rb cap l
theorem silentL_ct (L:List SP) (b:Nat) (x:WireA) (i:WI) (k:Nat) (hk:k < 2):Ct Tryz.prog 119 #[.pointer (some ⟨b,0,none⟩),.int .i64 (k:Int)] (WireH b x i::L) (fun _:Unit=>.bool (silentW x k)) (fun _:Unit=>WireH b x i::L):=by
 refine Ct.o2 Tryz.func119 ?_;intro E
 show Hd E 24 _ _ _ _
 have hk1:1 - k < 2:=by omega
 refine sr fun _ K1=>?_
 refine yv y_as<|fk [(0,_),(1,_)] K1 ?_;refine sr fun _ K2=>?_
 refine yv y_mv<|yv y_mv<|yv (y_to (v':=.int .i64 ((1 - k:Nat):Int)) (y_subn rfl rfl (by simp only [InK];omega)) (by (congr 1;omega))) ?_;refine yv y_np<|yv (y_f 0 196 Tryz.underlying198 sz196)<|yv (y_idxA Tryz.underlying196 sz195 rfl rfl (by omega)) ?_;refine yv (y_f 0 3 Tryz.underlying195 sz3)<|yv (y_load1 ag3 rfl (Rd.pt1 pkk (by exact enc_at 0 hk1 (by omega) (by omega) rfl))) ?_;refine yv (y_eql rfl rfl) ?_;refine yv y_mv ?_;apply Hd.org 9 14 23 [] rfl sbq
 ·intro hg1_14
  try simp only [hyZ] at hg1_14
  simp only [List.take];refine n1<|n1<|n1<|n1<|n1<|n1<|n1<|n1<|yv (y_pickT rfl rfl) ?_;exact Hd.mn
 ·intro hg1_14
  try simp only [hyZ] at hg1_14
  simp only [List.take];refine y2 y_mv<|y2 y_mv<|y2 (y_to (v':=.int .i64 ((1 - k:Nat):Int)) (y_subn rfl rfl (by simp only [InK];omega)) (by (congr 1;omega))) ?_;refine y2 y_np<|y2 (y_f 0 196 Tryz.underlying198 sz196)<|y2 (y_idxA Tryz.underlying196 sz195 rfl rfl (by omega)) ?_;refine y2 (y_f 4 4 Tryz.underlying195 sz4)<|y2 (y_load1 ag4 rfl (Rd.pt1 pkk (by exact enc_at 4 hk1 (by omega) (by omega) rfl))) ?_;refine yv (y_pickF rfl rfl) ?_;exact Hd.mn
 simp only [List.drop];refine yv y_as<|fk [(4,_)] K2 ?_;refine Hd.ret ?_;exact Hd.ret1 rfl () (by rfl) sq
theorem enc_at0 {x:WireA} {i:WI} {k j:Nat} {v:Value} (hk:k < 2) (hv:(encE (x.e k) (i.p k))[j]?=some v):(encW x i)[0 + 0 + k * 7 + j]?=some v :=
 enc_at j hk (by have:=(List.getElem?_eq_some_iff.1 hv).1;simpa using this) (by omega) hv
theorem encE_one (x:EndA) (p:Option Nat):∀ u∈encE x p,u.oneCell'=true:=by simp [Value.oneCell']
theorem wready_ct (L:List SP) (wb:Nat) (w:WA) (fd:Int):Ct Tryz.prog 62 #[.pointer (some ⟨wb,0,none⟩),.int .i64 fd] (WorldP wb w::L) (fun _:Unit=>.agg (encR (readyR w fd)).toArray) (fun _:Unit=>WorldP wb w::L):=by
 refine Ct.o2 Tryz.func62 ?_;intro E
 show Hd E 110 _ _ _ _
 refine Hd.world .here (fun i hw hrs=>?_);refine sr fun _ K1=>?_
 refine Hd.alloc zr112 (fun b4=>?_);refine fk [(0,_),(1,_),(4,_)] K1 ?_;refine sr fun _ K2=>?_
 refine yv y_mv<|yv y_mv<|callE rfl fk112 (find_ct _ wb w i hw hrs fd) sq ?_;intro _;refine yv y_mv<|yv y_ex<|yv y_ex<|yv y_ex<|Hd.alloc zr182 (fun b5=>?_);refine Hd.storeA (us:=plc (w.at fd)) (by rw [plc_len];exact sz182) rfl rfl rfl (plc_one _) pkk (by rw [plc_len];rfl) ?_;refine yv y_as<|yv y_as<|fk [(4,_),(5,_),(6,_),(7,_)] K2 ?_;refine Hd.seq fun _ K3=>?_
 refine sr fun _ K4=>?_
 refine yv y_mv<|yv (y_neq rfl rfl) ?_;refine fk [(4,_),(5,_),(6,_),(19,_)] K4 ?_;refine qz ?_ ?_<;>intro hc0<;>try simp only [hyZ] at hc0
 ·refine sr fun _ K5=>?_
  refine yv (y_build (vs:=[]) rfl (by exact bd62_20 ..)) ?_;refine Hd.storeA (us:=encR noRdy) sz112 rfl rfl rfl (by simp [Value.oneCell']) pkk (by exact rfl) ?_;refine fk [(4,_)] K5 ?_;refine Hd.ret<|Hd.thenRet ?_
  have hno:w.at fd=none:=by
   cases h:w.at fd with
   | none=>rfl
   | some p=>rw [h] at hc0;exact absurd rfl hc0
  rw [show readyR w fd=noRdy by unfold readyR;rw [hno]];exact Hd.retC rfl () ag112 rfl (Rd.pt (us:=encR noRdy) pkk (fun j v e=>by rw [Nat.zero_add];exact e)) (by exact sz112) rfl (Ent.sep (.ex i (.pure ⟨hw,hrs⟩ enn)))
 obtain ⟨m0,k,hnk⟩:∃ m k,w.at fd=some (m,k):=by
  cases h:w.at fd with
  | none=>rw [h] at hc0;exact absurd hc0 (by decide)
  | some p=>exact ⟨p.1,p.2,rfl⟩
 obtain ⟨_,_,hk,hn,x,hx,_,_⟩:=hw.at_lt hnk
 obtain ⟨b,hb⟩:=rs_at hrs hx
 have hwf:=hw.wf x (List.mem_of_getElem? hx)
 have hk1:1 - k < 2:=by omega
 have hrd:readyR w fd=readyW x k:=by unfold readyR;rw [hnk];dsimp only;rw [hx]
 rw [hnk,wfb_eq hb];refine Hd.wOut pkk hb ?_;refine Hd.wire .here k hk (fun i2 hi=>?_)
 have hp0:=hi.rd k hk
 have hp1:=hi.rd (1 - k) hk1
 rw [←hwf.wr k hk] at hp1;refine qv K3<|Hd.cutK (ι:=Nat×Nat) [(4,_),(5,_),(6,_)] (fun j=>[(8,.pointer (some ⟨j.1,0,none⟩)),(9,.pointer (some ⟨j.2,0,none⟩))]) (fun j=>pt j.1 (encE (x.e k) (i2.p k)) 195::pt j.2 (encE (x.e (1 - k)) (i2.p (1 - k))) 195::pt b4 (encR noRdy) 112::pt b5 (plc (some (m0,k))) 182::WireL b x i2 k (WoR wb m0 w i L)) ?_ ?_ ⟨rfl,rfl,rfl,trivial⟩
 ·refine Hd.drawsH ([WireH b x i2,pt b5 (plc (some (m0,k))) 182]) (fun j=>!(([1000]:List Nat).contains j)) mixed ?_
  simp only [List.length,Nat.zero_add,Nat.reduceAdd];refine tH 0 rfl y_mv<|tH 1 rfl (y_f 2 3 Tryz.underlying182 sz3)<|tH 2 rfl (y_l1 ag3 rfl)<|tH 3 rfl y_np<|tH 4 rfl (y_f 0 196 Tryz.underlying198 sz196)<|tH 5 rfl (y_idxA Tryz.underlying196 sz195 rfl rfl (by omega)) ?_;refine tH 6 rfl (y_loadn (us:=encE (x.e k) (i2.p k)) ag195 rfl (Rd.pt pkk (fun j v e=>enc_at0 hk e)) (by exact sz195)) ?_;refine tH 7 rfl y_mv<|tH 8 rfl (y_f 2 3 Tryz.underlying182 sz3)<|tH 9 rfl (y_l1 ag3 rfl)<|tH 10 rfl (y_to (v':=.int .i64 ((1 - k:Nat):Int)) (y_subn rfl rfl (by simp only [InK];omega)) (by (congr 1;omega))) ?_;refine tH 11 rfl y_np<|tH 12 rfl (y_f 0 196 Tryz.underlying198 sz196)<|tH 13 rfl (y_idxA Tryz.underlying196 sz195 rfl rfl (by omega)) ?_;refine tH 14 rfl (y_loadn (us:=encE (x.e (1 - k)) (i2.p (1 - k))) ag195 rfl (Rd.pt pkk (fun j v e=>enc_at0 hk1 e)) (by exact sz195)) ?_
  refine Hd.eitherH 15 16 rfl rfl kq ?_ ?_
  ·refine Hd.alloc zr195 (fun b8=>?_)
   refine qk<|qo 16 ?_;refine Hd.alloc zr195 (fun b9=>?_);refine qk<|qo 17 ?_;refine Hd.storeA (us:=encE (x.e k) (i2.p k)) sz195 rfl rfl rfl (encE_one _ _) pkk (by exact rfl) ?_;refine qk<|qo 18 ?_;refine Hd.storeA (us:=encE (x.e (1 - k)) (i2.p (1 - k))) sz195 rfl rfl rfl (encE_one _ _) pkk (by exact rfl) ?_;refine qk<|endH kq ?_;refine slots [(4,_),(5,_),(6,_),(8,_),(9,_)] sbq ?_;refine thenN ?_;exact Hd.meet (b8,b9) sbq (Ent.sep (.pick pkk (.pick pkk (.eq pkk (pt_eq (by rfl)) enn))))
  refine Hd.alloc zr195 (fun b9=>?_);refine qk<|qo 15 ?_;refine Hd.alloc zr195 (fun b8=>?_);refine qk<|qo 17 ?_;refine Hd.storeA (us:=encE (x.e k) (i2.p k)) sz195 rfl rfl rfl (encE_one _ _) pkk (by exact rfl) ?_;refine qk<|qo 18 ?_;refine Hd.storeA (us:=encE (x.e (1 - k)) (i2.p (1 - k))) sz195 rfl rfl rfl (encE_one _ _) pkk (by exact rfl) ?_;refine qk<|endH kq ?_;refine slots [(4,_),(5,_),(6,_),(8,_),(9,_)] sbq ?_;refine thenN ?_;exact Hd.meet (b8,b9) sbq (Ent.sep (.pick pkk (.pick pkk (.eq pkk (pt_eq (by rfl)) enn))))
 rintro ⟨b8,b9⟩;dsimp only;refine sr fun _ K6=>?_
 refine yv (y_f 5 29 Tryz.underlying195 sz29)<|yv (y_l1 ag29 rfl)<|yv (y_f 6 29 Tryz.underlying195 sz29)<|yv (y_l1 ag29 rfl)<|yv (y_build (vs:=[(0,_),(5,_),(6,_)]) rfl (by exact bd62_40 ..)) ?_;refine Hd.alloc zr112 (fun b10=>?_);refine Hd.storeA (us:=encR ⟨true,false,false,false,false,(x.e k).inn,(x.e k).out⟩) sz112 rfl rfl rfl (by simp [Value.oneCell']) pkk (by exact rfl) ?_;refine fk [(4,_),(5,_),(6,_),(8,_),(9,_),(10,_)] K6 ?_;refine Hd.seq fun _ K7=>?_
 refine sr fun _ K8=>?_
 refine yv y_mv<|yv y_np<|yv (y_f 15 3 Tryz.underlying198 sz3)<|yv (y_l1 ag3 rfl)<|yv (y_gtr rfl rfl) ?_;refine fk [(4,_),(5,_),(6,_),(8,_),(9,_),(10,_),(45,_)] K8 ?_;refine qz ?_ ?_<;>intro hc1<;>try simp only [hyZ] at hc1
 ·refine sr fun _ K9=>?_
  refine yv y_mv<|yv y_np<|yv (y_f 16 94 Tryz.underlying198 sz94)<|yv (y_l1 ag94 rfl)<|yv (y_len Tryz.underlying94 rfl) ?_;refine yv (y_gtr rfl rfl) ?_;refine yv (y_f 1 4 Tryz.underlying112 sz4)<|Hd.store1 sz4 rfl rfl rfl pkk (by simp;done) ?_
  try simp only [hyS]
  refine fk [(4,_),(10,_)] K9 ?_;refine sr fun _ K10=>?_
  refine yv (y_loadn (us:=encR (readyW x k)) ag112 rfl (Rd.pt pkk (fun j v e=>by rw [Nat.zero_add];rw [show readyW x k=⟨true,decide ((x.wt.length:Int) > 0),false,false,false,(x.e k).inn,(x.e k).out⟩ from if_pos hc1] at e;exact e)) (by exact sz112)) ?_;refine Hd.storeA (us:=encR (readyW x k)) sz112 rfl rfl rfl (by simp [Value.oneCell']) pkk (by exact rfl) ?_;refine fk [(4,_)] K10 ?_;refine Hd.ret<|Hd.thenRet ?_;rw [hrd];exact Hd.retC rfl () ag112 rfl (Rd.pt (us:=encR (readyW x k)) pkk (fun j v e=>by rw [Nat.zero_add];exact e)) (by exact sz112) rfl (fun q s=>world_back hw hrs hb hi hk q (Ent.sep enn q s))
 refine qv K7<|Hd.seq fun _ K11=>?_
 refine Hd.drawsH ([WireH b x i2,pt b9 (encE (x.e (1 - k)) (i2.p (1 - k))) 195]) (fun j=>!(([1000]:List Nat).contains j)) mixed ?_;simp only [List.length,Nat.zero_add,Nat.reduceAdd];refine tH 0 rfl (y_f 0 3 Tryz.underlying195 sz3)<|tH 1 rfl (y_l1 ag3 rfl)<|tH 2 rfl (y_eql rfl rfl) ?_;refine tH 3 rfl y_mv<|tH 4 rfl y_np<|tH 5 rfl (y_f 14 4 Tryz.underlying198 sz4)<|tH 6 rfl (y_l1 ag4 rfl)<|tH 7 rfl (y_f 3 4 Tryz.underlying112 sz4)<|qo 8 ?_;refine Hd.store1 sz4 rfl rfl rfl pkk (by simp;done) ?_
 try simp only [hyS]
 refine qk<|tH 9 rfl (y_f 4 4 Tryz.underlying112 sz4)<|qo 10 ?_;refine Hd.store1 sz4 rfl rfl rfl pkk (by simp;done) ?_
 try simp only [hyS]
 refine qk<|endH kq ?_;refine sk [(4,_),(5,_),(6,_),(8,_),(9,_),(10,_)] K11 ?_;refine sr fun _ K12=>?_
 refine yv (y_f 2 193 Tryz.underlying195 sz193)<|yv (y_l1 ag193 rfl)<|yv (y_to (v':=.bool (x.e k).rd) (y_neq_pointer Tryz.underlying193 rfl rfl) (by (show Value.bool (!Option.isNone _)=_;rw [ptr_no,hp0,Bool.not_not]))) ?_;refine yv y_mv ?_;apply Hd.andg (q:=((decide (((x.e k).b.length:Int) > 0) || silentW x k) || x.rs)) 17 66 83 [(4,_),(6,_),(8,_),(9,_),(10,_)] rfl sbq
 ·intro hg10_66
  try simp only [hyZ] at hg10_66
  simp only [List.take];refine y2 (y_f 2 193 Tryz.underlying195 sz193)<|y2 (y_l1 ag193 rfl)<|Hd.unguard rfl rfl ?_;refine callE rfl fk150 (rlenO_ct _ (i2.p k) (by rw [hp0];exact hg10_66) x.cap (x.e k).b) sq ?_;intro _;refine y2 (y_gtr rfl rfl) ?_;refine y2 y_mv ?_;apply Hd.org 5 71 76 [(4,_),(6,_),(8,_),(9,_),(10,_),(66,_)] rfl sbq
  ·intro hg10_71
   try simp only [hyZ] at hg10_71
   simp only [List.take];refine n1<|n1<|n1<|n1<|y2 (y_pickT rfl rfl) ?_;exact Hd.mn
  ·intro hg10_71
   try simp only [hyZ] at hg10_71
   simp only [List.take];refine y2 y_mv<|y2 (y_f 2 3 Tryz.underlying182 sz3)<|y2 (y_l1 ag3 rfl)<|Hd.unguard rfl rfl ?_;refine callE rfl fk119 (silentL_ct _ b x i2 k hk) sq ?_;intro _;refine y2 (y_pickF rfl rfl) ?_;exact Hd.mn
  simp only [List.drop];refine y2 y_mv ?_;apply Hd.org 5 77 82 [(4,_),(6,_),(8,_),(9,_),(10,_),(66,_)] rfl sbq
  ·intro hg10_77
   try simp only [hyZ] at hg10_77
   simp only [List.take];refine n1<|n1<|n1<|n1<|y2 (y_pickT rfl rfl) ?_;exact Hd.mn
  ·intro hg10_77
   try simp only [hyZ] at hg10_77
   simp only [List.take];refine y2 y_mv<|y2 y_np<|y2 (y_f 14 4 Tryz.underlying198 sz4)<|y2 (y_l1 ag4 rfl)<|y2 (y_pickF rfl rfl) ?_;exact Hd.mn
  simp only [List.drop];refine yv (y_pickT rfl rfl) ?_;exact Hd.mn
 ·intro hg10_66
  try simp only [hyZ] at hg10_66
  simp only [List.take];refine n1<|n1<|n1<|n1<|n1<|n1<|n1<|n1<|n1<|n1<|n1<|n1<|n1<|n1<|n1<|n1<|yv (y_pickF rfl rfl) ?_;exact Hd.mn
 simp only [List.drop];refine yv (y_f 1 4 Tryz.underlying112 sz4)<|Hd.store1 sz4 rfl rfl rfl pkk (by simp;done) ?_
 try simp only [hyS]
 refine fk [(4,_),(6,_),(8,_),(9,_),(10,_)] K12 ?_;refine sr fun _ K13=>?_
 refine yv (y_f 3 4 Tryz.underlying195 sz4)<|yv (y_l1 ag4 rfl)<|yv y_mv ?_;apply Hd.andg 4 87 91 [(4,_),(6,_),(9,_),(10,_)] rfl sbq
 ·intro hg11_87
  try simp only [hyZ] at hg11_87
  simp only [List.take];refine y2 (y_f 4 4 Tryz.underlying195 sz4)<|y2 (y_l1 ag4 rfl)<|y2 (y_not rfl)<|yv (y_pickT rfl rfl) ?_;exact Hd.mn
 ·intro hg11_87
  try simp only [hyZ] at hg11_87
  simp only [List.take];refine n1<|n1<|n1<|yv (y_pickF rfl rfl) ?_;exact Hd.mn
 simp only [List.drop];refine yv y_mv ?_;apply Hd.andg (q:=((decide ((x.e (1 - k)).what=3) || x.rs) || decide (((x.cap - (x.e (1 - k)).b.length:Nat):Int) > 0))) 15 92 107 [(4,_),(10,_)] rfl sbq
 ·intro hg11_92
  try simp only [hyZ] at hg11_92
  simp only [List.take];refine y2 (y_f 3 4 Tryz.underlying112 sz4)<|y2 (y_l1 ag4 rfl)<|y2 y_mv ?_;apply Hd.org 5 95 100 [(4,_),(9,_),(10,_),(92,_)] rfl sbq
  ·intro hg11_95
   try simp only [hyZ] at hg11_95
   simp only [List.take];refine n1<|n1<|n1<|n1<|y2 (y_pickT rfl rfl) ?_;exact Hd.mn
  ·intro hg11_95
   try simp only [hyZ] at hg11_95
   simp only [List.take];refine y2 y_mv<|y2 y_np<|y2 (y_f 14 4 Tryz.underlying198 sz4)<|y2 (y_l1 ag4 rfl)<|y2 (y_pickF rfl rfl) ?_;exact Hd.mn
  simp only [List.drop];refine y2 y_mv ?_;apply Hd.org 5 101 106 [(4,_),(10,_),(92,_)] rfl sbq
  ·intro hg11_101
   try simp only [hyZ] at hg11_101
   simp only [List.take];refine n1<|n1<|n1<|n1<|y2 (y_pickT rfl rfl) ?_;exact Hd.mn
  ·intro hg11_101
   try simp only [hyZ] at hg11_101
   simp only [List.take];refine y2 (y_f 2 193 Tryz.underlying195 sz193)<|y2 (y_l1 ag193 rfl)<|Hd.unguard rfl rfl ?_;refine callE rfl fk151 (rroomO_ct _ (i2.p (1 - k)) (by rw [hp1];exact hg11_92.1) x.cap (x.e (1 - k)).b) sq ?_;intro _;refine y2 (y_gtr rfl rfl) ?_;refine y2 (y_pickF rfl rfl) ?_;exact Hd.mn
  simp only [List.drop];refine yv (y_pickT rfl rfl) ?_;exact Hd.mn
 ·intro hg11_92
  try simp only [hyZ] at hg11_92
  simp only [List.take];refine n1<|n1<|n1<|n1<|n1<|n1<|n1<|n1<|n1<|n1<|n1<|n1<|n1<|n1<|yv (y_pickF rfl rfl) ?_;exact Hd.mn
 simp only [List.drop];refine yv (y_f 2 4 Tryz.underlying112 sz4)<|Hd.store1 sz4 rfl rfl rfl pkk (by simp;done) ?_
 try simp only [hyS]
 refine fk [(4,_),(10,_)] K13 ?_;refine sr fun _ K14=>?_
 refine yv (y_loadn (us:=encR (readyW x k)) ag112 rfl (Rd.pt pkk (fun j v e=>by rw [Nat.zero_add];rw [show readyW x k=_ from if_neg (by omega)] at e;exact e)) (by exact sz112)) ?_;refine Hd.storeA (us:=encR (readyW x k)) sz112 rfl rfl rfl (by simp [Value.oneCell']) pkk (by exact rfl) ?_;refine fk [(4,_)] K14 ?_;refine Hd.ret ?_;rw [hrd];exact Hd.retC rfl () ag112 rfl (Rd.pt (us:=encR (readyW x k)) pkk (fun j v e=>by rw [Nat.zero_add];exact e)) (by exact sz112) rfl (fun q s=>world_back hw hrs hb hi hk q (Ent.sep enn q s))
end Wo
end Go.Proofs.YtmpemhbfgbochaaGreatDoor
namespace Go.Proofs.YtmpemhbfgbochaaGreatDoor
open Go.RX Fx
namespace Wo
def fullE:EndA:=⟨0,0,true,true,[],false,0,0⟩
def blankE:EndA:=⟨0,0,false,false,[],false,0,0⟩
def halfW (n k:Nat):WireA:=⟨fun j=>if j < k then fullE else blankE,n,false,0,[]⟩
def WI.setp (i:WI) (k rb:Nat):WI:={ i with p:=fun j=>if j=k then some rb else i.p j }
theorem enc_setp {x:WireA} {i:WI} {k rb:Nat} (hk:k < 2):(encW x i).set (0 + 0 + k * 7 + 2) (.pointer (some ⟨rb,0,none⟩))=encW x (i.setp k rb):=by
 rcases (show k=0∨k=1 by omega) with rfl | rfl<;>rfl
theorem half_wi {n k:Nat} {i:WI} (hi:WIOk (halfW n k) i) (hk:k < 2) (rb:Nat):WIOk (halfW n (k + 1)) (i.setp k rb):=⟨fun j hj=>by
 show (if j=k then some rb else i.p j).isSome=_
 have h:=hi.rd j hj
 by_cases e:j=k
 ·subst e
  rw [if_pos rfl]
  show true=(if j < j + 1 then fullE else blankE).rd
  rw [if_pos (by omega)];rfl
 ·rw [if_neg e,h]
  show (if j < k then fullE else blankE).rd=(if j < k + 1 then fullE else blankE).rd
  by_cases h1:j < k
  ·rw [if_pos h1,if_pos (by omega)]
  ·rw [if_neg h1,if_neg (by omega)]⟩
theorem half_none {n k:Nat} {i:WI} (hi:WIOk (halfW n k) i) (hk:k < 2):i.p k=none:=by
 have h:=hi.rd k hk
 have:((halfW n k).e k).rd=false:=by show (if k < k then fullE else blankE).rd=false;rw [if_neg (by omega)];rfl
 rw [this] at h
 cases hp:i.p k with
 | none=>rfl
 | some v=>rw [hp] at h;cases h
theorem half_up {n k:Nat} {i:WI} (hk:k < 2):encW ((halfW n k).up k fun e=>{ e with wr:=true }) i=encW (halfW n (k + 1)) i:=by
 rcases (show k=0∨k=1 by omega) with rfl | rfl<;>rfl
theorem both_ct (L:List SP) (n:Nat) (h1:1≤n) (h2:n≤65536):Ct Tryz.prog 111 #[.int .i64 (n:Int)] (L) (fun b:Nat=>.pointer (some ⟨b,0,none⟩)) (fun b:Nat=>WireP b (halfW n 2)::L):=by
 refine Ct.o1 Tryz.func111 ?_;intro E
 show Hd E 29 _ _ _ _
 refine sr fun _ K1=>?_
 refine yv y_as<|fk [(0,_)] K1 ?_;refine sr fun _ K2=>?_
 refine yv (y_build (vs:=[]) rfl (by exact bd111_5 ..)) ?_;refine Hd.box rfl rfl (fun b6=>?_);refine yv y_as<|Hd.nil<|Hd.heap (WireP b6 (halfW n 0)::L) (fun q s=>Ent.sep (.ex (⟨fun _=>none,none,0⟩,0) (.pure ⟨⟨fun j _=>rfl⟩,by omega⟩ (.eq pkk (pt_eq (by rfl)) (.pure trivial (.pure trivial (.ownNil enn)))))) q s) ?_;refine sk [(0,_),(3,_)] K2 ?_;refine Hd.seq fun _ K3=>?_
 refine sr fun _ K4=>?_
 refine yv y_mv<|fk [(0,_),(3,_),(7,_)] K4 ?_;refine Hd.block<|Hd.loopK (ι:=Nat) [(0,_),(3,_)] (fun k=>[(7,.int .i64 (k:Int))]) (fun k=>pu (k≤2)::WireP b6 (halfW n k)::L) (fun k=>2 - k) 0 sbq sbq (Ent.sep (.pure (by omega) enn)) ?_;intro k
 try dsimp only
 refine Hd.pure (fun hp0=>?_)
 try dsimp only at hp0
 refine sr fun _ K5=>?_
 refine yv (y_lss rfl rfl) ?_;refine fk [(0,_),(3,_),(7,_),(8,_)] K5 ?_;refine Hd.seq fun _ K6=>?_
 refine qz ?_ ?_<;>intro hc0<;>try simp only [hyZ] at hc0
 ·have hk:k < 2:=by omega
  refine Hd.wire .here k hk (fun i hi=>?_)
  have hpn:=half_none hi hk
  refine qv K6<|Hd.seq fun _ K7=>?_
  refine Hd.block<|sr fun _ K8=>?_
  refine yv y_mv<|yv y_as<|fk [(0,_),(3,_),(4,_),(7,_)] K8 ?_;refine Hd.seq fun _ K9=>?_
  refine Hd.drawsH ([]) (fun j=>!(([1000]:List Nat).contains j)) mixed ?_;simp only [List.length,Nat.zero_add,Nat.reduceAdd];refine tH 0 rfl y_mv<|tH 1 rfl y_mv<|tH 2 rfl y_mv<|tH 7 rfl y_np<|tH 8 rfl (y_f 0 196 Tryz.underlying198 sz196)<|qo 3 ?_;refine callE rfl fk194 (rnew_ct _ n h1 h2) sq ?_;intro rb;refine qk<|tH 4 rfl y_mv<|tH 5 rfl (y_to (v':=.pointer (some ⟨rb,0,none⟩)) y_ex (by rfl)) ?_;refine tH 6 rfl y_ex<|tH 9 rfl (y_idxA Tryz.underlying196 sz195 rfl rfl (by omega)) ?_;refine tH 10 rfl (y_f 2 193 Tryz.underlying195 sz193)<|qo 11 ?_;refine Hd.store1 sz193 rfl rfl rfl pkk (by simp;omega) ?_
  try simp only [hyS]
  refine qk<|endH kq ?_;rw [enc_setp hk];refine sk [(0,_),(3,_),(4,_),(7,_)] K9 ?_;refine Hd.region<|yv y_mv<|yv y_mv<|yv y_np<|yv (y_f 0 196 Tryz.underlying198 sz196)<|yv (y_idxA Tryz.underlying196 sz195 rfl rfl (by omega)) ?_;refine yv (y_f 3 4 Tryz.underlying195 sz4)<|Hd.store1 sz4 rfl rfl rfl pkk (by simp;omega) ?_
  try simp only [hyS]
  refine Hd.nil ?_;rw [show (encW (halfW n k) (i.setp k rb)).set (0 + 0 + k * 7 + 3) (.bool true)=encW ((halfW n k).up k fun e=>{ e with wr:=true }) (i.setp k rb) from enc_set _ 3 hk (by omega) (by omega) rfl,half_up hk];refine slots [(0,_),(3,_),(7,_)] sbq ?_;refine Hd.inB<|Hd.toK K7 ?_;refine Hd.region<|yv (y_addn rfl rfl (by simp only [InK];omega)) ?_;refine yv y_mv<|Hd.nil<|slots [(0,_),(3,_),(7,_)] sbq ?_;refine thenN<|Hd.heap (WireP b6 (halfW n (k + 1))::L) (fun q s=>Ent.sep (.ex (i.setp k rb,k) (.pure ⟨half_wi hi hk rb,hk⟩ (.pick pkk (.eq pkk (show Rg rb n []=RgO ((i.setp k rb).p k) n ((halfW n (k + 1)).e k).b by rcases (show k=0∨k=1 by omega) with rfl | rfl<;>rfl) (.eq pkk (show RgO (i.p (1 - k)) (halfW n k).cap ((halfW n k).e (1 - k)).b=RgO ((i.setp k rb).p (1 - k)) n ((halfW n (k + 1)).e (1 - k)).b by rcases (show k=0∨k=1 by omega) with rfl | rfl<;>rfl) (.eq pkk (show own 3 1 i.wa (halfW n k).wt.length i.wc (nats (halfW n k).wt)=own 3 1 i.wa (halfW n (k + 1)).wt.length i.wc (nats (halfW n (k + 1)).wt) from rfl) enn)))))) q s) ?_
  exact Hd.again (k + 1) (by omega) sbq (Ent.sep (.pure (by omega) enn))
 obtain rfl:k=2:=by omega
 refine Hd.exit<|Hd.thenExit<|Hd.thenExit<|Hd.inBexit<|Hd.toK K3 ?_;refine sr fun _ K10=>?_
 refine yv y_mv<|yv y_as<|fk [(2,_)] K10 ?_;refine Hd.ret ?_;exact Hd.ret1 rfl b6 rfl sq
theorem bothbad_ct (L:List SP) (n:Int) (h1:n < 1∨65536 < n):Ct Tryz.prog 111 #[.int .i64 n] (L) (fun q_:Nat×List Value=>.pointer (some ⟨q_.1,0,none⟩)) (fun q_:Nat×List Value=>pu (q_.2.length=17)::pt q_.1 q_.2 198::L):=by
 refine Ct.o1 Tryz.func111 ?_;intro E
 show Hd E 29 _ _ _ _
 refine sr fun _ K1=>?_
 refine yv y_as<|fk [(0,_)] K1 ?_;refine sr fun _ K2=>?_
 refine yv (y_build (vs:=[]) rfl (by exact bd111_5 ..)) ?_;refine Hd.box rfl rfl (fun b6=>?_);refine yv y_as<|fk [(0,_),(3,_)] K2 ?_;refine Hd.seq fun _ K3=>?_
 refine sr fun _ K4=>?_
 refine yv y_mv<|fk [(0,_),(3,_),(7,_)] K4 ?_;refine Hd.block<|Hd.loopK (ι:=Nat×List Value) [(0,_),(3,_)] (fun q_=>[(7,.int .i64 (q_.1:Int))]) (fun q_=>pu (q_.1≤2∧q_.2.length=17)::pt b6 q_.2 198::L) (fun q_=>2 - q_.1) (0,encW (halfW 0 0) ⟨fun _=>none,none,0⟩) sbq sbq (Ent.sep (.pure ⟨Nat.zero_le _,rfl⟩ enn)) ?_;rintro ⟨k,cs⟩
 try dsimp only
 refine Hd.pure (fun hp0=>?_)
 try dsimp only at hp0
 refine sr fun _ K5=>?_
 refine yv (y_lss rfl rfl) ?_;refine fk [(0,_),(3,_),(7,_),(8,_)] K5 ?_;refine Hd.seq fun _ K6=>?_
 refine qz ?_ ?_<;>intro hc0<;>try simp only [hyZ] at hc0
 ·have hk:k < 2:=by omega
  refine qv K6<|Hd.seq fun _ K7=>?_
  refine Hd.block<|sr fun _ K8=>?_
  refine yv y_mv<|yv y_as<|fk [(0,_),(3,_),(4,_),(7,_)] K8 ?_;refine Hd.seq fun _ K9=>?_
  refine Hd.drawsH ([]) (fun j=>!(([1000]:List Nat).contains j)) mixed ?_;simp only [List.length,Nat.zero_add,Nat.reduceAdd];refine tH 0 rfl y_mv<|tH 1 rfl y_mv<|tH 2 rfl y_mv<|tH 7 rfl y_np<|tH 8 rfl (y_f 0 196 Tryz.underlying198 sz196)<|qo 3 ?_;refine callE rfl fk194 (rbad_ct _ n h1) sq ?_;rintro ⟨rb,e⟩;dsimp only;refine qk<|tH 4 rfl y_mv<|tH 5 rfl (y_to (v':=.pointer (rb.map fun b=>⟨b,0,none⟩)) y_ex (by rfl)) ?_;refine tH 6 rfl y_ex<|tH 9 rfl (y_idxA Tryz.underlying196 sz195 rfl rfl (by omega)) ?_;refine tH 10 rfl (y_f 2 193 Tryz.underlying195 sz193)<|qo 11 ?_;refine Hd.store1 sz193 rfl rfl rfl pkk (by rw [hp0.2];omega) ?_
  try simp only [hyS]
  refine qk<|endH kq ?_;refine sk [(0,_),(3,_),(4,_),(7,_)] K9 ?_;refine Hd.region<|yv y_mv<|yv y_mv<|yv y_np<|yv (y_f 0 196 Tryz.underlying198 sz196)<|yv (y_idxA Tryz.underlying196 sz195 rfl rfl (by omega)) ?_;refine yv (y_f 3 4 Tryz.underlying195 sz4)<|Hd.store1 sz4 rfl rfl rfl pkk (by rw [List.length_set,hp0.2];omega) ?_
  try simp only [hyS]
  refine Hd.nil<|slots [(0,_),(3,_),(7,_)] sbq ?_;refine Hd.inB<|Hd.toK K7 ?_;refine Hd.region<|yv (y_addn rfl rfl (by simp only [InK];omega)) ?_;refine yv y_mv<|Hd.nil<|slots [(0,_),(3,_),(7,_)] sbq ?_;refine thenN ?_;exact Hd.again (k + 1,(cs.set (0 + 0 + k * 7 + 2) (.pointer (rb.map fun b=>⟨b,0,none⟩))).set (0 + 0 + k * 7 + 3) (.bool true)) (by omega) sbq (Ent.sep (.pure ⟨by omega,by simp [hp0.2]⟩ enn))
 refine Hd.exit<|Hd.thenExit<|Hd.thenExit<|Hd.inBexit<|Hd.toK K3 ?_;refine sr fun _ K10=>?_
 refine yv y_mv<|yv y_as<|fk [(2,_)] K10 ?_;refine Hd.ret ?_;exact Hd.ret1 rfl (b6,cs) rfl (Ent.sep (.pure hp0.2 enn))
def frees (t:Int→Option (Nat×Nat)):List Nat:=(List.range 96).filter fun fd:Nat=>(t (fd:Int)).isNone
theorem flatP_drop {t:Int→Option (Nat×Nat)}:∀ {l:List Nat} {i fd:Nat},l[i]?=some fd→((l.flatMap fun a:Nat=>plc (t (a:Int))).drop (i * 3)).take 3=plc (t (fd:Int))
 | [],_,_,h=>by simp at h
 | a::l,0,fd,h=>by
  obtain rfl:a=fd:=by simpa using h
  have h3:(plc (t (a:Int))).length=3:=plc_len _
  rw [List.flatMap_cons,Nat.zero_mul,List.drop_zero,List.take_append_of_le_length (by omega),List.take_of_length_le (by omega)]
 | a::l,i + 1,fd,h=>by
  have h3:(plc (t (a:Int))).length=3:=plc_len _
  rw [List.flatMap_cons,show (i + 1) * 3=3 + i * 3 by omega,List.drop_append,h3,List.drop_of_length_le (by omega),List.nil_append,Nat.add_sub_cancel_left];exact flatP_drop (by simpa using h)
theorem fdC_drop {t:Int→Option (Nat×Nat)} {i:Nat} (h:i < 96):((fdC t).drop (i * 3)).take 3=plc (t (i:Int)):=flatP_drop (by rw [List.getElem?_range h])
theorem range_succ_filter (f:Nat→Bool) (i:Nat):(List.range (i + 1)).filter f=if f i=true then (List.range i).filter f++[i] else (List.range i).filter f:=by
 rw [List.range_succ,List.filter_append]
 by_cases h:f i=true<;>simp [h]
theorem range_prefix (f:Nat→Bool) {i m:Nat} (h:i≤m):(List.range i).filter f <+: (List.range m).filter f:=by
 obtain ⟨d,rfl⟩:∃ d,m=i + d:=⟨m - i,by omega⟩
 rw [List.range_add,List.filter_append];exact List.prefix_append _ _
theorem free_ct (L:List SP) (wb:Nat):Ct Tryz.prog 116 #[.pointer (some ⟨wb,0,none⟩)] (L) (fun bx:Nat=>.func (.func 197) #[] #[.pointer (some ⟨bx,0,none⟩)]) (fun bx:Nat=>pt bx [.pointer (some ⟨wb,0,none⟩)] 37::L):=by
 refine Ct.o1 Tryz.func116 ?_;intro E
 show Hd E 4 _ _ _ _
 refine sr fun _ K1=>?_
 refine Hd.box rfl rfl (fun b1=>?_);refine yv y_as<|fk [(1,_)] K1 ?_;refine sr fun _ K2=>?_
 refine yv (y_mkf (fv:=[]) (cv:=[_]) rfl rfl) ?_;refine yv y_as<|fk [(2,_)] K2 ?_;refine Hd.ret ?_;exact Hd.ret1 rfl b1 rfl sq
abbrev encF (fd:Nat):List Value:=[.int .i64 (fd:Int)]
theorem free_it (wb bx n:Nat) (t:Int→Option (Nat×Nat)) (w:WA) (i0:WoI):RX.It Tryz.prog 197 [.pointer (some ⟨bx,0,none⟩)] encF (fun ys=>ys=frees t) (fun ys=>ys <+: frees t)
  [pt bx [.pointer (some ⟨wb,0,none⟩)] 37,WoH wb t w n i0] [WoH wb t w n i0]:=by
 intro l J X hy;refine Ct.of (vs:=[.func (.yield l) #[] #[],.pointer (some ⟨bx,0,none⟩)]) Tryz.func197 rfl rfl [(0,.func (.yield l) #[] #[]),(1,.pointer (some ⟨bx,0,none⟩))] ⟨rfl,rfl,trivial⟩ ?_;intro E
 show Hd E 23 _ _ _ _
 refine Hd.heap (pt bx [.pointer (some ⟨wb,0,none⟩)] 37::WoH wb t w n i0::J []) (fun k h=>by have:=sep_app h;exact this) ?_;refine sr fun _ K1=>?_
 refine yv (y_l1 ag37 rfl)<|yv y_np<|yv (y_f 0 183 Tryz.underlying186 sz183)<|yv (y_loadn (us:=fdC t) ag183 rfl (Rd.pt pkk (fun j v e=>by rw [Nat.zero_add,List.getElem?_append_left (List.getElem?_eq_some_iff.1 e).1];exact e)) (by rw [fdC_len];exact sz183)) ?_;refine yv y_mv<|fk [(0,_),(8,_),(9,_)] K1 ?_;refine Hd.block<|Hd.loopK (ι:=Nat) [(0,_),(8,_)] (fun i=>[(9,.int .i64 (i:Int))]) (fun i=>pu (i≤96)::pt bx [.pointer (some ⟨wb,0,none⟩)] 37::WoH wb t w n i0::J ((List.range i).filter fun fd:Nat=>(t (fd:Int)).isNone)) (fun i=>96 - i) 0 sbq sbq (Ent.sep (.pure (by omega) enn)) ?_;intro i
 try dsimp only
 refine Hd.pure (fun hp0=>?_)
 try dsimp only at hp0
 refine sr fun _ K2=>?_
 refine yv (y_lss rfl rfl) ?_;refine fk [(0,_),(8,_),(9,_),(10,_)] K2 ?_;refine Hd.seq fun _ K3=>?_
 refine qz ?_ ?_<;>intro hc0<;>try simp only [hyZ] at hc0
 ·have hi:i < 96:=by omega
  have hsf:=range_succ_filter (fun fd:Nat=>(t (fd:Int)).isNone) i
  refine qv K3<|Hd.seq fun _ K4=>?_
  refine Hd.block<|sr fun _ K5=>?_
  refine yv y_mv<|yv (y_indexn (us:=plc (t (i:Int))) Tryz.underlying183 ag182 sz182 rfl rfl hi (fdC_drop hi)) ?_;refine Hd.alloc zr182 (fun b4=>?_);refine yv y_as<|Hd.storeA (us:=plc (t (i:Int))) (by rw [plc_len];exact sz182) rfl rfl rfl (plc_one _) pkk (by rw [plc_len];rfl) ?_;refine fk [(0,_),(3,_),(4,_),(8,_),(9,_)] K5 ?_;refine sr fun _ K6=>?_
  refine yv (y_f 0 4 Tryz.underlying182 sz4)<|yv (y_load1 ag4 rfl (Rd.pt1 pkk (by exact plc0 _))) ?_;refine yv (y_not rfl)<|yv y_mv<|Hd.part (gd:=16) rfl (fun hg3_16=>?_) (fun hg3_16=>?_)
  ·try simp only [hyZ] at hg3_16
   have hfr:(t (i:Int)).isNone=true:=by cases h:t (i:Int)<;>simp [h] at hg3_16 ⊢
   rw [if_pos hfr] at hsf
   have hpr:((List.range i).filter fun fd:Nat=>(t (fd:Int)).isNone)++[i] <+: frees t:=by rw [←hsf];exact range_prefix _ hi
   refine y2 y_mv<|y2 y_mv<|Hd.unguard rfl rfl ?_;refine Hd.yield (pre:=(List.range i).filter fun fd:Nat=>(t (fd:Int)).isNone) (c:=i) (M:=[pt bx [.pointer (some ⟨wb,0,none⟩)] 37,WoH wb t w n i0]) hy rfl rfl hpr (fun k' h=>sep_app (show sep ([pt bx [.pointer (some ⟨wb,0,none⟩)] 37,WoH wb t w n i0]++J ((List.range i).filter fun fd:Nat=>(t (fd:Int)).isNone)) k' from Ent.sep (show Ent _ (pt bx [.pointer (some ⟨wb,0,none⟩)] 37::WoH wb t w n i0::J ((List.range i).filter fun fd:Nat=>(t (fd:Int)).isNone)) from enn) k' h)) ?_;intro yb;refine y2 (y_not rfl)<|yv (y_pickT rfl rfl) ?_;refine fk [(0,_),(8,_),(9,_),(21,_)] K6 ?_;refine qz ?_ ?_<;>intro hc1<;>try simp only [hyZ] at hc1
   ·subst hc1
    simp only [cond_false];refine Hd.ret<|Hd.inBret<|Hd.thenRet<|Hd.thenRet<|Hd.inBret ?_;exact Hd.ret0 rfl (((List.range i).filter fun fd:Nat=>(t (fd:Int)).isNone)++[i],false) rfl (fun k' h=>Ent.sep (.pure hpr .same) k' (sep_right (fun k s=>Ent.sep (show Ent [pt bx [.pointer (some ⟨wb,0,none⟩)] 37,WoH wb t w n i0] [WoH wb t w n i0] from enn) k s) h))
   subst hc1;simp only [cond_true];refine Hd.heap (pt bx [.pointer (some ⟨wb,0,none⟩)] 37::WoH wb t w n i0::J (((List.range i).filter fun fd:Nat=>(t (fd:Int)).isNone)++[i])) (fun k' h=>sep_app h) ?_;rw [←hsf];refine Hd.skip<|Hd.inB<|Hd.toK K4 ?_;refine Hd.region<|yv (y_addn rfl rfl (by simp only [InK];omega)) ?_;refine yv y_mv<|Hd.nil<|slots [(0,_),(8,_),(9,_)] sbq ?_;refine thenN ?_;exact Hd.again (i + 1) (by omega) sbq (Ent.sep (.pure (by omega) enn))
  try simp only [hyZ] at hg3_16
  have hfr:(t (i:Int)).isNone=false:=by cases h:t (i:Int)<;>simp [h] at hg3_16 ⊢
  rw [if_neg (by rw [hfr];simp)] at hsf;refine n1<|n1<|n1<|n1<|yv (y_pickF rfl rfl) ?_;refine fk [(0,_),(8,_),(9,_),(21,_)] K6 ?_;refine Hd.condF rfl ?_;refine Hd.skip<|Hd.inB<|Hd.toK K4 ?_;refine Hd.region<|yv (y_addn rfl rfl (by simp only [InK];omega)) ?_;refine yv y_mv<|Hd.nil<|slots [(0,_),(8,_),(9,_)] sbq ?_;refine thenN ?_;rw [←hsf];exact Hd.again (i + 1) (by omega) sbq (Ent.sep (.pure (by omega) enn))
 refine Hd.exit<|Hd.thenExit<|Hd.thenExit<|Hd.inBexit ?_
 obtain rfl:i=96:=by omega
 exact Hd.end0 rfl (frees t,true) rfl (fun k' h=>Ent.sep (.pure rfl .same) k' (sep_app (M:=[WoH wb t w n i0]) (N:=J (frees t)) (Ent.sep enn k' h)))
theorem woT_at {t:Int→Option (Nat×Nat)} {w:WA} {n j o:Nat} {i:WoI} {v:Value} (ho:o=288 + j) (hv:(woT w n i)[j]?=some v):(fdC t++woT w n i)[o]?=some v:=by
 subst ho;rw [List.getElem?_append_right (by rw [fdC_len];omega),fdC_len,Nat.add_sub_cancel_left];exact hv
theorem nat_one {l:List Nat}:∀ u∈nats l,u.oneCell'=true:=by simp [Value.oneCell']
abbrev OutN (b n:Nat) (l:List Nat):SP:=RX.ex fun i:Option Addr×Nat=>[pu (l.length≤n),pt b [.slice i.1 l.length i.2] 94,own 3 1 i.1 l.length i.2 (nats l)]
theorem frees_len (t:Int→Option (Nat×Nat)):(frees t).length≤96:=by
 have:=List.length_filter_le (fun fd:Nat=>(t (fd:Int)).isNone) (List.range 96)
 rwa [List.length_range] at this
theorem numbers_ct (L:List SP) (wb m:Nat) (t:Int→Option (Nat×Nat)) (w:WA) (i:WoI) (n:Nat):Ct Tryz.prog 192 #[.pointer (some ⟨wb,0,none⟩),.int .i64 (n:Int)] (WoH wb t w m i::L) (fun q_:Option Addr×Nat=>.tuple #[.slice q_.1 ((frees t).take n).length q_.2,.bool (decide ((((frees t).take n).length:Int)=(n:Int)) && decide ((m:Int) < 1000))]) (fun q_:Option Addr×Nat=>own 3 1 q_.1 ((frees t).take n).length q_.2 (nats ((frees t).take n))::WoH wb t w m i::L):=by
 refine Ct.o2M Tryz.func192 ?_;intro E
 show Hd E 32 _ _ _ _
 refine sr fun _ K1=>?_
 refine Hd.box rfl rfl (fun b3=>?_);refine yv y_as<|yv y_as<|fk [(0,_),(3,_)] K1 ?_;refine Hd.scope ?_;refine sr fun _ K2=>?_
 refine Hd.alloc zr94 (fun b6=>?_);refine fk [(0,_),(3,_),(6,_)] K2 ?_;refine Hd.seq fun _ K3=>?_
 refine Hd.label ?_;refine Hd.toK K3 ?_;refine Hd.seq fun _ K4=>?_
 refine sr fun _ K5=>?_
 refine yv y_mv<|callE rfl fk116 (free_ct _ wb) sq ?_;intro bx;refine fk [(0,_),(3,_),(6,_),(9,_)] K5 ?_;refine Hd.block<|Hd.rangeF (enc:=encF) (S:=fun ys=>ys=frees t) (Sp:=fun ys=>ys <+: frees t)
  (fun pre=>OutN b6 n pre::pt b3 [.int .i64 (n:Int)] 3::L) (fun j _=>[pu (j=some 0),OutN b6 n ((frees t).take n),pt b3 [.int .i64 (n:Int)] 3]++L)
  rfl kq (fun _=>rfl) rfl (free_it wb bx m t w i) (by refine Ent.sep ?_;refine Ent.ex (none,0) ?_;refine Ent.pure (Nat.zero_le _) ?_;refine Ent.eq pkk (pt_eq (by rfl)) ?_;refine Ent.ownNil ?_;refine Ent.pick pkk ?_;exact Ent.swap (L:=[_,_])) ?_ ?_ ?_
 ·intro E l' R pre p N hR hG
  have hfl:=frees_len t
  have hpl:=hG.length_le
  rw [List.length_append] at hpl
  have htk:pre.length=n→(frees t).take n=pre:=fun e=>by
   obtain ⟨r,hr⟩:=hG
   rw [←hr,←e,List.append_assoc,List.take_left]
  unfold Rnd;simp only [List.cons_append,List.nil_append,pz,encF];refine Hd.region<|yv y_as<|Hd.nil<|slots [(0,_),(3,_),(6,_),(7,_)] sbq ?_;refine thenN<|Hd.begin hR pkk ?_;refine Hd.block<|Hd.seq fun _ K6=>?_
  refine Hd.seq fun _ K7=>?_
  refine Hd.exs pkk ?_;rintro ⟨a3,c3⟩;simp only [List.cons_append,List.nil_append];refine Hd.pure (fun hpn=>?_);refine Hd.region<|yv (y_l1 ag94 rfl)<|yv (y_len Tryz.underlying94 rfl) ?_;refine yv (y_l1 ag3 rfl)<|yv (y_eql rfl rfl) ?_;refine fk [(0,_),(3,_),(6,_),(7,_),(14,_)] K7 ?_;refine qz ?_ ?_<;>intro hc0<;>try simp only [hyZ] at hc0
  ·refine Hd.exit ?_
   refine Hd.thenExit<|Hd.inBexit' rfl ?_;refine Hd.reX ?_;simp only [List.cons_append,List.nil_append]
   have hc0':pre.length=n:=by omega
   rw [htk hc0'];exact Ent.sep (.pick pkk (.pure (by trivial) (.ex (a3,c3) (.pure (by omega) enn))))
  refine qv K6<|Hd.region<|yv (y_l1 ag94 rfl)<|yv y_mv<|Hd.bslice (vs:=[(0,_)]) rfl (by exact bs192_17 ..) (fun b17=>?_);refine Hd.append Tryz.underlying94 ty3 rfl rfl rfl pkk (by exact RdS.rd (Rd.pt pkk (fun j v e=>by simpa using e)) rfl) (by simp [Value.oneCell'];done) (by simp only [maxLen];omega) (by omega) (fun ad18 cap18=>?_);refine Hd.store1 sz94 rfl rfl rfl pkk (by simp;done) ?_
  try simp only [hyS]
  refine Hd.nil<|slots [(0,_),(3,_),(6,_)] sbq ?_;refine Hd.inB<|Hd.reN ?_;simp only [List.cons_append,List.nil_append];exact Ent.sep (.pick pkk (.ex (ad18,cap18) (.pure (by rw [List.length_append];show pre.length + 1≤n;omega) (.eq pkk (pt_eq (by simp)) (.eq pkk (own_eq (by simp) (by simp [nats])) enn)))))
 ·intro r0 ys hys
  obtain rfl:ys=frees t:=hys
  simp only [List.cons_append,List.nil_append];refine Hd.exs pkk ?_;rintro ⟨a3,c3⟩;simp only [List.cons_append,List.nil_append];refine Hd.pure (fun hfn=>?_)
  have htk:(frees t).take n=frees t:=List.take_of_length_le hfn
  try simp only [List.cons_append,List.nil_append]
  refine Hd.inB<|Hd.toK K4 ?_;refine Hd.seq fun _ K8=>?_
  refine Hd.quiet mixed kq ?_;refine Hq.yv (y_l1 ag94 rfl) ?_;refine Hq.yv (y_l1 ag94 rfl) ?_;refine Hq.yv (y_len Tryz.underlying94 rfl) ?_;refine Hq.yv (y_l1 ag3 rfl) ?_;refine Hq.yv (y_eql rfl rfl) ?_;refine Hq.yv y_mv ?_;apply Hq.andg 7 24 31 [(19,_)] rfl ⟨rfl,trivial⟩
  ·intro hg6_24
   try simp only [hyZ] at hg6_24
   simp only [List.take];refine Hq.yg rfl rfl y_mv ?_;refine Hq.yg rfl rfl y_np ?_;refine Hq.yg rfl rfl (y_f 288 184 Tryz.underlying186 sz184) ?_;refine Hq.yg rfl rfl (y_load1 ag184 rfl (Rd.pt1 pkk (by exact woT_at (j:=0) (by omega) rfl))) ?_;refine Hq.yg rfl rfl (y_len Tryz.underlying184 rfl) ?_;refine Hq.yg rfl rfl (y_lss rfl rfl) ?_;refine Hq.yv (y_pickT rfl rfl) ?_;exact Hq.mend sbq
  ·intro hg6_24
   try simp only [hyZ] at hg6_24
   simp only [List.take];refine Hq.ng rfl rfl rfl ?_;refine Hq.ng rfl rfl rfl ?_;refine Hq.ng rfl rfl rfl ?_;refine Hq.ng rfl rfl rfl ?_;refine Hq.ng rfl rfl rfl ?_;refine Hq.ng rfl rfl rfl ?_;refine Hq.yv (y_pickF rfl rfl) ?_;exact Hq.mend sbq
  simp only [List.drop];refine Hq.yv y_as ?_;refine Hq.yv y_as ?_;refine Hq.nil ?_;refine sk [(4,_),(5,_)] K8 ?_;refine Hd.ret<|Hd.scRet ?_;rw [htk];exact Hd.retM (fun a fr=>Lv.mark pkk (Lv.end2 fr rfl (a3,c3) rfl rfl rfl sq))
 rintro r0_0 (_ | id0) pre0 hG0
 ·exact Hd.absurd (by simp)
 by_cases hid0:id0=0
 ·subst hid0
  simp only [List.cons_append,List.nil_append];refine Hd.pure (fun _=>?_);refine Hd.exs pkk ?_;rintro ⟨a3,c3⟩;simp only [List.cons_append,List.nil_append];refine Hd.pure (fun hfn=>?_)
  try simp only [List.cons_append,List.nil_append]
  refine Hd.exit<|Hd.inBexit<|Hd.toK K4 ?_;refine Hd.seq fun _ K9=>?_
  refine Hd.quiet mixed kq ?_;refine Hq.yv (y_l1 ag94 rfl) ?_;refine Hq.yv (y_l1 ag94 rfl) ?_;refine Hq.yv (y_len Tryz.underlying94 rfl) ?_;refine Hq.yv (y_l1 ag3 rfl) ?_;refine Hq.yv (y_eql rfl rfl) ?_;refine Hq.yv y_mv ?_;apply Hq.andg 7 24 31 [(19,_)] rfl ⟨rfl,trivial⟩
  ·intro hg6_24
   try simp only [hyZ] at hg6_24
   simp only [List.take];refine Hq.yg rfl rfl y_mv ?_;refine Hq.yg rfl rfl y_np ?_;refine Hq.yg rfl rfl (y_f 288 184 Tryz.underlying186 sz184) ?_;refine Hq.yg rfl rfl (y_load1 ag184 rfl (Rd.pt1 pkk (by exact woT_at (j:=0) (by omega) rfl))) ?_;refine Hq.yg rfl rfl (y_len Tryz.underlying184 rfl) ?_;refine Hq.yg rfl rfl (y_lss rfl rfl) ?_;refine Hq.yv (y_pickT rfl rfl) ?_;exact Hq.mend sbq
  ·intro hg6_24
   try simp only [hyZ] at hg6_24
   simp only [List.take];refine Hq.ng rfl rfl rfl ?_;refine Hq.ng rfl rfl rfl ?_;refine Hq.ng rfl rfl rfl ?_;refine Hq.ng rfl rfl rfl ?_;refine Hq.ng rfl rfl rfl ?_;refine Hq.ng rfl rfl rfl ?_;refine Hq.yv (y_pickF rfl rfl) ?_;exact Hq.mend sbq
  simp only [List.drop];refine Hq.yv y_as ?_;refine Hq.yv y_as ?_;refine Hq.nil ?_;refine sk [(4,_),(5,_)] K9 ?_;refine Hd.ret<|Hd.scRet ?_;exact Hd.retM (fun a fr=>Lv.mark pkk (Lv.end2 fr rfl (a3,c3) rfl rfl rfl sq))
 ·exact Hd.absurd (by simpa using hid0)
end Wo
end Go.Proofs.YtmpemhbfgbochaaGreatDoor
namespace Go.Proofs.YtmpemhbfgbochaaGreatDoor
open Go.RX Fx
namespace Wo
def openW (x:WireA) (fs:List Nat) (k:Nat):WireA:={ x with e:=fun j=>if j < k then { x.e j with what:=1,fd:=((fs.getD j 0:Nat):Int) } else x.e j }
def openT (t:Int→Option (Nat×Nat)) (m:Nat) (fs:List Nat):Nat→Int→Option (Nat×Nat)
 | 0=>t
 | k + 1=>setT (openT t m fs k) ((fs.getD k 0:Nat):Int) (some (m,k))
def WA.addW (w:WA) (x:WireA):WA:={ w with ws:=w.ws++[x] }
theorem atW_app (fd:Int) (x:WireA):∀ (ws:List WireA) (i:Nat),atW (ws++[x]) i fd=(atW ws i fd).or ((atE x fd).map fun k=>(i + ws.length,k))
 | [],i=>by
  show (match atE x fd with | some k=>some (i,k) | none=>none)=_
  cases h:atE x fd<;>rfl
 | y::t,i=>by
  show (match atE y fd with | some k=>some (i,k) | none=>atW (t++[x]) (i + 1) fd)=(match atE y fd with | some k=>some (i,k) | none=>atW t (i + 1) fd).or _
  cases h:atE y fd with
  | some k=>rfl
  | none =>
   show atW (t++[x]) (i + 1) fd=_
   rw [atW_app fd x t (i + 1),List.length_cons,show i + 1 + t.length=i + (t.length + 1) by omega]
theorem frees_mem {t:Int→Option (Nat×Nat)} {fd:Nat}:fd∈frees t↔fd < 96∧t (fd:Int)=none:=by
 unfold frees;rw [List.mem_filter,List.mem_range,Option.isNone_iff_eq_none]
theorem frees_nd (t:Int→Option (Nat×Nat)):(frees t).Nodup:=List.nodup_range.filter _
structure NewW (x:WireA) (l:Nat):Prop where
 wf:WfW x
 no:∀ k,k < 2→(x.e k).what≠1
 wt:x.wt=[]
theorem open_e (x:WireA) (fs:List Nat) (k j:Nat):(openW x fs k).e j=if j < k then { x.e j with what:=1,fd:=((fs.getD j 0:Nat):Int) } else x.e j:=rfl
theorem open_wf {x:WireA} {l:Nat} (h:NewW x l) (fs:List Nat) (k:Nat):WfW (openW x fs k):=by
 have e:∀ j,((openW x fs k).e j).rd=(x.e j).rd∧((openW x fs k).e j).wr=(x.e j).wr∧((openW x fs k).e j).b=(x.e j).b∧(((openW x fs k).e j).what=1∨((openW x fs k).e j).what=(x.e j).what):=fun j=>by
  rw [open_e]
  split
  ·exact ⟨rfl,rfl,rfl,.inl rfl⟩
  ·exact ⟨rfl,rfl,rfl,.inr rfl⟩
 refine ⟨fun j hj=>by rw [(e j).2.1,(e (1 - j)).1];exact h.wf.wr j hj,fun j hj=>by rw [(e j).2.2.1];exact h.wf.le j hj,fun j hj hr=>by rw [(e j).2.2.1];exact h.wf.nb j hj (by rw [←(e j).1];exact hr),h.wf.cap,fun j hj=>?_,h.wf.bl,fun h1=>?_⟩
 ·rcases (e j).2.2.2 with h1 | h1
  ·rw [h1];omega
  ·rw [h1];exact h.wf.what j hj
 ·rw [(e 0).1,(e 1).1]
  refine h.wf.ou ?_
  rcases (e 1).2.2.2 with h2 | h2
  ·rw [h2] at h1;cases h1
  ·rw [←h2];exact h1
structure OpF (w:WA) (fs:List Nat):Prop where
 nd:fs.Nodup
 fr:∀ f∈fs,f < 96∧w.at (f:Int)=none
 le:fs.length≤2
theorem opF_take (w:WA) {n:Nat} (hn:n≤2):OpF w ((frees w.at).take n) :=
 ⟨(frees_nd _).sublist (List.take_sublist _ _),fun f hf=>frees_mem.1 (List.mem_of_mem_take hf),by rw [List.length_take];omega⟩
theorem open_in {x:WireA} {l:Nat} (hx:NewW x l) {fs:List Nat} {k:Nat} (hk:k < 2):((openW x fs fs.length).e k).what=1↔k < fs.length:=by
 rw [open_e]
 split
 ·simp [*]
 ·rename_i h;exact ⟨fun h1=>absurd h1 (hx.no k hk),fun h1=>absurd h1 h⟩
theorem open_fd {x:WireA} {fs:List Nat} {k:Nat} (h:k < fs.length):((openW x fs fs.length).e k).fd=((fs.getD k 0:Nat):Int):=by rw [open_e,if_pos h]
theorem getD_mem {fs:List Nat} {k:Nat} (h:k < fs.length):fs.getD k 0∈fs:=by
 rw [List.getD_eq_getElem?_getD,List.getElem?_eq_getElem h];exact List.getElem_mem h
theorem getD_inj {fs:List Nat} (hn:fs.Nodup) {k j:Nat} (h:k < fs.length) (h2:j < fs.length) (e:fs.getD k 0=fs.getD j 0):k=j:=by
 rw [List.getD_eq_getElem?_getD,List.getD_eq_getElem?_getD,List.getElem?_eq_getElem h,List.getElem?_eq_getElem h2] at e;exact (List.getElem_inj hn).1 e
theorem app_at {α:Type} {l:List α} {x y:α} {n:Nat} (h:(l++[x])[n]?=some y):l[n]?=some y∨(n=l.length∧y=x):=by
 rcases Nat.lt_or_ge n l.length with h1 | h1
 ·rw [List.getElem?_append_left h1] at h;exact .inl h
 ·rw [List.getElem?_append_right h1] at h
  have:n - l.length=0:=by have:=(List.getElem?_eq_some_iff.1 h).1;simp at this;omega
  rw [this] at h;exact .inr ⟨by omega,(Option.some.inj h).symm⟩
theorem WOk.addW {w:WA} (h:WOk w) {x:WireA} {fs:List Nat} (hx:NewW x w.ws.length) (hf:OpF w fs) (hl:w.ws.length < 1000):WOk (w.addW (openW x fs fs.length)):=by
 have hold:∀ {n:Nat} {y:WireA} {k:Nat},w.ws[n]?=some y→k < 2→(y.e k).what=1→∀ j,j < fs.length→(y.e k).fd≠((fs.getD j 0:Nat):Int):=fun {n y k} hy hk h1 j hj e =>
  atW_no.1 (hf.fr _ (getD_mem hj)).2 y (List.mem_of_getElem? hy) k hk ⟨h1,e⟩
 refine ⟨?_,?_,by show (w.ws++[_]).length≤1000;rw [List.length_append];simp;omega,h.hdl,h.ctl,?_,?_,?_,?_,fun m y hm=>by
  rcases app_at hm with hm | ⟨rfl,rfl⟩
  ·exact h.ns _ _ hm
  ·rw [show (openW x fs fs.length).wt=[] from hx.wt];exact List.not_mem_nil⟩
 ·intro a b y z k j ha hb hk hj h1 h2 h3
  rcases app_at ha with ha | ⟨rfl,rfl⟩<;>rcases app_at hb with hb | ⟨rfl,rfl⟩
  ·exact h.uq a b y z k j ha hb hk hj h1 h2 h3
  ·have:=(open_in hx hj).1 h2
   rw [open_fd this] at h3;exact absurd h3 (hold ha hk h1 j this)
  ·have:=(open_in hx hk).1 h1
   rw [open_fd this] at h3;exact absurd h3.symm (hold hb hj h2 k this)
  ·have a1:=(open_in hx hk).1 h1
   have a2:=(open_in hx hj).1 h2
   rw [open_fd a1,open_fd a2] at h3;exact ⟨rfl,getD_inj hf.nd a1 a2 (by omega)⟩
 ·intro y hy k hk h1
  rcases List.mem_append.1 hy with hy | hy
  ·exact h.fd y hy k hk h1
  ·obtain rfl:y=_:=by simpa using hy
   have a1:=(open_in hx hk).1 h1
   have:=(hf.fr _ (getD_mem a1)).1
   rw [open_fd a1];omega
 ·intro y hy
  rcases List.mem_append.1 hy with hy | hy
  ·exact h.wf y hy
  ·obtain rfl:y=_:=by simpa using hy
   exact open_wf hx fs _
 ·show ((w.ws++[_]).flatMap WireA.wt).Nodup
  rw [List.flatMap_append,List.flatMap_cons,List.flatMap_nil,show (openW x fs fs.length).wt=[] from hx.wt,List.append_nil,List.append_nil];exact h.wn
 ·intro m hm
  have hm':m∈w.ws.flatMap WireA.wt:=by
   have h2:m∈(w.ws++[openW x fs fs.length]).flatMap WireA.wt:=hm
   rwa [List.flatMap_append,List.flatMap_cons,List.flatMap_nil,show (openW x fs fs.length).wt=[] from hx.wt,List.append_nil,List.append_nil] at h2
  obtain ⟨y,hy,h0⟩:=h.wm m hm'
  exact ⟨y,by show (w.ws++[_])[m]?=_;rw [List.getElem?_append_left (List.getElem?_eq_some_iff.1 hy).1];exact hy,h0⟩
 ·intro n k hn
  obtain ⟨hk,y,hy,h0⟩:=h.nt n k hn
  exact ⟨hk,y,by show (w.ws++[_])[n]?=_;rw [List.getElem?_append_left (List.getElem?_eq_some_iff.1 hy).1];exact hy,h0⟩
theorem openT_eq {t:Int→Option (Nat×Nat)} {m:Nat} {fs:List Nat} (hn:fs.Nodup) (hle:fs.length≤2) (fd:Int):openT t m fs fs.length fd=if ∃ k,k < fs.length∧fd=((fs.getD k 0:Nat):Int) then (if 0 < fs.length∧fd=((fs.getD 0 0:Nat):Int) then some (m,0) else some (m,1)) else t fd:=by
 match fs,hle with
 | [],_=>simp [openT]
 | [a],_ =>
  show (if fd=((([a]:List Nat).getD 0 0:Nat):Int) then _ else t fd)=_
  by_cases h:fd=(a:Int)
  ·rw [if_pos (by simpa using h),if_pos ⟨0,by simp,by simpa using h⟩,if_pos ⟨by simp,by simpa using h⟩]
  ·rw [if_neg (by simpa using h),if_neg]
   rintro ⟨k,hk,e⟩
   have:k=0:=by simp at hk;omega
   subst this;exact h (by simpa using e)
 | [a,b],_ =>
  have hab:a≠b:=by simpa using (List.nodup_cons.1 hn).1
  show (if fd=((([a,b]:List Nat).getD 1 0:Nat):Int) then _ else if fd=((([a,b]:List Nat).getD 0 0:Nat):Int) then _ else t fd)=_
  by_cases h:fd=(b:Int)
  ·rw [if_pos (by simpa using h),if_pos ⟨1,by simp,by simpa using h⟩,if_neg]
   ·rfl
   ·rintro ⟨_,e⟩
    have:fd=(a:Int):=by simpa using e
    omega
  ·rw [if_neg (by simpa using h)]
   by_cases h2:fd=(a:Int)
   ·rw [if_pos (by simpa using h2),if_pos ⟨0,by simp,by simpa using h2⟩,if_pos ⟨by simp,by simpa using h2⟩]
   ·rw [if_neg (by simpa using h2),if_neg]
    rintro ⟨k,hk,e⟩
    rcases (show k=0∨k=1 by simp at hk;omega) with rfl | rfl
    ·exact h2 (by simpa using e)
    ·exact h (by simpa using e)
theorem addW_at {w:WA} {x:WireA} {fs:List Nat} (hx:NewW x w.ws.length) (hf:OpF w fs):(w.addW (openW x fs fs.length)).at=openT w.at w.ws.length fs fs.length:=by
 funext fd
 rw [openT_eq hf.nd hf.le]
 show atW (w.ws++[_]) 0 fd=_
 rw [atW_app,Nat.zero_add]
 by_cases h:∃ k,k < fs.length∧fd=((fs.getD k 0:Nat):Int)
 ·rw [if_pos h]
  obtain ⟨k,hk,e⟩:=h
  have hno:atW w.ws 0 fd=none:=by rw [e];exact (hf.fr _ (getD_mem hk)).2
  rw [hno,Option.none_or];unfold atE
  by_cases h0:0 < fs.length∧fd=((fs.getD 0 0:Nat):Int)
  ·rw [if_pos h0,if_pos ⟨(open_in hx (by omega)).2 h0.1,by rw [open_fd h0.1];exact h0.2.symm⟩];rfl
  ·have hk1:k=1:=by
    have hkl:k < 2:=by have:=hf.le;omega
    rcases (show k=0∨k=1 by omega) with rfl | rfl
    ·exact absurd ⟨hk,e⟩ h0
    ·rfl
   subst hk1;rw [if_neg h0,if_neg,if_pos ⟨(open_in hx (by omega)).2 hk,by rw [open_fd hk];exact e.symm⟩]
   ·rfl
   ·rintro ⟨h1,h2⟩
    have:=(open_in hx (by omega)).1 h1
    rw [open_fd this] at h2;exact h0 ⟨this,h2.symm⟩
 ·rw [if_neg h]
  have:atE (openW x fs fs.length) fd=none:=atE_no fun k hk ⟨h1,h2⟩=>by
   have:=(open_in hx hk).1 h1
   rw [open_fd this] at h2;exact h ⟨k,this,h2.symm⟩
  rw [this,Option.map_none,Option.or_none]
end Wo
end Go.Proofs.YtmpemhbfgbochaaGreatDoor
namespace Go.Proofs.YtmpemhbfgbochaaGreatDoor
open Go.RX Fx
namespace Wo
theorem enc_open {x:WireA} {fs:List Nat} {i:WI} {k:Nat} (hk:k < 2):((encW (openW x fs k) i).set (0 + 0 + k * 7 + 0) (.int .i64 1)).set (0 + 0 + k * 7 + 1) (.int .i64 ((fs.getD k 0:Nat):Int))=encW (openW x fs (k + 1)) i:=by
 rcases (show k=0∨k=1 by omega) with rfl | rfl<;>rfl
theorem nats_at {fs:List Nat} {k:Nat} (h:k < fs.length):(nats fs)[k * 1]?=some (.int .i64 ((fs.getD k 0:Nat):Int)):=by
 rw [Nat.mul_one,List.getElem?_map,List.getElem?_eq_getElem h,List.getD_eq_getElem?_getD,List.getElem?_eq_getElem h];rfl
theorem open_same (x:WireA) (fs:List Nat) (k j:Nat):((openW x fs k).e j).rd=(x.e j).rd∧((openW x fs k).e j).b=(x.e j).b:=by
 rw [open_e];split<;>exact ⟨rfl,rfl⟩
theorem open_close {b k:Nat} {x:WireA} {fs:List Nat} {i:WI} {L:List SP} (hi:WIOk x i):∀ h,sep (pt b (encW (openW x fs k) i) 198::WireB x i 0 L) h→sep (WireP b (openW x fs k)::L) h:=by
 intro h s;refine wire_fold (x:=openW x fs k) (i:=i) (k:=0) ⟨fun j hj=>by rw [(open_same x fs k j).1];exact hi.rd j hj⟩ (by omega) h ?_;unfold WireB at s ⊢;rw [(open_same x fs k 0).2,(open_same x fs k (1 - 0)).2];exact s
theorem open_ct (L:List SP) (wb m b:Nat) (t:Int→Option (Nat×Nat)) (w:WA) (i:WoI) (x:WireA) (fs:List Nat) (fa:Option Addr) (fc:Nat) (hR:RdS L 1 fa fs.length (nats fs)) (hle:fs.length≤2) (hf:∀ f∈fs,f < 96) (hm:m < 100000) (hml:i.rs.length=m):Ct Tryz.prog 193 #[.pointer (some ⟨wb,0,none⟩),.pointer (some ⟨b,0,none⟩),.slice fa fs.length fc] (WoH wb t w m i::own 189 1 i.wa m i.wc (pws i.rs)::WireP b x::L) (fun q_:Option Addr×Nat=>.tuple #[]) (fun q_:Option Addr×Nat=>WoH wb (openT t m fs fs.length) w (m + 1) { i with wa:=q_.1,wc:=q_.2 }::own 189 1 q_.1 (m + 1) q_.2 (pws i.rs++[ptr (some b)])::WireP b (openW x fs fs.length)::L):=by
 refine Ct.o3 Tryz.func193 ?_;intro E
 show Hd E 51 _ _ _ _
 refine Hd.wire (.there (.there .here)) 0 (by omega) (fun i2 hi=>?_)
 have e0:x=openW x fs 0:=by
  obtain ⟨e,cp,r,bl,wt⟩:=x
  unfold openW;congr 1
 refine Hd.heap (pt b (encW (openW x fs 0) i2) 198::WoH wb t w m i::own 189 1 i.wa m i.wc (pws i.rs)::WireB x i2 0 L) (Ent.sep (.eq pkk (pt_eq (congrArg (fun z=>encW z i2) e0)) enn)) ?_;refine Hd.seq fun _ K1=>?_
 refine sr fun _ K2=>?_
 refine yv y_mv<|yv (y_len Tryz.underlying94 rfl) ?_;refine yv y_mv<|fk [(0,_),(1,_),(8,_),(9,_),(10,_)] K2 ?_;refine Hd.block<|Hd.loopK (ι:=Nat) [(0,_),(1,_),(8,_),(9,_)] (fun k=>[(10,.int .i64 (k:Int))]) (fun k=>pu (k≤fs.length)::pt b (encW (openW x fs k) i2) 198::WoH wb (openT t m fs k) w m i::own 189 1 i.wa m i.wc (pws i.rs)::WireB x i2 0 L) (fun k=>fs.length - k) 0 sbq sbq (Ent.sep (.pure (by omega) enn)) ?_;intro k
 try dsimp only
 refine Hd.pure (fun hp0=>?_)
 try dsimp only at hp0
 refine sr fun _ K3=>?_
 refine yv (y_lss rfl rfl) ?_;refine fk [(0,_),(1,_),(8,_),(9,_),(10,_),(11,_)] K3 ?_;refine Hd.seq fun _ K4=>?_
 refine qz ?_ ?_<;>intro hc0<;>try simp only [hyZ] at hc0
 ·have hk:k < fs.length:=by omega
  have hfk:fs.getD k 0 < 96:=hf _ (getD_mem hk)
  refine qv K4<|Hd.seq fun _ K5=>?_
  refine Hd.block<|sr fun _ K6=>?_
  refine yv y_mv<|yv (y_idxR Tryz.underlying94 sz3 rfl rfl (by omega) (by exact RdS.mono hR sq)) ?_;refine yv (y_loadR1 ag3 rfl (by exact RdS.mono hR sq) (by exact nats_at (by omega))) ?_;refine yv y_as<|yv y_as<|fk [(0,_),(1,_),(6,_),(7,_),(8,_),(9,_),(10,_)] K6 ?_;refine Hd.seq fun _ K7=>?_
  refine Hd.drawsH ([]) (fun j=>!(([1000]:List Nat).contains j)) mixed ?_;simp only [List.length,Nat.zero_add,Nat.reduceAdd];refine tH 0 rfl y_mv<|tH 1 rfl y_mv<|tH 2 rfl y_mv<|tH 3 rfl y_mv<|tH 4 rfl y_mv<|tH 5 rfl y_np<|tH 6 rfl (y_f 0 196 Tryz.underlying198 sz196)<|tH 7 rfl (y_idxA Tryz.underlying196 sz195 rfl rfl (by omega)) ?_;refine tH 8 rfl (y_f 0 3 Tryz.underlying195 sz3)<|tH 10 rfl y_np<|tH 11 rfl (y_f 0 196 Tryz.underlying198 sz196)<|qo 9 ?_;refine Hd.store1 sz3 rfl rfl rfl pkk (by simp;omega) ?_
  try simp only [hyS]
  refine qk<|tH 12 rfl (y_idxA Tryz.underlying196 sz195 rfl rfl (by omega)) ?_;refine tH 13 rfl (y_f 1 3 Tryz.underlying195 sz3)<|qo 14 ?_;refine Hd.store1 sz3 rfl rfl rfl pkk (by simp;omega) ?_
  try simp only [hyS]
  refine qk<|endH kq ?_;rw [enc_open (by omega)];refine sk [(0,_),(1,_),(6,_),(7,_),(8,_),(9,_),(10,_)] K7 ?_;refine Hd.drawsH ([WoH wb (openT t m fs k) w m i]) (fun j=>!([12].contains j)) mixed ?_;simp only [List.length,Nat.zero_add,Nat.reduceAdd];refine tH 0 rfl y_mv<|tH 1 rfl y_mv<|tH 2 rfl y_mv<|tH 3 rfl y_np<|tH 4 rfl (y_f 288 184 Tryz.underlying186 sz184)<|tH 5 rfl (y_load1 ag184 rfl (Rd.pt1 pkk (by exact woT_at (j:=0) (by omega) rfl))) ?_;refine tH 6 rfl (y_len Tryz.underlying184 rfl) ?_;refine tH 7 rfl y_mv<|tH 8 rfl (y_build (vs:=[(0,_),(1,_),(2,_)]) rfl (by exact bd193_36 ..)) ?_;refine qo 9 ?_;refine yv y_np<|qk<|qo 10 ?_;refine yv (y_f 0 183 Tryz.underlying186 sz183)<|qk<|tH 11 rfl (y_idxA Tryz.underlying183 sz182 rfl rfl (by omega)) ?_;refine qo 12 ?_
  refine Hd.store (us:=plc (some (m,k))) sz182 rfl rfl rfl (plc_one _) pkk (by rw [List.length_append,fdC_len,plc_len];omega) ?_;refine qn<|endH kq ?_;rw [show 0 + 0 + fs.getD k 0 * 3=fs.getD k 0 * 3 by omega,show (plc (some (m,k))).length=3 from rfl,fdC_set hfk];refine slots [(0,_),(1,_),(8,_),(9,_),(10,_)] sbq ?_;refine Hd.inB<|Hd.toK K5 ?_;refine Hd.region<|yv (y_addn rfl rfl (by simp only [InK];omega)) ?_;refine yv y_mv<|Hd.nil<|slots [(0,_),(1,_),(8,_),(9,_),(10,_)] sbq ?_;refine thenN ?_;exact Hd.again (k + 1) (by omega) sbq (Ent.sep (.pure (by omega) enn))
 obtain rfl:k=fs.length:=by omega
 refine Hd.exit<|Hd.thenExit<|Hd.thenExit<|Hd.inBexit<|Hd.toK K1 ?_;refine Hd.region<|yv y_mv<|yv y_mv<|yv y_np<|yv (y_f 288 184 Tryz.underlying186 sz184)<|yv (y_load1 ag184 rfl (Rd.pt1 pkk (by exact woT_at (j:=0) (by omega) rfl))) ?_;refine yv y_mv<|Hd.bslice (vs:=[(0,_)]) rfl (by exact bs193_47 ..) (fun b47=>?_);refine Hd.append Tryz.underlying184 ty189 rfl rfl rfl pkk (by exact RdS.rd (Rd.pt pkk (fun j v e=>by simpa using e)) rfl) (by simp [Value.oneCell'];done) (by simp only [maxLen];omega) (by omega) (fun ad48 cap48=>?_);refine yv y_np<|yv (y_f 288 184 Tryz.underlying186 sz184)<|Hd.store1 sz184 rfl rfl rfl pkk (by rw [List.length_append,fdC_len];simp) ?_
 try simp only [hyS]
 refine Hd.nil<|slots [] sbq ?_;rw [show (fdC (openT t m fs fs.length)++woT w m i).set (0 + 288) (.slice ad48 (m + 1) cap48)=fdC (openT t m fs fs.length)++woT w (m + 1) { i with wa:=ad48,wc:=cap48 } by rw [List.set_append_right _ _ (by rw [fdC_len];omega),fdC_len];rfl];exact Hd.end0 rfl (ad48,cap48) rfl (fun q s=>Ent.sep (show Ent (WireP b (openW x fs fs.length)::WoH wb (openT t m fs fs.length) w (m + 1) { i with wa:=ad48,wc:=cap48 }::own 189 1 ad48 (m + 1) cap48 (pws i.rs++[ptr (some b)])::L) _ from enn) q (open_close hi q (Ent.sep (.pick pkk (.pick pkk (.pick pkk (.pick pkk (.pick pkk (.eq pkk (show own 189 1 ad48 (m + 1) cap48 (pws i.rs++[Value.pointer (some ⟨b,0,none⟩)])=own 189 1 ad48 (m + 1) cap48 (pws i.rs++[ptr (some b)]) from rfl) enn)))))) q s)))
def mkOk (w:WA) (k:Nat):Bool:=decide ((((frees w.at).take k).length:Int)=(k:Int)) && decide ((w.ws.length:Int) < 1000)
def mkF (w:WA) (k:Nat):List Nat:=if mkOk w k=true then (frees w.at).take k else []
def mkE (w:WA) (k:Nat):Int:=if mkOk w k=true then 0 else 112
def mkW (w:WA) (k:Nat) (x:WireA):WA:=if mkOk w k=true then w.addW (openW x ((frees w.at).take k) k) else w
theorem cap_ct (L:List SP) (n:Int):Ct Tryz.prog 191 #[.int .i64 n] (L) (fun _:Unit=>.bool (decide (n ≥ 1) && decide (n≤65536))) (fun _:Unit=>L):=by
 refine Ct.o1 Tryz.func191 ?_;intro E
 show Hd E 9 _ _ _ _
 refine sr fun _ K1=>?_
 refine yv y_as<|fk [(0,_)] K1 ?_;refine sr fun _ K2=>?_
 refine yv y_mv<|yv (y_geq rfl rfl) ?_;refine yv y_mv ?_;apply Hd.andg 3 5 8 [] rfl sbq
 ·intro hg1_5
  try simp only [hyZ] at hg1_5
  simp only [List.take];refine y2 y_mv<|y2 (y_leq rfl rfl) ?_;refine yv (y_pickT rfl rfl) ?_;exact Hd.mn
 ·intro hg1_5
  try simp only [hyZ] at hg1_5
  simp only [List.take];refine n1<|n1<|yv (y_pickF rfl rfl) ?_;exact Hd.mn
 simp only [List.drop];refine yv y_as<|fk [(2,_)] K2 ?_;refine Hd.ret ?_;exact Hd.ret1 rfl () (by rfl) sq
theorem pws_app (rs:List (Nat×WireA)) (b:Nat) (x:WireA):pws rs++[ptr (some b)]=pws (rs++[(b,x)]):=by simp [pws]
theorem world_add {wb b:Nat} {w:WA} {i:WoI} {x:WireA} {ad:Option Addr} {c:Nat} {t:Int→Option (Nat×Nat)} {L:List SP} (hw:WOk (w.addW x)) (hrs:i.rs.map Prod.snd=w.ws) (ht:(w.addW x).at=t) :
  ∀ h,sep (WireP b x::Wires i.rs::WoH wb t w (i.rs.length + 1) { i with wa:=ad,wc:=c }::own 189 1 ad (i.rs.length + 1) c (pws i.rs++[ptr (some b)])::SigP i.sb w.hd w.ct::L) h→sep (WorldP wb (w.addW x)::L) h:=by
 intro h s
 have h1:=ws_add s
 have hl:(i.rs++[(b,x)]).length=i.rs.length + 1:=by simp
 refine Ent.sep (.ex { i with rs:=i.rs++[(b,x)],wa:=ad,wc:=c } (.pure ⟨hw,by show (i.rs++[(b,x)]).map Prod.snd=w.ws++[x];rw [List.map_append,hrs];rfl⟩ ?_)) h h1;exact .eq pkk (pt_eq (show fdC t++woT w (i.rs.length + 1) { i with wa:=ad,wc:=c }=fdC (w.addW x).at++woT (w.addW x) (i.rs++[(b,x)]).length { i with rs:=i.rs++[(b,x)],wa:=ad,wc:=c } by rw [ht,hl];rfl)) (.eq pkk (own_eq3 hl.symm rfl (pws_app ..)) enn)
theorem make_ct (L:List SP) (wb b:Nat) (w:WA) (n:Nat) (h1:1≤n) (h2:n≤65536) (k:Nat) (hk:k≤2) (x:WireA) (hx:NewW x w.ws.length):Ct Tryz.prog 110 #[.pointer (some ⟨wb,0,none⟩),.int .i64 (n:Int),.int .i64 (k:Int),.pointer (some ⟨b,0,none⟩)] (WorldP wb w::WireP b x::L) (fun q_:Option Addr×Nat=>.tuple #[.slice q_.1 (mkF w k).length q_.2,.int .i64 (mkE w k)]) (fun q_:Option Addr×Nat=>own 3 1 q_.1 (mkF w k).length q_.2 (nats (mkF w k))::WorldP wb (mkW w k x)::L):=by
 refine Ct.o4 Tryz.func110 ?_;intro E
 show Hd E 32 _ _ _ _
 refine Hd.world .here (fun i hw hrs=>?_)
 have hrl:i.rs.length=w.ws.length:=by rw [←hrs,List.length_map]
 refine sr fun _ K1=>?_
 refine yv y_as<|yv y_as<|fk [(0,_),(1,_),(2,_),(3,_)] K1 ?_;refine Hd.seq fun _ K2=>?_
 refine Hd.block<|sr fun _ K3=>?_
 refine yv y_mv<|callE rfl fk114 (wnone_ct _ wb w.at w i.rs.length i) sq ?_;intro _;refine yv y_as<|fk [(0,_),(1,_),(2,_),(3,_),(12,_)] K3 ?_;refine Hd.condF rfl ?_;refine sr fun _ K4=>?_
 refine yv y_mv<|callE rfl fk191 (cap_ct _ (n:Int)) sq ?_;intro _;refine yv (y_not rfl)<|yv y_as<|fk [(0,_),(2,_),(3,_),(15,_)] K4 ?_;refine qz ?_ ?_<;>intro hc1<;>try simp only [hyZ] at hc1
 ·exfalso
  omega
 refine Hd.skip<|Hd.inB<|Hd.toK K2 ?_;refine sr fun _ K5=>?_
 refine yv y_mv<|yv y_mv<|callE rfl fk192 (numbers_ct _ wb i.rs.length w.at w i k) sq ?_;rintro ⟨ad,c⟩;dsimp only;rw [show (decide ((((frees w.at).take k).length:Int)=(k:Int)) && decide ((i.rs.length:Int) < 1000))=mkOk w k by unfold mkOk;rw [hrl]];refine yv y_mv<|yv y_ex<|yv y_ex<|yv y_as<|yv y_as<|fk [(0,_),(3,_),(10,_),(11,_)] K5 ?_;refine Hd.seq fun _ K6=>?_
 refine sr fun _ K7=>?_
 refine yv y_mv<|yv (y_not rfl)<|fk [(0,_),(3,_),(10,_),(26,_)] K7 ?_;refine qz ?_ ?_<;>intro hc2<;>try simp only [hyZ] at hc2
 ·refine sr fun _ K8=>?_
  refine yv y_as<|yv y_as<|fk [(8,_),(9,_)] K8 ?_;refine Hd.ret<|Hd.thenRet ?_
  have hno:mkOk w k=false:=by simpa using hc2
  rw [show mkF w k=[] by unfold mkF;rw [if_neg (by rw [hno];simp)],show mkE w k=112 by unfold mkE;rw [if_neg (by rw [hno];simp)],show mkW w k x=w by unfold mkW;rw [if_neg (by rw [hno];simp)]];exact Hd.ret2 rfl (none,0) rfl rfl rfl (Ent.sep (.ownNil (.ex i (.pure ⟨hw,hrs⟩ enn))))
 have hok:mkOk w k=true:=by simpa using hc2
 obtain ⟨hfl,hwl⟩:((frees w.at).take k).length=k∧w.ws.length < 1000:=by
  unfold mkOk at hok;simp only [Bool.and_eq_true,decide_eq_true_eq] at hok;omega
 have hof:=opF_take w hk
 refine qv K6<|sr fun _ K9=>?_
 refine yv y_mv<|yv y_mv<|yv y_mv<|callE rfl fk193 (open_ct _ wb i.rs.length b w.at w i x ((frees w.at).take k) ad c ?hD hof.le (fun f hf=>(hof.fr f hf).1) (by omega) rfl) sq ?_
 case hD=>exact RdS.own pkk
 rintro ⟨ad2,c2⟩;dsimp only;refine fk [(10,_)] K9 ?_;refine sr fun _ K10=>?_
 refine yv y_mv<|yv y_as<|yv y_as<|fk [(8,_),(9,_)] K10 ?_;refine Hd.ret ?_;rw [show mkF w k=(frees w.at).take k by unfold mkF;rw [if_pos hok],show mkE w k=0 by unfold mkE;rw [if_pos hok],show mkW w k x=w.addW (openW x ((frees w.at).take k) ((frees w.at).take k).length) by unfold mkW;rw [if_pos hok,hfl]]
 have hat:=addW_at hx hof
 rw [←hrl] at hat;exact Hd.ret2 rfl (ad,c) rfl rfl rfl (fun q s=>Ent.sep (show Ent (WorldP wb (w.addW (openW x ((frees w.at).take k) ((frees w.at).take k).length))::own 3 1 ad ((frees w.at).take k).length c (nats ((frees w.at).take k))::L) _ from enn) q (world_add (hw.addW hx hof hwl) hrs hat q (Ent.sep enn q s)))
theorem makebad_ct (L:List SP) (wb b:Nat) (w:WA) (n:Int) (h:n < 1∨65536 < n) (k:Int):Ct Tryz.prog 110 #[.pointer (some ⟨wb,0,none⟩),.int .i64 n,.int .i64 k,.pointer (some ⟨b,0,none⟩)] (WorldP wb w::L) (fun _:Unit=>.tuple #[.slice none 0 0,.int .i64 2]) (fun _:Unit=>WorldP wb w::L):=by
 refine Ct.o4 Tryz.func110 ?_;intro E
 show Hd E 32 _ _ _ _
 refine Hd.world .here (fun i hw hrs=>?_);refine sr fun _ K1=>?_
 refine yv y_as<|yv y_as<|fk [(0,_),(1,_),(2,_),(3,_)] K1 ?_;refine Hd.seq fun _ K2=>?_
 refine Hd.block<|sr fun _ K3=>?_
 refine yv y_mv<|callE rfl fk114 (wnone_ct _ wb w.at w i.rs.length i) sq ?_;intro _;refine yv y_as<|fk [(0,_),(1,_),(2,_),(3,_),(12,_)] K3 ?_;refine Hd.condF rfl ?_;refine sr fun _ K4=>?_
 refine yv y_mv<|callE rfl fk191 (cap_ct _ n) sq ?_;intro _;refine yv (y_not rfl)<|yv y_as<|fk [(0,_),(2,_),(3,_),(15,_)] K4 ?_;refine qz ?_ ?_<;>intro hc1<;>try simp only [hyZ] at hc1
 ·refine sr fun _ K5=>?_
  refine yv y_as<|yv y_as<|fk [(8,_),(9,_)] K5 ?_;refine Hd.ret<|Hd.inBret<|Hd.thenRet ?_;exact Hd.ret2 rfl () rfl rfl rfl (Ent.sep (.ex i (.pure ⟨hw,hrs⟩ enn)))
 exfalso;omega
end Wo
end Go.Proofs.YtmpemhbfgbochaaGreatDoor
namespace Go.Proofs.YtmpemhbfgbochaaGreatDoor
open Go.RX Fx
namespace Wo
theorem half_new {n l:Nat} (h:n≤65536):NewW (halfW n 2) l:=by
 have e:∀ k,k < 2→(halfW n 2).e k=fullE:=fun k hk=>if_pos hk
 refine ⟨⟨fun k hk=>by rw [e k hk,e (1 - k) (by omega)];rfl,fun k hk=>by rw [e k hk];exact Nat.zero_le _,fun k hk _=>by rw [e k hk];rfl,h,fun k hk=>by rw [e k hk];exact ⟨Int.le_refl _,by decide⟩,⟨Int.le_refl _,by show (0:Int)≤64;decide,by show ((0:Nat):Int)≤0;decide⟩,fun h1=>by rw [e 0 (by omega),e 1 (by omega)];exact ⟨rfl,rfl⟩⟩,fun k hk=>by rw [e k hk];decide,rfl⟩
theorem mkF_len {w:WA} {k:Nat}:(mkE w k=0∧(mkF w k).length=k)∨(mkE w k=112∧mkF w k=[]):=by
 unfold mkE mkF
 by_cases h:mkOk w k=true
 ·rw [if_pos h,if_pos h]
  refine .inl ⟨rfl,?_⟩;unfold mkOk at h;simp only [Bool.and_eq_true,decide_eq_true_eq] at h;omega
 ·rw [if_neg h,if_neg h];exact .inr ⟨rfl,rfl⟩
abbrev mkI (w:WA) (k j:Nat):Int:=(((mkF w k).getD j 0:Nat):Int)
theorem pair_ct (L:List SP) (wb:Nat) (w:WA) (n:Nat) (h1:1≤n) (h2:n≤65536):Ct Tryz.prog 43 #[.pointer (some ⟨wb,0,none⟩),.int .i64 (n:Int)] (WorldP wb w::L) (fun _:Unit=>.tuple #[.int .i64 (mkI w 2 0),.int .i64 (mkI w 2 1),.int .i64 (mkE w 2)]) (fun _:Unit=>WorldP wb (mkW w 2 (halfW n 2))::L):=by
 refine Ct.o2 Tryz.func43 ?_;intro E
 show Hd E 25 _ _ _ _
 refine sr fun _ K1=>?_
 refine yv y_as<|yv y_as<|yv y_as<|fk [(0,_),(1,_)] K1 ?_;refine sr fun _ K2=>?_
 refine yv y_mv<|yv y_mv<|yv y_mv<|callE rfl fk111 (both_ct _ n h1 h2) sq ?_;intro b;refine callE rfl fk110 (make_ct _ wb b w n h1 h2 2 (by omega) (halfW n 2) (half_new h2)) sq ?_;rintro ⟨ad,c⟩;dsimp only;refine yv y_mv<|yv y_ex<|yv y_ex<|yv y_as<|yv y_as<|fk [(6,_),(7,_)] K2 ?_;refine Hd.seq fun _ K3=>?_
 refine sr fun _ K4=>?_
 refine yv y_mv<|yv (y_neq rfl rfl) ?_;refine fk [(6,_),(7,_),(17,_)] K4 ?_;refine qz ?_ ?_<;>intro hc0<;>try simp only [hyZ] at hc0
 ·refine sr fun _ K5=>?_
  refine yv y_mv<|yv y_as<|yv y_as<|yv y_as<|fk [(4,_),(5,_),(6,_)] K5 ?_;refine Hd.ret<|Hd.thenRet ?_
  have h:mkF w 2=[]:=by
   rcases mkF_len (w:=w) (k:=2) with h | h
   ·exact absurd h.1 hc0
   ·exact h.2
  rw [show mkI w 2 0=0 by unfold mkI;rw [h];rfl,show mkI w 2 1=0 by unfold mkI;rw [h];rfl];exact Hd.ret3 rfl () rfl rfl rfl rfl sq
 have hl:(mkF w 2).length=2:=by
  rcases mkF_len (w:=w) (k:=2) with h | h
  ·exact h.2
  ·rw [h.1] at hc0;exact absurd hc0 (by decide)
 have hg0:(nats (mkF w 2))[0 * 1]?=some (.int .i64 (mkI w 2 0)):=nats_at (by omega)
 have hg1:(nats (mkF w 2))[1 * 1]?=some (.int .i64 (mkI w 2 1)):=nats_at (by omega)
 refine qv K3<|Hd.seq fun _ K6=>?_
 refine Hd.quiet mixed kq ?_;refine Hq.yv y_mv ?_;refine Hq.yv (y_idxR Tryz.underlying94 sz3 rfl rfl (by exact (show (0:Nat) < _ by omega)) (by exact RdS.own pkk)) ?_;refine Hq.yv (y_loadR1 ag3 rfl (RdS.own (ad:=ad) (us:=nats (mkF w 2)) pkk) hg0) ?_;refine Hq.yv y_mv ?_;refine Hq.yv (y_idxR Tryz.underlying94 sz3 rfl rfl (by exact (show (1:Nat) < _ by omega)) (by exact RdS.own pkk)) ?_;refine Hq.yv (y_loadR1 ag3 rfl (RdS.own (ad:=ad) (us:=nats (mkF w 2)) pkk) hg1) ?_;refine Hq.yv y_as ?_;refine Hq.yv y_as ?_;refine Hq.yv y_as ?_;refine Hq.nil ?_;refine sk [(4,_),(5,_),(6,_)] K6 ?_;refine Hd.ret ?_;exact Hd.ret3 rfl () rfl rfl (by rw [hc0];rfl) rfl sq
theorem pairbad_ct (L:List SP) (wb:Nat) (w:WA) (n:Int) (h:n < 1∨65536 < n):Ct Tryz.prog 43 #[.pointer (some ⟨wb,0,none⟩),.int .i64 n] (WorldP wb w::L) (fun _:Unit=>.tuple #[.int .i64 0,.int .i64 0,.int .i64 2]) (fun _:Unit=>WorldP wb w::L):=by
 refine Ct.o2 Tryz.func43 ?_;intro E
 show Hd E 25 _ _ _ _
 refine sr fun _ K1=>?_
 refine yv y_as<|yv y_as<|yv y_as<|fk [(0,_),(1,_)] K1 ?_;refine sr fun _ K2=>?_
 refine yv y_mv<|yv y_mv<|yv y_mv<|callE rfl fk111 (bothbad_ct _ n h) sq ?_;rintro ⟨b,cs⟩;dsimp only;refine Hd.pure (fun hcs=>?_);refine callE rfl fk110 (makebad_ct _ wb b w n h 2) sq ?_;intro _;refine yv y_mv<|yv y_ex<|yv y_ex<|yv y_as<|yv y_as<|fk [(6,_),(7,_)] K2 ?_;refine Hd.seq fun _ K3=>?_
 refine sr fun _ K4=>?_
 refine yv y_mv<|yv (y_neq rfl rfl) ?_;refine fk [(6,_),(7,_),(17,_)] K4 ?_;refine qz ?_ ?_<;>intro hc0<;>try simp only [hyZ] at hc0
 ·refine sr fun _ K5=>?_
  refine yv y_mv<|yv y_as<|yv y_as<|yv y_as<|fk [(4,_),(5,_),(6,_)] K5 ?_;refine Hd.ret<|Hd.thenRet ?_;exact Hd.ret3 rfl () rfl rfl rfl rfl sq
 exact absurd hc0 (by decide)
end Wo
end Go.Proofs.YtmpemhbfgbochaaGreatDoor
namespace Go.Proofs.YtmpemhbfgbochaaGreatDoor
open Go.RX Fx
namespace Wo
theorem close_e (x:WireA) {k j:Nat} (hk:k < 2) (hj:j < 2):((closeW x k).e j).what=(if j=k then 3 else (x.e j).what)∧((closeW x k).e j).fd=(x.e j).fd∧((closeW x k).e j).rd=(x.e j).rd∧((closeW x k).e j).wr=(x.e j).wr∧((closeW x k).e j).b=(x.e j).b:=by
 unfold closeW
 by_cases e:j=k
 ·subst e
  rw [up_at,up_ne _ _ (by omega),if_pos rfl];exact ⟨rfl,rfl,rfl,rfl,rfl⟩
 ·obtain rfl:j=1 - k:=by omega
  rw [up_ne _ _ e,up_at,if_neg e];exact ⟨rfl,rfl,rfl,rfl,rfl⟩
theorem close_wf {x:WireA} (h:WfW x) {k:Nat} (hk:k < 2):WfW (closeW x k):=by
 refine ⟨fun j hj=>?_,fun j hj=>?_,fun j hj hr=>?_,h.cap,fun j hj=>?_,h.bl,fun h1=>?_⟩
 ·rw [(close_e x hk hj).2.2.2.1,(close_e x hk (show 1 - j < 2 by omega)).2.2.1];exact h.wr j hj
 ·rw [(close_e x hk hj).2.2.2.2];exact h.le j hj
 ·rw [(close_e x hk hj).2.2.2.2];exact h.nb j hj (by rw [←(close_e x hk hj).2.2.1];exact hr)
 ·rw [(close_e x hk hj).1];split
  ·decide
  ·exact h.what j hj
 ·rw [(close_e x hk (by omega)).2.2.1,(close_e x hk (by omega)).2.2.1]
  refine h.ou ?_;rw [(close_e x hk (by omega)).1] at h1
  split at h1
  ·cases h1
  ·exact h1
theorem WOk.closeW {w:WA} (h:WOk w) {n k:Nat} {x:WireA} {fd:Int} (hn:w.at fd=some (n,k)) (hx:w.ws[n]?=some x):WOk (w.setW n (Wo.closeW x k))∧(w.setW n (Wo.closeW x k)).at=setT w.at fd none:=by
 obtain ⟨_,_,hk,_,x',hx',hxw,hxf⟩:=h.at_lt hn
 rw [hx] at hx';obtain rfl:=Option.some.inj hx'
 have hlt:=(List.getElem?_eq_some_iff.1 hx).1
 have hfm:(w.setW n (Wo.closeW x k)).ws.flatMap WireA.wt=w.ws.flatMap WireA.wt:=flatMap_set hx rfl
 have hat:∀ {m:Nat} {y:WireA},(w.setW n (Wo.closeW x k)).ws[m]?=some y→∃ z,w.ws[m]?=some z∧∀ j,j < 2→((y.e j).what=1→(z.e j).what=1∧¬ (m=n∧j=k))∧(y.e j).fd=(z.e j).fd:=fun {m} {y} hm=>by
  rcases set_at hm with ⟨rfl,rfl⟩ | ⟨hne,hm⟩
  ·refine ⟨x,hx,fun j hj=>⟨fun h1=>?_,(close_e x hk hj).2.1⟩⟩
   rw [(close_e x hk hj).1] at h1
   split at h1
   ·cases h1
   ·rename_i h2;exact ⟨h1,fun h3=>h2 h3.2⟩
  ·exact ⟨y,hm,fun j _=>⟨fun h1=>⟨h1,fun h3=>hne h3.1⟩,rfl⟩⟩
 have hok:WOk (w.setW n (Wo.closeW x k)):=by
  refine ⟨?_,?_,?_,h.hdl,h.ctl,?_,by rw [hfm];exact h.wn,?_,?_,fun m y hm=>by
   rcases set_at hm with ⟨rfl,rfl⟩ | ⟨_,hm⟩
   ·exact fun e=>h.ns _ x hx e
   ·exact h.ns _ _ hm⟩
  ·intro a b y z i j ha hb hi hj h1 h2 h3
   obtain ⟨y',ha',hy⟩:=hat ha
   obtain ⟨z',hb',hz⟩:=hat hb
   exact h.uq a b y' z' i j ha' hb' hi hj ((hy i hi).1 h1).1 ((hz j hj).1 h2).1 (by rw [←(hy i hi).2,←(hz j hj).2];exact h3)
  ·intro y hy j hj h1
   obtain ⟨m,hm,e⟩:=List.getElem_of_mem hy
   obtain ⟨z,hz,he⟩:=hat (m:=m) (y:=y) (by rw [List.getElem?_eq_getElem hm,e])
   have:=h.fd z (List.mem_of_getElem? hz) j hj ((he j hj).1 h1).1
   rw [(he j hj).2];exact this
  ·show (w.ws.set n _).length≤1000;rw [List.length_set];exact h.len
  ·intro y hy
   rcases List.mem_or_eq_of_mem_set hy with hy | rfl
   ·exact h.wf y hy
   ·exact close_wf (h.wf x (List.mem_of_getElem? hx)) hk
  ·intro m hm
   rw [hfm] at hm
   obtain ⟨z,hz,h0⟩:=h.wm m hm
   by_cases e:m=n
   ·subst e
    rw [hx] at hz;obtain rfl:=Option.some.inj hz;refine ⟨Wo.closeW x k,by show (w.ws.set m _)[m]?=_;rw [List.getElem?_set_self hlt],?_⟩;rw [(close_e x hk (by omega)).1,if_neg]
    ·exact h0
    ·intro e2;subst e2;rw [h0] at hxw;cases hxw
   ·exact ⟨z,by show (w.ws.set n _)[m]?=_;rw [List.getElem?_set_ne (Ne.symm e)];exact hz,h0⟩
  ·intro m j hm
   obtain ⟨hj,z,hz,h0,h1⟩:=h.nt m j hm
   by_cases e:m=n
   ·subst e
    rw [hx] at hz;obtain rfl:=Option.some.inj hz;exact ⟨hj,Wo.closeW x k,by show (w.ws.set m _)[m]?=_;rw [List.getElem?_set_self hlt],by rw [(close_e x hk (by omega)).2.2.1];exact h0,by rw [(close_e x hk (by omega)).2.2.1];exact h1⟩
   ·exact ⟨hj,z,by show (w.ws.set n _)[m]?=_;rw [List.getElem?_set_ne (Ne.symm e)];exact hz,h0,h1⟩
 refine ⟨hok,?_⟩
 funext f
 show _=if f=fd then none else w.at f
 split
 ·rename_i e;subst e
  rw [show (w.setW n (Wo.closeW x k)).at f=none↔_ from atW_no];intro y hy j hj ⟨h1,h2⟩
  obtain ⟨m,hm,e⟩:=List.getElem_of_mem hy
  obtain ⟨z,hz,he⟩:=hat (m:=m) (y:=y) (by rw [List.getElem?_eq_getElem hm,e])
  obtain ⟨a1,a2⟩:=(he j hj).1 h1
  rw [(he j hj).2] at h2;exact a2 (h.uq m n z x j k hz hx hj hk a1 hxw (by rw [h2,hxf]))
 ·rename_i hne
  refine atW_ext hok.uq h.uq fun m j hj=>?_
  constructor
  ·rintro ⟨y,hy,h1,h2⟩
   obtain ⟨z,hz,he⟩:=hat hy
   exact ⟨z,hz,((he j hj).1 h1).1,by rw [←(he j hj).2];exact h2⟩
  ·rintro ⟨z,hz,h1,h2⟩
   by_cases e:m=n
   ·subst e
    rw [hx] at hz;obtain rfl:=Option.some.inj hz;refine ⟨Wo.closeW x k,by show (w.ws.set m _)[m]?=_;rw [List.getElem?_set_self hlt],?_,by rw [(close_e x hk hj).2.1];exact h2⟩;rw [(close_e x hk hj).1,if_neg]
    ·exact h1
    ·intro e2;subst e2;exact hne (by rw [←h2,hxf])
   ·exact ⟨z,by show (w.ws.set n _)[m]?=_;rw [List.getElem?_set_ne (Ne.symm e)];exact hz,h1,h2⟩
theorem world_put {wb n b:Nat} {w:WA} {i:WoI} {x x':WireA} {t:Int→Option (Nat×Nat)} {L:List SP} (hrs:i.rs.map Prod.snd=w.ws) (hb:i.rs[n]?=some (b,x)) (hok:WOk (w.setW n x')) (hat:(w.setW n x').at=t) :
  ∀ h,sep (WireP b x'::WoH wb t w i.rs.length i::own 189 1 i.wa i.rs.length i.wc (pws i.rs)::SigP i.sb w.hd w.ct::Wires (i.rs.take n)::Wires (i.rs.drop (n + 1))::L) h→sep (WorldP wb (w.setW n x')::L) h:=by
 intro h s
 have hn:=(List.getElem?_eq_some_iff.1 hb).1
 have h1:sep (WireP b x'::Wires (i.rs.take n)::Wires (i.rs.drop (n + 1))::WoH wb t w i.rs.length i::own 189 1 i.wa i.rs.length i.wc (pws i.rs)::SigP i.sb w.hd w.ct::L) h:=Ent.sep enn h s
 have h2:=ws_in hn h1
 have hl:(i.rs.set n (b,x')).length=i.rs.length:=List.length_set ..
 have hp:=pws_set (x':=x') hb
 refine Ent.sep (.ex { i with rs:=i.rs.set n (b,x') } (.pure ⟨hok,by show (i.rs.set n (b,x')).map Prod.snd=w.ws.set n x';rw [List.map_set,hrs]⟩ ?_)) h h2;exact .eq pkk (pt_eq (show fdC t++woT w i.rs.length i=fdC (w.setW n x').at++woT (w.setW n x') (i.rs.set n (b,x')).length { i with rs:=i.rs.set n (b,x') } by rw [hat,hl];rfl)) (.eq pkk (own_eq3 hl.symm rfl hp.symm) enn)
end Wo
end Go.Proofs.YtmpemhbfgbochaaGreatDoor
namespace Go.Proofs.YtmpemhbfgbochaaGreatDoor
open Go.RX Fx
namespace Bc
structure Row where
 ad:Option Addr
 cap:Nat
 l:List UInt8
abbrev bsl (l:List UInt8):List Value:=l.map B
abbrev hdr (r:Row):Value:=.slice r.ad r.l.length r.cap
def flat (rs:List Row):List UInt8:=rs.flatMap (·.l)
abbrev ow (r:Row):SP:=own 5 1 r.ad r.l.length r.cap (bsl r.l)
structure rows (rs:List Row) (h:PH):Prop where
 all:sep (rs.map ow) h
theorem rows_split {a b:List Row} {L:List SP} {h:PH} (s:sep (rows (a++b)::L) h):sep (rows a::rows b::L) h:=by
 obtain ⟨h1,h2,d,s1,s2,⟨x⟩,y⟩:=s
 rw [List.map_append] at x
 obtain ⟨k1,k2,d',a',b',x1,x2⟩:=sep_append x
 exact ⟨k1,uni k2 h2,(Dis.uniL d'.sym (d.subL a').sym).sym,a'.tr s1,Sub.uni (b'.tr s1) s2,⟨x1⟩,k2,h2,d.subL b',Sub.uniL,Sub.uniR (d.subL b'),⟨x2⟩,y⟩
theorem rows_join {a b:List Row} {L:List SP} {h:PH} (s:sep (rows a::rows b::L) h):sep (rows (a++b)::L) h:=by
 obtain ⟨h1,h2,d,s1,s2,⟨x⟩,k1,k2,d',a',b',⟨x'⟩,y⟩:=s
 refine ⟨uni h1 k1,k2,Dis.uniL (d.subR b') d',Sub.uni s1 (a'.tr s2),b'.tr s2,⟨?_⟩,y⟩;rw [List.map_append];exact sep_join (d.subR a') Sub.uniL (Sub.uniR (d.subR a')) x x'
theorem rows_own {r:Row} {L:List SP} {h:PH} (s:sep (rows [r]::L) h):sep (ow r::L) h:=by
 obtain ⟨h1,h2,d,s1,s2,⟨k1,k2,d',a',b',x,_⟩,y⟩:=s
 exact ⟨k1,h2,d.subL a',a'.tr s1,s2,x,y⟩
theorem own_rows {r:Row} {L:List SP} {h:PH} (s:sep (ow r::L) h):sep (rows [r]::L) h:=by
 obtain ⟨h1,h2,d,s1,s2,x,y⟩:=s
 exact ⟨h1,h2,d,s1,s2,⟨h1,fun _=>none,fun _=>.inr rfl,Sub.rfl',(fun _ _ e=>by cases e),x,trivial⟩,y⟩
theorem rows_nil {L:List SP} {h:PH} (s:sep L h):sep (rows []::L) h:=⟨fun _=>none,h,fun _=>.inl rfl,(fun _ _ e=>by cases e),Sub.rfl',⟨trivial⟩,s⟩
theorem pick_mem {rs:List Row} {r:Row} (hr:r∈rs):∃ L',Pick (rs.map ow) (ow r) L':=by
 induction rs with
 | nil=>cases hr
 | cons a rs ih =>
  rcases List.mem_cons.1 hr with rfl | h
  ·exact ⟨_,.here⟩
  ·obtain ⟨L',p⟩:=ih h;exact ⟨_,.there p⟩
theorem rows_rd {L L':List SP} {rs:List Row} (p:Pick L (rows rs) L') {r:Row} (hr:r∈rs):RdS L 1 r.ad r.l.length (bsl r.l):=fun k s=>by
 obtain ⟨h1,s1,⟨x⟩⟩:=sep.one p s
 obtain ⟨L2,p2⟩:=pick_mem hr
 obtain ⟨hl,hv⟩:=RdS.own p2 h1 x
 refine ⟨hl,?_⟩
 rcases hv with h | ⟨b,o,had,hc⟩
 ·exact .inl h
 ·exact .inr ⟨b,o,had,fun j v e=>by obtain ⟨fr,hh⟩:=hc j v e;exact ⟨fr,s1 _ _ hh⟩⟩
theorem flat_take_succ {rs:List Row} {i:Nat} (h:i < rs.length):flat (rs.take (i + 1))=flat (rs.take i)++rs[i].l:=by
 unfold flat;rw [List.take_add_one,List.getElem?_eq_getElem h];simp only [List.flatMap_append,Option.toList_some,List.flatMap_cons,List.flatMap_nil,List.append_nil]
theorem flat_take_le {rs:List Row} (i:Nat):(flat (rs.take i)).length≤(flat rs).length:=by
 have:flat rs=flat (rs.take i)++flat (rs.drop i):=by unfold flat;rw [←List.flatMap_append,List.take_append_drop]
 rw [this,List.length_append];omega
theorem flat_all {rs:List Row} {i:Nat} (h:rs.length≤i):flat (rs.take i)=flat rs:=by rw [List.take_of_length_le h]
theorem hdr_at {rs:List Row} {i:Nat} (h:i < rs.length):(rs.map hdr)[i * 1]?=some (hdr rs[i]):=by simp [h]
theorem hdr_one {rs:List Row}:∀ u∈rs.map hdr,u.oneCell'=true:=by simp [Value.oneCell']
theorem clone_ct (L:List SP) (ad:Option Addr) (m cap:Nat) (l:List UInt8) (hR:RdS L 1 ad m (bsl l)) (hb:m≤70368744177664):Ct Tryz.prog 157 #[.slice ad m cap] (L) (fun i:Option Addr×Nat=>.slice i.1 m i.2) (fun i:Option Addr×Nat=>own 5 1 i.1 m i.2 (bsl l)::L):=by
 refine Ct.o1 Tryz.func157 ?_;intro E
 show Hd E 8 _ _ _ _
 refine Hd.rdsF hR (fun hlen hnil=>?_);refine sr fun _ K1=>?_
 refine yv y_as<|fk [(0,_)] K1 ?_;refine Hd.seq fun _ K2=>?_
 refine sr fun _ K3=>?_
 refine yv y_mv<|yv (y_eql_slice Tryz.underlying30 rfl rfl) ?_;refine fk [(0,_),(4,_)] K3 ?_;refine qz ?_ ?_<;>intro hc0<;>try simp only [hyZ] at hc0
 ·have hnone:ad=none:=by simpa using hc0
  obtain rfl:=hnil hnone
  obtain rfl:l=[]:=List.eq_nil_of_length_eq_zero (by simpa using hlen)
  refine sr fun _ K4=>?_
  refine yv y_as<|fk [(2,_)] K4 ?_;refine Hd.ret<|Hd.thenRet ?_;exact Hd.ret1 rfl (none,0) rfl sq
 refine qv K2<|sr fun _ K5=>?_
 refine Hd.bslice (vs:=[]) rfl (by exact bs157_5 ..) (fun b5=>?_);refine Hd.ownNil 5 1 (some ⟨b5,0,none⟩) ?_;refine yv y_mv<|Hd.append Tryz.underlying30 ty5 rfl rfl rfl pkk (by exact RdS.mono hR sq) (by simp [Value.oneCell'];done) (by simp only [maxLen];omega) (by omega) (fun ad7 cap7=>?_);refine yv y_as<|fk [(2,_)] K5 ?_;refine Hd.ret ?_;exact Hd.ret1 rfl (ad7,cap7) (by simp only [Nat.zero_add];rfl) (Ent.sep (.eq pkk (own_eq (by simp) (by simp)) enn))
theorem clone2_ct (L:List SP) (ad:Option Addr) (m cap:Nat) (us:List Value) (h1:∀ u∈us,u.oneCell'=true) (hR:RdS L 1 ad m us) (hb:m≤1099511627776):Ct Tryz.prog 212 #[.slice ad m cap] (L) (fun i:Option Addr×Nat=>.slice i.1 m i.2) (fun i:Option Addr×Nat=>own 30 1 i.1 m i.2 us::L):=by
 refine Ct.o1 Tryz.func212 ?_;intro E
 show Hd E 8 _ _ _ _
 refine Hd.rdsF hR (fun hlen hnil=>?_);refine sr fun _ K1=>?_
 refine yv y_as<|fk [(0,_)] K1 ?_;refine Hd.seq fun _ K2=>?_
 refine sr fun _ K3=>?_
 refine yv y_mv<|yv (y_eql_slice Tryz.underlying114 rfl rfl) ?_;refine fk [(0,_),(4,_)] K3 ?_;refine qz ?_ ?_<;>intro hc0<;>try simp only [hyZ] at hc0
 ·have hnone:ad=none:=by simpa using hc0
  obtain rfl:=hnil hnone
  obtain rfl:us=[]:=List.eq_nil_of_length_eq_zero (by simpa using hlen)
  refine sr fun _ K4=>?_
  refine yv y_as<|fk [(2,_)] K4 ?_;refine Hd.ret<|Hd.thenRet ?_;exact Hd.ret1 rfl (none,0) rfl sq
 refine qv K2<|sr fun _ K5=>?_
 refine Hd.bslice (vs:=[]) rfl (by exact bs212_5 ..) (fun b5=>?_);refine Hd.ownNil 30 1 (some ⟨b5,0,none⟩) ?_;refine yv y_mv<|Hd.append Tryz.underlying114 ty30 rfl rfl rfl pkk (by exact RdS.mono hR sq) (by assumption) (by simp only [maxLen];omega) (by omega) (fun ad7 cap7=>?_);refine yv y_as<|fk [(2,_)] K5 ?_;refine Hd.ret ?_;exact Hd.ret1 rfl (ad7,cap7) (by simp only [Nat.zero_add];rfl) (Ent.sep (.eq pkk (own_eq (by simp) (by simp)) enn))
theorem grow_ct (L:List SP) (j:Nat) (hj:j≤70368744177664):Ct Tryz.prog 211 #[.slice none 0 0,.int .i64 (j:Int)] (L) (fun i:Option Addr×Nat=>.slice i.1 0 i.2) (fun i:Option Addr×Nat=>own 5 1 i.1 0 i.2 []::L):=by
 refine Ct.o2 Tryz.func211 ?_;intro E
 show Hd E 27 _ _ _ _
 refine sr fun _ K1=>?_
 refine yv y_as<|fk [(0,_),(1,_)] K1 ?_;refine Hd.seq fun _ K2=>?_
 refine sr fun _ K3=>?_
 refine yv y_mv<|yv (y_lss rfl rfl) ?_;rw [decide_eq_false (show ¬((j:Int) < 0) by omega)];refine fk [(0,_),(1,_),(6,_)] K3 ?_;refine Hd.condF rfl ?_;refine qv K2<|Hd.seq fun _ K4=>?_
 refine sr fun _ K5=>?_
 refine yv y_mv<|yv y_mv<|yv (y_cap Tryz.underlying30 rfl) ?_;refine yv y_mv<|yv (y_len Tryz.underlying30 rfl) ?_;refine yv (y_subn rfl rfl (by simp only [InK];omega)) ?_;refine yv (y_subn rfl rfl (by simp only [InK];omega)) ?_;refine yv y_as<|fk [(0,_),(1,_)] K5 ?_;refine sr fun _ K6=>?_
 refine yv y_mv<|yv (y_gtr rfl rfl) ?_;refine fk [(0,_),(1,_),(16,_)] K6 ?_;refine qz ?_ ?_<;>intro hc1<;>try simp only [hyZ] at hc1
 ·refine Hd.ownNil 5 1 none ?_
  refine Hd.region<|yv y_mv<|yv y_mv<|yv (y_cap Tryz.underlying30 rfl) ?_;refine yv (y_slo_xoxN Tryz.underlying30 sz5 rfl rfl (by omega)) ?_;refine yv y_mv<|Hd.name (b:=(j:Int)) 21 rfl (by omega) ?_;refine Hd.appendZ Tryz.underlying30 Tryz.underlying3 ty5 zr5 rfl rfl rfl pkk (by omega) (by omega) (by simp only [maxLen];omega) (by omega) (fun ad22 cap22=>?_);refine yv y_mv<|yv (y_len Tryz.underlying30 rfl) ?_;refine yv (y_slo_xoxN Tryz.underlying30 sz5 rfl rfl (by omega)) ?_;refine yv y_as<|fk [(0,_)] K4 ?_;refine sr fun _ K7=>?_
  refine yv y_mv<|yv y_as<|fk [(4,_)] K7 ?_;refine Hd.ret ?_;exact Hd.ret1 rfl (ad22,cap22) rfl (fun k s=>sep_head (Ent.sep (.pick pkk enn) k s) fun k' x=>own_take (us1:=[]) (us2:=List.replicate j (.int .u8 0)) (Nat.zero_le _) rfl (by simpa using x))
 refine qv K4<|sr fun _ K8=>?_
 refine yv y_mv<|yv y_as<|fk [(4,_)] K8 ?_;refine Hd.ret ?_;exact Hd.ret1 rfl (none,0) rfl (Ent.sep (.ownNil enn))
theorem concat_ct (L:List SP) (ad:Option Addr) (cap:Nat) (rs:List Row) (hR:RdS L 1 ad rs.length (rs.map hdr)) (hrd:∀ r∈rs,RdS L 1 r.ad r.l.length (bsl r.l)) (hm:rs.length≤1099511627776) (hb:(flat rs).length≤70368744177664):Ct Tryz.prog 158 #[.slice ad rs.length cap] (L) (fun i:Option Addr×Nat=>.slice i.1 (flat rs).length i.2) (fun i:Option Addr×Nat=>own 5 1 i.1 (flat rs).length i.2 (bsl (flat rs))::L):=by
 refine Ct.o1 Tryz.func158 ?_;intro E
 show Hd E 36 _ _ _ _
 refine sr fun _ K1=>?_
 refine yv y_as<|fk [(0,_)] K1 ?_;refine sr fun _ K2=>?_
 refine yv y_as<|fk [(0,_),(3,_)] K2 ?_;refine Hd.seq fun _ K3=>?_
 refine sr fun _ K4=>?_
 refine yv y_mv<|yv (y_len Tryz.underlying114 rfl) ?_;refine yv y_mv<|fk [(0,_),(3,_),(9,_),(10,_),(11,_)] K4 ?_;refine Hd.block<|Hd.loopK (ι:=Nat) [(0,_),(9,_),(10,_)] (fun i=>[(3,.int .i64 ((flat (rs.take i)).length:Int)),(11,.int .i64 (i:Int))]) (fun i=>pu (i≤rs.length)::L) (fun i=>rs.length - i) 0 sbq sbq (Ent.sep (.pure (by omega) enn)) ?_;intro i
 try dsimp only
 refine Hd.pure (fun hp0=>?_)
 try dsimp only at hp0
 refine sr fun _ K5=>?_
 refine yv (y_lss rfl rfl) ?_;refine fk [(0,_),(3,_),(9,_),(10,_),(11,_),(12,_)] K5 ?_;refine Hd.seq fun _ K6=>?_
 refine qz ?_ ?_<;>intro hc0<;>try simp only [hyZ] at hc0
 ·have hi':i < rs.length:=by omega
  have e1:=flat_take_succ hi'
  have e2:=flat_take_le (rs:=rs) (i + 1)
  rw [e1,List.length_append] at e2;refine qv K6<|Hd.seq fun _ K7=>?_
  refine Hd.block<|sr fun _ K8=>?_
  refine yv (y_idxR Tryz.underlying114 sz30 rfl rfl (by omega) (by exact RdS.mono hR sq)) ?_;refine yv (y_loadR1 ag30 rfl (by exact RdS.mono hR sq) (by exact hdr_at hi')) ?_;refine yv y_as<|fk [(0,_),(3,_),(5,_),(9,_),(10,_),(11,_)] K8 ?_;refine sr fun _ K9=>?_
  refine yv y_mv<|yv y_mv<|yv (y_len Tryz.underlying30 rfl) ?_;refine yv (y_addn rfl rfl (by simp only [InK];omega)) ?_;refine yv y_as<|fk [(0,_),(3,_),(9,_),(10,_),(11,_)] K9 ?_;refine sr fun _ K10=>?_
  refine yv y_mv<|yv (y_lss rfl rfl) ?_;rw [decide_eq_false (show ¬(((flat (rs.take i)).length:Int) + (rs[i].l.length:Int) < 0) by omega)];refine fk [(0,_),(3,_),(9,_),(10,_),(11,_),(20,_)] K10 ?_;refine Hd.condF rfl ?_;refine Hd.skip<|Hd.inB<|Hd.toK K7 ?_;refine Hd.region<|yv (y_addn rfl rfl (by simp only [InK];omega)) ?_;refine yv y_mv<|Hd.nil<|slots [(0,_),(3,_),(9,_),(10,_),(11,_)] sbq ?_;refine thenN ?_;exact Hd.again (i + 1) (by omega) (by repeat (first | exact trivial | refine ⟨rfl,?_⟩ | refine ⟨by (simp only [look,e1,List.length_append];try rfl),?_⟩)) (Ent.sep (.pure (by omega) enn))
 obtain rfl:i=rs.length:=by omega
 rw [flat_all (Nat.le_refl _)];refine Hd.exit<|Hd.thenExit<|Hd.thenExit<|Hd.inBexit<|Hd.toK K3 ?_;refine sr fun _ K11=>?_
 refine yv y_mv<|callE rfl fk211 (grow_ct _ _ hb) sq ?_;rintro ⟨ad2,cap2⟩;refine yv y_as<|fk [(0,_),(6,_)] K11 ?_;refine Hd.seq fun _ K12=>?_
 refine sr fun _ K13=>?_
 refine yv y_mv<|yv (y_len Tryz.underlying114 rfl) ?_;refine yv y_mv<|fk [(6,_),(25,_),(26,_),(27,_)] K13 ?_;refine Hd.block<|Hd.loopK (ι:=Nat×Option Addr×Nat) [(25,_),(26,_)] (fun q_=>[(6,.slice q_.2.1 (flat (rs.take q_.1)).length q_.2.2),(27,.int .i64 (q_.1:Int))]) (fun q_=>pu (q_.1≤rs.length)::own 5 1 q_.2.1 (flat (rs.take q_.1)).length q_.2.2 (bsl (flat (rs.take q_.1)))::L) (fun q_=>rs.length - q_.1) (0,ad2,cap2) sbq sbq (Ent.sep (.pure (by omega) enn)) ?_;rintro ⟨i,ad3,cap3⟩
 try dsimp only
 refine Hd.pure (fun hp1=>?_)
 try dsimp only at hp1
 refine sr fun _ K14=>?_
 refine yv (y_lss rfl rfl) ?_;refine fk [(6,_),(25,_),(26,_),(27,_),(28,_)] K14 ?_;refine Hd.seq fun _ K15=>?_
 refine qz ?_ ?_<;>intro hc2<;>try simp only [hyZ] at hc2
 ·have hi':i < rs.length:=by omega
  have e1:=flat_take_succ hi'
  have e2:=flat_take_le (rs:=rs) (i + 1)
  rw [e1,List.length_append] at e2;refine qv K15<|Hd.seq fun _ K16=>?_
  refine Hd.block<|sr fun _ K17=>?_
  refine yv (y_idxR Tryz.underlying114 sz30 rfl rfl (by omega) (by exact RdS.mono hR sq)) ?_;refine yv (y_loadR1 ag30 rfl (by exact RdS.mono hR sq) (by exact hdr_at hi')) ?_;refine yv y_as<|fk [(6,_),(8,_),(25,_),(26,_),(27,_)] K17 ?_;refine Hd.region<|yv y_mv<|yv y_mv<|Hd.append Tryz.underlying30 ty5 rfl rfl rfl pkk (by exact RdS.mono (hrd _ (List.getElem_mem hi')) sq) (by simp [Value.oneCell'];done) (by simp only [maxLen];omega) (by omega) (fun ad33 cap33=>?_);refine yv y_as<|Hd.nil<|slots [(6,_),(25,_),(26,_),(27,_)] sbq ?_;refine Hd.inB<|Hd.toK K16 ?_;refine Hd.region<|yv (y_addn rfl rfl (by simp only [InK];omega)) ?_;refine yv y_mv<|Hd.nil<|slots [(6,_),(25,_),(26,_),(27,_)] sbq ?_;refine thenN ?_;exact Hd.again (i + 1,ad33,cap33) (by omega) (by repeat (first | exact trivial | refine ⟨rfl,?_⟩ | refine ⟨by (simp only [look,e1,List.length_append];try rfl),?_⟩)) (Ent.sep (.pure (by omega) (.eq pkk (own_eq (by rw [e1,List.length_append]) (by rw [e1];simp)) enn)))
 refine Hd.exit<|Hd.thenExit<|Hd.thenExit<|Hd.inBexit<|Hd.toK K12 ?_;refine sr fun _ K18=>?_
 refine yv y_mv<|yv y_as<|fk [(2,_)] K18 ?_;refine Hd.ret ?_
 obtain rfl:i=rs.length:=by omega
 rw [flat_all (Nat.le_refl _)];exact Hd.ret1 rfl (ad3,cap3) rfl sq
def mayE (have_ more:Nat):Int:=if more≤1048576 - have_ then 0 else 70
theorem may_ct (L:List SP) (b o:Nat) (v:Value) (k m:Nat) (hk:k≤1048576):Ct Tryz.prog 155 #[.pointer (some ⟨b,o,none⟩),.int .i64 (m:Int)] (seg b o [v,.int .i64 (k:Int)]::L) (fun _:Unit=>.int .i64 (mayE k m)) (fun _:Unit=>seg b o [v,.int .i64 (k:Int)]::L):=by
 refine Ct.o2 Tryz.func155 ?_;intro E
 show Hd E 16 _ _ _ _
 refine sr fun _ K1=>?_
 refine yv y_as<|fk [(0,_),(1,_)] K1 ?_;refine Hd.seq fun _ K2=>?_
 refine Hd.block<|sr fun _ K3=>?_
 refine yv y_mv<|yv (y_eql_pointer Tryz.underlying231 rfl rfl) ?_;refine yv y_as<|fk [(0,_),(1,_),(5,_)] K3 ?_;refine Hd.condF rfl ?_;refine sr fun _ K4=>?_
 refine yv y_mv<|yv y_mv<|yv y_np<|yv (y_f 1 3 Tryz.underlying116 sz3)<|yv (y_load1 ag3 rfl (Rd.seg1 pkk (by rfl))) ?_;refine yv (y_subn rfl rfl (by simp only [InK];omega)) ?_;refine yv (y_gtr rfl rfl) ?_;refine yv y_as<|fk [(8,_)] K4 ?_;refine qz ?_ ?_<;>intro hc1<;>try simp only [hyZ] at hc1
 ·refine sr fun _ K5=>?_
  refine yv y_as<|fk [(4,_)] K5 ?_;refine Hd.ret<|Hd.inBret<|Hd.thenRet ?_;exact Hd.ret1 rfl () (by simp only [mayE];rw [if_neg (by omega)];rfl) sq
 refine Hd.skip<|Hd.inB<|Hd.toK K2 ?_;refine sr fun _ K6=>?_
 refine yv y_as<|fk [(4,_)] K6 ?_;refine Hd.ret ?_;exact Hd.ret1 rfl () (by simp only [mayE];rw [if_pos (by omega)];rfl) sq
def pcs (m:Nat):Nat→List (Nat×Nat)
 | 0=>[]
 | k + 1=>pcs m k++[(k * 256,min 256 (m - k * 256))]
theorem pcs_len (m:Nat):∀ k,(pcs m k).length=k
 | 0=>rfl
 | k + 1=>by simp [pcs,pcs_len m k]
def npc (m:Nat):Nat:=(m + 255) / 256
abbrev encP (ad:Option Addr) (c:Nat×Nat):List Value:=[.slice (cutA ad 1 c.1 (c.1 + c.2)) (c.1 + c.2 - c.1) (c.1 + c.2 - c.1)]
def SpP (m:Nat) (xs:List (Nat×Nat)):Prop:=∃ k,xs=pcs m (k + 1)∧k * 256 < m
theorem spP_last {m:Nat} {pre:List (Nat×Nat)} {c:Nat×Nat} (h:SpP m (pre++[c])):∃ k,pre=pcs m k∧c=(k * 256,min 256 (m - k * 256))∧k * 256 < m:=by
 obtain ⟨k,e,hk⟩:=h
 simp only [pcs] at e
 have:=List.append_inj' e rfl
 exact ⟨k,this.1,by simpa using this.2,hk⟩
theorem chunk_ct (L:List SP) (v:Value) (hv:v.cells=#[v]):Ct Tryz.prog 156 #[v,.int .i64 256] (L) (fun i:Nat×Nat=>.func (.func 210) #[] #[.pointer (some ⟨i.1,0,none⟩),.pointer (some ⟨i.2,0,none⟩)]) (fun i:Nat×Nat=>pt i.1 [v] 30::pt i.2 [.int .i64 256] 3::L):=by
 refine Ct.o2 Tryz.func156 ?_;intro E
 show Hd E 9 _ _ _ _
 refine sr fun _ K1=>?_
 refine Hd.box (us:=[v]) rfl hv (fun b2=>?_);refine Hd.box rfl rfl (fun b3=>?_);refine yv y_as<|fk [(2,_),(3,_)] K1 ?_;refine Hd.seq fun _ K2=>?_
 refine sr fun _ K3=>?_
 refine yv (y_l1 ag3 rfl)<|yv (y_lss rfl rfl) ?_;rw [decide_eq_false (show ¬((256:Int) < 1) by omega)];refine fk [(2,_),(3,_),(6,_)] K3 ?_;refine Hd.condF rfl ?_;refine qv K2<|sr fun _ K4=>?_
 refine yv (y_mkf (fv:=[]) (cv:=[_,_]) rfl rfl) ?_;refine yv y_as<|fk [(4,_)] K4 ?_;refine Hd.ret ?_;exact Hd.ret1 rfl (b2,b3) rfl sq
theorem chunk_it (L:List SP) (b2 b3:Nat) (ad:Option Addr) (m cap:Nat) (hmc:m≤cap) (hm:m≤70368744177664):It Tryz.prog 210 [.pointer (some ⟨b2,0,none⟩),.pointer (some ⟨b3,0,none⟩)] (encP ad)
  (fun xs=>xs=pcs m (npc m)) (SpP m)
  (pt b2 [.slice ad m cap] 30::pt b3 [.int .i64 256] 3::L) (pt b2 [.slice ad m cap] 30::pt b3 [.int .i64 256] 3::L):=by
 intro l J X hy;refine Ct.of (vs:=[.func (.yield l) #[] #[],.pointer (some ⟨b2,0,none⟩),.pointer (some ⟨b3,0,none⟩)]) Tryz.func210 rfl rfl [(0,.func (.yield l) #[] #[]),(1,.pointer (some ⟨b2,0,none⟩)),(2,.pointer (some ⟨b3,0,none⟩))] ⟨rfl,rfl,rfl,trivial⟩ ?_;intro E
 show Hd E 31 _ _ _ _
 refine Hd.heap (pt b2 [.slice ad m cap] 30::pt b3 [.int .i64 256] 3::(J []++L)) (fun k h=>sep_two h) ?_;refine sr fun _ K1=>?_
 refine yv y_as<|fk [(0,_),(1,_),(2,_),(4,_)] K1 ?_;refine Hd.block<|Hd.loopK (ι:=Nat) [(0,_),(1,_),(2,_)] (fun k=>[(4,.int .i64 ((k * 256:Nat):Int))]) (fun k=>pu (k=0∨(k - 1) * 256 < m)::pt b2 [.slice ad m cap] 30::pt b3 [.int .i64 256] 3::(J (pcs m k)++L)) (fun k=>npc m - k) 0 sbq sbq (Ent.sep (.pure (by omega) enn)) ?_;intro k
 try dsimp only
 refine Hd.pure (fun hp0=>?_)
 try dsimp only at hp0
 refine Hd.seq fun _ K2=>?_
 refine sr fun _ K3=>?_
 refine yv y_mv<|yv (y_l1 ag30 rfl)<|yv (y_len Tryz.underlying30 rfl) ?_;refine yv (y_lss rfl rfl) ?_;refine fk [(0,_),(1,_),(2,_),(4,_),(9,_)] K3 ?_;refine qz ?_ ?_<;>intro hc0<;>try simp only [hyZ] at hc0
 ·have hk:k * 256 < m:=by omega
  refine qv K2<|Hd.seq fun _ K4=>?_
  refine Hd.block<|Hd.seq fun _ K5=>?_
  refine Hd.quiet mixed kq ?_;refine Hq.yv (y_l1 ag3 rfl) ?_;refine Hq.yv (y_l1 ag30 rfl) ?_;refine Hq.yv y_mv ?_;refine Hq.yv (y_slo_oxxN Tryz.underlying30 sz5 rfl rfl (by omega)) ?_;refine Hq.yv (y_len Tryz.underlying30 rfl) ?_;refine Hq.yv (y_min rfl rfl) ?_;refine Hq.yv y_as ?_;refine Hq.nil ?_;refine Hd.name (b:=((min 256 (m - k * 256):Nat):Int)) 5 rfl (by omega) ?_;refine sk [(0,_),(1,_),(2,_),(4,_),(5,_)] K5 ?_;refine sr fun _ K6=>?_
  refine yv y_mv<|yv (y_l1 ag30 rfl)<|yv y_mv<|yv y_mv<|yv y_mv<|yv (y_addn rfl rfl (by simp only [InK];omega)) ?_;refine yv y_mv<|yv y_mv<|yv (y_addn rfl rfl (by simp only [InK];omega)) ?_;refine Hd.name (b:=((k * 256 + min 256 (m - k * 256):Nat):Int)) 24 rfl (by omega) ?_;refine Hd.name (b:=((k * 256 + min 256 (m - k * 256):Nat):Int)) 27 rfl (by omega) ?_;refine yv (y_slo_oooN Tryz.underlying30 sz5 rfl rfl rfl rfl (by omega) (by omega) (by omega)) ?_;refine Hd.yield (pre:=pcs m k) (c:=(k * 256,min 256 (m - k * 256))) (M:=pt b2 [.slice ad m cap] 30::pt b3 [.int .i64 256] 3::L) hy rfl rfl ⟨k,rfl,hk⟩ (fun k h=>sep_two' h) ?_;intro yb;refine yv (y_not rfl)<|fk [(0,_),(1,_),(2,_),(4,_),(30,_)] K6 ?_;refine qz ?_ ?_<;>intro hc1<;>try simp only [hyZ] at hc1
  ·subst hc1
   simp only [cond_false];refine Hd.ret<|Hd.inBret<|Hd.thenRet<|Hd.thenRet<|Hd.inBret ?_;exact Hd.ret0 rfl (pcs m (k + 1),false) rfl (fun k' h=>Ent.sep (.pure ⟨k,rfl,hk⟩ .same) k' h)
  subst hc1;simp only [cond_true];refine Hd.heap (pt b2 [.slice ad m cap] 30::pt b3 [.int .i64 256] 3::(J (pcs m (k + 1))++L)) (fun k h=>sep_two h) ?_;refine Hd.skip<|Hd.inB<|Hd.toK K4 ?_;refine Hd.region<|yv y_mv<|yv (y_l1 ag3 rfl)<|yv (y_addn rfl rfl (by simp only [InK];omega)) ?_;refine yv y_as<|Hd.nil<|slots [(0,_),(1,_),(2,_),(4,_)] sbq ?_;refine thenN<|Hd.name (b:=(((k + 1) * 256:Nat):Int)) 4 rfl (by omega) ?_;exact Hd.again (k + 1) (by simp only [npc];omega) sbq (fun k' h=>Ent.sep (.pure (by omega) .same) k' h)
 refine Hd.exit<|Hd.thenExit<|Hd.thenExit<|Hd.inBexit ?_
 have hk:k=npc m:=by simp only [npc];omega
 subst hk;exact Hd.end0 rfl (pcs m (npc m),true) rfl (fun k' h=>Ent.sep (.pure rfl .same) k' (sep_two' h))
abbrev ChL (b o:Nat) (rs:List Row) (len:Int):SP:=RX.ex fun i:Option Addr×Nat=>[seg b o [.slice i.1 rs.length i.2,.int .i64 len],own 30 1 i.1 rs.length i.2 (rs.map hdr),rows rs]
def Full (rs:List Row):Prop:=∀ r∈rs,0 < r.l.length
def Good (rs:List Row):Prop:=Full rs∧(flat rs).length≤1048576
abbrev Ch (b o:Nat) (rs:List Row):SP:=ChL b o rs ((flat rs).length:Int)
theorem full_len {rs:List Row} (h:Full rs):rs.length≤(flat rs).length:=by
 induction rs with
 | nil=>simp
 | cons r rs ih =>
  have h1:=h r (by simp)
  have h2:=ih (fun x hx=>h x (List.mem_cons_of_mem _ hx))
  simp only [flat,List.flatMap_cons,List.length_append,List.length_cons] at *;omega
theorem flat_app (a b:List Row):flat (a++b)=flat a++flat b:=by simp [flat]
theorem flat_one (r:Row):flat [r]=r.l:=by simp [flat]
theorem full_app {a b:List Row} (ha:Full a) (hb:Full b):Full (a++b):=fun r hr=>by
 rcases List.mem_append.1 hr with h | h
 ·exact ha r h
 ·exact hb r h
theorem full_one {r:Row} (h:0 < r.l.length):Full [r]:=fun x hx=>by simp at hx;subst hx;exact h
theorem mem_le {rs:List Row} {r:Row} (h:r∈rs):r.l.length≤(flat rs).length:=by
 induction rs with
 | nil=>cases h
 | cons a rs ih =>
  simp only [flat,List.flatMap_cons,List.length_append]
  rcases List.mem_cons.1 h with rfl | h
  ·omega
  ·have:=ih h;simp only [flat] at this;omega
theorem last_of {rs:List Row} (h:0 < rs.length):∃ a r,rs=a++[r]:=by
 refine ⟨rs.dropLast,rs.getLast (by intro e;subst e;simp at h),(List.dropLast_concat_getLast _).symm⟩
theorem hdr_last {rs rs0:List Row} {r0:Row} (h:rs=rs0++[r0]):(rs.map hdr)[(rs.length - 1) * 1]?=some (hdr r0):=by subst h;simp
theorem hdr_set {rs rs0:List Row} {r0 r1:Row} (h:rs=rs0++[r0]):(rs.map hdr).set ((rs.length - 1) * 1) (hdr r1)=(rs0++[r1]).map hdr:=by
 subst h;simp only [List.map_append,List.length_append,List.map_cons,List.map_nil,List.length_cons,List.length_nil];rw [List.set_append_right _ _ (by simp)];simp
theorem addRow_sep {L L' L2:List SP} {rs:List Row} {ad:Option Addr} {m cap:Nat} {us:List Value} (l:List UInt8) (p1:Pick L (rows rs) L') (p2:Pick L' (own 5 1 ad m cap us) L2) (hl:l.length=m) (hu:us=bsl l) (k:PH) (s:sep L k):sep (rows (rs++[⟨ad,cap,l⟩])::L2) k:=by
 subst hl;subst hu
 have s1:=p1.sep s
 have s2:sep (rows rs::ow ⟨ad,cap,l⟩::L2) k:=Ent.imp' .here (fun _ x=>x) (fun k s=>p2.sep s) s1
 exact rows_join (Ent.imp' .here (fun _ x=>x) (fun k s=>own_rows s) s2)
section
variable {E : World} {n : Nat} {ds : List Deferred} {st : List (Nat × Value)} {L L' L2 : List SP} {K : Act → World → Prop}
theorem Hd.splitLast {rs rs0:List Row} {r0:Row} (e:rs=rs0++[r0]) (p:Pick L (rows rs) L') (h:Hd E n ds st (rows rs0::ow r0::L') K):Hd E n ds st L K:=by
 subst e;exact Hd.heap _ (fun _ s=>Ent.imp' .here (fun _ x=>x) (fun k s=>rows_own s) (rows_split (p.sep s))) h
theorem Hd.addRow {rs:List Row} {ad:Option Addr} {m cap:Nat} {us:List Value} (l:List UInt8) (p1:Pick L (rows rs) L') (p2:Pick L' (own 5 1 ad m cap us) L2) (hl:l.length=m) (hu:us=bsl l) (h:Hd E n ds st (rows (rs++[⟨ad,cap,l⟩])::L2) K):Hd E n ds st L K :=
 Hd.heap _ (fun k s=>addRow_sep l p1 p2 hl hu k s) h
end
def AddI (L:List SP) (rs:List Row) (l:List UInt8) (rs1:List Row) (ad1:Option Addr) (m1 cap1:Nat) (l1:List UInt8):Prop :=
 flat rs1++l1=flat rs++l∧Full rs1∧m1≤cap1∧(l1.length=m1∧m1≤l.length)∧RdS L 1 ad1 m1 (bsl l1)
theorem take_piece {l:List UInt8} {k:Nat} (h:k * 256 < l.length):l.take ((k + 1) * 256)=l.take (k * 256)++(l.drop (k * 256)).take (min 256 (l.length - k * 256)):=by
 rw [show (k + 1) * 256=k * 256 + 256 by omega,List.take_add]
 congr 1
 rw [List.take_eq_take_iff,List.length_drop];omega
theorem B_take {l:List UInt8} {k:Nat}:∀ u∈(bsl l).take k,u.oneCell'=true:=fun u hu=>B_one u (List.mem_of_mem_take hu)
theorem add_ct (L:List SP) (b o:Nat) (rs:List Row) (hg:Good rs) (ad:Option Addr) (m cap:Nat) (l:List UInt8) (hD:RdS L 1 ad m (bsl l)) (hmc:m≤cap) (hm:m≤70368744177664):Ct Tryz.prog 72 #[.pointer (some ⟨b,o,none⟩),.slice ad m cap] (Ch b o rs::L) (fun rs':List Row=>.int .i64 (mayE (flat rs).length m)) (fun rs':List Row=>pu (Good rs'∧flat rs'=if m≤1048576 - (flat rs).length then flat rs++l else flat rs)::Ch b o rs'::L):=by
 refine Ct.o2M Tryz.func72 ?_;intro E
 show Hd E 77 _ _ _ _
 obtain ⟨hfull,hlen⟩:=hg
 have hrl:=full_len hfull
 refine Hd.exs pkk ?_;rintro ⟨ha,hcp⟩;simp only [List.cons_append,List.nil_append];refine Hd.rdsF (RdS.mono hD sq) (fun hlm hnil=>?_)
 have hl:l.length=m:=by simpa using hlm
 refine sr fun _ K1=>?_
 refine Hd.box rfl rfl (fun b2=>?_);refine yv y_as<|fk [(1,_),(2,_)] K1 ?_;refine Hd.seq fun _ K2=>?_
 refine sr fun _ K3=>?_
 refine yv (y_l1 ag231 rfl)<|yv y_mv<|yv (y_len Tryz.underlying30 rfl) ?_;refine callE rfl fk155 (may_ct _ b o _ (flat rs).length m hlen) sq ?_;intro _;refine yv y_as<|fk [(1,_),(2,_),(5,_)] K3 ?_;refine sr fun _ K4=>?_
 refine yv y_mv<|yv (y_neq rfl rfl) ?_;refine fk [(1,_),(2,_),(5,_),(15,_)] K4 ?_;refine qz ?_ ?_<;>intro hc0<;>try simp only [hyZ] at hc0
 ·have hno:¬ m≤1048576 - (flat rs).length:=fun h=>hc0 (by simp [mayE,h])
  refine sr fun _ K5=>?_
  refine yv y_mv<|yv y_as<|fk [(4,_)] K5 ?_;refine Hd.ret<|Hd.thenRet ?_;exact Hd.retM (fun a fr=>Lv.end1 fr rfl rs rfl (Ent.sep (.pure ⟨⟨hfull,hlen⟩,by rw [if_neg hno]⟩ (.ex (ha,hcp) enn))))
 have hyes:m≤1048576 - (flat rs).length:=by
  refine Decidable.byContradiction fun h=>?_
  simp [mayE,h] at hc0
 refine qv K2<|sr fun _ K6=>?_
 refine yv (y_l1 ag231 rfl)<|yv y_np<|yv (y_f 1 3 Tryz.underlying116 sz3)<|yv (y_load1 ag3 rfl (Rd.seg1 pkk (by rfl))) ?_;refine yv y_mv<|yv (y_len Tryz.underlying30 rfl) ?_;refine yv (y_addn rfl rfl (by simp only [InK];omega)) ?_;refine yv y_np<|yv (y_f 1 3 Tryz.underlying116 sz3)<|Hd.storeG1 sz3 rfl rfl rfl pkk (by simp;done) ?_
 try simp only [hyS]
 refine fk [(1,_),(2,_)] K6 ?_;refine Hd.cutK (ι:=List Row×Option Addr×Nat×Nat×List UInt8) [(2,_)] (fun j=>[(1,.slice j.2.1 j.2.2.1 j.2.2.2.1)]) (fun j=>pu (AddI L rs l j.1 j.2.1 j.2.2.1 j.2.2.2.1 j.2.2.2.2)::ChL b o j.1 (((flat rs).length:Int) + (m:Int))::pt b2 [.pointer (some ⟨b,o,none⟩)] 231::L) ?_ ?_ ⟨rfl,trivial⟩
 ·refine sr fun _ K7=>?_
  refine yv (y_l1 ag231 rfl)<|yv y_np<|yv (y_f 0 114 Tryz.underlying116 sz114)<|yv (y_load1 ag114 rfl (Rd.seg1 pkk (by rfl))) ?_;refine yv (y_len Tryz.underlying114 rfl) ?_;refine yv y_as<|fk [(1,_),(2,_),(6,_)] K7 ?_;refine sr fun _ K8=>?_
  refine yv y_mv<|yv (y_gtr rfl rfl) ?_;refine fk [(1,_),(2,_),(6,_),(32,_)] K8 ?_;refine qz ?_ ?_<;>intro hc1<;>try simp only [hyZ] at hc1
  ·obtain ⟨rs0,r0,hrs⟩:=last_of (show 0 < rs.length by omega)
   have hr0:r0.l.length≤1048576:=Nat.le_trans (mem_le (rs:=rs) (by rw [hrs];simp)) hlen
   refine Hd.seq fun _ K9=>?_
   skip
   refine Hd.region<|yv (y_l1 ag231 rfl)<|yv y_np<|yv (y_f 0 114 Tryz.underlying116 sz114)<|yv (y_load1 ag114 rfl (Rd.seg1 pkk (by rfl))) ?_;refine yv y_mv<|yv (y_subn rfl rfl (by simp only [InK];omega)) ?_;refine Hd.name (b:=((rs.length - 1:Nat):Int)) 38 rfl (by omega) ?_;refine yv (y_idxR Tryz.underlying114 sz30 rfl rfl (by omega) (by exact RdS.own pkk)) ?_;refine yv (y_loadR1 ag30 rfl (by exact RdS.own pkk) (by exact hdr_last hrs)) ?_;refine yv y_as<|fk [(1,_),(2,_),(6,_),(7,_)] K9 ?_;refine sr fun _ K10=>?_
   refine yv y_mv<|yv (y_len Tryz.underlying30 rfl) ?_;refine yv y_mv<|yv (y_len Tryz.underlying30 rfl) ?_;refine yv (y_subn rfl rfl (by simp only [InK];omega)) ?_;refine yv (y_max rfl rfl) ?_;refine yv (y_min rfl rfl) ?_;refine yv y_as<|Hd.nil<|Hd.name (b:=((min m (256 - r0.l.length):Nat):Int)) 8 rfl (by omega) ?_;refine sk [(1,_),(2,_),(6,_),(7,_),(8,_)] K10 ?_;refine Hd.seq fun _ K11=>?_
   refine Hd.splitLast hrs pkk ?_;refine Hd.drawsH ([pt b2 [.pointer (some ⟨b,o,none⟩)] 231,seg b o [.slice ha rs.length hcp,.int .i64 (((flat rs).length:Int) + (m:Int))],own 30 1 ha rs.length hcp (rs.map hdr)]) (fun j=>!([12].contains j)) mixed ?_;simp only [List.length,Nat.zero_add,Nat.reduceAdd];refine tH 0 rfl (y_l1 ag231 rfl)<|tH 1 rfl y_np<|tH 2 rfl (y_f 0 114 Tryz.underlying116 sz114)<|tH 3 rfl (y_load1 ag114 rfl (Rd.seg1 pkk (by rfl))) ?_;refine tH 4 rfl y_mv<|tH 5 rfl (y_subn rfl rfl (by simp only [InK];omega)) ?_;refine tH 6 rfl y_mv<|tH 7 rfl y_mv<|tH 8 rfl y_mv<|tH 9 rfl (y_slo_xoxN Tryz.underlying30 sz5 rfl rfl (by omega)) ?_;refine qo 10 ?_;refine Hd.append Tryz.underlying30 ty5 rfl rfl rfl pkk (by exact RdS.mono (RdS.head hD (show min m (256 - r0.l.length)≤m by omega)) sq) (by exact B_take) (by simp only [maxLen];omega) (by omega) (fun ad58 cap58=>?_)
   refine qk<|Hd.name (b:=((rs.length - 1:Nat):Int)) 53 rfl (by omega) ?_;refine tH 11 rfl (y_idxR Tryz.underlying114 sz30 rfl rfl (by omega) (by exact RdS.own pkk)) ?_;refine qo 12 ?_;refine Hd.storeO1 sz30 rfl rfl rfl pkk (by simp;omega) ?_
   try simp only [hyS]
   refine qn<|endH kq ?_;refine sk [(1,_),(2,_),(8,_)] K11 ?_;refine Hd.region<|yv y_mv<|yv y_mv<|yv (y_slo_oxxN Tryz.underlying30 sz5 rfl rfl (by omega)) ?_;refine yv y_as<|Hd.nil<|slots [(1,_),(2,_)] sbq ?_;refine thenN<|Hd.addRow (rs:=rs0) (r0.l++l.take (min m (256 - r0.l.length))) pkk pkk (by simp [hl]) (by simp [List.map_take]) ?_
   have hk1:min m (256 - r0.l.length)≤m:=by omega
   refine Hd.meet (rs0++[⟨ad58,cap58,r0.l++l.take (min m (256 - r0.l.length))⟩],cutA ad 1 (min m (256 - r0.l.length)) cap,m - min m (256 - r0.l.length),cap - min m (256 - r0.l.length),l.drop (min m (256 - r0.l.length))) sbq (Ent.sep (.pure ⟨?_,?_,?_,?_,?_⟩ (.ex (ha,hcp) (.eq pkk (seg_eq ?_) (.eq pkk (own_eq ?_ ?_) (.pick pkk enn))))))
   ·rw [hrs,flat_app,flat_app,flat_one,flat_one];simp
   ·subst hrs
    exact full_app (fun x hx=>hfull x (List.mem_append_left _ hx)) (full_one (by have:=hfull r0 (by simp);simp;omega))
   ·exact Nat.sub_le_sub_right hmc _
   ·simp [hl]
   ·have:=RdS.tail (mx:=cap) hD hk1 hmc
    rw [Nat.mul_one,←List.map_drop] at this;exact this
   ·subst hrs;simp
   ·subst hrs;simp
   ·have:=hdr_set (r1:=⟨ad58,cap58,r0.l++l.take (min m (256 - r0.l.length))⟩) hrs
    have e:hdr ⟨ad58,cap58,r0.l++l.take (min m (256 - r0.l.length))⟩=.slice ad58 (r0.l.length + min m (256 - r0.l.length)) cap58:=by
     simp [hdr,hl]
    rw [←this,e]
  refine Hd.skip<|thenN ?_
  have hrs0:rs=[]:=List.eq_nil_of_length_eq_zero (by omega)
  subst hrs0;refine Hd.meet ([],ad,m,cap,l) sbq (Ent.sep (.pure ⟨rfl,hfull,hmc,⟨hl,by rw [hl];exact Nat.le_refl _⟩,hD⟩ (.ex (ha,hcp) enn)))
 rintro ⟨rs1,ad1,m1,cap1,l1⟩;dsimp only;refine Hd.pure (fun hI=>?_)
 obtain ⟨hfl,hfull1,hmc1,⟨hl1,hmm⟩,hR1⟩:=hI
 refine Hd.seq fun _ K12=>?_
 refine sr fun _ K13=>?_
 refine yv y_mv<|callE rfl fk156 (chunk_ct _ (.slice ad1 m1 cap1) rfl) sq ?_;rintro ⟨c2,c3⟩;dsimp only;refine fk [(2,_),(64,_)] K13 ?_;refine Hd.block<|Hd.rangeF (enc:=encP ad1) (S:=fun xs=>xs=pcs m1 (npc m1)) (Sp:=SpP m1)
  (fun pre=>(RX.ex fun rs2:List Row=>[pu (flat rs2=flat rs1++l1.take (pre.length * 256)∧Full rs2),ChL b o rs2 (((flat rs).length:Int) + (m:Int)),pt b2 [.pointer (some ⟨b,o,none⟩)] 231])::L) (fun _ _=>[pu False])
  rfl kq (fun _=>rfl) rfl (chunk_it [] c2 c3 ad1 m1 cap1 hmc1 (by omega)) (Ent.sep (.ex rs1 (.pure ⟨by simp,hfull1⟩ (.pick pkk (.pick pkk .two))))) ?_ ?_ ?_
 ·intro E l' R pre c N hR hG
  obtain ⟨q,rfl,rfl,hq⟩:=spP_last hG
  unfold Rnd;simp only [List.cons_append,List.nil_append,pz,encP];refine Hd.region<|yv y_as<|Hd.nil<|slots [(2,_),(9,_)] sbq ?_;refine thenN<|Hd.begin hR pkk ?_;refine Hd.block<|Hd.exs pkk ?_;rintro rs2;simp only [List.cons_append,List.nil_append];refine Hd.pure (fun hrs2=>?_)
  obtain ⟨hf2,hfull2⟩:=hrs2
  rw [pcs_len] at hf2
  have hrl2:=full_len hfull2
  have hbig:(flat rs2).length≤1048576:=by
   have h1:=congrArg List.length hfl
   rw [hf2];simp only [List.length_append,List.length_take] at h1 ⊢;omega
  refine Hd.exs pkk ?_;rintro ⟨ha2,hc2⟩;simp only [List.cons_append,List.nil_append]
  have hR2:RdS (L++N) 1 (cutA ad1 1 (q * 256) (q * 256 + min 256 (m1 - q * 256))) (q * 256 + min 256 (m1 - q * 256) - q * 256) (bsl ((l1.drop (q * 256)).take (min 256 (m1 - q * 256)))):=by
   have:=RdS.part (mx:=q * 256 + min 256 (m1 - q * 256)) hR1 (show q * 256≤q * 256 + min 256 (m1 - q * 256) by omega) (by omega) (Nat.le_refl _)
   rw [Nat.mul_one,Nat.mul_one,←List.map_drop,←List.map_take] at this;rw [show q * 256 + min 256 (m1 - q * 256) - q * 256=min 256 (m1 - q * 256) by omega] at this ⊢;exact RdS.mono this (Ent.sep .left)
  refine Hd.drawsH ([pt b2 [.pointer (some ⟨b,o,none⟩)] 231,seg b o [.slice ha2 rs2.length hc2,.int .i64 (((flat rs).length:Int) + (m:Int))]]) (fun j=>!([11].contains j)) mixed ?_;simp only [List.length,Nat.zero_add,Nat.reduceAdd];refine tH 0 rfl (y_l1 ag231 rfl)<|tH 1 rfl (y_l1 ag231 rfl)<|tH 2 rfl y_np<|tH 3 rfl (y_f 0 114 Tryz.underlying116 sz114)<|tH 4 rfl (y_load1 ag114 rfl (Rd.seg1 pkk (by rfl))) ?_;refine tH 5 rfl y_mv<|qo 6 ?_;refine Hd.call rfl fk157 (clone_ct _ _ _ _ _ (RdS.mono hR2 sq) (by omega)) ?_;rintro ⟨ad72,cap72⟩;dsimp only;refine qk<|qo 7 ?_;refine Hd.bslice (vs:=[(0,_)]) rfl (by exact bs72_73 ..) (fun b73=>?_);refine qk<|qo 8 ?_;refine Hd.append Tryz.underlying114 ty30 rfl rfl rfl pkk (by exact RdS.rd (Rd.pt pkk (fun j v e=>by simpa using e)) rfl) (by simp [Value.oneCell'];done) (by simp only [maxLen];omega) (by omega) (fun ad74 cap74=>?_)
  refine qk<|qo 9 ?_;refine yv y_np<|qk<|tH 10 rfl (y_f 0 114 Tryz.underlying116 sz114)<|qo 11 ?_;refine Hd.storeG1 sz114 rfl rfl rfl pkk (by simp;done) ?_
  try simp only [hyS]
  refine qn<|endH kq ?_;refine slots [] sbq ?_;refine Hd.inB<|Hd.reN ?_;simp only [List.cons_append,List.nil_append]
  have hpl:((l1.drop (q * 256)).take (min 256 (m1 - q * 256))).length=q * 256 + min 256 (m1 - q * 256) - q * 256:=by simp [hl1]
  intro k s
  have s2:=addRow_sep (rs:=rs2) ((l1.drop (q * 256)).take (min 256 (m1 - q * 256))) pkk pkk hpl rfl k s
  refine Ent.sep (.pick pkk (.ex (rs2++[⟨ad72,cap72,(l1.drop (q * 256)).take (min 256 (m1 - q * 256))⟩]) (.pure ⟨?_,?_⟩ (.ex (ad74,cap74) (.eq pkk (seg_eq ?_) (.eq pkk (own_eq ?_ ?_) (.pick pkk enn))))))) k s2
  ·simp
  ·simp
  ·simp [hl1]
  ·rw [flat_app,flat_one,hf2,List.length_append,pcs_len,List.append_assoc]
   have:=take_piece (l:=l1) (k:=q) (by omega)
   rw [hl1] at this;rw [←this];rfl
  ·exact full_app hfull2 (full_one (by rw [hpl];omega))
 ·intro r0 xs hxs
  have hxs':xs=pcs m1 (npc m1):=hxs
  try simp only [List.cons_append,List.nil_append]
  refine Hd.inB<|Hd.toK K12 ?_;refine sr fun _ K14=>?_
  refine yv y_as<|fk [(4,_)] K14 ?_;refine Hd.ret<|Hd.exs pkk ?_;rintro rs2;simp only [List.cons_append,List.nil_append];refine Hd.pure (fun hrs2=>?_)
  obtain ⟨hf2,hfull2⟩:=hrs2
  have e2:flat rs2=flat rs++l:=by
   rw [hf2,hxs',pcs_len,List.take_of_length_le (by simp only [npc];omega),hfl]
  have e3:((flat rs2).length:Int)=((flat rs).length:Int) + (m:Int):=by rw [e2,List.length_append,hl];simp
  refine Hd.exs pkk ?_;rintro ⟨ha2,hc2⟩;simp only [List.cons_append,List.nil_append];exact Hd.retM (fun a fr=>Lv.mark pkk (Lv.end1 fr rfl rs2 (by simp [mayE,hyes];rfl) (Ent.sep (.pure ⟨⟨hfull2,by rw [e2,List.length_append];omega⟩,by rw [if_pos hyes,e2]⟩ (.ex (ha2,hc2) (.eq pkk (seg_eq (by rw [e3])) (.pick pkk (.pick pkk enn))))))))
 rintro r0_0 (_ | id0) pre0 hG0
 ·exact Hd.absurd (by exact id)
 exact Hd.absurd (by exact id)
end Bc
end Go.Proofs.YtmpemhbfgbochaaGreatDoor
