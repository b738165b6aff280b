/-
  Buffered events: Lens, Deadline, Read, Write, Timeouts.
-/
import Derived.Test.YtmpemhbfgbochaaGreatDoorZLimitPlaysF
set_option linter.unusedSimpArgs false
set_option linter.unusedVariables false
set_option linter.unnecessarySimpa false
set_option maxRecDepth 8000
set_option maxHeartbeats 2000000
open Go.RX.Hd (yv y2 n1 fk sk sr tH callE heldK qo qk qn qt qz qv endH thenN slots)
namespace Go.Proofs.YtmpemhbfgbochaaGreatDoor
open Go.RX Fx
namespace Bu
open Wo
def TmOk (x:BfA):Prop:=∀ k,k < 2→InK .u64 (x.s k).after∧InK .u64 (x.s k).at_
theorem dl_in {now a:Int} (hn:InK .u64 now) (ha:InK .u64 a):InK .u64 (dl now a):=by
 simp only [InK] at *;unfold dl;split<;>omega
theorem atV_in {s:SdA} {k:Nat} {now:Int} (hn:InK .u64 now) (ha:InK .u64 s.after):InK .u64 (atV s k now):=by
 unfold atV;split
 ·exact dl_in hn ha
 ·simp [InK]
theorem TmOk.up {x:BfA} (h:TmOk x) {k:Nat} {f:SdA→SdA} (hf:∀ s,InK .u64 s.after→InK .u64 s.at_→InK .u64 (f s).after∧InK .u64 (f s).at_):TmOk (x.up k f):=fun j hj=>by
 by_cases e:j=k
 ·subst e;rw [bup_at];exact hf _ (h j hj).1 (h j hj).2
 ·rw [bup_ne _ _ e];exact h j hj
theorem tm_new (fd:Int):TmOk (newB fd):=fun k _=>⟨by show InK .u64 0;simp [InK],by show InK .u64 18446744073709551615;simp [InK]⟩
theorem buf_close {b wb:Nat} {x x':BfA} {L:List SP} (h0:x'.s 0=x.s 0) (h1:x'.s 1=x.s 1) (hf:x'.fd=x.fd):∀ h,sep (BfL b wb x 0 L) h→sep (BufP b wb x'::L) h:=fun h s=>by
 have s':sep (BfK b::BfH b wb x.fd::SdL b 0 (x.s 0) (SdL b 1 (x.s 1) L)) h:=s
 rw [←h0,←h1,←hf] at s';exact Ent.sep (.ex () (show Ent _ ([BfK b,BfH b wb x'.fd,ChB b (2 + 0 * 8 + 0) (x'.s 0).c,segK b (2 + 0 * 8) 2 (encS (x'.s 0)),ChB b (2 + 1 * 8 + 0) (x'.s 1).c,segK b (2 + 1 * 8) 2 (encS (x'.s 1))]++L) from enn)) h s'
theorem buf_put {b wb:Nat} {fd:Int} {s0 s1:SdA} {x':BfA} {L:List SP} (h0:x'.s 0=s0) (h1:x'.s 1=s1) (hf:x'.fd=fd):∀ h,sep (BfK b::BfH b wb fd::SdL b 0 s0 (SdL b 1 s1 L)) h→sep (BufP b wb x'::L) h:=by
 subst h0;subst h1;subst hf;exact buf_close rfl rfl rfl
theorem lens_ct (L:List SP) (b wb:Nat) (x:BfA):Ct Tryz.prog 29 #[.pointer (some ⟨b,0,none⟩)] (BufP b wb x::L) (fun _:Unit=>.tuple #[.int .i64 ((x.s 0).c.length:Int),.int .i64 ((x.s 1).c.length:Int)]) (fun _:Unit=>BufP b wb x::L):=by
 refine Ct.o1 Tryz.func29 ?_;intro E
 show Hd E 18 _ _ _ _
 refine Hd.buf .here ?_;refine sr fun _ K1=>?_
 refine yv y_as<|yv y_as<|fk [(0,_)] K1 ?_;refine Hd.seq fun _ K2=>?_
 refine sr fun _ K3=>?_
 refine yv y_mv<|callE rfl fk71 (bnone_ct _ b wb x.fd) sq ?_;intro _;refine fk [(0,_),(5,_)] K3 ?_;refine Hd.condF rfl ?_;refine qv K2<|Hd.seq fun _ K4=>?_
 refine Hd.drawsH ([]) (fun _=>true) mixed ?_;simp only [List.length,Nat.zero_add,Nat.reduceAdd];refine tH 0 rfl y_mv<|tH 1 rfl y_np<|tH 2 rfl (y_f 2 119 Tryz.underlying121 sz119)<|tH 3 rfl (y_idxA Tryz.underlying119 sz118 rfl rfl (by decide)) ?_;refine tH 4 rfl (y_f 0 116 Tryz.underlying118 sz116)<|tH 6 rfl y_mv<|tH 7 rfl y_np<|tH 8 rfl (y_f 2 119 Tryz.underlying121 sz119)<|tH 9 rfl (y_idxA Tryz.underlying119 sz118 rfl rfl (by decide)) ?_;refine tH 10 rfl (y_f 0 116 Tryz.underlying118 sz116)<|qo 5 ?_;refine callE rfl fk78 (chLen _ b (2 + 0 * 8 + 0) (x.s 0).c) sq ?_;intro _;refine qk<|qo 11 ?_;refine callE rfl fk78 (chLen _ b (2 + (1 - 0) * 8 + 0) (x.s (1 - 0)).c) sq ?_;intro _;refine qk<|tH 12 rfl y_as<|tH 13 rfl y_as<|endH kq ?_;refine sk [(2,_),(3,_)] K4 ?_
 refine Hd.ret ?_;exact Hd.ret2 rfl () rfl rfl rfl (fun q s=>buf_close rfl rfl rfl q (Ent.sep enn q s))
def readA (x:BfA) (n:Int):List UInt8:=if n < 1 then [] else (x.s 0).c.take n.toNat
def readB (x:BfA) (n:Int):BfA:=if n < 1 then x else x.up 0 fun s=>{ s with c:=s.c.drop n.toNat }
theorem bread_ct (L:List SP) (b wb:Nat) (x:BfA) (n:Int) (hn:n≤9223372036854775807):Ct Tryz.prog 22 #[.pointer (some ⟨b,0,none⟩),.int .i64 n] (BufP b wb x::L) (fun q_:Option Addr×Nat=>.slice q_.1 (readA x n).length q_.2) (fun q_:Option Addr×Nat=>own 5 1 q_.1 (readA x n).length q_.2 (bsl (readA x n))::BufP b wb (readB x n)::L):=by
 refine Ct.o2 Tryz.func22 ?_;intro E
 show Hd E 18 _ _ _ _
 refine Hd.buf .here ?_;refine sr fun _ K1=>?_
 refine yv y_as<|fk [(0,_),(1,_)] K1 ?_;refine Hd.seq fun _ K2=>?_
 refine sr fun _ K3=>?_
 refine yv y_mv<|callE rfl fk71 (bnone_ct _ b wb x.fd) sq ?_;intro _;refine yv y_mv<|y2 y_mv<|y2 (y_lss rfl rfl) ?_;refine yv (y_pickF rfl rfl) ?_;refine fk [(0,_),(1,_),(10,_)] K3 ?_;refine qz ?_ ?_<;>intro hc0<;>try simp only [hyZ] at hc0
 ·refine sr fun _ K4=>?_
  refine yv y_as<|fk [(4,_)] K4 ?_;refine Hd.ret<|Hd.thenRet ?_;rw [show readA x n=[] by unfold readA;rw [if_pos hc0],show readB x n=x by unfold readB;rw [if_pos hc0]];exact Hd.ret1 rfl (none,0) rfl (Ent.sep (.ownNil .same) |> fun h q s=>h q (buf_close rfl rfl rfl q (Ent.sep enn q s)))
 refine qv K2<|sr fun _ K5=>?_
 refine yv y_mv<|yv y_np<|yv (y_f 2 119 Tryz.underlying121 sz119)<|yv (y_idxA Tryz.underlying119 sz118 rfl rfl (by decide)) ?_;refine yv (y_f 0 116 Tryz.underlying118 sz116)<|yv y_mv<|callE rfl fk73 (chTake _ b (2 + 0 * 8 + 0) (x.s 0).c n hn) sq ?_;rintro ⟨ad,c⟩;dsimp only;refine yv y_as<|fk [(4,_)] K5 ?_;refine Hd.ret ?_;rw [show readA x n=(x.s 0).c.take n.toNat by unfold readA;rw [if_neg (by omega)],show readB x n=x.up 0 fun s=>{ s with c:=s.c.drop n.toNat } by unfold readB;rw [if_neg (by omega)]];exact Hd.ret1 rfl (ad,c) rfl (fun q s=>Ent.sep (show Ent (BufP b wb (x.up 0 fun s=>{ s with c:=s.c.drop n.toNat })::own 5 1 ad ((x.s 0).c.take n.toNat).length c (bsl ((x.s 0).c.take n.toNat))::L) _ from enn) q (buf_put (fd:=x.fd) (x':=x.up 0 fun s=>{ s with c:=s.c.drop n.toNat }) (s0:={ x.s 0 with c:=(x.s 0).c.drop n.toNat }) (s1:=x.s 1) rfl rfl rfl q (Ent.sep enn q s)))
def wrE (x:BfA) (bs:List UInt8):Int:=addE (x.s 1).c bs
def wrB (x:BfA) (now:Int) (bs:List UInt8):BfA:=if addE (x.s 1).c bs≠0 then x else if (x.s 1).at_=NV then x.up 1 fun s=>setA 1 now { s with c:=addA s.c bs } else x.up 1 fun s=>{ s with c:=addA s.c bs }
theorem bwrite_ct (L:List SP) (b wb:Nat) (x:BfA) (ht:TmOk x) (now:Int) (hn:InK .u64 now) (ad:Option Addr) (m cap:Nat) (bs:List UInt8) (hl:bs.length=m) (hD:RdS L 1 ad m (bsl bs)) (hmc:m≤cap) (hm:m≤70368744177664):Ct Tryz.prog 20 #[.pointer (some ⟨b,0,none⟩),.int .u64 now,.slice ad m cap] (BufP b wb x::L) (fun _:Unit=>.int .i64 (wrE x bs)) (fun _:Unit=>BufP b wb (wrB x now bs)::L):=by
 refine Ct.o3 Tryz.func20 ?_;intro E
 show Hd E 30 _ _ _ _
 refine Hd.buf .here ?_;refine sr fun _ K1=>?_
 refine yv y_as<|fk [(0,_),(1,_),(2,_)] K1 ?_;refine Hd.seq fun _ K2=>?_
 refine sr fun _ K3=>?_
 refine yv y_mv<|callE rfl fk71 (bnone_ct _ b wb x.fd) sq ?_;intro _;refine fk [(0,_),(1,_),(2,_),(9,_)] K3 ?_;refine Hd.condF rfl ?_;refine qv K2<|Hd.seq fun _ K4=>?_
 refine sr fun _ K5=>?_
 refine yv y_mv<|yv y_np<|yv (y_f 2 119 Tryz.underlying121 sz119)<|yv (y_idxA Tryz.underlying119 sz118 rfl rfl (by decide)) ?_;refine yv (y_f 0 116 Tryz.underlying118 sz116)<|yv y_mv<|callE rfl fk72 (chAdd _ b (2 + 1 * 8 + 0) (x.s 1).c ad m cap bs hl ?hA hmc hm) sq ?_
 case hA=>exact RdS.mono hD sq
 intro _;refine yv y_as<|fk [(0,_),(1,_),(7,_)] K5 ?_;refine sr fun _ K6=>?_
 refine yv y_mv<|yv (y_neq rfl rfl) ?_;refine fk [(0,_),(1,_),(7,_),(18,_)] K6 ?_;refine qz ?_ ?_<;>intro hc1<;>try simp only [hyZ] at hc1
 ·refine sr fun _ K7=>?_
  refine yv y_mv<|yv y_as<|fk [(6,_)] K7 ?_;refine Hd.ret<|Hd.thenRet ?_
  have hne:addA (x.s 1).c bs=(x.s 1).c:=by
   unfold addE at hc1;unfold addA
   split at hc1
   ·exact absurd rfl hc1
   ·rename_i h;rw [if_neg h]
  rw [hne,show wrB x now bs=x by unfold wrB;rw [if_pos hc1]];exact Hd.ret1 rfl () rfl (fun q s=>buf_close rfl rfl rfl q (Ent.sep enn q s))
 have hc1':¬ addE (x.s 1).c bs≠0:=by omega
 refine qv K4<|Hd.seq fun _ K8=>?_
 refine sr fun _ K9=>?_
 refine yv y_mv<|yv y_np<|yv (y_f 2 119 Tryz.underlying121 sz119)<|yv (y_idxA Tryz.underlying119 sz118 rfl rfl (by decide)) ?_;refine yv (y_f 7 29 Tryz.underlying118 sz29)<|yv (y_load1 ag29 rfl (Rd.segK1 pkk (by decide) (by rfl))) ?_;refine yv (y_eql rfl rfl) ?_;refine fk [(0,_),(1,_),(26,_)] K9 ?_;refine qz ?_ ?_<;>intro hc2<;>try simp only [hyZ] at hc2
 ·refine Hd.region ?_
  refine yv y_mv<|yv y_mv<|callE rfl fk66 (set_ct _ b 1 (by omega) { x.s 1 with c:=addA (x.s 1).c bs } now hn (ht 1 (by omega)).1) sq ?_;intro _;refine fk [] K8 ?_;refine sr fun _ K10=>?_
  refine yv y_as<|fk [(6,_)] K10 ?_;refine Hd.ret ?_;rw [show wrE x bs=0 from hc1,show wrB x now bs=x.up 1 fun s=>setA 1 now { s with c:=addA s.c bs } by unfold wrB;rw [if_neg hc1',if_pos hc2]];exact Hd.ret1 rfl () rfl (fun q s=>buf_put (fd:=x.fd) (x':=x.up 1 fun s=>setA 1 now { s with c:=addA s.c bs }) (s0:=x.s 0) (s1:=setA 1 now { x.s 1 with c:=addA (x.s 1).c bs }) rfl rfl rfl q (Ent.sep enn q s))
 refine qv K8<|sr fun _ K11=>?_
 refine yv y_as<|fk [(6,_)] K11 ?_;refine Hd.ret ?_;rw [show wrE x bs=0 from hc1,show wrB x now bs=x.up 1 fun s=>{ s with c:=addA s.c bs } by unfold wrB;rw [if_neg hc1',if_neg hc2]];exact Hd.ret1 rfl () rfl (fun q s=>buf_put (fd:=x.fd) (x':=x.up 1 fun s=>{ s with c:=addA s.c bs }) (s0:=x.s 0) (s1:={ x.s 1 with c:=addA (x.s 1).c bs }) rfl rfl rfl q (Ent.sep enn q s))
theorem sides_sub (mask:Int):∀ k∈sidesA mask,k < 2:=fun k hk=>by
 have:=(List.mem_filter.1 hk).1
 simp at this;omega
theorem sides_nd (mask:Int):(sidesA mask).Nodup:=by
 exact (show ([0,1]:List Nat).Nodup by decide).sublist List.filter_sublist
theorem sides_mem {mask:Int} {k:Nat} (hk:k < 2):k∈sidesA mask↔hasA mask k=true:=by
 unfold sidesA;rw [List.mem_filter];exact ⟨fun h=>h.2,fun h=>⟨by simp;omega,h⟩⟩
theorem pre_new {mask:Int} {pre:List Nat} {c:Nat} (h:pre++[c] <+: sidesA mask):c < 2∧c ∉ pre:=by
 refine ⟨sides_sub mask c (h.subset (by simp)),fun hc=>?_⟩
 have:=(sides_nd mask).sublist h.sublist
 rw [List.nodup_append] at this;exact this.2.2 c hc c (by simp) rfl
abbrev effB (f:Nat→SdA→SdA) (x:BfA) (ks:List Nat):BfA:={ x with s:=fun j=>if j∈ks then f j (x.s j) else x.s j }
theorem eff_nil (f:Nat→SdA→SdA) (x:BfA):effB f x []=x:=by
 obtain ⟨s,fd⟩:=x
 show (⟨fun j=>if j∈[] then _ else s j,fd⟩:BfA)=_
 simp
theorem eff_s {f:Nat→SdA→SdA} {x:BfA} {ks:List Nat} {k:Nat} (h:k ∉ ks):(effB f x ks).s k=x.s k:=if_neg h
theorem eff_snoc {f:Nat→SdA→SdA} {x:BfA} {ks:List Nat} {k:Nat} (h:k ∉ ks):(effB f x ks).up k (fun _=>f k (x.s k))=effB f x (ks++[k]):=by
 unfold BfA.up
 congr 1;funext j
 by_cases e:j=k
 ·subst e;simp
 ·simp [e]
theorem Hd.bufK {E:World} {n:Nat} {ds:List Deferred} {st:List (Nat×Value)} {L L':List SP} {K:Act→World→Prop} {b wb:Nat} {x:BfA} (p:Pick L (BufP b wb x) L') (k:Nat) (hk:k < 2) (h:Hd E n ds st (BfL b wb x k L') K):Hd E n ds st L K :=
 Hd.buf p (by
  rcases (show k=0∨k=1 by omega) with rfl | rfl
  ·exact h
  ·refine Hd.heap (BfL b wb x 1 L') (fun q s=>?_) h
   exact Ent.sep (show Ent (BfK b::BfH b wb x.fd::SdL b 0 (x.s 0) (SdL b 1 (x.s 1) L')) (BfK b::BfH b wb x.fd::SdL b 1 (x.s 1) (SdL b 0 (x.s 0) L')) from enn) q s)
theorem buf_putK {b wb k:Nat} {x:BfA} {s':SdA} {L:List SP} (hk:k < 2):∀ h,sep (BfL b wb (x.up k fun _=>s') k L) h→sep (BufP b wb (x.up k fun _=>s')::L) h:=fun h s=>by
 rcases (show k=0∨k=1 by omega) with rfl | rfl
 ·exact buf_put (fd:=x.fd) (x':=x.up 0 fun _=>s') (s0:=(x.up 0 fun _=>s').s 0) (s1:=(x.up 0 fun _=>s').s 1) rfl rfl rfl h s
 ·have s2:sep (BfK b::BfH b wb x.fd::SdL b 1 ((x.up 1 fun _=>s').s 1) (SdL b 0 ((x.up 1 fun _=>s').s 0) L)) h:=s
  exact buf_put (fd:=x.fd) (x':=x.up 1 fun _=>s') (s0:=(x.up 1 fun _=>s').s 0) (s1:=(x.up 1 fun _=>s').s 1) rfl rfl rfl h (Ent.sep enn h s2)
theorem bup_same (x:BfA) (k:Nat):x.up k (fun _=>x.s k)=x:=by
 obtain ⟨s,fd⟩:=x
 unfold BfA.up
 congr 1;funext j
 by_cases e:j=k
 ·subst e;simp
 ·simp [e]
theorem buf_backK {b wb k:Nat} {x:BfA} {L:List SP} (hk:k < 2):∀ h,sep (BfL b wb x k L) h→sep (BufP b wb x::L) h:=fun h s=>by
 have:=buf_putK (b:=b) (wb:=wb) (x:=x) (s':=x.s k) (L:=L) hk h
 rw [bup_same] at this;exact this s
theorem bfL_up {b wb k:Nat} {x:BfA} {s':SdA} {L:List SP} (hk:k < 2):BfL b wb (x.up k fun _=>s') k L=BfK b::BfH b wb x.fd::SdL b k s' (SdL b (1 - k) (x.s (1 - k)) L):=by
 unfold BfL;rw [bup_at,bup_ne _ _ (by omega)];rfl
theorem bfL_eff {b wb k:Nat} {x:BfA} {f:Nat→SdA→SdA} {ks:List Nat} {L:List SP} (hk:k ∉ ks):BfL b wb (effB f x ks) k L=BfK b::BfH b wb x.fd::SdL b k (x.s k) (SdL b (1 - k) ((effB f x ks).s (1 - k)) L):=by
 unfold BfL;rw [eff_s hk]
abbrev onF (now:Int) (k:Nat) (s:SdA):SdA:=if s.on=true then s else setA k now { s with on:=true }
def enB (x:BfA) (now sides:Int):BfA:=if bits .andNot .i64 sides 6=0 then effB (onF now) x (sidesA sides) else x
def enE (sides:Int):Int:=if bits .andNot .i64 sides 6=0 then 0 else 2
theorem enable_ct (L:List SP) (b wb:Nat) (x:BfA) (ht:TmOk x) (now sides:Int) (hn:InK .u64 now):Ct Tryz.prog 12 #[.pointer (some ⟨b,0,none⟩),.int .u64 now,.int .i64 sides] (BufP b wb x::L) (fun _:Unit=>.int .i64 (enE sides)) (fun _:Unit=>BufP b wb (enB x now sides)::L):=by
 refine Ct.o3M Tryz.func12 ?_;intro E
 show Hd E 33 _ _ _ _
 refine Hd.bufK .here 0 (by omega) ?_;refine sr fun _ K1=>?_
 refine Hd.box rfl rfl (fun b3=>?_);refine Hd.box rfl rfl (fun b4=>?_);refine yv y_as<|fk [(2,_),(3,_),(4,_)] K1 ?_;refine Hd.seq fun _ K2=>?_
 refine sr fun _ K3=>?_
 refine yv (y_l1 ag33 rfl)<|yv y_mv<|callE rfl fk64 (may_ct _ b wb x.fd sides) sq ?_;intro _;refine Hd.heap (BufP b wb x::pt b3 [.pointer (some ⟨b,0,none⟩)] 33::pt b4 [.int .u64 now] 29::L) (fun q s=>buf_close rfl rfl rfl q (Ent.sep enn q s)) ?_;rw [show (if bits .andNot .i64 sides 6=0 then (0:Int) else 2)=enE sides from rfl];refine yv y_as<|fk [(2,_),(3,_),(4,_),(7,_)] K3 ?_;refine sr fun _ K4=>?_
 refine yv y_mv<|yv (y_neq rfl rfl) ?_;refine fk [(2,_),(3,_),(4,_),(7,_),(14,_)] K4 ?_;refine qz ?_ ?_<;>intro hc0<;>try simp only [hyZ] at hc0
 ·refine sr fun _ K5=>?_
  refine yv y_mv<|yv y_as<|fk [(6,_)] K5 ?_;refine Hd.ret<|Hd.thenRet ?_
  have h:¬ bits .andNot .i64 sides 6=0:=fun h=>by unfold enE at hc0;rw [if_pos h] at hc0;exact hc0 rfl
  rw [show enB x now sides=x by unfold enB;rw [if_neg h]];exact Hd.retM (fun a fr=>Lv.end1 fr rfl () rfl sq)
 have hz:bits .andNot .i64 sides 6=0:=Decidable.byContradiction fun h=>by unfold enE at hc0;rw [if_neg h] at hc0;exact absurd hc0 (by decide)
 refine qv K2<|Hd.seq fun _ K6=>?_
 refine sr fun _ K7=>?_
 refine yv (y_l1 ag33 rfl)<|yv y_mv<|callE rfl fk65 (some_ct _ (some ⟨b,0,none⟩) sides) sq ?_;rintro ⟨bb,bm⟩;dsimp only;refine fk [(3,_),(4,_),(18,_)] K7 ?_;refine Hd.block<|Hd.rangeF (enc:=encK b) (S:=fun ys=>ys=sidesA sides) (Sp:=fun ys=>ys <+: sidesA sides)
  (fun pre=>BufP b wb (effB (onF now) x pre)::pt b3 [.pointer (some ⟨b,0,none⟩)] 33::pt b4 [.int .u64 now] 29::L) (fun _ _=>[pu False])
  rfl kq (fun _=>rfl) rfl (some_it b bb bm sides) (by rw [eff_nil];refine Ent.sep ?_;refine Ent.pick pkk ?_;refine Ent.pick pkk ?_;refine Ent.pick pkk ?_;exact Ent.swap (L:=[_,_])) ?_ ?_ ?_
 ·intro E l' R pre c N hR hG
  obtain ⟨hc,hcp⟩:=pre_new hG
  have hes:=eff_s (f:=onF now) (x:=x) hcp
  have hsn:=eff_snoc (f:=onF now) (x:=x) hcp
  unfold Rnd;simp only [List.cons_append,List.nil_append,pz,encK];refine sr fun _ K8=>?_
  refine yv y_as<|fk [(3,_),(4,_),(8,_),(20,_)] K8 ?_;refine Hd.region<|yv y_as<|Hd.nil<|slots [(3,_),(4,_),(8,_),(9,_)] sbq ?_;refine thenN<|Hd.begin hR pkk ?_;refine Hd.block<|Hd.seq fun _ K9=>?_
  refine Hd.bufK (b:=b) pkk c hc ?_;rw [bfL_eff hcp];refine Hd.region<|yv y_mv<|yv y_np<|yv (y_f 2 4 Tryz.underlying118 sz4)<|yv (y_load1 ag4 rfl (Rd.segK1 pkk (by decide) (by rfl))) ?_;refine yv (y_not rfl)<|fk [(3,_),(4,_),(8,_),(9,_),(25,_)] K9 ?_;refine qz ?_ ?_<;>intro hc1<;>try simp only [hyZ] at hc1
  ·refine sr fun _ K10=>?_
   refine yv y_mv<|yv y_np<|yv (y_f 2 4 Tryz.underlying118 sz4)<|Hd.storeK1 sz4 rfl rfl rfl pkk (by decide) (by simp;done) ?_
   try simp only [hyS]
   refine fk [(3,_),(4,_),(8,_)] K10 ?_;refine Hd.region<|yv (y_l1 ag33 rfl)<|yv y_mv<|yv (y_l1 ag29 rfl)<|callE rfl fk66 (set_ct _ b c hc { x.s c with on:=true } now hn (ht c hc).1) sq ?_;intro _;refine Hd.nil<|Hd.heap (BufP b wb ((effB (onF now) x pre).up c fun _=>setA c now { x.s c with on:=true })::_) (fun q s=>buf_putK hc q (by rw [bfL_up hc];exact Ent.sep enn q s)) ?_;refine slots [] sbq ?_;refine Hd.inB<|Hd.reN ?_;simp only [List.cons_append,List.nil_append]
   have hs1:onF now c (x.s c)=setA c now { x.s c with on:=true }:=if_neg (by rw [hc1];simp)
   rw [←hsn,hs1];exact sq
  refine Hd.heap (BufP b wb ((effB (onF now) x pre).up c fun _=>x.s c)::_) (fun q s=>buf_putK hc q (by rw [bfL_up hc];exact Ent.sep enn q s)) ?_;refine Hd.skip<|Hd.inB<|Hd.reN ?_;simp only [List.cons_append,List.nil_append]
  have hs1:onF now c (x.s c)=x.s c:=if_pos hc1
  rw [←hsn,hs1];exact sq
 ·intro r0 ys hys
  obtain rfl:ys=sidesA sides:=hys
  try simp only [List.cons_append,List.nil_append]
  refine Hd.inB<|Hd.toK K6 ?_;refine sr fun _ K11=>?_
  refine yv y_as<|fk [(6,_)] K11 ?_;refine Hd.ret ?_;rw [show enE sides=0 from hc0,show enB x now sides=effB (onF now) x (sidesA sides) by unfold enB;rw [if_pos hz]];exact Hd.retM (fun a fr=>Lv.mark pkk (Lv.end1 fr rfl () rfl sq))
 rintro r0_0 (_ | id0) pre0 hG0
 ·exact Hd.absurd (by exact id)
 exact Hd.absurd (by exact id)
def onM (x:BfA) (ks:List Nat):Int:=ks.foldl (fun m k=>if (x.s k).on=true then bits .or .i64 m (flagA k) else m) 0
theorem onM_snoc (x:BfA) (ks:List Nat) (k:Nat):onM x (ks++[k])=if (x.s k).on=true then bits .or .i64 (onM x ks) (flagA k) else onM x ks:=by unfold onM;rw [List.foldl_append];rfl
theorem enabled_ct (L:List SP) (b wb:Nat) (x:BfA):Ct Tryz.prog 32 #[.pointer (some ⟨b,0,none⟩)] (BufP b wb x::L) (fun _:Unit=>.int .i64 (onM x (sidesA 6))) (fun _:Unit=>BufP b wb x::L):=by
 refine Ct.o1M Tryz.func32 ?_;intro E
 show Hd E 22 _ _ _ _
 refine Hd.bufK .here 0 (by omega) ?_;refine sr fun _ K1=>?_
 refine yv y_as<|fk [(0,_)] K1 ?_;refine sr fun _ K2=>?_
 refine Hd.alloc zr3 (fun b3=>?_);refine Hd.store1 sz3 rfl rfl rfl pkk (by decide) ?_
 try simp only [hyS]
 refine fk [(0,_),(3,_)] K2 ?_;refine Hd.seq fun _ K3=>?_
 refine sr fun _ K4=>?_
 refine yv y_mv<|callE rfl fk71 (bnone_ct _ b wb x.fd) sq ?_;intro _;refine Hd.heap (BufP b wb x::pt b3 [.int .i64 0] 3::L) (fun q s=>buf_close rfl rfl rfl q (Ent.sep enn q s)) ?_;refine yv (y_not rfl)<|fk [(0,_),(3,_),(8,_)] K4 ?_;refine Hd.condT rfl ?_;refine sr fun _ K5=>?_
 refine yv y_mv<|callE rfl fk65 (some_ct _ (some ⟨b,0,none⟩) 6) sq ?_;rintro ⟨bb,bm⟩;dsimp only;refine fk [(3,_),(10,_)] K5 ?_;refine Hd.block<|Hd.rangeF (enc:=encK b) (S:=fun ys=>ys=sidesA 6) (Sp:=fun ys=>ys <+: sidesA 6)
  (fun pre=>pt b3 [.int .i64 (onM x pre)] 3::BufP b wb x::L) (fun _ _=>[pu False])
  rfl kq (fun _=>rfl) rfl (some_it b bb bm 6) (by refine Ent.sep ?_;refine Ent.eq pkk (pt_eq (by rfl)) ?_;refine Ent.pick pkk ?_;exact Ent.swap (L:=[_,_])) ?_ ?_ ?_
 ·intro E l' R pre c N hR hG
  obtain ⟨hc,hcp⟩:=pre_new hG
  have hsn:=onM_snoc x pre c
  unfold Rnd;simp only [List.cons_append,List.nil_append,pz,encK];refine sr fun _ K6=>?_
  refine yv y_as<|fk [(3,_),(4,_),(12,_)] K6 ?_;refine Hd.region<|yv y_as<|Hd.nil<|slots [(3,_),(4,_),(5,_)] sbq ?_;refine thenN<|Hd.begin hR pkk ?_;refine Hd.block<|Hd.seq fun _ K7=>?_
  refine Hd.bufK (b:=b) pkk c hc ?_;refine Hd.region<|yv y_mv<|yv y_np<|yv (y_f 2 4 Tryz.underlying118 sz4)<|yv (y_load1 ag4 rfl (Rd.segK1 pkk (by decide) (by rfl))) ?_;refine Hd.nil<|Hd.heap (BufP b wb x::_) (fun q s=>buf_backK hc q (by exact Ent.sep enn q s)) ?_;refine sk [(3,_),(4,_),(16,_)] K7 ?_;refine qz ?_ ?_<;>intro hc1<;>try simp only [hyZ] at hc1
  ·refine Hd.drawsH ([pt b3 [.int .i64 (onM x pre)] 3]) (fun j=>!([4].contains j)) mixed ?_
   simp only [List.length,Nat.zero_add,Nat.reduceAdd];refine tH 0 rfl (y_l1 ag3 rfl)<|tH 1 rfl y_mv<|qo 2 ?_;refine callE rfl fk79 (flag_ct _ c) sq ?_;intro _;refine qk<|tH 3 rfl (y_or rfl rfl) ?_;refine qo 4 ?_;refine Hd.store1 sz3 rfl rfl rfl pkk (by simp;done) ?_
   try simp only [hyS]
   refine qn<|endH kq ?_;refine slots [(3,_)] sbq ?_;refine Hd.inB<|Hd.reN ?_;simp only [List.cons_append,List.nil_append];rw [hsn,if_pos hc1];exact sq
  refine Hd.skip<|Hd.inB<|Hd.reN ?_;simp only [List.cons_append,List.nil_append];rw [hsn,if_neg (by rw [hc1];simp)];exact sq
 ·intro r0 ys hys
  obtain rfl:ys=sidesA 6:=hys
  try simp only [List.cons_append,List.nil_append]
  refine Hd.inB<|Hd.toK K3 ?_;refine sr fun _ K8=>?_
  refine yv (y_l1 ag3 rfl)<|yv y_as<|fk [(2,_)] K8 ?_;refine Hd.ret ?_;exact Hd.retM (fun a fr=>Lv.mark pkk (Lv.end1 fr rfl () rfl sq))
 rintro r0_0 (_ | id0) pre0 hG0
 ·exact Hd.absurd (by exact id)
 exact Hd.absurd (by exact id)
def wantK (x:BfA) (k:Nat):Bool:=!(x.s k).ended && ((decide ((k:Int)=0) && (decide ((x.s k).high=0) || decide (((x.s k).c.length:Int) < (x.s k).high))) || (decide ((k:Int)=1) && decide (((x.s k).c.length:Int) > 0)))
def waM (x:BfA) (ks:List Nat):Int:=ks.foldl (fun m k=>if wantK x k=true then bits .or .i64 m (flagA k) else m) 0
theorem waM_snoc (x:BfA) (ks:List Nat) (k:Nat):waM x (ks++[k])=if wantK x k=true then bits .or .i64 (waM x ks) (flagA k) else waM x ks:=by unfold waM;rw [List.foldl_append];rfl
def wantsA (x:BfA):Int:=waM x (sidesA (onM x (sidesA 6)))
theorem wants_ct (L:List SP) (b wb:Nat) (x:BfA):Ct Tryz.prog 30 #[.pointer (some ⟨b,0,none⟩)] (BufP b wb x::L) (fun _:Unit=>.int .i64 (wantsA x)) (fun _:Unit=>BufP b wb x::L):=by
 refine Ct.o1M Tryz.func30 ?_;intro E
 show Hd E 54 _ _ _ _
 refine Hd.bufK .here 0 (by omega) ?_;refine sr fun _ K1=>?_
 refine yv y_as<|fk [(0,_)] K1 ?_;refine sr fun _ K2=>?_
 refine Hd.alloc zr3 (fun b3=>?_);refine Hd.store1 sz3 rfl rfl rfl pkk (by decide) ?_
 try simp only [hyS]
 refine fk [(0,_),(3,_)] K2 ?_;refine Hd.seq fun _ K3=>?_
 refine sr fun _ K4=>?_
 refine yv y_mv<|callE rfl fk71 (bnone_ct _ b wb x.fd) sq ?_;intro _;refine Hd.heap (BufP b wb x::pt b3 [.int .i64 0] 3::L) (fun q s=>buf_close rfl rfl rfl q (Ent.sep enn q s)) ?_;refine fk [(0,_),(3,_),(8,_)] K4 ?_;refine Hd.condF rfl ?_;refine qv K3<|Hd.seq fun _ K5=>?_
 refine sr fun _ K6=>?_
 refine yv y_mv<|yv y_mv<|callE rfl fk32 (enabled_ct _ b wb x) sq ?_;intro _;refine callE rfl fk65 (some_ct _ (some ⟨b,0,none⟩) (onM x (sidesA 6))) sq ?_;rintro ⟨bb,bm⟩;dsimp only;refine fk [(3,_),(13,_)] K6 ?_;refine Hd.block<|Hd.rangeF (enc:=encK b) (S:=fun ys=>ys=sidesA (onM x (sidesA 6))) (Sp:=fun ys=>ys <+: sidesA (onM x (sidesA 6)))
  (fun pre=>pt b3 [.int .i64 (waM x pre)] 3::BufP b wb x::L) (fun _ _=>[pu False])
  rfl kq (fun _=>rfl) rfl (some_it b bb bm (onM x (sidesA 6))) (by refine Ent.sep ?_;refine Ent.eq pkk (pt_eq (by rfl)) ?_;refine Ent.pick pkk ?_;exact Ent.swap (L:=[_,_])) ?_ ?_ ?_
 ·intro E l' R pre c N hR hG
  obtain ⟨hc,hcp⟩:=pre_new hG
  have hsn:=waM_snoc x pre c
  unfold Rnd;simp only [List.cons_append,List.nil_append,pz,encK];refine sr fun _ K7=>?_
  refine yv y_as<|fk [(3,_),(4,_),(15,_)] K7 ?_;refine Hd.region<|yv y_as<|Hd.nil<|slots [(3,_),(4,_),(5,_)] sbq ?_;refine thenN<|Hd.begin hR pkk ?_;refine Hd.block<|Hd.seq fun _ K8=>?_
  refine Hd.bufK (b:=b) pkk c hc ?_;refine Hd.region<|yv y_mv<|yv y_np<|yv (y_f 0 116 Tryz.underlying118 sz116)<|callE rfl fk78 (chLen _ b (2 + c * 8 + 0) (x.s c).c) sq ?_;intro _;refine yv y_as<|fk [(3,_),(4,_),(5,_),(6,_)] K8 ?_;refine Hd.block<|sr fun _ K9=>?_
  refine yv y_mv<|yv y_np<|yv (y_f 3 4 Tryz.underlying118 sz4)<|yv (y_load1 ag4 rfl (Rd.segK1 pkk (by decide) (by rfl))) ?_;refine yv y_as<|fk [(3,_),(4,_),(5,_),(6,_),(20,_)] K9 ?_;refine qz ?_ ?_<;>intro hc1<;>try simp only [hyZ] at hc1
  ·refine Hd.heap (BufP b wb x::_) (fun q s=>buf_backK hc q (by exact Ent.sep enn q s)) ?_
   rw [if_neg (by unfold wantK;rw [hc1];simp)] at hsn;refine Hd.skip<|Hd.inB<|Hd.inB<|Hd.reN ?_;simp only [List.cons_append,List.nil_append];rw [hsn];exact sq
  refine Hd.seq fun _ K10=>?_
  refine sr fun _ K11=>?_
  refine yv y_mv<|yv (y_eql rfl rfl) ?_;refine yv y_mv ?_;apply Hd.andg 14 28 42 [(3,_),(4,_),(6,_)] rfl sbq
  ·intro hg9_28
   try simp only [hyZ] at hg9_28
   simp only [List.take];refine y2 y_mv<|y2 y_np<|y2 (y_f 5 3 Tryz.underlying118 sz3)<|y2 (y_load1 ag3 rfl (Rd.segK1 pkk (by decide) (by rfl))) ?_;refine y2 (y_eql rfl rfl) ?_;refine y2 y_mv ?_;apply Hd.org 7 34 41 [(3,_),(4,_),(6,_),(28,_)] rfl sbq
   ·intro hg9_34
    try simp only [hyZ] at hg9_34
    simp only [List.take];refine n1<|n1<|n1<|n1<|n1<|n1<|y2 (y_pickT rfl rfl) ?_;exact Hd.mn
   ·intro hg9_34
    try simp only [hyZ] at hg9_34
    simp only [List.take];refine y2 y_mv<|y2 y_mv<|y2 y_np<|y2 (y_f 5 3 Tryz.underlying118 sz3)<|y2 (y_load1 ag3 rfl (Rd.segK1 pkk (by decide) (by rfl))) ?_;refine y2 (y_lss rfl rfl) ?_;refine y2 (y_pickF rfl rfl) ?_;exact Hd.mn
   simp only [List.drop];refine yv (y_pickT rfl rfl) ?_;exact Hd.mn
  ·intro hg9_28
   try simp only [hyZ] at hg9_28
   simp only [List.take];refine n1<|n1<|n1<|n1<|n1<|n1<|n1<|n1<|n1<|n1<|n1<|n1<|n1<|yv (y_pickF rfl rfl) ?_;exact Hd.mn
  simp only [List.drop];refine yv y_as<|Hd.nil<|Hd.heap (BufP b wb x::_) (fun q s=>buf_backK hc q (by exact Ent.sep enn q s)) ?_;refine sk [(3,_),(4,_),(6,_),(25,_)] K11 ?_;refine qz ?_ ?_<;>intro hc2<;>try simp only [hyZ] at hc2
  ·refine qv K10 ?_
   refine qz ?_ ?_<;>intro hc3<;>try simp only [hyZ] at hc3
   ·refine Hd.drawsH ([pt b3 [.int .i64 (waM x pre)] 3]) (fun j=>!([4].contains j)) mixed ?_
    simp only [List.length,Nat.zero_add,Nat.reduceAdd];refine tH 0 rfl (y_l1 ag3 rfl)<|tH 1 rfl y_mv<|qo 2 ?_;refine callE rfl fk79 (flag_ct _ c) sq ?_;intro _;refine qk<|tH 3 rfl (y_or rfl rfl) ?_;refine qo 4 ?_;refine Hd.store1 sz3 rfl rfl rfl pkk (by simp;done) ?_
    try simp only [hyS]
    refine qn<|endH kq ?_;refine slots [(3,_)] sbq ?_;refine Hd.inB<|Hd.inB<|Hd.reN ?_;simp only [List.cons_append,List.nil_append];rw [hsn,if_pos (by unfold wantK;simp only [Bool.or_eq_true,Bool.and_eq_true,decide_eq_true_eq,Bool.not_eq_true'];exact ⟨hc1,by omega⟩)];exact sq
   refine Hd.skip<|Hd.inB<|Hd.inB<|Hd.reN ?_;simp only [List.cons_append,List.nil_append];rw [hsn,if_neg (by unfold wantK;simp only [Bool.or_eq_true,Bool.and_eq_true,decide_eq_true_eq,Bool.not_eq_true'];intro h;omega)];exact sq
  refine Hd.region<|yv y_mv<|yv (y_eql rfl rfl) ?_;refine yv y_mv ?_;apply Hd.andg 3 45 48 [(3,_),(4,_)] rfl sbq
  ·intro hg10_45
   try simp only [hyZ] at hg10_45
   simp only [List.take];refine y2 y_mv<|y2 (y_gtr rfl rfl) ?_;refine yv (y_pickT rfl rfl) ?_;exact Hd.mn
  ·intro hg10_45
   try simp only [hyZ] at hg10_45
   simp only [List.take];refine n1<|n1<|yv (y_pickF rfl rfl) ?_;exact Hd.mn
  simp only [List.drop];refine yv y_as<|fk [(3,_),(4,_),(25,_)] K10 ?_;refine qz ?_ ?_<;>intro hc3<;>try simp only [hyZ] at hc3
  ·refine Hd.drawsH ([pt b3 [.int .i64 (waM x pre)] 3]) (fun j=>!([4].contains j)) mixed ?_
   simp only [List.length,Nat.zero_add,Nat.reduceAdd];refine tH 0 rfl (y_l1 ag3 rfl)<|tH 1 rfl y_mv<|qo 2 ?_;refine callE rfl fk79 (flag_ct _ c) sq ?_;intro _;refine qk<|tH 3 rfl (y_or rfl rfl) ?_;refine qo 4 ?_;refine Hd.store1 sz3 rfl rfl rfl pkk (by simp;done) ?_
   try simp only [hyS]
   refine qn<|endH kq ?_;refine slots [(3,_)] sbq ?_;refine Hd.inB<|Hd.inB<|Hd.reN ?_;simp only [List.cons_append,List.nil_append];rw [hsn,if_pos (by unfold wantK;simp only [Bool.or_eq_true,Bool.and_eq_true,decide_eq_true_eq,Bool.not_eq_true'];exact ⟨hc1,by omega⟩)];exact sq
  refine Hd.skip<|Hd.inB<|Hd.inB<|Hd.reN ?_;simp only [List.cons_append,List.nil_append];rw [hsn,if_neg (by unfold wantK;simp only [Bool.or_eq_true,Bool.and_eq_true,decide_eq_true_eq,Bool.not_eq_true'];intro h;omega)];exact sq
 ·intro r0 ys hys
  obtain rfl:ys=sidesA (onM x (sidesA 6)):=hys
  try simp only [List.cons_append,List.nil_append]
  refine Hd.inB<|Hd.toK K5 ?_;refine sr fun _ K12=>?_
  refine yv (y_l1 ag3 rfl)<|yv y_as<|fk [(2,_)] K12 ?_;refine Hd.ret ?_;exact Hd.retM (fun a fr=>Lv.mark pkk (Lv.end1 fr rfl () rfl sq))
 rintro r0_0 (_ | id0) pre0 hG0
 ·exact Hd.absurd (by exact id)
 exact Hd.absurd (by exact id)
structure ToA where
 r:Bool
 w:Bool
 ev:Int
 e:Int
 i:Int
 o:Int
abbrev encT (t:ToA):List Value:=[.bool t.r,.bool t.w,.int .i64 t.ev,.int .i64 t.e,.int .i64 t.i,.int .i64 t.o]
def noT:ToA:=⟨false,false,0,0,0,0⟩
abbrev ToP (bt:Nat) (t:ToA):SP:=pt bt (encT t) 58
abbrev stopF (s:SdA):SdA:={ s with on:=false,ended:=true,at_:=NV }
def stopE (t:ToA) (e:Int):Int:=if t.e=0 then e else t.e
abbrev stopT (t:ToA) (ev e:Int):ToA:={ t with ev:=bits .or .i64 t.ev ev,e:=stopE t e }
theorem stop_ct (L:List SP) (b k bt:Nat) (s:SdA) (t:ToA) (ev e:Int):Ct Tryz.prog 160 #[.pointer (some ⟨b,2 + k * 8,none⟩),.pointer (some ⟨bt,0,none⟩),.int .i64 ev,.int .i64 e] (SdL b k s (ToP bt t::L)) (fun _:Unit=>.tuple #[]) (fun _:Unit=>SdL b k (stopF s) (ToP bt (stopT t ev e)::L)):=by
 refine Ct.o4 Tryz.func160 ?_;intro E
 show Hd E 34 _ _ _ _
 refine sr fun _ K1=>?_
 refine yv y_mv<|yv y_mv<|yv y_mv<|yv y_np<|yv (y_f 2 4 Tryz.underlying118 sz4)<|Hd.storeK1 sz4 rfl rfl rfl pkk (by decide) (by simp;done) ?_
 try simp only [hyS]
 refine yv y_np<|yv (y_f 3 4 Tryz.underlying118 sz4)<|Hd.storeK1 sz4 rfl rfl rfl pkk (by decide) (by simp;done) ?_
 try simp only [hyS]
 refine yv y_np<|yv (y_f 7 29 Tryz.underlying118 sz29)<|Hd.storeK1 sz29 rfl rfl rfl pkk (by decide) (by simp;done) ?_
 try simp only [hyS]
 refine fk [(1,_),(2,_),(3,_)] K1 ?_;refine sr fun _ K2=>?_
 refine yv y_mv<|yv y_np<|yv (y_f 2 3 Tryz.underlying58 sz3)<|yv (y_l1 ag3 rfl)<|yv y_mv<|yv (y_or rfl rfl) ?_;refine yv y_np<|yv (y_f 2 3 Tryz.underlying58 sz3)<|Hd.store1 sz3 rfl rfl rfl pkk (by simp;done) ?_
 try simp only [hyS]
 refine fk [(1,_),(3,_)] K2 ?_;refine sr fun _ K3=>?_
 refine yv y_mv<|yv y_np<|yv (y_f 3 34 Tryz.underlying58 sz34)<|yv (y_l1 ag34 rfl)<|yv (y_eql rfl rfl) ?_;refine fk [(1,_),(3,_),(29,_)] K3 ?_;refine qz ?_ ?_<;>intro hc0<;>try simp only [hyZ] at hc0
 ·refine Hd.region ?_
  refine yv y_mv<|yv y_mv<|yv y_np<|yv (y_f 3 34 Tryz.underlying58 sz34)<|Hd.store1 sz34 rfl rfl rfl pkk (by simp;done) ?_
  try simp only [hyS]
  refine Hd.nil<|slots [] sbq ?_
  have h:stopE t e=e:=by unfold stopE;rw [if_pos hc0]
  have hq:[Value.bool t.r,.bool t.w,.int .i64 (bits .or .i64 t.ev ev),.int .i64 (e),.int .i64 t.i,.int .i64 t.o]=encT (stopT t ev e):=by
   show _=[Value.bool t.r,.bool t.w,.int .i64 (bits .or .i64 t.ev ev),.int .i64 (stopE t e),.int .i64 t.i,.int .i64 t.o]
   rw [h]
  exact Hd.end0 rfl () rfl (Ent.sep (.pick pkk (.eq pkk (segK_eq (by rfl)) (.eq pkk (pt_eq hq) enn))))
 refine Hd.skip ?_
 have h:stopE t e=t.e:=by unfold stopE;rw [if_neg hc0]
 have hq:[Value.bool t.r,.bool t.w,.int .i64 (bits .or .i64 t.ev ev),.int .i64 (t.e),.int .i64 t.i,.int .i64 t.o]=encT (stopT t ev e):=by
  show _=[Value.bool t.r,.bool t.w,.int .i64 (bits .or .i64 t.ev ev),.int .i64 (stopE t e),.int .i64 t.i,.int .i64 t.o]
  rw [h]
 exact Hd.end0 rfl () rfl (Ent.sep (.pick pkk (.eq pkk (segK_eq (by rfl)) (.eq pkk (pt_eq hq) enn))))
def rdN (s:SdA) (most:Int):Int:=if s.high > 0 then min (min (min most 4096) (1048576 - (s.c.length:Int))) (s.high - (s.c.length:Int)) else min (min most 4096) (1048576 - (s.c.length:Int))
structure StA where
 x:BfA
 w:WA
 t:ToA
abbrev getF (now:Int) (bs:List UInt8) (s:SdA):SdA:=setA 0 now { s with c:=addA s.c bs }
def rdP (σ:StA) (now:Int) (r:(List UInt8×Bool×Int)×WA):StA :=
 if r.1.2.1=true then ⟨σ.x.up 0 fun s=>stopF s,r.2,stopT σ.t 17 0⟩
 else if r.1.2.2=113 then ⟨σ.x,r.2,σ.t⟩
 else if r.1.2.2≠0 then ⟨σ.x.up 0 fun s=>stopF s,r.2,stopT σ.t 33 r.1.2.2⟩
 else ⟨σ.x.up 0 (getF now r.1.1),r.2,{ σ.t with i:=(r.1.1.length:Int),r:=decide (((addA (σ.x.s 0).c r.1.1).length:Int) ≥ (σ.x.s 0).low) }⟩
def readS (σ:StA) (now most:Int):StA:=if rdN (σ.x.s 0) most < 1 then σ else rdP σ now (readR σ.w σ.x.fd (rdN (σ.x.s 0) most))
theorem readR_len (w:WA) (fd n:Int):(readR w fd n).1.1.length≤65536∨¬ WOk w:=by
 by_cases h:WOk w
 ·left
  unfold readR
  split
  ·simp
  ·rename_i m k hat
   split
   ·simp
   ·rename_i x hx
    have hwf:=h.wf x (List.mem_of_getElem? hx)
    obtain ⟨_,_,hk,_⟩:=h.at_lt hat
    have h1:=hwf.le k hk
    have h2:=hwf.cap
    repeat' split
    all_goals first
     | (simp;done)
     | (rw [List.length_take];omega)
 ·right;exact h
theorem Hd.worldOk {E:World} {n:Nat} {ds:List Deferred} {st:List (Nat×Value)} {L L':List SP} {K:Act→World→Prop} {wb:Nat} {w:WA} (p:Pick L (WorldP wb w) L') (h:WOk w→Hd E n ds st L K):Hd E n ds st L K:=fun a v f s=>by
 refine h ?_ a v f s
 obtain ⟨h1,s1,i,x⟩:=sep.one p s.2.2.2
 exact (sep_pure (p:=WOk w∧i.rs.map Prod.snd=w.ws) x).1.1
theorem read_ct (L:List SP) (b wb bt:Nat) (x:BfA) (w:WA) (t:ToA) (ht:TmOk x) (now most:Int) (hn:InK .u64 now) (hm:most≤9223372036854775807) (hh:InK .i64 (x.s 0).high):Ct Tryz.prog 74 #[.pointer (some ⟨b,0,none⟩),.int .u64 now,.int .i64 most,.pointer (some ⟨bt,0,none⟩)] (BufP b wb x::WorldP wb w::ToP bt t::L) (fun _:Unit=>.tuple #[]) (fun _:Unit=>BufP b wb (readS ⟨x,w,t⟩ now most).x::WorldP wb (readS ⟨x,w,t⟩ now most).w::ToP bt (readS ⟨x,w,t⟩ now most).t::L):=by
 refine Ct.o4 Tryz.func74 ?_;intro E
 show Hd E 96 _ _ _ _
 simp only [InK] at hh;refine Hd.buf .here ?_;refine Hd.chB (b:=b) (o:=2 + 0 * 8 + 0) pkk (fun hcl=>?_);refine Hd.worldOk (wb:=wb) (w:=w) pkk (fun hwo=>?_)
 have hS:¬ rdN (x.s 0) most < 1→readS ⟨x,w,t⟩ now most=rdP ⟨x,w,t⟩ now (readR w x.fd (rdN (x.s 0) most)):=fun h=>if_neg h
 have hlen:=(readR_len w x.fd (rdN (x.s 0) most)).resolve_right (fun h=>h hwo)
 obtain ⟨⟨⟨bs,eo,ec⟩,w'⟩,hrr⟩:∃ rr,readR w x.fd (rdN (x.s 0) most)=rr:=⟨_,rfl⟩
 rw [hrr] at hS hlen;dsimp only at hlen;refine sr fun _ K1=>?_
 refine yv y_mv<|yv y_np<|yv (y_f 2 119 Tryz.underlying121 sz119)<|yv (y_idxA Tryz.underlying119 sz118 rfl rfl (by decide)) ?_;refine yv y_as<|fk [(0,_),(1,_),(2,_),(3,_),(8,_)] K1 ?_;refine sr fun _ K2=>?_
 refine yv y_mv<|yv y_mv<|yv y_np<|yv (y_f 0 116 Tryz.underlying118 sz116)<|callE rfl fk78 (chLen _ b (2 + 0 * 8 + 0) (x.s 0).c) sq ?_;intro _;refine yv (y_subn rfl rfl (by simp only [InK];omega)) ?_;refine yv (y_min3 rfl rfl rfl) ?_;refine yv y_as<|fk [(0,_),(1,_),(3,_),(8,_),(9,_)] K2 ?_;refine Hd.cutK (ι:=Unit) [(0,_),(1,_),(3,_),(8,_)] (fun _=>[(9,.int .i64 (rdN (x.s 0) most))]) (fun _=>BfL b wb x 0 (WorldP wb w::ToP bt t::L)) ?_ ?_ ⟨rfl,rfl,rfl,rfl,trivial⟩
 ·refine sr fun _ K3=>?_
  refine yv y_mv<|yv y_np<|yv (y_f 5 3 Tryz.underlying118 sz3)<|yv (y_load1 ag3 rfl (Rd.segK1 pkk (by decide) (by rfl))) ?_;refine yv (y_gtr rfl rfl) ?_;refine fk [(0,_),(1,_),(3,_),(8,_),(9,_),(28,_)] K3 ?_;refine qz ?_ ?_<;>intro hc0<;>try simp only [hyZ] at hc0
  ·refine Hd.drawsH ([segK b (2 + 0 * 8) 2 (encS (x.s 0))]) (fun _=>true) mixed ?_
   simp only [List.length,Nat.zero_add,Nat.reduceAdd];refine tH 0 rfl y_mv<|tH 1 rfl y_mv<|tH 2 rfl y_np<|tH 3 rfl (y_f 5 3 Tryz.underlying118 sz3)<|tH 4 rfl (y_load1 ag3 rfl (Rd.segK1 pkk (by decide) (by rfl))) ?_;refine tH 5 rfl y_mv<|tH 6 rfl y_np<|tH 7 rfl (y_f 0 116 Tryz.underlying118 sz116)<|qo 8 ?_;refine callE rfl fk78 (chLen _ b (2 + 0 * 8 + 0) (x.s 0).c) sq ?_;intro _;refine qk<|tH 9 rfl (y_subn rfl rfl (by simp only [InK];omega)) ?_;refine tH 10 rfl (y_min rfl rfl) ?_;refine tH 11 rfl y_as<|endH kq ?_;refine slots [(0,_),(1,_),(3,_),(8,_),(9,_)] sbq ?_;refine thenN ?_
   have hn9:rdN (x.s 0) most=min (min (min most 4096) (1048576 - ((x.s 0).c.length:Int))) ((x.s 0).high - ((x.s 0).c.length:Int)):=if_pos hc0
   rw [←hn9];exact Hd.meet () sbq sq
  refine Hd.skip<|thenN ?_
  have hn9:rdN (x.s 0) most=min (min most 4096) (1048576 - ((x.s 0).c.length:Int)):=if_neg (by omega)
  rw [←hn9];exact Hd.meet () sbq sq
 intro _;refine Hd.seq fun _ K4=>?_
 refine sr fun _ K5=>?_
 refine yv y_mv<|yv (y_lss rfl rfl) ?_;refine fk [(0,_),(1,_),(3,_),(8,_),(9,_),(41,_)] K5 ?_;refine qz ?_ ?_<;>intro hc1<;>try simp only [hyZ] at hc1
 ·refine Hd.ret ?_
  refine Hd.thenRet ?_;rw [show readS ⟨x,w,t⟩ now most=⟨x,w,t⟩ from if_pos hc1];exact Hd.ret0 rfl () rfl (fun q s=>buf_close rfl rfl rfl q (Ent.sep enn q s))
 refine qv K4<|Hd.seq fun _ K6=>?_
 refine Hd.drawsH ([BfH b wb x.fd]) (fun _=>true) mixed ?_;simp only [List.length,Nat.zero_add,Nat.reduceAdd];refine tH 0 rfl y_mv<|tH 1 rfl y_np<|tH 2 rfl (y_f 0 37 Tryz.underlying121 sz37)<|tH 3 rfl (y_load1 ag37 rfl (Rd.seg1 pkk (by rfl))) ?_;refine tH 4 rfl y_mv<|tH 5 rfl y_np<|tH 6 rfl (y_f 1 3 Tryz.underlying121 sz3)<|tH 7 rfl (y_load1 ag3 rfl (Rd.seg1 pkk (by rfl))) ?_;refine tH 8 rfl y_mv<|qo 9 ?_;refine callE rfl fk54 (wread_ct _ wb w x.fd (rdN (x.s 0) most)) sq ?_;rintro ⟨ad,c⟩;rw [hrr];dsimp only;refine qk<|tH 10 rfl y_mv<|tH 11 rfl y_ex<|tH 12 rfl y_ex<|tH 13 rfl y_ex<|tH 14 rfl y_as<|tH 15 rfl y_as<|tH 16 rfl y_as<|endH kq ?_;refine sk [(0,_),(1,_),(3,_),(8,_),(10,_),(11,_),(12,_)] K6 ?_;refine Hd.block<|sr fun _ K7=>?_
 refine yv y_mv<|yv y_as<|fk [(0,_),(1,_),(3,_),(8,_),(10,_),(12,_),(81,_)] K7 ?_;refine qz ?_ ?_<;>intro hc2<;>try simp only [hyZ] at hc2
 ·refine Hd.region ?_
  refine yv y_mv<|yv y_mv<|callE rfl fk160 (stop_ct _ b 0 bt (x.s 0) t 17 0) sq ?_;intro _;refine Hd.nil<|slots [] sbq ?_;refine Hd.inB ?_;rw [show readS ⟨x,w,t⟩ now most=⟨x.up 0 fun s=>stopF s,w',stopT t 17 0⟩ from (hS (by omega)).trans (if_pos hc2)];exact Hd.end0 rfl () rfl (fun q s=>buf_put (fd:=x.fd) (x':=x.up 0 fun s=>stopF s) (s0:=stopF (x.s 0)) (s1:=x.s 1) rfl rfl rfl q (Ent.sep enn q s))
 refine sr fun _ K8=>?_
 refine yv y_mv<|yv (y_eql rfl rfl) ?_;refine yv y_as<|fk [(0,_),(1,_),(3,_),(8,_),(10,_),(12,_),(86,_)] K8 ?_;refine qz ?_ ?_<;>intro hc3<;>try simp only [hyZ] at hc3
 ·refine Hd.skip ?_
  refine Hd.inB ?_;rw [show readS ⟨x,w,t⟩ now most=⟨x,w',t⟩ from (hS (by omega)).trans<|(if_neg (by rw [hc2];simp)).trans (if_pos hc3)];exact Hd.end0 rfl () rfl (fun q s=>buf_close rfl rfl rfl q (Ent.sep enn q s))
 refine sr fun _ K9=>?_
 refine yv y_mv<|yv (y_neq rfl rfl) ?_;refine yv y_as<|fk [(0,_),(1,_),(3,_),(8,_),(10,_),(12,_),(89,_)] K9 ?_;refine qz ?_ ?_<;>intro hc4<;>try simp only [hyZ] at hc4
 ·refine Hd.region ?_
  refine yv y_mv<|yv y_mv<|yv y_mv<|callE rfl fk160 (stop_ct _ b 0 bt (x.s 0) t 33 ec) sq ?_;intro _;refine Hd.nil<|slots [] sbq ?_;refine Hd.inB ?_;rw [show readS ⟨x,w,t⟩ now most=⟨x.up 0 fun s=>stopF s,w',stopT t 33 ec⟩ from (hS (by omega)).trans<|(if_neg (by rw [hc2];simp)).trans ((if_neg hc3).trans (if_pos hc4))];exact Hd.end0 rfl () rfl (fun q s=>buf_put (fd:=x.fd) (x':=x.up 0 fun s=>stopF s) (s0:=stopF (x.s 0)) (s1:=x.s 1) rfl rfl rfl q (Ent.sep enn q s))
 refine Hd.seq fun _ K10=>?_
 refine Hd.ownCap pkk (fun hmc=>?_);refine Hd.region<|yv y_mv<|yv y_np<|yv (y_f 0 116 Tryz.underlying118 sz116)<|yv y_mv<|callE rfl fk72 (chAdd _ b (2 + 0 * 8 + 0) (x.s 0).c ad bs.length c bs rfl ?hA hmc (by omega)) sq ?_
 case hA=>exact RdS.own (ad:=ad) pkk
 intro _;refine fk [(0,_),(1,_),(3,_),(8,_),(10,_)] K10 ?_;refine sr fun _ K11=>?_
 refine yv y_mv<|yv y_mv<|yv (y_len Tryz.underlying30 rfl) ?_;refine yv y_np<|yv (y_f 4 3 Tryz.underlying58 sz3)<|Hd.store1 sz3 rfl rfl rfl pkk (by simp;done) ?_
 try simp only [hyS]
 refine fk [(0,_),(1,_),(3,_),(8,_)] K11 ?_;refine Hd.seq fun _ K12=>?_
 refine Hd.drawsH ([segK b (2 + 0 * 8) 2 (encS (x.s 0))]) (fun j=>!(([1000]:List Nat).contains j)) mixed ?_;simp only [List.length,Nat.zero_add,Nat.reduceAdd];refine tH 0 rfl y_mv<|tH 1 rfl y_mv<|tH 2 rfl y_np<|tH 3 rfl (y_f 0 116 Tryz.underlying118 sz116)<|tH 5 rfl y_mv<|tH 6 rfl y_np<|tH 7 rfl (y_f 4 3 Tryz.underlying118 sz3)<|tH 8 rfl (y_load1 ag3 rfl (Rd.segK1 pkk (by decide) (by rfl))) ?_;refine qo 4 ?_;refine callE rfl fk78 (chLen _ b (2 + 0 * 8 + 0) (addA (x.s 0).c bs)) sq ?_;intro _;refine qk<|tH 9 rfl (y_geq rfl rfl) ?_;refine tH 10 rfl y_np<|tH 11 rfl (y_f 0 4 Tryz.underlying58 sz4)<|qo 12 ?_;refine Hd.store1 sz4 rfl rfl rfl pkk (by simp;done) ?_
 try simp only [hyS]
 refine qk<|endH kq ?_;refine sk [(0,_),(1,_)] K12 ?_;refine Hd.region<|yv y_mv<|yv y_mv<|callE rfl fk66 (set_ct _ b 0 (by omega) { x.s 0 with c:=addA (x.s 0).c bs } now hn (ht 0 (by omega)).1) sq ?_;intro _;refine Hd.nil<|slots [] sbq ?_;refine Hd.inB ?_;rw [show readS ⟨x,w,t⟩ now most=⟨x.up 0 (getF now bs),w',{ t with i:=(bs.length:Int),r:=decide (((addA (x.s 0).c bs).length:Int) ≥ (x.s 0).low) }⟩ from (hS (by omega)).trans<|(if_neg (by rw [hc2];simp)).trans ((if_neg hc3).trans (if_neg (by simpa using hc4)))];exact Hd.end0 rfl () rfl (fun q s=>buf_put (fd:=x.fd) (x':=x.up 0 (getF now bs)) (s0:=setA 0 now { x.s 0 with c:=addA (x.s 0).c bs }) (s1:=x.s 1) rfl rfl rfl q (Ent.sep (.pick pkk (.pick pkk (.pick pkk (.pick pkk (.pick pkk (.pick pkk (.pick pkk (.eq pkk (pt_eq (by rfl)) enn)))))))) q s))
def offA (s:SdA) (much:Int):List UInt8:=Bc.cpy s.c 0 (min much 4096)
abbrev putF (now n:Int) (s:SdA):SdA:=setA 1 now { s with c:=s.c.drop n.toNat }
def wrP (σ:StA) (now:Int) (r:(Int×Int)×WA):StA :=
 if r.1.2=0 then ⟨σ.x.up 1 (putF now r.1.1),r.2,{ σ.t with o:=r.1.1,w:=decide (((((σ.x.s 1).c.drop r.1.1.toNat).length:Nat):Int)≤(σ.x.s 1).low) }⟩
 else if r.1.2=113 then ⟨σ.x,r.2,σ.t⟩
 else ⟨σ.x.up 1 fun s=>stopF s,r.2,stopT σ.t 34 r.1.2⟩
def writeS (σ:StA) (now much:Int):StA:=if (offA (σ.x.s 1) much).length=0 then σ else wrP σ now (writeR σ.w σ.x.fd (offA (σ.x.s 1) much))
theorem writeR_le (w:WA) (fd:Int) (bs:List UInt8):(writeR w fd bs).1.1≤(bs.length:Int):=by
 unfold writeR
 repeat' split
 all_goals first
  | (dsimp only;omega)
  | (dsimp only;unfold putN;omega)
theorem write_ct (L:List SP) (b wb bt:Nat) (x:BfA) (w:WA) (t:ToA) (ht:TmOk x) (now much:Int) (hn:InK .u64 now) (hm:InK .i64 much):Ct Tryz.prog 75 #[.pointer (some ⟨b,0,none⟩),.int .u64 now,.int .i64 much,.pointer (some ⟨bt,0,none⟩)] (BufP b wb x::WorldP wb w::ToP bt t::L) (fun _:Unit=>.tuple #[]) (fun _:Unit=>BufP b wb (writeS ⟨x,w,t⟩ now much).x::WorldP wb (writeS ⟨x,w,t⟩ now much).w::ToP bt (writeS ⟨x,w,t⟩ now much).t::L):=by
 refine Ct.o4 Tryz.func75 ?_;intro E
 show Hd E 71 _ _ _ _
 simp only [InK] at hm;refine Hd.bufK .here 1 (by omega) ?_;refine Hd.chB (b:=b) (o:=2 + 1 * 8 + 0) pkk (fun hcl=>?_)
 have hol:(offA (x.s 1) much).length≤4096:=by
  unfold offA Bc.cpy
  split
  ·simp
  ·rw [List.length_take];omega
 have hS:¬ (offA (x.s 1) much).length=0→writeS ⟨x,w,t⟩ now much=wrP ⟨x,w,t⟩ now (writeR w x.fd (offA (x.s 1) much)):=fun h=>if_neg h
 have hle:=writeR_le w x.fd (offA (x.s 1) much)
 obtain ⟨⟨⟨n,ec⟩,w'⟩,hrr⟩:∃ rr,writeR w x.fd (offA (x.s 1) much)=rr:=⟨_,rfl⟩
 rw [hrr] at hS hle;dsimp only at hle
 obtain ⟨bs,hbs⟩:∃ bs,offA (x.s 1) much=bs:=⟨_,rfl⟩
 rw [hbs] at hS hle hol hrr;refine sr fun _ K1=>?_
 refine yv y_mv<|yv y_np<|yv (y_f 2 119 Tryz.underlying121 sz119)<|yv (y_idxA Tryz.underlying119 sz118 rfl rfl (by decide)) ?_;refine yv y_as<|fk [(0,_),(1,_),(2,_),(3,_),(8,_)] K1 ?_;refine sr fun _ K2=>?_
 refine yv y_mv<|yv y_np<|yv (y_f 0 116 Tryz.underlying118 sz116)<|yv y_mv<|yv (y_min rfl rfl) ?_;refine callE rfl fk161 (chCopy _ b (2 + 1 * 8 + 0) (x.s 1).c 0 (min much 4096) (by simp [InK]) (by simp only [InK];omega)) sq ?_;rintro ⟨ad,c⟩;dsimp only;rw [show Bc.cpy (x.s 1).c 0 (min much 4096)=bs from hbs];refine yv y_as<|fk [(0,_),(1,_),(3,_),(8,_),(9,_)] K2 ?_;refine Hd.seq fun _ K3=>?_
 refine sr fun _ K4=>?_
 refine yv y_mv<|yv (y_len Tryz.underlying30 rfl) ?_;refine yv (y_eql rfl rfl) ?_;refine fk [(0,_),(1,_),(3,_),(8,_),(9,_),(24,_)] K4 ?_;refine qz ?_ ?_<;>intro hc0<;>try simp only [hyZ] at hc0
 ·refine Hd.ret ?_
  refine Hd.thenRet ?_;rw [show writeS ⟨x,w,t⟩ now much=⟨x,w,t⟩ from if_pos (by show (offA (x.s 1) much).length=0;rw [hbs];omega)];exact Hd.ret0 rfl () rfl (fun q s=>buf_backK (k:=1) (by omega) q (Ent.sep enn q s))
 refine qv K3<|Hd.seq fun _ K5=>?_
 refine Hd.ownCap pkk (fun hmc=>?_);refine Hd.drawsH ([BfH b wb x.fd]) (fun _=>true) mixed ?_;simp only [List.length,Nat.zero_add,Nat.reduceAdd];refine tH 0 rfl y_mv<|tH 1 rfl y_np<|tH 2 rfl (y_f 0 37 Tryz.underlying121 sz37)<|tH 3 rfl (y_load1 ag37 rfl (Rd.seg1 pkk (by rfl))) ?_;refine tH 4 rfl y_mv<|tH 5 rfl y_np<|tH 6 rfl (y_f 1 3 Tryz.underlying121 sz3)<|tH 7 rfl (y_load1 ag3 rfl (Rd.seg1 pkk (by rfl))) ?_;refine tH 8 rfl y_mv<|qo 9 ?_;refine callE rfl fk44 (wwrite_ct _ wb w x.fd ad bs.length c bs rfl ?hA (by omega) hmc) sq ?_
 case hA=>exact RdS.own (ad:=ad) pkk
 intro _;rw [hrr];dsimp only;refine qk<|tH 10 rfl y_mv<|tH 11 rfl y_ex<|tH 12 rfl y_ex<|tH 13 rfl y_as<|tH 14 rfl y_as<|endH kq ?_;refine sk [(0,_),(1,_),(3,_),(8,_),(10,_),(11,_)] K5 ?_;refine sr fun _ K6=>?_
 refine yv y_mv<|fk [(0,_),(1,_),(3,_),(8,_),(10,_),(11,_),(38,_)] K6 ?_;refine Hd.block<|sr fun _ K7=>?_
 refine yv (y_eql rfl rfl) ?_;refine yv y_as<|fk [(0,_),(1,_),(3,_),(8,_),(10,_),(11,_),(38,_),(43,_)] K7 ?_;refine qz ?_ ?_<;>intro hc1<;>try simp only [hyZ] at hc1
 ·refine sr fun _ K8=>?_
  refine yv y_mv<|yv y_np<|yv (y_f 0 116 Tryz.underlying118 sz116)<|yv y_mv<|callE rfl fk162 (chDrain _ b (2 + 1 * 8 + 0) (x.s 1).c n (by omega)) sq ?_;intro _;refine fk [(0,_),(1,_),(3,_),(8,_),(10,_)] K8 ?_;refine sr fun _ K9=>?_
  refine yv y_mv<|yv y_mv<|yv y_np<|yv (y_f 5 3 Tryz.underlying58 sz3)<|Hd.store1 sz3 rfl rfl rfl pkk (by simp;done) ?_
  try simp only [hyS]
  refine fk [(0,_),(1,_),(3,_),(8,_)] K9 ?_;refine Hd.seq fun _ K10=>?_
  refine Hd.drawsH ([segK b (2 + 1 * 8) 2 (encS (x.s 1))]) (fun j=>!(([1000]:List Nat).contains j)) mixed ?_;simp only [List.length,Nat.zero_add,Nat.reduceAdd];refine tH 0 rfl y_mv<|tH 1 rfl y_mv<|tH 2 rfl y_np<|tH 3 rfl (y_f 0 116 Tryz.underlying118 sz116)<|tH 5 rfl y_mv<|tH 6 rfl y_np<|tH 7 rfl (y_f 4 3 Tryz.underlying118 sz3)<|tH 8 rfl (y_load1 ag3 rfl (Rd.segK1 pkk (by decide) (by rfl))) ?_;refine qo 4 ?_;refine callE rfl fk78 (chLen _ b (2 + 1 * 8 + 0) ((x.s 1).c.drop n.toNat)) sq ?_;intro _;refine qk<|tH 9 rfl (y_leq rfl rfl) ?_;refine tH 10 rfl y_np<|tH 11 rfl (y_f 1 4 Tryz.underlying58 sz4)<|qo 12 ?_;refine Hd.store1 sz4 rfl rfl rfl pkk (by simp;done) ?_
  try simp only [hyS]
  refine qk<|endH kq ?_;refine sk [(0,_),(1,_)] K10 ?_;refine Hd.region<|yv y_mv<|yv y_mv<|callE rfl fk66 (set_ct _ b 1 (by omega) { x.s 1 with c:=(x.s 1).c.drop n.toNat } now hn (ht 1 (by omega)).1) sq ?_;intro _;refine Hd.nil<|slots [] sbq ?_;refine Hd.inB ?_
  have hne:¬ bs.length=0:=by omega
  rw [show writeS ⟨x,w,t⟩ now much=⟨x.up 1 (putF now n),w',{ t with o:=n,w:=decide (((((x.s 1).c.drop n.toNat).length:Nat):Int)≤(x.s 1).low) }⟩ from (hS hne).trans (if_pos hc1)];refine Hd.end0 rfl () rfl (fun q s=>buf_putK (k:=1) (x:=x) (s':=putF now n (x.s 1)) (by omega) q ?_);rw [bfL_up (by omega)];exact Ent.sep (.pick pkk (.pick pkk (.pick pkk (.pick pkk (.pick pkk (.pick pkk (.pick pkk (.eq pkk (pt_eq (by rfl)) enn)))))))) q s
 refine sr fun _ K11=>?_
 refine yv (y_eql rfl rfl) ?_;refine yv y_as<|fk [(3,_),(8,_),(11,_),(69,_)] K11 ?_;refine qz ?_ ?_<;>intro hc2<;>try simp only [hyZ] at hc2
 ·refine Hd.skip ?_
  refine Hd.inB ?_
  have hne:¬ bs.length=0:=by omega
  rw [show writeS ⟨x,w,t⟩ now much=⟨x,w',t⟩ from (hS hne).trans ((if_neg hc1).trans (if_pos hc2))];exact Hd.end0 rfl () rfl (fun q s=>buf_backK (k:=1) (by omega) q (Ent.sep enn q s))
 refine Hd.region<|yv y_mv<|yv y_mv<|yv y_mv<|callE rfl fk160 (stop_ct _ b 1 bt (x.s 1) t 34 ec) sq ?_;intro _;refine Hd.nil<|slots [] sbq ?_;refine Hd.inB ?_
 have hne:¬ bs.length=0:=by omega
 rw [show writeS ⟨x,w,t⟩ now much=⟨x.up 1 fun s=>stopF s,w',stopT t 34 ec⟩ from (hS hne).trans ((if_neg hc1).trans (if_neg hc2))];refine Hd.end0 rfl () rfl (fun q s=>buf_putK (k:=1) (x:=x) (s':=stopF (x.s 1)) (by omega) q ?_);rw [bfL_up (by omega)];exact Ent.sep enn q s
theorem tm_stop {x:BfA} (h:TmOk x) (k:Nat):TmOk (x.up k fun s=>stopF s):=h.up fun s ha _=>⟨ha,by show InK .u64 18446744073709551615;simp [InK]⟩
theorem tm_set {x:BfA} (h:TmOk x) (k:Nat) {now:Int} (hn:InK .u64 now) (f:SdA→List UInt8):TmOk (x.up k fun s=>setA k now { s with c:=f s }):=h.up fun s ha _=>⟨ha,atV_in (s:={ s with c:=f s }) hn ha⟩
theorem tm_read {σ:StA} (h:TmOk σ.x) {now:Int} (hn:InK .u64 now) (most:Int):TmOk (readS σ now most).x:=by
 unfold readS rdP
 repeat' split
 all_goals first
  | exact h
  | exact tm_stop h 0
  | exact tm_set h 0 hn (fun s=>addA s.c _)
def stepM (x:BfA) (flags:Int):Int:=bits .and .i64 flags (wantsA x)
def stepR (x:BfA) (w:WA) (now flags most:Int):StA:=if bits .and .i64 (stepM x flags) 2≠0 then readS ⟨x,w,noT⟩ now most else ⟨x,w,noT⟩
def stepS (x:BfA) (w:WA) (now flags most much:Int):StA:=if bits .and .i64 (stepM x flags) 4≠0 then writeS (stepR x w now flags most) now much else stepR x w now flags most
theorem tm_stepR {x:BfA} (h:TmOk x) {now:Int} (hn:InK .u64 now) (w:WA) (flags most:Int):TmOk (stepR x w now flags most).x:=by
 unfold stepR
 split
 ·exact tm_read h hn most
 ·exact h
theorem step_ct (L:List SP) (b wb:Nat) (x:BfA) (w:WA) (ht:TmOk x) (hh:InK .i64 (x.s 0).high) (now flags most much:Int) (hn:InK .u64 now) (hm:most≤9223372036854775807) (hmu:InK .i64 much):Ct Tryz.prog 24 #[.pointer (some ⟨b,0,none⟩),.int .u64 now,.int .i64 flags,.int .i64 most,.int .i64 much] (BufP b wb x::WorldP wb w::L) (fun _:Unit=>.agg (encT (stepS x w now flags most much).t).toArray) (fun _:Unit=>BufP b wb (stepS x w now flags most much).x::WorldP wb (stepS x w now flags most much).w::L):=by
 refine Ct.o5 Tryz.func24 ?_;intro E
 show Hd E 32 _ _ _ _
 refine sr fun _ K1=>?_
 refine Hd.alloc zr58 (fun b10=>?_);refine fk [(0,_),(1,_),(2,_),(3,_),(4,_),(10,_)] K1 ?_;refine sr fun _ K2=>?_
 refine Hd.alloc zr58 (fun b11=>?_);refine fk [(0,_),(1,_),(2,_),(3,_),(4,_),(10,_),(11,_)] K2 ?_;refine sr fun _ K3=>?_
 refine yv y_mv<|yv y_mv<|callE rfl fk30 (wants_ct _ b wb x) sq ?_;intro _;refine yv (y_to (v':=.int .i64 (stepM x flags)) (y_and rfl rfl) (by rfl)) ?_;refine yv y_as<|fk [(0,_),(1,_),(3,_),(4,_),(10,_),(11,_),(12,_)] K3 ?_;refine Hd.heap (ToP b11 noT::pt b10 (encT noT) 58::BufP b wb x::WorldP wb w::L) (fun q s=>Ent.sep (.eq pkk (pt_eq (by rfl)) (.eq pkk (pt_eq (by rfl)) enn)) q s) ?_;refine Hd.cutK (ι:=Unit) [(0,_),(1,_),(4,_),(10,_),(11,_),(12,_)] (fun _=>[]) (fun _=>BufP b wb (stepR x w now flags most).x::WorldP wb (stepR x w now flags most).w::ToP b11 (stepR x w now flags most).t::pt b10 (encT noT) 58::L) ?_ ?_ ⟨rfl,rfl,rfl,rfl,rfl,rfl,trivial⟩
 ·refine sr fun _ K4=>?_
  refine yv y_mv<|yv (y_and rfl rfl) ?_;refine yv (y_neq rfl rfl) ?_;refine fk [(0,_),(1,_),(3,_),(4,_),(10,_),(11,_),(12,_),(19,_)] K4 ?_;refine qz ?_ ?_<;>intro hc0<;>try simp only [hyZ] at hc0
  ·refine Hd.region ?_
   refine yv y_mv<|yv y_mv<|yv y_mv<|callE rfl fk74 (read_ct _ b wb b11 x w noT ht now most hn hm hh) sq ?_;intro _;refine Hd.nil<|slots [(0,_),(1,_),(4,_),(10,_),(11,_),(12,_)] sbq ?_;refine thenN ?_;rw [show stepR x w now flags most=readS ⟨x,w,noT⟩ now most from if_pos hc0];exact Hd.meet () sbq sq
  refine Hd.skip<|thenN ?_;rw [show stepR x w now flags most=⟨x,w,noT⟩ from if_neg (fun h=>h hc0)];exact Hd.meet () sbq sq
 intro _;refine Hd.cutK (ι:=Unit) [(10,_),(11,_)] (fun _=>[]) (fun _=>BufP b wb (stepS x w now flags most much).x::WorldP wb (stepS x w now flags most much).w::ToP b11 (stepS x w now flags most much).t::pt b10 (encT noT) 58::L) ?_ ?_ ⟨rfl,rfl,trivial⟩
 ·refine sr fun _ K5=>?_
  refine yv y_mv<|yv (y_and rfl rfl) ?_;refine yv (y_neq rfl rfl) ?_;refine fk [(0,_),(1,_),(4,_),(10,_),(11,_),(26,_)] K5 ?_;refine qz ?_ ?_<;>intro hc1<;>try simp only [hyZ] at hc1
  ·refine Hd.region ?_
   refine yv y_mv<|yv y_mv<|yv y_mv<|callE rfl fk75 (write_ct _ b wb b11 (stepR x w now flags most).x (stepR x w now flags most).w (stepR x w now flags most).t (tm_stepR ht hn w flags most) now much hn hmu) sq ?_;intro _;refine Hd.nil<|slots [(10,_),(11,_)] sbq ?_;refine thenN ?_;rw [show stepS x w now flags most much=writeS (stepR x w now flags most) now much from if_pos hc1];exact Hd.meet () sbq sq
  refine Hd.skip<|thenN ?_;rw [show stepS x w now flags most much=stepR x w now flags most from if_neg (fun h=>h hc1)];exact Hd.meet () sbq sq
 intro _;refine sr fun _ K6=>?_
 refine yv (y_loadn (us:=encT (stepS x w now flags most much).t) ag58 rfl (Rd.pt pkk (fun j v e=>by rw [Nat.zero_add];exact e)) (by exact sz58)) ?_;refine Hd.storeA (us:=encT (stepS x w now flags most much).t) sz58 rfl rfl rfl (by simp [Value.oneCell']) pkk (by exact rfl) ?_;refine fk [(10,_)] K6 ?_;refine Hd.ret ?_;exact Hd.retC rfl () ag58 rfl (Rd.pt (us:=encT (stepS x w now flags most much).t) pkk (fun j v e=>by rw [Nat.zero_add];exact e)) (by exact sz58) rfl sq
def SOk (s:SdA):Prop:=(InK .u64 s.after∧InK .u64 s.at_)∧(0≤s.low∧s.low≤1048576)∧0≤s.high∧s.high≤1048576
def BOk (x:BfA):Prop:=∀ k,k < 2→SOk (x.s k)
theorem BOk.tm {x:BfA} (h:BOk x):TmOk x:=fun k hk=>(h k hk).1
theorem BOk.hi {x:BfA} (h:BOk x):InK .i64 (x.s 0).high:=by
 have:=(h 0 (by omega)).2.2
 simp only [InK];omega
theorem bok_up {x:BfA} (h:BOk x) {k:Nat} {f:SdA→SdA} (hf:∀ s,SOk s→SOk (f s)):BOk (x.up k f):=fun j hj=>by
 by_cases e:j=k
 ·subst e;rw [bup_at];exact hf _ (h j hj)
 ·rw [bup_ne _ _ e];exact h j hj
theorem bok_eff {f:Nat→SdA→SdA} {x:BfA} (h:BOk x) (hf:∀ k s,SOk s→SOk (f k s)) (ks:List Nat):BOk (effB f x ks):=fun j hj=>by
 show SOk (if j∈ks then f j (x.s j) else x.s j)
 split
 ·exact hf _ _ (h j hj)
 ·exact h j hj
theorem sok_nv {s:SdA} (h:SOk s) (on en:Bool):SOk { s with on:=on,ended:=en,at_:=NV }:=⟨⟨h.1.1,by show InK .u64 18446744073709551615;simp [InK]⟩,h.2⟩
theorem sok_set {s:SdA} (h:SOk s) (k:Nat) {now:Int} (hn:InK .u64 now) (on:Bool) (c:List UInt8):SOk (setA k now { s with on:=on,c:=c }):=⟨⟨h.1.1,atV_in (s:={ s with on:=on,c:=c }) hn h.1.1⟩,h.2⟩
theorem bok_new (fd:Int):BOk (newB fd):=fun k hk=>⟨tm_new fd k hk,⟨Int.le_refl 0,by show (0:Int)≤_;omega⟩,Int.le_refl 0,by show (0:Int)≤_;omega⟩
theorem bok_en {x:BfA} (h:BOk x) {now:Int} (hn:InK .u64 now) (sides:Int):BOk (enB x now sides):=by
 unfold enB
 split
 ·refine bok_eff h (fun k s hs=>?_) _
  show SOk (if s.on=true then s else setA k now { s with on:=true })
  split
  ·exact hs
  ·exact sok_set hs k hn true s.c
 ·exact h
theorem bok_read {σ:StA} (h:BOk σ.x) {now:Int} (hn:InK .u64 now) (most:Int):BOk (readS σ now most).x:=by
 unfold readS rdP
 repeat' split
 all_goals first
  | exact h
  | exact bok_up h fun s hs=>sok_nv hs false true
  | exact bok_up h fun s hs=>sok_set hs 0 hn s.on _
theorem bok_write {σ:StA} (h:BOk σ.x) {now:Int} (hn:InK .u64 now) (much:Int):BOk (writeS σ now much).x:=by
 unfold writeS wrP
 repeat' split
 all_goals first
  | exact h
  | exact bok_up h fun s hs=>sok_nv hs false true
  | exact bok_up h fun s hs=>sok_set hs 1 hn s.on _
theorem bok_stepR {x:BfA} (h:BOk x) {now:Int} (hn:InK .u64 now) (w:WA) (flags most:Int):BOk (stepR x w now flags most).x:=by
 unfold stepR
 split
 ·exact bok_read h hn most
 ·exact h
theorem bok_step {x:BfA} (h:BOk x) {now:Int} (hn:InK .u64 now) (w:WA) (flags most much:Int):BOk (stepS x w now flags most much).x:=by
 unfold stepS
 split
 ·exact bok_write (bok_stepR h hn w flags most) hn much
 ·exact bok_stepR h hn w flags most
theorem bok_put {x:BfA} (h:BOk x) {now:Int} (hn:InK .u64 now) (bs:List UInt8):BOk (wrB x now bs):=by
 unfold wrB
 repeat' split
 ·exact h
 ·exact bok_up h fun s hs=>sok_set hs 1 hn s.on _
 ·exact bok_up h fun s hs=>hs
theorem bok_get {x:BfA} (h:BOk x) (n:Int):BOk (readB x n):=by
 unfold readB
 split
 ·exact h
 ·exact bok_up h fun s hs=>hs
end Bu
end Go.Proofs.YtmpemhbfgbochaaGreatDoor
namespace Go.Proofs.YtmpemhbfgbochaaGreatDoor
open Go.RX Fx
namespace Lm
open Bu
structure RtA where
 many:Int
 every:Int
 burst:Int
abbrev encRt (r:RtA):List Value:=[.int .i64 r.many,.int .u64 r.every,.int .i64 r.burst]
structure BkA where
 r:RtA
 have_:Int
 clk:Int
abbrev encB (x:BkA):List Value:=[.int .i64 x.r.many,.int .u64 x.r.every,.int .i64 x.r.burst,.int .i64 x.have_,.int .u64 x.clk]
abbrev BkP (b:Nat) (x:BkA):SP:=pt b (encB x) 310
structure RtOk (r:RtA):Prop where
 m1:1≤r.many
 m2:r.many≤2147483647
 e1:1≤r.every
 e2:r.every≤1048576
 b1:r.many≤r.burst
 b2:r.burst≤2147483647
def rtBad (r:RtA):Bool:=(((decide (r.many < 1) || decide (r.many > 2147483647)) || (decide (r.every < 1) || decide (r.every > 1048576))) || decide (r.burst < r.many)) || decide (r.burst > 2147483647)
theorem rt_ok {r:RtA} (h:rtBad r=false):RtOk r:=by
 unfold rtBad at h;simp only [Bool.or_eq_false_iff,decide_eq_false_iff_not] at h;exact ⟨by omega,by omega,by omega,by omega,by omega,by omega⟩
theorem rt_bad {r:RtA} (h:RtOk r):rtBad r=false:=by
 obtain ⟨h1,h2,h3,h4,h5,h6⟩:=h
 unfold rtBad;simp only [Bool.or_eq_false_iff,decide_eq_false_iff_not];omega
structure BkOk (x:BkA):Prop where
 r:RtOk x.r
 h0:0≤x.have_
 h1:x.have_≤x.r.burst
 clk:InK .u64 x.clk
def per (x:BkA) (now:Int):Int:=(now - x.clk) / x.r.every
def fil (x:BkA):Int:=(x.r.burst - x.have_) / x.r.many
def come (x:BkA) (now:Int):BkA:=if now≤x.clk then x else { x with have_:=min x.r.burst (x.have_ + min (per x now) (fil x + 1) * x.r.many),clk:=x.clk + per x now * x.r.every }
theorem per_b {x:BkA} (h:BkOk x) {now:Int} (hn:InK .u64 now) (hc:¬ now≤x.clk):0≤per x now∧per x now≤now - x.clk∧0≤per x now * x.r.every∧per x now * x.r.every≤now - x.clk:=by
 have he:=h.r.e1
 have h1:0≤per x now:=Int.ediv_nonneg (by omega) (by omega)
 have h2:per x now * x.r.every≤now - x.clk:=Int.ediv_mul_le _ (by omega)
 have h3:per x now≤per x now * x.r.every:=by
  have:=Int.mul_le_mul_of_nonneg_left he h1
  rwa [Int.mul_one] at this
 exact ⟨h1,by omega,by omega,h2⟩
theorem fil_b {x:BkA} (h:BkOk x) (t:Int) (ht:0≤t):0≤fil x∧fil x≤x.r.burst - x.have_∧0≤min t (fil x + 1) * x.r.many∧min t (fil x + 1) * x.r.many≤4294967294:=by
 have hm:=h.r.m1
 have hm2:=h.r.m2
 have hb2:=h.r.b2
 have h0:=h.h0
 have h1:=h.h1
 have e1:0≤fil x:=Int.ediv_nonneg (by omega) (by omega)
 have e2:fil x * x.r.many≤x.r.burst - x.have_:=Int.ediv_mul_le _ (by omega)
 have e3:fil x≤fil x * x.r.many:=by
  have:=Int.mul_le_mul_of_nonneg_left hm e1
  rwa [Int.mul_one] at this
 have e4:min t (fil x + 1) * x.r.many≤(fil x + 1) * x.r.many:=Int.mul_le_mul_of_nonneg_right (by omega) (by omega)
 have e5:(fil x + 1) * x.r.many=fil x * x.r.many + x.r.many:=by rw [Int.add_mul,Int.one_mul]
 exact ⟨e1,by omega,Int.mul_nonneg (by omega) (by omega),by omega⟩
theorem come_ok {x:BkA} (h:BkOk x) {now:Int} (hn:InK .u64 now):BkOk (come x now):=by
 unfold come
 split
 ·exact h
 ·rename_i hc
  have hp:=per_b h hn hc
  have hf:=fil_b h (per x now) hp.1
  have hb:=h.h1
  have h0:=h.h0
  have hclk:=h.clk
  have hm:=h.r.m1
  have hb1:=h.r.b1
  simp only [InK] at hn hclk;refine ⟨h.r,?_,?_,?_⟩
  ·show 0≤min x.r.burst _;omega
  ·show min x.r.burst _≤x.r.burst;omega
  ·show InK .u64 (x.clk + per x now * x.r.every)
   simp only [InK];omega
theorem come_r (x:BkA) (now:Int):(come x now).r=x.r:=by unfold come;split<;>rfl
theorem come_idem {x:BkA} (h:BkOk x) {now:Int} (hn:InK .u64 now):come (come x now) now=come x now:=by
 by_cases hc:now≤x.clk
 ·rw [show come x now=x from if_pos hc,show come x now=x from if_pos hc]
 ·have hp:=per_b h hn hc
  have he:=h.r.e1
  obtain ⟨y,hy⟩:∃ y,come x now=y:=⟨_,rfl⟩
  have hyr:y.r=x.r:=by rw [←hy];exact come_r x now
  have hyc:y.clk=x.clk + per x now * x.r.every:=by rw [←hy];unfold come;rw [if_neg hc]
  have hyo:BkOk y:=by rw [←hy];exact come_ok h hn
  rw [hy];unfold come
  split
  ·rfl
  ·rename_i hc2
   have hz:per y now=0:=by
    unfold per;rw [hyr,hyc]
    have e:now - (x.clk + per x now * x.r.every)=(now - x.clk) % x.r.every:=by
     have h1:=Int.ediv_mul_add_emod (now - x.clk) x.r.every
     unfold per;omega
    rw [e];exact Int.ediv_eq_zero_of_lt (Int.emod_nonneg _ (by omega)) (Int.emod_lt_of_pos _ (by omega))
   have hf:=(fil_b hyo 0 (by omega)).1
   have h1:=hyo.h1
   rw [hz]
   obtain ⟨r,hv,c⟩:=y
   show BkA.mk r (min r.burst (hv + min 0 (_ + 1) * r.many)) (c + 0 * r.every)=_
   rw [show min (0:Int) (fil ⟨r,hv,c⟩ + 1)=0 by omega,Int.zero_mul,Int.zero_mul]
   congr 1
   ·have h1':hv≤r.burst:=h1
    omega
   ·omega
theorem bknone_ct (L:List SP) (b:Nat) (x:BkA) (h:BkOk x):Ct Tryz.prog 229 #[.pointer (some ⟨b,0,none⟩)] (BkP b x::L) (fun _:Unit=>.bool false) (fun _:Unit=>BkP b x::L):=by
 refine Ct.o1 Tryz.func229 ?_;intro E
 show Hd E 13 _ _ _ _
 have he:=h.r.e1
 refine sr fun _ K1=>?_
 refine yv y_as<|fk [(0,_)] K1 ?_;refine sr fun _ K2=>?_
 refine yv y_mv<|yv (y_eql_pointer Tryz.underlying244 rfl rfl) ?_;refine yv y_mv<|y2 y_mv<|y2 y_np<|y2 (y_f 0 76 Tryz.underlying310 sz76)<|y2 (y_f 1 29 Tryz.underlying76 sz29)<|y2 (y_l1 ag29 rfl)<|y2 (y_to (y_eql rfl rfl) (congrArg Value.bool (decide_eq_false ((by omega))))) ?_;refine yv (y_pickF rfl rfl) ?_;refine yv y_as<|fk [(2,_)] K2 ?_;refine Hd.ret ?_;exact Hd.ret1 rfl () (by rfl) sq
theorem bknone_nil (L:List SP):Ct Tryz.prog 229 #[.pointer none] (L) (fun _:Unit=>.bool true) (fun _:Unit=>L):=by
 refine Ct.o1 Tryz.func229 ?_;intro E
 show Hd E 13 _ _ _ _
 refine sr fun _ K1=>?_
 refine yv y_as<|fk [(0,_)] K1 ?_;refine sr fun _ K2=>?_
 refine yv y_mv<|yv (y_eql_pointer Tryz.underlying244 rfl rfl) ?_;refine yv y_mv<|n1<|n1<|n1<|n1<|n1<|n1<|yv (y_pickT rfl rfl) ?_;refine yv y_as<|fk [(2,_)] K2 ?_;refine Hd.ret ?_;exact Hd.ret1 rfl () (by rfl) sq
theorem comes_ct (L:List SP) (b:Nat) (x:BkA) (h:BkOk x) (now:Int) (hn:InK .u64 now):Ct Tryz.prog 230 #[.pointer (some ⟨b,0,none⟩),.int .u64 now] (BkP b x::L) (fun _:Unit=>.tuple #[]) (fun _:Unit=>BkP b (come x now)::L):=by
 refine Ct.o2 Tryz.func230 ?_;intro E
 show Hd E 81 _ _ _ _
 have hn':=hn
 have hk:=h.clk
 have he1:=h.r.e1
 have he2:=h.r.e2
 have hm1:=h.r.m1
 have hm2:=h.r.m2
 have hb1:=h.r.b1
 have hb2:=h.r.b2
 have hh0:=h.h0
 have hh1:=h.h1
 simp only [InK] at hn' hk;refine Hd.seq fun _ K1=>?_
 refine sr fun _ K2=>?_
 refine yv y_mv<|yv y_mv<|yv y_np<|yv (y_f 4 29 Tryz.underlying310 sz29)<|yv (y_l1 ag29 rfl)<|yv (y_leq rfl rfl) ?_;refine fk [(0,_),(1,_),(11,_)] K2 ?_;refine qz ?_ ?_<;>intro hc0<;>try simp only [hyZ] at hc0
 ·refine Hd.ret ?_
  refine Hd.thenRet ?_;rw [show come x now=x from if_pos hc0];exact Hd.ret0 rfl () rfl sq
 obtain ⟨p1,p2,p3,p4⟩:=per_b h hn (by omega)
 obtain ⟨f1,f2,f3,f4⟩:=fil_b h (per x now) p1
 have p1':0≤(now - x.clk) / x.r.every:=p1
 have p2':(now - x.clk) / x.r.every≤now - x.clk:=p2
 have f1':0≤(x.r.burst - x.have_) / x.r.many:=f1
 have f2':(x.r.burst - x.have_) / x.r.many≤x.r.burst - x.have_:=f2
 refine qv K1<|Hd.seq fun _ K3=>?_
 refine Hd.quiet mixed kq ?_;refine Hq.yv y_mv ?_;refine Hq.yv y_mv ?_;refine Hq.yv y_np ?_;refine Hq.yv (y_f 4 29 Tryz.underlying310 sz29) ?_;refine Hq.yv (y_l1 ag29 rfl) ?_;refine Hq.yv (y_subn rfl rfl (by simp only [InK];omega)) ?_;refine Hq.yv y_mv ?_;refine Hq.yv y_np ?_;refine Hq.yv (y_f 0 76 Tryz.underlying310 sz76) ?_;refine Hq.yv (y_f 1 29 Tryz.underlying76 sz29) ?_;refine Hq.yv (y_l1 ag29 rfl) ?_;refine Hq.yv (y_to (v':=.int .u64 (per x now)) (y_quon rfl rfl (by omega) (by omega) (by simp only [InK];omega)) (by rfl)) ?_;refine Hq.yv y_as ?_;refine Hq.nil ?_;refine sk [(0,_),(4,_)] K3 ?_;refine Hd.seq fun _ K4=>?_
 refine Hd.tail 14 mixed kq ?_;simp only [List.take,List.drop];refine Ht.yv y_mv ?_;refine Ht.yv y_np ?_;refine Ht.yv (y_f 4 29 Tryz.underlying310 sz29) ?_;refine Ht.yv (y_l1 ag29 rfl) ?_;refine Ht.yv y_mv ?_;refine Ht.yv y_mv ?_;refine Ht.yv y_np ?_;refine Ht.yv (y_f 0 76 Tryz.underlying310 sz76) ?_;refine Ht.yv (y_f 1 29 Tryz.underlying76 sz29) ?_;refine Ht.yv (y_l1 ag29 rfl) ?_;refine Ht.yv (y_muln rfl rfl (by simp only [InK];omega)) ?_;refine Ht.yv (y_addn rfl rfl (by simp only [InK];omega)) ?_;refine Ht.yv y_np ?_;refine Ht.yv (y_f 4 29 Tryz.underlying310 sz29) ?_;refine Ht.nil ?_;refine Hd.store1 sz29 rfl rfl rfl pkk (by simp;done) ?_
 try simp only [hyS]
 refine fk [(0,_),(4,_)] K4 ?_;refine Hd.seq fun _ K5=>?_
 refine Hd.quiet mixed kq ?_;refine Hq.yv y_mv ?_;refine Hq.yv y_np ?_;refine Hq.yv (y_f 0 76 Tryz.underlying310 sz76) ?_;refine Hq.yv (y_f 2 2 Tryz.underlying76 sz2) ?_;refine Hq.yv (y_l1 ag2 rfl) ?_;refine Hq.yv y_mv ?_;refine Hq.yv y_np ?_;refine Hq.yv (y_f 3 2 Tryz.underlying310 sz2) ?_;refine Hq.yv (y_l1 ag2 rfl) ?_;refine Hq.yv (y_subn rfl rfl (by simp only [InK];omega)) ?_;refine Hq.yv (y_convn rfl Tryz.underlying2 Tryz.underlying29 (by simp only [InK];omega)) ?_;refine Hq.yv y_mv ?_;refine Hq.yv y_np ?_;refine Hq.yv (y_f 0 76 Tryz.underlying310 sz76) ?_;refine Hq.yv (y_f 0 2 Tryz.underlying76 sz2) ?_;refine Hq.yv (y_l1 ag2 rfl) ?_;refine Hq.yv (y_convn rfl Tryz.underlying2 Tryz.underlying29 (by simp only [InK];omega)) ?_;refine Hq.yv (y_to (v':=.int .u64 (fil x)) (y_quon rfl rfl (by omega) (by omega) (by simp only [InK];omega)) (by rfl)) ?_;refine Hq.yv (y_addn rfl rfl (by simp only [InK];omega)) ?_
 refine Hq.yv y_as ?_;refine Hq.nil ?_;refine sk [(0,_),(4,_),(5,_)] K5 ?_;refine Hd.tail 24 mixed kq ?_;simp only [List.take,List.drop];refine Ht.yv y_mv ?_;refine Ht.yv y_mv ?_;refine Ht.yv y_np ?_;refine Ht.yv (y_f 0 76 Tryz.underlying310 sz76) ?_;refine Ht.yv (y_f 2 2 Tryz.underlying76 sz2) ?_;refine Ht.yv (y_l1 ag2 rfl) ?_;refine Ht.yv y_mv ?_;refine Ht.yv y_np ?_;refine Ht.yv (y_f 3 2 Tryz.underlying310 sz2) ?_;refine Ht.yv (y_l1 ag2 rfl) ?_;refine Ht.yv y_mv ?_;refine Ht.yv y_mv ?_;refine Ht.yv (y_min rfl rfl) ?_;refine Ht.yv (y_convn rfl Tryz.underlying29 Tryz.underlying2 (by simp only [InK];omega)) ?_;refine Ht.yv y_mv ?_;refine Ht.yv y_np ?_;refine Ht.yv (y_f 0 76 Tryz.underlying310 sz76) ?_;refine Ht.yv (y_f 0 2 Tryz.underlying76 sz2) ?_;refine Ht.yv (y_l1 ag2 rfl) ?_;refine Ht.yv (y_muln rfl rfl (by simp only [InK];omega)) ?_;refine Ht.yv (y_addn rfl rfl (by simp only [InK];omega)) ?_
 refine Ht.yv (y_min rfl rfl) ?_;refine Ht.yv y_np ?_;refine Ht.yv (y_f 3 2 Tryz.underlying310 sz2) ?_;refine Ht.nil ?_;refine Hd.store1 sz2 rfl rfl rfl pkk (by simp;done) ?_
 try simp only [hyS]
 refine Hd.nil<|slots [] sbq ?_;rw [show come x now=_ from if_neg (by omega)];exact Hd.end0 rfl () rfl sq
theorem have_ct (L:List SP) (b:Nat) (x:BkA) (h:BkOk x) (now:Int) (hn:InK .u64 now):Ct Tryz.prog 189 #[.pointer (some ⟨b,0,none⟩),.int .u64 now] (BkP b x::L) (fun _:Unit=>.int .i64 (come x now).have_) (fun _:Unit=>BkP b (come x now)::L):=by
 refine Ct.o2 Tryz.func189 ?_;intro E
 show Hd E 14 _ _ _ _
 refine sr fun _ K1=>?_
 refine yv y_as<|fk [(0,_),(1,_)] K1 ?_;refine Hd.seq fun _ K2=>?_
 refine sr fun _ K3=>?_
 refine yv y_mv<|callE rfl fk229 (bknone_ct _ b x h) sq ?_;intro _;refine fk [(0,_),(1,_),(6,_)] K3 ?_;refine Hd.condF rfl ?_;refine qv K2<|sr fun _ K4=>?_
 refine yv y_mv<|yv y_mv<|callE rfl fk230 (comes_ct _ b x h now hn) sq ?_;intro _;refine fk [(0,_)] K4 ?_;refine sr fun _ K5=>?_
 refine yv y_mv<|yv y_np<|yv (y_f 3 2 Tryz.underlying310 sz2)<|yv (y_l1 ag2 rfl)<|yv y_as<|fk [(4,_)] K5 ?_;refine Hd.ret ?_;exact Hd.ret1 rfl () (by rfl) sq
theorem have_nil (L:List SP) (now:Int):Ct Tryz.prog 189 #[.pointer none,.int .u64 now] (L) (fun _:Unit=>.int .i64 0) (fun _:Unit=>L):=by
 refine Ct.o2 Tryz.func189 ?_;intro E
 show Hd E 14 _ _ _ _
 refine sr fun _ K1=>?_
 refine yv y_as<|fk [(0,_),(1,_)] K1 ?_;refine Hd.seq fun _ K2=>?_
 refine sr fun _ K3=>?_
 refine yv y_mv<|callE rfl fk229 (bknone_nil _) sq ?_;intro _;refine fk [(0,_),(1,_),(6,_)] K3 ?_;refine Hd.condT rfl ?_;refine sr fun _ K4=>?_
 refine yv y_as<|fk [(4,_)] K4 ?_;refine Hd.ret<|Hd.thenRet ?_;exact Hd.ret1 rfl () (by rfl) sq
def tak (x:BkA) (now n:Int):BkA:=if min n (come x now).have_ < 1 then come x now else { come x now with have_:=(come x now).have_ - min n (come x now).have_ }
def takV (x:BkA) (now n:Int):Int:=if min n (come x now).have_ < 1 then 0 else min n (come x now).have_
theorem tak_ok {x:BkA} (h:BkOk x) {now:Int} (hn:InK .u64 now) (n:Int):BkOk (tak x now n):=by
 have hc:=come_ok h hn
 have h0:=hc.h0
 have h1:=hc.h1
 unfold tak
 split
 ·exact hc
 ·exact ⟨hc.r,by show 0≤(come x now).have_ - _;omega,by show (come x now).have_ - _≤(come x now).r.burst;omega,hc.clk⟩
theorem take_ct (L:List SP) (b:Nat) (x:BkA) (h:BkOk x) (now n:Int) (hn:InK .u64 now) (hnn:InK .i64 n):Ct Tryz.prog 182 #[.pointer (some ⟨b,0,none⟩),.int .u64 now,.int .i64 n] (BkP b x::L) (fun _:Unit=>.int .i64 (takV x now n)) (fun _:Unit=>BkP b (tak x now n)::L):=by
 refine Ct.o3 Tryz.func182 ?_;intro E
 show Hd E 23 _ _ _ _
 have hc:=come_ok h hn
 have h0:=hc.h0
 have h1:=hc.h1
 have h2:=hc.r.b2
 simp only [InK] at hnn;refine sr fun _ K1=>?_
 refine yv y_as<|fk [(0,_),(1,_),(2,_)] K1 ?_;refine sr fun _ K2=>?_
 refine yv y_mv<|yv y_mv<|yv y_mv<|callE rfl fk189 (have_ct _ b x h now hn) sq ?_;intro _;refine yv (y_min rfl rfl) ?_;refine yv y_as<|fk [(0,_),(2,_)] K2 ?_;refine Hd.seq fun _ K3=>?_
 refine sr fun _ K4=>?_
 refine yv y_mv<|yv (y_lss rfl rfl) ?_;refine fk [(0,_),(2,_),(13,_)] K4 ?_;refine qz ?_ ?_<;>intro hc0<;>try simp only [hyZ] at hc0
 ·refine sr fun _ K5=>?_
  refine yv y_as<|fk [(6,_)] K5 ?_;refine Hd.ret<|Hd.thenRet ?_;rw [show takV x now n=0 from if_pos hc0,show tak x now n=come x now from if_pos hc0];exact Hd.ret1 rfl () rfl sq
 refine qv K3<|sr fun _ K6=>?_
 refine yv y_mv<|yv y_np<|yv (y_f 3 2 Tryz.underlying310 sz2)<|yv (y_l1 ag2 rfl)<|yv y_mv<|yv (y_subn rfl rfl (by simp only [InK];omega)) ?_;refine yv y_np<|yv (y_f 3 2 Tryz.underlying310 sz2)<|Hd.store1 sz2 rfl rfl rfl pkk (by simp;done) ?_
 try simp only [hyS]
 refine fk [(2,_)] K6 ?_;refine sr fun _ K7=>?_
 refine yv y_mv<|yv y_as<|fk [(6,_)] K7 ?_;refine Hd.ret ?_;rw [show takV x now n=_ from if_neg (by omega),show tak x now n=_ from if_neg (by omega)];exact Hd.ret1 rfl () rfl sq
theorem check_ct (L:List SP) (r:RtA):Ct Tryz.prog 223 #[.agg (encRt r).toArray] (L) (fun _:Unit=>.int .i64 (if rtBad r=true then 80 else 0)) (fun _:Unit=>L):=by
 refine Ct.o1 Tryz.func223 ?_;intro E
 show Hd E 33 _ _ _ _
 refine sr fun _ K1=>?_
 refine Hd.box rfl rfl (fun b1=>?_);refine yv y_as<|fk [(1,_)] K1 ?_;refine Hd.seq fun _ K2=>?_
 refine sr fun _ K3=>?_
 refine yv (y_f 0 2 Tryz.underlying76 sz2)<|yv (y_l1 ag2 rfl)<|yv (y_lss rfl rfl) ?_;refine yv y_mv ?_;apply Hd.org 4 6 10 [(1,_)] rfl sbq
 ·intro hg1_6
  try simp only [hyZ] at hg1_6
  simp only [List.take];refine n1<|n1<|n1<|yv (y_pickT rfl rfl) ?_;exact Hd.mn
 ·intro hg1_6
  try simp only [hyZ] at hg1_6
  simp only [List.take];refine y2 (y_f 0 2 Tryz.underlying76 sz2)<|y2 (y_l1 ag2 rfl)<|y2 (y_gtr rfl rfl) ?_;refine yv (y_pickF rfl rfl) ?_;exact Hd.mn
 simp only [List.drop];refine yv y_mv ?_;apply Hd.org 4 11 15 [(1,_)] rfl sbq
 ·intro hg1_11
  try simp only [hyZ] at hg1_11
  simp only [List.take];refine n1<|n1<|n1<|yv (y_pickT rfl rfl) ?_;exact Hd.mn
 ·intro hg1_11
  try simp only [hyZ] at hg1_11
  simp only [List.take];refine y2 (y_f 1 29 Tryz.underlying76 sz29)<|y2 (y_l1 ag29 rfl)<|y2 (y_lss rfl rfl) ?_;refine yv (y_pickF rfl rfl) ?_;exact Hd.mn
 simp only [List.drop];refine yv y_mv ?_;apply Hd.org 4 16 20 [(1,_)] rfl sbq
 ·intro hg1_16
  try simp only [hyZ] at hg1_16
  simp only [List.take];refine n1<|n1<|n1<|yv (y_pickT rfl rfl) ?_;exact Hd.mn
 ·intro hg1_16
  try simp only [hyZ] at hg1_16
  simp only [List.take];refine y2 (y_f 1 29 Tryz.underlying76 sz29)<|y2 (y_l1 ag29 rfl)<|y2 (y_gtr rfl rfl) ?_;refine yv (y_pickF rfl rfl) ?_;exact Hd.mn
 simp only [List.drop];refine yv y_mv ?_;apply Hd.org 6 21 27 [(1,_)] rfl sbq
 ·intro hg1_21
  try simp only [hyZ] at hg1_21
  simp only [List.take];refine n1<|n1<|n1<|n1<|n1<|yv (y_pickT rfl rfl) ?_;exact Hd.mn
 ·intro hg1_21
  try simp only [hyZ] at hg1_21
  simp only [List.take];refine y2 (y_f 2 2 Tryz.underlying76 sz2)<|y2 (y_l1 ag2 rfl)<|y2 (y_f 0 2 Tryz.underlying76 sz2)<|y2 (y_l1 ag2 rfl)<|y2 (y_lss rfl rfl) ?_;refine yv (y_pickF rfl rfl) ?_;exact Hd.mn
 simp only [List.drop];refine yv y_mv ?_;apply Hd.org 4 28 32 [] rfl sbq
 ·intro hg1_28
  try simp only [hyZ] at hg1_28
  simp only [List.take];refine n1<|n1<|n1<|yv (y_pickT rfl rfl) ?_;exact Hd.mn
 ·intro hg1_28
  try simp only [hyZ] at hg1_28
  simp only [List.take];refine y2 (y_f 2 2 Tryz.underlying76 sz2)<|y2 (y_l1 ag2 rfl)<|y2 (y_gtr rfl rfl) ?_;refine yv (y_pickF rfl rfl) ?_;exact Hd.mn
 simp only [List.drop];refine fk [(32,_)] K3 ?_;refine qz ?_ ?_<;>intro hc0<;>try simp only [hyZ] at hc0
 ·refine sr fun _ K4=>?_
  refine yv y_as<|fk [(2,_)] K4 ?_;refine Hd.ret<|Hd.thenRet ?_;rw [if_pos (by unfold rtBad;simp only [Bool.or_eq_true,decide_eq_true_eq];omega)];exact Hd.ret1 rfl () rfl sq
 refine qv K2<|sr fun _ K5=>?_
 refine yv y_as<|fk [(2,_)] K5 ?_;refine Hd.ret ?_;rw [if_neg (by unfold rtBad;simp only [Bool.or_eq_true,decide_eq_true_eq];omega)];exact Hd.ret1 rfl () rfl sq
abbrev newK (r:RtA) (now:Int):BkA:=⟨r,r.burst,now⟩
theorem new_ok {r:RtA} (h:RtOk r) {now:Int} (hn:InK .u64 now):BkOk (newK r now):=⟨h,by have:=h.m1;have:=h.b1;show 0≤r.burst;omega,Int.le_refl _,hn⟩
theorem bknew_ct (L:List SP) (r:RtA) (h:RtOk r) (now:Int):Ct Tryz.prog 225 #[.agg (encRt r).toArray,.int .u64 now] (L) (fun b:Nat=>.tuple #[.pointer (some ⟨b,0,none⟩),.int .i64 0]) (fun b:Nat=>BkP b (newK r now)::L):=by
 refine Ct.o2 Tryz.func225 ?_;intro E
 show Hd E 18 _ _ _ _
 refine sr fun _ K1=>?_
 refine Hd.box rfl rfl (fun b2=>?_);refine yv y_as<|yv y_as<|fk [(1,_),(2,_)] K1 ?_;refine Hd.seq fun _ K2=>?_
 refine sr fun _ K3=>?_
 refine yv (y_loadn (us:=[_,_,_]) ag76 rfl (Rd.pt pkk (by (first | (intro j v e;rcases j with _|_|_|_|_|_|_|_|_|_|_|_|j<;>first | exact e | exact absurd e (by simp))))) (by exact sz76)) ?_;refine callE rfl fk223 (check_ct _ r) sq ?_;intro _;rw [rt_bad h,if_neg (by simp)];refine yv y_as<|fk [(1,_),(2,_),(6,_)] K3 ?_;refine sr fun _ K4=>?_
 refine yv y_mv<|yv (y_neq rfl rfl) ?_;refine fk [(1,_),(2,_),(6,_),(10,_)] K4 ?_;refine Hd.condF rfl ?_;refine qv K2<|sr fun _ K5=>?_
 refine yv (y_loadn (us:=[_,_,_]) ag76 rfl (Rd.pt pkk (by (first | (intro j v e;rcases j with _|_|_|_|_|_|_|_|_|_|_|_|j<;>first | exact e | exact absurd e (by simp))))) (by exact sz76)) ?_;refine yv (y_f 2 2 Tryz.underlying76 sz2)<|yv (y_l1 ag2 rfl)<|yv y_mv<|yv (y_build (vs:=[(0,_),(1,_),(2,_)]) rfl (by exact bd225_16 ..)) ?_;refine Hd.box rfl rfl (fun b17=>?_);refine yv y_as<|yv y_as<|fk [(4,_),(5,_)] K5 ?_;refine Hd.ret ?_;exact Hd.ret2 rfl b17 rfl rfl rfl sq
abbrev setK (x:BkA) (now:Int) (r:RtA):BkA:={ come x now with r:=r,have_:=min (come x now).have_ r.burst }
theorem set_ok {x:BkA} (h:BkOk x) {now:Int} (hn:InK .u64 now) {r:RtA} (hr:RtOk r):BkOk (setK x now r):=by
 have hc:=come_ok h hn
 have h0:=hc.h0
 have h1:=hr.m1
 have h2:=hr.b1
 exact ⟨hr,by show 0≤min _ r.burst;omega,by show min _ r.burst≤r.burst;omega,hc.clk⟩
theorem bkset_ct (L:List SP) (b:Nat) (x:BkA) (h:BkOk x) (now:Int) (hn:InK .u64 now) (r:RtA) (hr:RtOk r):Ct Tryz.prog 224 #[.pointer (some ⟨b,0,none⟩),.int .u64 now,.agg (encRt r).toArray] (BkP b x::L) (fun _:Unit=>.int .i64 0) (fun _:Unit=>BkP b (setK x now r)::L):=by
 refine Ct.o3 Tryz.func224 ?_;intro E
 show Hd E 32 _ _ _ _
 refine sr fun _ K1=>?_
 refine Hd.box rfl rfl (fun b5=>?_);refine yv y_as<|fk [(0,_),(1,_),(5,_)] K1 ?_;refine Hd.seq fun _ K2=>?_
 refine sr fun _ K3=>?_
 refine yv y_mv<|callE rfl fk229 (bknone_ct _ b x h) sq ?_;intro _;refine fk [(0,_),(1,_),(5,_),(9,_)] K3 ?_;refine Hd.condF rfl ?_;refine qv K2<|Hd.seq fun _ K4=>?_
 refine sr fun _ K5=>?_
 refine yv (y_loadn (us:=[_,_,_]) ag76 rfl (Rd.pt pkk (by (first | (intro j v e;rcases j with _|_|_|_|_|_|_|_|_|_|_|_|j<;>first | exact e | exact absurd e (by simp))))) (by exact sz76)) ?_;refine callE rfl fk223 (check_ct _ r) sq ?_;intro _;rw [rt_bad hr,if_neg (by simp)];refine yv y_as<|fk [(0,_),(1,_),(5,_),(7,_)] K5 ?_;refine sr fun _ K6=>?_
 refine yv y_mv<|yv (y_to (y_neq rfl rfl) (congrArg Value.bool (decide_eq_false ((by simp))))) ?_;refine fk [(0,_),(1,_),(5,_),(7,_),(13,_)] K6 ?_;refine Hd.condF rfl ?_;refine qv K4<|sr fun _ K7=>?_
 refine yv y_mv<|yv y_mv<|callE rfl fk230 (comes_ct _ b x h now hn) sq ?_;intro _;refine fk [(0,_),(5,_)] K7 ?_;refine sr fun _ K8=>?_
 refine yv y_mv<|yv (y_loadn (us:=[_,_,_]) ag76 rfl (Rd.pt pkk (by (first | (intro j v e;rcases j with _|_|_|_|_|_|_|_|_|_|_|_|j<;>first | exact e | exact absurd e (by simp))))) (by exact sz76)) ?_;refine yv y_np<|yv (y_f 0 76 Tryz.underlying310 sz76)<|Hd.store (us:=[_,_,_]) sz76 rfl rfl rfl (by simp [Value.oneCell']) pkk (by simp) ?_
 try simp only [hyS]
 refine fk [(0,_),(5,_)] K8 ?_;refine Hd.seq fun _ K9=>?_
 refine Hd.tail 10 mixed kq ?_;simp only [List.take,List.drop];refine Ht.yv y_mv ?_;refine Ht.yv y_mv ?_;refine Ht.yv y_np ?_;refine Ht.yv (y_f 3 2 Tryz.underlying310 sz2) ?_;refine Ht.yv (y_l1 ag2 rfl) ?_;refine Ht.yv (y_f 2 2 Tryz.underlying76 sz2) ?_;refine Ht.yv (y_l1 ag2 rfl) ?_;refine Ht.yv (y_min rfl rfl) ?_;refine Ht.yv y_np ?_;refine Ht.yv (y_f 3 2 Tryz.underlying310 sz2) ?_;refine Ht.nil ?_;refine Hd.store1 sz2 rfl rfl rfl pkk (by simp;done) ?_
 try simp only [hyS]
 refine fk [] K9 ?_;refine sr fun _ K10=>?_
 refine yv y_as<|fk [(6,_)] K10 ?_;refine Hd.ret ?_;exact Hd.ret1 rfl () rfl (Ent.sep (.eq pkk (pt_eq (by rfl)) enn))
def tms (x:BkA) (t:Int):Int:=(t + x.r.many - 1) / x.r.many
def whn (x:BkA) (now n:Int):Int:=if n≤(come x now).have_ then now else if n > x.r.burst then NV else max now (dl (come x now).clk (tms x (n - (come x now).have_) * x.r.every))
theorem tms_b {x:BkA} (h:BkOk x) {t:Int} (h0:0≤t) (h1:t≤2147483647):0≤tms x t∧tms x t≤4294967296∧0≤tms x t * x.r.every∧tms x t * x.r.every≤4503599627370496:=by
 have hm:=h.r.m1
 have hm2:=h.r.m2
 have he:=h.r.e1
 have he2:=h.r.e2
 have e1:0≤tms x t:=Int.ediv_nonneg (by omega) (by omega)
 have e2:tms x t * x.r.many≤t + x.r.many - 1:=Int.ediv_mul_le _ (by omega)
 have e3:tms x t≤tms x t * x.r.many:=by
  have:=Int.mul_le_mul_of_nonneg_left hm e1
  rwa [Int.mul_one] at this
 have e4:tms x t * x.r.every≤4294967296 * 1048576:=Int.mul_le_mul (by omega) he2 (by omega) (by omega)
 exact ⟨e1,by omega,Int.mul_nonneg e1 (by omega),by omega⟩
theorem times_ct (L:List SP) (b p:Nat) (x:BkA) (h:BkOk x) (t:Int) (h0:0≤t) (h1:t≤2147483647):Ct Tryz.prog 231 #[.int .i64 t,.pointer (some ⟨p,0,none⟩)] (BkP b x::pt p [.pointer (some ⟨b,0,none⟩)] 244::L) (fun _:Unit=>.int .u64 (tms x t)) (fun _:Unit=>BkP b x::pt p [.pointer (some ⟨b,0,none⟩)] 244::L):=by
 refine Ct.o2 Tryz.func231 ?_;intro E
 show Hd E 19 _ _ _ _
 have hm1:=h.r.m1
 have hm2:=h.r.m2
 obtain ⟨p1,p2,_,_⟩:=tms_b h h0 h1
 unfold tms at p1 p2;refine sr fun _ K1=>?_
 refine yv y_as<|fk [(0,_),(1,_)] K1 ?_;refine Hd.seq fun _ K2=>?_
 refine Hd.quiet mixed kq ?_;refine Hq.yv y_mv ?_;refine Hq.yv (y_l1 ag244 rfl) ?_;refine Hq.yv y_np ?_;refine Hq.yv (y_f 0 76 Tryz.underlying310 sz76) ?_;refine Hq.yv (y_f 0 2 Tryz.underlying76 sz2) ?_;refine Hq.yv (y_l1 ag2 rfl) ?_;refine Hq.yv (y_addn rfl rfl (by simp only [InK];omega)) ?_;refine Hq.yv (y_subn rfl rfl (by simp only [InK];omega)) ?_;refine Hq.yv (y_l1 ag244 rfl) ?_;refine Hq.yv y_np ?_;refine Hq.yv (y_f 0 76 Tryz.underlying310 sz76) ?_;refine Hq.yv (y_f 0 2 Tryz.underlying76 sz2) ?_;refine Hq.yv (y_l1 ag2 rfl) ?_;refine Hq.yv (y_quon rfl rfl (by omega) (by omega) (by simp only [InK];omega)) ?_;refine Hq.yv (y_convn rfl Tryz.underlying2 Tryz.underlying29 (by simp only [InK];omega)) ?_;refine Hq.yv y_as ?_;refine Hq.nil ?_;refine sk [(3,_)] K2 ?_;refine Hd.ret ?_;exact Hd.ret1 rfl () rfl sq
theorem bkwhen_ct (L:List SP) (b:Nat) (x:BkA) (h:BkOk x) (now n:Int) (hn:InK .u64 now) (hn0:0≤n) (hn1:n≤2147483647):Ct Tryz.prog 186 #[.pointer (some ⟨b,0,none⟩),.int .u64 now,.int .i64 n] (BkP b x::L) (fun _:Unit=>.int .u64 (whn x now n)) (fun _:Unit=>BkP b (come x now)::L):=by
 refine Ct.o3 Tryz.func186 ?_;intro E
 show Hd E 53 _ _ _ _
 have hc:=come_ok h hn
 have hc0:=hc.h0
 have hc1:=hc.h1
 have hc2:=hc.r.b2
 have hr:=come_r x now
 have hcr:(come x now).r.burst=x.r.burst:=by rw [hr]
 refine sr fun _ K1=>?_
 refine Hd.box rfl rfl (fun b3=>?_);refine yv y_as<|fk [(1,_),(2,_),(3,_)] K1 ?_;refine Hd.seq fun _ K2=>?_
 refine sr fun _ K3=>?_
 refine yv (y_l1 ag244 rfl)<|callE rfl fk229 (bknone_ct _ b x h) sq ?_;intro _;refine fk [(1,_),(2,_),(3,_),(10,_)] K3 ?_;refine Hd.condF rfl ?_;refine qv K2<|sr fun _ K4=>?_
 refine yv (y_l1 ag244 rfl)<|yv y_mv<|callE rfl fk230 (comes_ct _ b x h now hn) sq ?_;intro _;refine fk [(1,_),(2,_),(3,_)] K4 ?_;refine sr fun _ K5=>?_
 refine yv (y_mkf (fv:=[]) (cv:=[_]) rfl rfl) ?_;refine yv y_as<|fk [(1,_),(2,_),(3,_),(7,_)] K5 ?_;refine Hd.seq fun _ K6=>?_
 refine Hd.block<|sr fun _ K7=>?_
 refine yv y_mv<|yv (y_l1 ag244 rfl)<|yv y_np<|yv (y_f 3 2 Tryz.underlying310 sz2)<|yv (y_l1 ag2 rfl)<|yv (y_leq rfl rfl) ?_;refine yv y_as<|fk [(1,_),(2,_),(3,_),(7,_),(15,_)] K7 ?_;refine qz ?_ ?_<;>intro hc1<;>try simp only [hyZ] at hc1
 ·have hc1_:=‹n≤(come x now).have_›
  refine sr fun _ K8=>?_
  refine yv y_mv<|yv y_as<|fk [(6,_)] K8 ?_;refine Hd.ret<|Hd.inBret<|Hd.thenRet ?_;rw [show whn x now n=now from if_pos hc1_];exact Hd.ret1 rfl () rfl sq
 refine sr fun _ K9=>?_
 refine yv y_mv<|yv (y_l1 ag244 rfl)<|yv y_np<|yv (y_f 0 76 Tryz.underlying310 sz76)<|yv (y_f 2 2 Tryz.underlying76 sz2)<|yv (y_l1 ag2 rfl)<|yv (y_gtr rfl rfl) ?_;refine yv y_as<|fk [(1,_),(2,_),(3,_),(7,_),(23,_)] K9 ?_;refine qz ?_ ?_<;>intro hc2<;>try simp only [hyZ] at hc2
 ·have hc2_:¬ n≤(come x now).have_:=by omega
  refine sr fun _ K10=>?_
  refine yv y_as<|fk [(6,_)] K10 ?_;refine Hd.ret<|Hd.inBret<|Hd.thenRet ?_;rw [show whn x now n=NV from (if_neg hc2_).trans (if_pos (by omega))];exact Hd.ret1 rfl () rfl sq
 have hc2_:¬ n≤(come x now).have_:=by omega
 obtain ⟨t1,t2,t3,t4⟩:=tms_b hc (t:=n - (come x now).have_) (by omega) (by omega)
 have ht:tms (come x now) (n - (come x now).have_)=tms x (n - (come x now).have_):=by unfold tms;rw [hr]
 refine Hd.skip<|Hd.inB<|Hd.toK K6 ?_;refine Hd.seq fun _ K11=>?_
 refine Hd.drawsH ([BkP b (come x now),pt b3 [.pointer (some ⟨b,0,none⟩)] 244]) (fun _=>true) mixed ?_;simp only [List.length,Nat.zero_add,Nat.reduceAdd];refine tH 0 rfl (y_l1 ag244 rfl)<|tH 1 rfl y_np<|tH 2 rfl (y_f 4 29 Tryz.underlying310 sz29)<|tH 3 rfl (y_l1 ag29 rfl)<|tH 4 rfl y_mv<|tH 5 rfl y_mv<|tH 6 rfl (y_l1 ag244 rfl)<|tH 7 rfl y_np<|tH 8 rfl (y_f 3 2 Tryz.underlying310 sz2)<|tH 9 rfl (y_l1 ag2 rfl)<|tH 10 rfl (y_subn rfl rfl (by simp only [InK];omega)) ?_;refine tH 12 rfl (y_l1 ag244 rfl)<|tH 13 rfl y_np<|tH 14 rfl (y_f 0 76 Tryz.underlying310 sz76)<|tH 15 rfl (y_f 1 29 Tryz.underlying76 sz29)<|tH 16 rfl (y_l1 ag29 rfl)<|qo 11 ?_;refine Hd.callvE (vs:=[_]) (cap:=[_]) rfl rfl kq (times_ct _ b b3 (come x now) hc (n - (come x now).have_) (by omega) (by omega)) sq ?_
 intro _;refine qk<|tH 17 rfl (y_muln rfl rfl (by simp only [InK];omega)) ?_;refine qo 18 ?_;refine callE rfl fk153 (dl_ct _ (come x now).clk (tms (come x now) (n - (come x now).have_) * (come x now).r.every) hc.clk (by simp only [InK];omega)) sq ?_;intro _;refine qk<|tH 19 rfl y_as<|endH kq ?_;refine sk [(1,_),(8,_)] K11 ?_;refine sr fun _ K12=>?_
 refine yv y_mv<|yv y_mv<|yv (y_max rfl rfl) ?_;refine yv y_as<|fk [(6,_)] K12 ?_;refine Hd.ret ?_;rw [show whn x now n=_ from (if_neg hc2_).trans (if_neg (by omega)),←ht,←hr];exact Hd.ret1 rfl () rfl sq
structure LmA where
 buf:Nat
 b:Nat→Option Nat
 g:Option Nat
structure GrA where
 b:Nat→Option Nat
 many:Int
abbrev pN (g:Option Nat):Value:=.pointer (g.map fun p=>⟨p,0,none⟩)
abbrev encL (l:LmA):List Value:=[.pointer (some ⟨l.buf,0,none⟩),pN (l.b 0),pN (l.b 1),pN l.g]
abbrev encG (G:GrA):List Value:=[pN (G.b 0),pN (G.b 1),.int .i64 G.many,.bool true]
abbrev LmH (lb:Nat) (l:LmA):SP:=pt lb (encL l) 247
abbrev GrH (gb:Nat) (G:GrA):SP:=pt gb (encG G) 251
def GoH (g:Option Nat) (G:GrA):SP:=match g with
 | none=>pu True
 | some gb=>GrH gb G
theorem goH_some (gb:Nat) (G:GrA):GoH (some gb) G=GrH gb G:=rfl
def SlB (p:Option Nat) (x:BkA):SP:=match p with
 | none=>pu True
 | some b=>BkP b x
theorem slB_none (x:BkA):SlB none x=pu True:=rfl
theorem slB_some (b:Nat) (x:BkA):SlB (some b) x=BkP b x:=rfl
def gsl (g:Option Nat) (G:GrA) (k:Nat):Option Nat:=match g with
 | none=>none
 | some _=>G.b k
def itS (s gs:Option Nat):List Nat:=(if s.isSome=true then [0] else [])++(if gs.isSome=true then [1] else [])
abbrev efX (f:BkA→BkA) (i:Nat) (pre:List Nat) (x:BkA):BkA:=if i∈pre then f x else x
abbrev encI (s gs:Option Nat) (i:Nat):List Value:=[pN (if i=0 then s else gs)]
theorem slB_all {f:BkA→BkA} {s gs:Option Nat} (x y:BkA):SlB s (efX f 0 (itS s gs) x)=SlB s (f x)∧SlB gs (efX f 1 (itS s gs) y)=SlB gs (f y):=by
 unfold efX itS
 cases s<;>cases gs<;>simp [SlB]
theorem its_mem {s gs:Option Nat} {pre:List Nat} {c:Nat} (h:pre++[c] <+: itS s gs):(c=0∧pre=[]∧s.isSome=true)∨(c=1∧1 ∉ pre∧gs.isSome=true):=by
 obtain ⟨t,ht⟩:=h
 unfold itS at ht
 cases s with
 | none =>
  cases gs with
  | none=>simp at ht
  | some q =>
   right
   cases pre with
   | nil=>simp at ht;exact ⟨ht.1,by simp,rfl⟩
   | cons a r=>simp at ht
 | some p =>
  cases gs with
  | none =>
   left
   cases pre with
   | nil=>simp at ht;exact ⟨ht.1,rfl,rfl⟩
   | cons a r=>simp at ht
  | some q =>
   cases pre with
   | nil=>left;simp at ht;exact ⟨ht.1,rfl,rfl⟩
   | cons a r =>
    right
    cases r with
    | nil=>simp at ht;exact ⟨ht.2.1,by simp [ht.1],rfl⟩
    | cons b r=>simp at ht
theorem lnone_ct (L:List SP) (lb:Nat) (l:LmA):Ct Tryz.prog 179 #[.pointer (some ⟨lb,0,none⟩)] (LmH lb l::L) (fun _:Unit=>.bool false) (fun _:Unit=>LmH lb l::L):=by
 refine Ct.o1 Tryz.func179 ?_;intro E
 show Hd E 12 _ _ _ _
 refine sr fun _ K1=>?_
 refine yv y_as<|fk [(0,_)] K1 ?_;refine sr fun _ K2=>?_
 refine yv y_mv<|yv (y_eql_pointer Tryz.underlying145 rfl rfl) ?_;refine yv y_mv<|y2 y_mv<|y2 y_np<|y2 (y_f 0 33 Tryz.underlying247 sz33)<|y2 (y_l1 ag33 rfl)<|y2 (y_eql_pointer Tryz.underlying33 rfl rfl) ?_;refine yv (y_pickF rfl rfl) ?_;refine yv y_as<|fk [(2,_)] K2 ?_;refine Hd.ret ?_;exact Hd.ret1 rfl () (by rfl) sq
theorem gnone_ct (L:List SP) (gb:Nat) (G:GrA):Ct Tryz.prog 180 #[.pointer (some ⟨gb,0,none⟩)] (GrH gb G::L) (fun _:Unit=>.bool false) (fun _:Unit=>GrH gb G::L):=by
 refine Ct.o1 Tryz.func180 ?_;intro E
 show Hd E 12 _ _ _ _
 refine sr fun _ K1=>?_
 refine yv y_as<|fk [(0,_)] K1 ?_;refine sr fun _ K2=>?_
 refine yv y_mv<|yv (y_eql_pointer Tryz.underlying141 rfl rfl) ?_;refine yv y_mv<|y2 y_mv<|y2 y_np<|y2 (y_f 3 4 Tryz.underlying251 sz4)<|y2 (y_l1 ag4 rfl)<|y2 (y_not rfl)<|yv (y_pickF rfl rfl) ?_;refine yv y_as<|fk [(2,_)] K2 ?_;refine Hd.ret ?_;exact Hd.ret1 rfl () (by rfl) sq
theorem gnone_nil (L:List SP):Ct Tryz.prog 180 #[.pointer none] (L) (fun _:Unit=>.bool true) (fun _:Unit=>L):=by
 refine Ct.o1 Tryz.func180 ?_;intro E
 show Hd E 12 _ _ _ _
 refine sr fun _ K1=>?_
 refine yv y_as<|fk [(0,_)] K1 ?_;refine sr fun _ K2=>?_
 refine yv y_mv<|yv (y_eql_pointer Tryz.underlying141 rfl rfl) ?_;refine yv y_mv<|n1<|n1<|n1<|n1<|n1<|yv (y_pickT rfl rfl) ?_;refine yv y_as<|fk [(2,_)] K2 ?_;refine Hd.ret ?_;exact Hd.ret1 rfl () (by rfl) sq
theorem buckets_ct (L:List SP) (lb k:Nat):Ct Tryz.prog 181 #[.pointer (some ⟨lb,0,none⟩),.int .i64 (k:Int)] (L) (fun q_:Nat×Nat=>.func (.func 227) #[] #[.pointer (some ⟨q_.1,0,none⟩),.pointer (some ⟨q_.2,0,none⟩)]) (fun q_:Nat×Nat=>pt q_.1 [.pointer (some ⟨lb,0,none⟩)] 145::pt q_.2 [.int .i64 (k:Int)] 3::L):=by
 refine Ct.o2 Tryz.func181 ?_;intro E
 show Hd E 6 _ _ _ _
 refine sr fun _ K1=>?_
 refine Hd.box rfl rfl (fun b2=>?_);refine Hd.box rfl rfl (fun b3=>?_);refine yv y_as<|fk [(2,_),(3,_)] K1 ?_;refine sr fun _ K2=>?_
 refine yv (y_mkf (fv:=[]) (cv:=[_,_]) rfl rfl) ?_;refine yv y_as<|fk [(4,_)] K2 ?_;refine Hd.ret ?_;exact Hd.ret1 rfl (b2,b3) rfl sq
theorem encL_at {l:LmA} {k:Nat} (hk:k < 2):(encL l)[0 + 1 + k * 1]?=some (pN (l.b k)):=by
 rcases (show k=0∨k=1 by omega) with rfl | rfl<;>rfl
theorem encG_at {G:GrA} {k:Nat} (hk:k < 2):(encG G)[0 + 0 + k * 1]?=some (pN (G.b k)):=by
 rcases (show k=0∨k=1 by omega) with rfl | rfl<;>rfl
abbrev bkM (lb bl bk:Nat) (l:LmA) (G:GrA) (k:Nat):List SP:=[pt bl [.pointer (some ⟨lb,0,none⟩)] 145,pt bk [.int .i64 (k:Int)] 3,LmH lb l,GoH l.g G]
theorem buckets_it (lb bl bk:Nat) (l:LmA) (G:GrA) (k:Nat) (hk:k < 2):RX.It Tryz.prog 227 [.pointer (some ⟨bl,0,none⟩),.pointer (some ⟨bk,0,none⟩)] (encI (l.b k) (gsl l.g G k)) (fun ys=>ys=itS (l.b k) (gsl l.g G k)) (fun ys=>ys <+: itS (l.b k) (gsl l.g G k))
  (bkM lb bl bk l G k) [LmH lb l,GoH l.g G]:=by
 intro y J X hy;refine Ct.of (vs:=[.func (.yield y) #[] #[],.pointer (some ⟨bl,0,none⟩),.pointer (some ⟨bk,0,none⟩)]) Tryz.func227 rfl rfl [(0,.func (.yield y) #[] #[]),(1,.pointer (some ⟨bl,0,none⟩)),(2,.pointer (some ⟨bk,0,none⟩))] ⟨rfl,rfl,rfl,trivial⟩ ?_;intro E
 show Hd E 50 _ _ _ _
 refine Hd.heap (pt bl [.pointer (some ⟨lb,0,none⟩)] 145::pt bk [.int .i64 (k:Int)] 3::LmH lb l::GoH l.g G::J []) (fun k' h=>by have:=sep_app h;exact this) ?_
 obtain ⟨buf,tw,g⟩:=l
 obtain ⟨s,hs⟩:∃ s,tw k=s:=⟨_,rfl⟩
 obtain ⟨gs,hgs⟩:∃ gs,gsl g G k=gs:=⟨_,rfl⟩
 have hs0:(LmA.mk buf tw g).b k=s:=hs
 have hgs0:gsl (LmA.mk buf tw g).g G k=gs:=hgs
 rw [hs0,hgs0] at hy ⊢;refine Hd.cutK (ι:=Unit) [(0,_),(1,_),(2,_)] (fun _=>[]) (fun _=>pt bl [.pointer (some ⟨lb,0,none⟩)] 145::pt bk [.int .i64 (k:Int)] 3::LmH lb ⟨buf,tw,g⟩::GoH g G::J (if s.isSome=true then [0] else [])) ?_ ?_ ⟨rfl,rfl,rfl,trivial⟩
 ·refine Hd.seq fun _ K1=>?_
  refine Hd.drawsH (bkM lb bl bk ⟨buf,tw,g⟩ G k) (fun _=>true) mixed ?_;simp only [List.length,Nat.zero_add,Nat.reduceAdd];refine tH 0 rfl (y_l1 ag145 rfl)<|tH 1 rfl (y_l1 ag3 rfl)<|tH 2 rfl y_np<|tH 3 rfl (y_f 1 245 Tryz.underlying247 sz245)<|tH 4 rfl (y_idxA Tryz.underlying245 sz244 rfl rfl (by omega)) ?_;refine tH 5 rfl (y_load1 ag244 rfl (Rd.pt1 pkk (by exact (encL_at hk).trans (by rw [hs0])))) ?_;refine tH 6 rfl (y_neq_pointer Tryz.underlying244 rfl rfl) ?_;refine tH 7 rfl y_mv<|Hd.part (gd:=11) rfl (fun hg0_11=>?_) (fun hg0_11=>?_)
  ·try simp only [hyZ] at hg0_11
   obtain ⟨p,rfl⟩:∃ p,s=some p:=by cases s with | none=>simp at hg0_11 | some p=>exact ⟨p,rfl⟩
   have hp0:[]++[0] <+: itS (some p) gs:=⟨if gs.isSome=true then [1] else [],rfl⟩
   refine Hd.takegH 8 rfl kq kq kq kq rfl rfl y_mv fq sq ?_;refine Hd.takegH 9 rfl kq kq kq kq rfl rfl (y_l1 ag145 rfl) fq sq ?_;refine Hd.takegH 10 rfl kq kq kq kq rfl rfl (y_l1 ag3 rfl) fq sq ?_;refine Hd.takegH 11 rfl kq kq kq kq rfl rfl y_np fq sq ?_;refine Hd.takegH 12 rfl kq kq kq kq rfl rfl (y_f 1 245 Tryz.underlying247 sz245) fq sq ?_;refine Hd.takegH 13 rfl kq kq kq kq rfl rfl (y_idxA Tryz.underlying245 sz244 rfl rfl (by omega)) fq sq ?_;refine Hd.takegH 14 rfl kq kq kq kq rfl rfl (y_load1 ag244 rfl (Rd.pt1 pkk (by exact (encL_at hk).trans (by rw [hs0])))) fq sq ?_;refine qo 15 ?_;refine Hd.unguard rfl rfl ?_;refine Hd.yield (pre:=[]) (c:=0) (M:=bkM lb bl bk ⟨buf,tw,g⟩ G k) hy rfl rfl hp0 (fun k' h=>sep_app (show sep (bkM lb bl bk ⟨buf,tw,g⟩ G k++J []) k' from h)) ?_;intro yb;refine qk<|Hd.takegH 16 rfl kq kq kq kq rfl rfl (y_not rfl) fq sq ?_;refine tH 17 rfl (y_pickT rfl rfl) ?_
   refine endH kq ?_;refine sk [(0,_),(1,_),(2,_),(21,_)] K1 ?_;refine qz ?_ ?_<;>intro hc0<;>try simp only [hyZ] at hc0
   ·obtain rfl:yb=false:=by simpa using hc0
    simp only [cond_false];refine Hd.ret<|Hd.thenRet ?_;exact Hd.ret0 rfl ([0],false) rfl (fun k' h=>Ent.sep (.pure hp0 .same) k' (sep_right (fun k' s=>Ent.sep enn k' s) (show sep (X [0]++[pt bl [.pointer (some ⟨lb,0,none⟩)] 145,pt bk [.int .i64 (k:Int)] 3,LmH lb ⟨buf,tw,g⟩,GoH g G]) k' from h)))
   obtain rfl:yb=true:=by simpa using hc0
   simp only [cond_true];refine Hd.skip<|thenN ?_;exact Hd.meet () sbq (fun k' h=>sep_app h)
  try simp only [hyZ] at hg0_11
  obtain rfl:s=none:=by cases s with | none=>rfl | some p=>simp at hg0_11
  refine qt 8 ?_;refine qt 9 ?_;refine qt 10 ?_;refine qt 11 ?_;refine qt 12 ?_;refine qt 13 ?_;refine qt 14 ?_;refine qo 15 ?_;refine n1<|qk<|qt 16 ?_;refine tH 17 rfl (y_pickF rfl rfl) ?_;refine endH kq ?_;refine sk [(0,_),(1,_),(2,_),(21,_)] K1 ?_;refine Hd.condF rfl ?_;refine Hd.skip<|thenN ?_;exact Hd.meet () sbq (fun k' h=>h)
 intro _
 obtain ⟨pre0,hpre0⟩:∃ pre0,(if s.isSome=true then [0] else [])=pre0:=⟨_,rfl⟩
 rw [hpre0]
 have hit:itS s gs=pre0++(if gs.isSome=true then [1] else []):=by unfold itS;rw [hpre0]
 refine Hd.seq fun _ K2=>?_
 refine Hd.quiet mixed kq ?_;refine Hq.yv (y_l1 ag145 rfl) ?_;refine Hq.yv y_np ?_;refine Hq.yv (y_f 3 141 Tryz.underlying247 sz141) ?_;refine Hq.yv (y_l1 ag141 rfl) ?_;refine Hq.yv (y_neq_pointer Tryz.underlying141 rfl rfl) ?_;refine Hq.yv y_mv ?_;refine Hq.part (gd:=27) rfl (fun hg1_27=>?_) (fun hg1_27=>?_)
 ·try simp only [hyZ] at hg1_27
  obtain ⟨gb,rfl⟩:∃ gb,g=some gb:=by cases g with | none=>simp at hg1_27 | some p=>exact ⟨p,rfl⟩
  have hgk:G.b k=gs:=hgs
  simp only [goH_some];refine Hq.yg rfl rfl (y_l1 ag145 rfl) ?_;refine Hq.yg rfl rfl y_np ?_;refine Hq.yg rfl rfl (y_f 3 141 Tryz.underlying247 sz141) ?_;refine Hq.yg rfl rfl (y_l1 ag141 rfl) ?_;refine Hq.yg rfl rfl (y_l1 ag3 rfl) ?_;refine Hq.yg rfl rfl y_np ?_;refine Hq.yg rfl rfl (y_f 0 245 Tryz.underlying251 sz245) ?_;refine Hq.yg rfl rfl (y_idxA Tryz.underlying245 sz244 rfl rfl (by omega)) ?_;refine Hq.yg rfl rfl (y_load1 ag244 rfl (Rd.pt1 pkk (by exact (encG_at hk).trans (by rw [hgk])))) ?_;refine Hq.yg rfl rfl (y_neq_pointer Tryz.underlying244 rfl rfl) ?_;refine Hq.yv (y_pickT rfl rfl) ?_;refine Hq.nil ?_;refine sk [(0,_),(1,_),(2,_),(38,_)] K2 ?_;refine qz ?_ ?_<;>intro hc1<;>try simp only [hyZ] at hc1
  ·obtain ⟨p,rfl⟩:∃ p,gs=some p:=by cases gs with | none=>simp at hc1 | some p=>exact ⟨p,rfl⟩
   have hp1:pre0++[1] <+: itS s (some p):=by rw [hit];exact ⟨[],by simp⟩
   refine Hd.drawsH ([pt bl [.pointer (some ⟨lb,0,none⟩)] 145,pt bk [.int .i64 (k:Int)] 3,LmH lb ⟨buf,tw,some gb⟩,GrH gb G]) (fun _=>true) mixed ?_;simp only [List.length,Nat.zero_add,Nat.reduceAdd];refine tH 0 rfl y_mv<|tH 1 rfl (y_l1 ag145 rfl)<|tH 2 rfl y_np<|tH 3 rfl (y_f 3 141 Tryz.underlying247 sz141)<|tH 4 rfl (y_l1 ag141 rfl)<|tH 5 rfl (y_l1 ag3 rfl)<|tH 6 rfl y_np<|tH 7 rfl (y_f 0 245 Tryz.underlying251 sz245)<|tH 8 rfl (y_idxA Tryz.underlying245 sz244 rfl rfl (by omega)) ?_;refine tH 9 rfl (y_load1 ag244 rfl (Rd.pt1 pkk (by exact (encG_at hk).trans (by rw [hgk])))) ?_;refine qo 10 ?_;refine Hd.yield (pre:=pre0) (c:=1) (M:=[pt bl [.pointer (some ⟨lb,0,none⟩)] 145,pt bk [.int .i64 (k:Int)] 3,LmH lb ⟨buf,tw,some gb⟩,GrH gb G]) hy rfl rfl hp1 (fun k' h=>sep_app (show sep ([pt bl [.pointer (some ⟨lb,0,none⟩)] 145,pt bk [.int .i64 (k:Int)] 3,LmH lb ⟨buf,tw,some gb⟩,GrH gb G]++J pre0) k' from h)) ?_
   intro yb;refine qk<|endH kq ?_;refine slots [] sbq ?_
   cases yb with
   | true =>
    simp only [cond_true];exact Hd.end0 rfl (pre0++[1],true) rfl (fun k' h=>Ent.sep (.pure (by show pre0++[1]=itS s (some p);rw [hit];rfl) .same) k' (sep_right (fun k' s=>Ent.sep enn k' s) (show sep (J (pre0++[1])++[pt bl [.pointer (some ⟨lb,0,none⟩)] 145,pt bk [.int .i64 (k:Int)] 3,LmH lb ⟨buf,tw,some gb⟩,GrH gb G]) k' from h)))
   | false =>
    simp only [cond_false];exact Hd.end0 rfl (pre0++[1],false) rfl (fun k' h=>Ent.sep (.pure hp1 .same) k' (sep_right (fun k' s=>Ent.sep enn k' s) (show sep (X (pre0++[1])++[pt bl [.pointer (some ⟨lb,0,none⟩)] 145,pt bk [.int .i64 (k:Int)] 3,LmH lb ⟨buf,tw,some gb⟩,GrH gb G]) k' from h)))
  refine Hd.skip ?_
  obtain rfl:gs=none:=by cases gs with | none=>rfl | some p=>simp at hc1
  have hit2:pre0=itS s none:=by rw [hit];simp
  exact Hd.end0 rfl (pre0,true) rfl (fun k' h=>Ent.sep (.pure hit2 .same) k' (sep_right (fun k' s=>Ent.sep enn k' s) (sep_app (show sep ([pt bl [.pointer (some ⟨lb,0,none⟩)] 145,pt bk [.int .i64 (k:Int)] 3,LmH lb ⟨buf,tw,some gb⟩,GrH gb G]++J pre0) k' from h))))
 try simp only [hyZ] at hg1_27
 obtain rfl:g=none:=by cases g with | none=>rfl | some p=>simp at hg1_27
 obtain rfl:gs=none:=hgs.symm
 refine Hq.ng rfl rfl rfl ?_;refine Hq.ng rfl rfl rfl ?_;refine Hq.ng rfl rfl rfl ?_;refine Hq.ng rfl rfl rfl ?_;refine Hq.ng rfl rfl rfl ?_;refine Hq.ng rfl rfl rfl ?_;refine Hq.ng rfl rfl rfl ?_;refine Hq.ng rfl rfl rfl ?_;refine Hq.ng rfl rfl rfl ?_;refine Hq.ng rfl rfl rfl ?_;refine Hq.yv (y_pickF rfl rfl) ?_;refine Hq.nil ?_;refine sk [(0,_),(1,_),(2,_),(38,_)] K2 ?_;refine Hd.condF rfl ?_;refine Hd.skip ?_
 have hit2:pre0=itS s none:=by rw [hit];simp
 exact Hd.end0 rfl (pre0,true) rfl (fun k' h=>Ent.sep (.pure hit2 .same) k' (sep_right (fun k' s=>Ent.sep enn k' s) (sep_app (show sep ([pt bl [.pointer (some ⟨lb,0,none⟩)] 145,pt bk [.int .i64 (k:Int)] 3,LmH lb ⟨buf,tw,none⟩,GoH none G]++J pre0) k' from h))))
theorem item_out {f:BkA→BkA} {s gs:Option Nat} {X Y:BkA} {pre:List Nat} {c:Nat} (h:pre++[c] <+: itS s gs):∃ (p:Nat) (z:BkA) (O:SP),pN (if c=0 then s else gs)=.pointer (some ⟨p,0,none⟩) ∧
  ((z=X∧c=0)∨(z=Y∧c=1)) ∧
  (∀ L k,sep (SlB s (efX f 0 pre X)::SlB gs (efX f 1 pre Y)::L) k→sep (BkP p z::O::L) k) ∧
  (∀ L k,sep (BkP p (f z)::O::L) k→sep (SlB s (efX f 0 (pre++[c]) X)::SlB gs (efX f 1 (pre++[c]) Y)::L) k):=by
 rcases its_mem h with ⟨rfl,rfl,hs⟩ | ⟨rfl,hp,hs⟩
 ·obtain ⟨p,rfl⟩:∃ p,s=some p:=by cases s with | none=>simp at hs | some p=>exact ⟨p,rfl⟩
  exact ⟨p,X,SlB gs Y,rfl,.inl ⟨rfl,rfl⟩,fun L k h=>by rw [←slB_some];simpa [efX] using h,fun L k h=>by rw [←slB_some] at h;simpa [efX] using h⟩
 ·obtain ⟨p,rfl⟩:∃ p,gs=some p:=by cases gs with | none=>simp at hs | some p=>exact ⟨p,rfl⟩
  have e0:efX f 1 pre Y=Y:=if_neg hp
  have e1:efX f 1 (pre++[1]) Y=f Y:=if_pos (by simp)
  have e2:efX f 0 (pre++[1]) X=efX f 0 pre X:=by unfold efX;simp
  refine ⟨p,Y,SlB s (efX f 0 pre X),rfl,.inr ⟨rfl,rfl⟩,fun L k h=>?_,fun L k h=>?_⟩
  ·rw [e0,slB_some] at h;exact Ent.sep enn k h
  ·rw [e1,e2,slB_some];exact Ent.sep enn k h
abbrev LgL (lb:Nat) (l:LmA) (G:GrA) (x y:Nat→BkA) (L:List SP):List SP:=LmH lb l::GoH l.g G::SlB (l.b 0) (x 0)::SlB (l.b 1) (x 1)::SlB (gsl l.g G 0) (y 0)::SlB (gsl l.g G 1) (y 1)::L
theorem lg_k {lb:Nat} {l:LmA} {G:GrA} {x y:Nat→BkA} {k:Nat} (hk:k < 2) {L:List SP}:∀ h,sep (LgL lb l G x y L) h→sep (SlB (l.b k) (x k)::SlB (gsl l.g G k) (y k)::SlB (l.b (1 - k)) (x (1 - k))::SlB (gsl l.g G (1 - k)) (y (1 - k))::LmH lb l::GoH l.g G::L) h:=fun h s=>by
 rcases (show k=0∨k=1 by omega) with rfl | rfl
 ·exact Ent.sep enn h s
 ·exact Ent.sep enn h s
theorem lg_l {lb:Nat} {l:LmA} {G:GrA} {x y:Nat→BkA} {k:Nat} (hk:k < 2) {L:List SP}:∀ h,sep (SlB (l.b k) (x k)::SlB (gsl l.g G k) (y k)::SlB (l.b (1 - k)) (x (1 - k))::SlB (gsl l.g G (1 - k)) (y (1 - k))::LmH lb l::GoH l.g G::L) h→sep (LgL lb l G x y L) h:=fun h s=>by
 rcases (show k=0∨k=1 by omega) with rfl | rfl
 ·exact Ent.sep enn h s
 ·exact Ent.sep enn h s
structure ConOk (x y:Nat→BkA):Prop where
 x:∀ k,BkOk (x k)
 y:∀ k,BkOk (y k)
theorem ef_nil (f:BkA→BkA) (i:Nat) (x:BkA):efX f i [] x=x:=rfl
def cmA (now:Int) (x:Nat→BkA):Nat→BkA:=fun k=>come (x k) now
abbrev cmX (now:Int) (k:Nat) (x:Nat→BkA):Nat→BkA:=fun j=>if j < k then come (x j) now else x j
theorem cmX_n (now:Int) (k:Nat) (x:Nat→BkA):cmX now k x (1 - k)=cmX now (k + 1) x (1 - k)∨¬ k < 2:=by
 by_cases hk:k < 2
 ·left
  rcases (show k=0∨k=1 by omega) with rfl | rfl
  ·rfl
  ·rfl
 ·right;exact hk
theorem lcomes_ct (L:List SP) (lb:Nat) (l:LmA) (G:GrA) (x y:Nat→BkA) (h:ConOk x y) (now:Int) (hn:InK .u64 now):Ct Tryz.prog 184 #[.pointer (some ⟨lb,0,none⟩),.int .u64 now] (LgL lb l G x y L) (fun _:Unit=>.tuple #[]) (fun _:Unit=>LgL lb l G (cmA now x) (cmA now y) L):=by
 refine Ct.o2M Tryz.func184 ?_;intro E
 show Hd E 17 _ _ _ _
 refine sr fun _ K1=>?_
 refine Hd.box rfl rfl (fun b3=>?_);refine fk [(0,_),(3,_)] K1 ?_;refine sr fun _ K2=>?_
 refine yv y_mv<|fk [(0,_),(3,_),(6,_)] K2 ?_;refine Hd.block<|Hd.loopM (ι:=Nat) [(0,_),(3,_)] (fun k=>[(6,.int .i64 (k:Int))]) (fun k=>pu (k≤2)::LgL lb l G (cmX now k x) (cmX now k y) (pt b3 [.int .u64 now] 29::L)) (fun k=>2 - k) 0 sbq sbq (fun q s=>Ent.sep (.pure (Nat.zero_le _) .same) q (show sep (LgL lb l G x y (pt b3 [.int .u64 now] 29::L)) q from Ent.sep enn q s)) ?_;intro rs0 k
 try dsimp only
 refine Hd.heap (pu _::MkS rs0::_) (fun q s=>Ent.sep (.pick (.there .here) (.pick .here .same)) q s) ?_;refine Hd.pure (fun hp0=>?_)
 try dsimp only at hp0
 refine sr fun _ K3=>?_
 refine yv (y_lss rfl rfl) ?_;refine fk [(0,_),(3,_),(6,_),(7,_)] K3 ?_;refine Hd.seq fun _ K4=>?_
 refine qz ?_ ?_<;>intro hc0<;>try simp only [hyZ] at hc0
 ·have hk:k < 2:=by omega
  refine qv K4<|Hd.seq fun _ K5=>?_
  refine Hd.block<|sr fun _ K6=>?_
  refine yv y_mv<|yv y_as<|fk [(0,_),(3,_),(4,_),(6,_)] K6 ?_;refine sr fun _ K7=>?_
  refine yv y_mv<|yv y_mv<|callE rfl fk181 (buckets_ct _ lb k) sq ?_;rintro ⟨bl,bk⟩;dsimp only;refine Hd.heap (pt bl [.pointer (some ⟨lb,0,none⟩)] 145::pt bk [.int .i64 (k:Int)] 3::MkS rs0::SlB (l.b k) (cmX now k x k)::SlB (gsl l.g G k) (cmX now k y k)::SlB (l.b (1 - k)) (cmX now k x (1 - k))::SlB (gsl l.g G (1 - k)) (cmX now k y (1 - k))::LmH lb l::GoH l.g G::pt b3 [.int .u64 now] 29::L) (fun q s=>sep_right (M:=[_,_,_]) (fun q s=>lg_k hk q s) s) ?_
  have hxk:cmX now k x k=x k:=if_neg (Nat.lt_irrefl k)
  have hyk:cmX now k y k=y k:=if_neg (Nat.lt_irrefl k)
  rw [hxk,hyk];refine fk [(0,_),(3,_),(6,_),(11,_)] K7 ?_;refine Hd.block<|Hd.rangeF (enc:=encI (l.b k) (gsl l.g G k)) (S:=fun ys=>ys=itS (l.b k) (gsl l.g G k)) (Sp:=fun ys=>ys <+: itS (l.b k) (gsl l.g G k))
   (fun pre=>SlB (l.b k) (efX (come · now) 0 pre (x k))::SlB (gsl l.g G k) (efX (come · now) 1 pre (y k))::SlB (l.b (1 - k)) (cmX now k x (1 - k))::SlB (gsl l.g G (1 - k)) (cmX now k y (1 - k))::pt b3 [.int .u64 now] 29::MkS rs0::L) (fun _ _=>[pu False])
   rfl kq (fun _=>rfl) rfl (buckets_it lb bl bk l G k hk) (by simp only [ef_nil];refine Ent.sep ?_;refine Ent.pick pkk ?_;refine Ent.pick pkk ?_;refine Ent.pick pkk ?_;refine Ent.pick pkk ?_;refine Ent.pick pkk ?_;refine Ent.pick pkk ?_;exact Ent.swap (L:=[_,_,_,_])) ?_ ?_ ?_
  ·intro E l' R pre c N hR hG
   obtain ⟨p,z,O,hpp,hz,ho,hi⟩:=item_out (f:=(come · now)) (X:=x k) (Y:=y k) hG
   have hzo:BkOk z:=by
    rcases hz with ⟨rfl,_⟩ | ⟨rfl,_⟩
    ·exact h.x k
    ·exact h.y k
   unfold Rnd;simp only [List.cons_append,List.nil_append,pz,encI];rw [hpp];refine Hd.region<|yv y_as<|Hd.nil<|slots [(0,_),(3,_),(5,_),(6,_)] sbq ?_;refine thenN<|Hd.begin hR pkk ?_;refine Hd.block<|Hd.heap (BkP p z::O::_) (fun q s=>ho _ q (Ent.sep (.pick pkk (.pick pkk .same)) q s)) ?_;refine Hd.region<|yv y_mv<|yv (y_l1 ag29 rfl)<|callE rfl fk189 (have_ct _ p z hzo now hn) sq ?_;intro _;refine Hd.nil<|slots [(0,_),(3,_),(6,_)] sbq ?_;refine Hd.inB<|Hd.reN ?_;simp only [List.cons_append,List.nil_append];intro q s
   have s1:sep (BkP p (come z now)::O::_) q:=Ent.sep (.pick pkk (.pick pkk .same)) q s
   have s2:=hi _ q s1
   exact Ent.sep enn q s2
  ·intro r0 ys hys
   obtain rfl:ys=itS (l.b k) (gsl l.g G k):=hys
   rw [(slB_all (x k) (y k)).1,(slB_all (x k) (y k)).2]
   try simp only [List.cons_append,List.nil_append]
   refine Hd.inB<|Hd.inB<|Hd.toK K5 ?_;refine Hd.region<|yv (y_addn rfl rfl (by simp only [InK];omega)) ?_;refine yv y_mv<|Hd.nil<|slots [(0,_),(3,_),(6,_)] sbq ?_;refine thenN ?_
   have e1:∀ x:Nat→BkA,cmX now (k + 1) x k=come (x k) now:=fun x=>if_pos (Nat.lt_succ_self k)
   have e2:∀ x:Nat→BkA,cmX now (k + 1) x (1 - k)=cmX now k x (1 - k):=fun x=>((cmX_n now k x).resolve_right (fun h=>h hk)).symm
   refine Hd.againM (r0::rs0) (k + 1) rfl (by omega) sbq (fun q s=>MkS.cons q ?_)
   have s2:sep ([ob r0 (.deferred (some [])),MkS rs0]++(SlB (l.b k) (cmX now (k + 1) x k)::SlB (gsl l.g G k) (cmX now (k + 1) y k)::SlB (l.b (1 - k)) (cmX now (k + 1) x (1 - k))::SlB (gsl l.g G (1 - k)) (cmX now (k + 1) y (1 - k))::LmH lb l::GoH l.g G::pt b3 [.int .u64 now] 29::L)) q:=by
    rw [e1,e1,e2,e2];exact Ent.sep (.pick pkk (.pick pkk (.pick pkk (.pick pkk (.pick pkk (.pick pkk (.pick pkk (.pick pkk (.pick pkk Ent.left))))))))) q s
   exact sep_right (M:=[_,_]) (fun q s=>Ent.sep (.pure (show k + 1≤2 by omega) .same) q (lg_l hk q s)) s2
  rintro r0_0 (_ | id0) pre0 hG0
  ·exact Hd.absurd (by exact id)
  exact Hd.absurd (by exact id)
 refine Hd.exit<|Hd.thenExit<|Hd.thenExit<|Hd.inBexit ?_
 obtain rfl:k=2:=by omega
 have f1:∀ x:Nat→BkA,cmX now 2 x 0=cmA now x 0:=fun x=>if_pos (by decide)
 have f2:∀ x:Nat→BkA,cmX now 2 x 1=cmA now x 1:=fun x=>if_pos (by decide)
 refine Hd.heap (LgL lb l G (cmA now x) (cmA now y) (MkS rs0::pt b3 [.int .u64 now] 29::L)) (fun q s=>?_) ?_
 ·have s2:sep (MkS rs0::LmH lb l::GoH l.g G::SlB (l.b 0) (cmX now 2 x 0)::SlB (l.b 1) (cmX now 2 x 1)::SlB (gsl l.g G 0) (cmX now 2 y 0)::SlB (gsl l.g G 1) (cmX now 2 y 1)::pt b3 [.int .u64 now] 29::L) q:=s
  rw [f1,f1,f2,f2] at s2;exact Ent.sep enn q s2
 exact Hd.endM (fun a fr=>Lv.marksP pkk (Lv.end0 rfl () rfl sq))
theorem item_same {s gs:Option Nat} (X Y:BkA) {pre:List Nat} {c:Nat} (h:pre++[c] <+: itS s gs):∃ (p:Nat) (z:BkA) (O:SP),pN (if c=0 then s else gs)=.pointer (some ⟨p,0,none⟩) ∧
  (z=if c=0 then X else Y)∧(c=0∨c=1) ∧
  (∀ L k,sep (SlB s X::SlB gs Y::L) k→sep (BkP p z::O::L) k) ∧
  (∀ L k,sep (BkP p z::O::L) k→sep (SlB s X::SlB gs Y::L) k):=by
 rcases its_mem h with ⟨rfl,rfl,hs⟩ | ⟨rfl,hp,hs⟩
 ·obtain ⟨p,rfl⟩:∃ p,s=some p:=by cases s with | none=>simp at hs | some p=>exact ⟨p,rfl⟩
  exact ⟨p,X,SlB gs Y,rfl,rfl,.inl rfl,fun L k h=>h,fun L k h=>h⟩
 ·obtain ⟨p,rfl⟩:∃ p,gs=some p:=by cases gs with | none=>simp at hs | some p=>exact ⟨p,rfl⟩
  refine ⟨p,Y,SlB s X,rfl,rfl,.inr rfl,fun L k h=>?_,fun L k h=>?_⟩
  ·rw [slB_some] at h;exact Ent.sep enn k h
  ·rw [slB_some];exact Ent.sep enn k h
def nV (X Y:BkA) (pre:List Nat):Int:=pre.foldl (fun n i=>min n (if i=0 then X.have_ else Y.have_)) 4096
theorem nV_snoc (X Y:BkA) (pre:List Nat) (c:Nat):nV X Y (pre++[c])=min (nV X Y pre) (if c=0 then X.have_ else Y.have_):=by unfold nV;rw [List.foldl_append];rfl
theorem nV_le (X Y:BkA):∀ (pre t:List Nat),nV X Y (pre++t)≤nV X Y pre
 | pre,[]=>by rw [List.append_nil];exact Int.le_refl _
 | pre,c::t=>by
  have h:=nV_le X Y (pre++[c]) t
  rw [List.append_assoc,nV_snoc] at h
  have e:pre++([c]++t)=pre++c::t:=rfl
  rw [e] at h;omega
def lvS (s gs:Option Nat) (X Y:BkA):Int:=if nV X Y (itS s gs) < 1 then 0 else nV X Y (itS s gs)
theorem lvS_in (s gs:Option Nat) (X Y:BkA):0≤lvS s gs X Y∧lvS s gs X Y≤4096:=by
 have:=nV_le X Y [] (itS s gs)
 rw [List.nil_append] at this
 have h0:nV X Y []=4096:=rfl
 unfold lvS
 split<;>omega
structure AtN (now:Int) (x y:Nat→BkA):Prop where
 x:∀ k,k < 2→come (x k) now=x k
 y:∀ k,k < 2→come (y k) now=y k
theorem at_come {x y:Nat→BkA} (h:ConOk x y) {now:Int} (hn:InK .u64 now):AtN now (cmA now x) (cmA now y) :=
 ⟨fun k hk=>come_idem (h.x k) hn,fun k hk=>come_idem (h.y k) hn⟩
theorem con_come {x y:Nat→BkA} (h:ConOk x y) {now:Int} (hn:InK .u64 now):ConOk (cmA now x) (cmA now y) :=
 ⟨fun k=>come_ok (h.x k) hn,fun k=>come_ok (h.y k) hn⟩
theorem leave_ct (L:List SP) (lb:Nat) (l:LmA) (G:GrA) (x y:Nat→BkA) (h:ConOk x y) (k:Nat) (hk:k < 2) (now:Int) (hn:InK .u64 now) (hat:AtN now x y):Ct Tryz.prog 185 #[.pointer (some ⟨lb,0,none⟩),.int .i64 (k:Int),.int .u64 now] (LgL lb l G x y L) (fun _:Unit=>.int .i64 (lvS (l.b k) (gsl l.g G k) (x k) (y k))) (fun _:Unit=>LgL lb l G x y L):=by
 refine Ct.o3M Tryz.func185 ?_;intro E
 show Hd E 21 _ _ _ _
 refine sr fun _ K1=>?_
 refine Hd.box rfl rfl (fun b5=>?_);refine yv y_as<|fk [(0,_),(1,_),(5,_)] K1 ?_;refine Hd.scope ?_;refine sr fun _ K2=>?_
 refine Hd.alloc zr2 (fun b7=>?_);refine Hd.store1 sz2 rfl rfl rfl pkk (by decide) ?_
 try simp only [hyS]
 refine fk [(0,_),(1,_),(5,_),(7,_)] K2 ?_;refine Hd.seq fun _ K3=>?_
 refine Hd.label ?_;refine Hd.toK K3 ?_;refine Hd.seq fun _ K4=>?_
 refine sr fun _ K5=>?_
 refine yv y_mv<|yv y_mv<|callE rfl fk181 (buckets_ct _ lb k) sq ?_;rintro ⟨bl,bk⟩;dsimp only;refine Hd.heap (pt bl [.pointer (some ⟨lb,0,none⟩)] 145::pt bk [.int .i64 (k:Int)] 3::pt b7 [.int .i64 4096] 2::pt b5 [.int .u64 now] 29::SlB (l.b k) (x k)::SlB (gsl l.g G k) (y k)::SlB (l.b (1 - k)) (x (1 - k))::SlB (gsl l.g G (1 - k)) (y (1 - k))::LmH lb l::GoH l.g G::L) (fun q s=>sep_right (M:=[_,_,_,_]) (fun q s=>lg_k hk q s) s) ?_;refine fk [(5,_),(7,_),(11,_)] K5 ?_;refine Hd.block<|Hd.rangeF (enc:=encI (l.b k) (gsl l.g G k)) (S:=fun ys=>ys=itS (l.b k) (gsl l.g G k)) (Sp:=fun ys=>ys <+: itS (l.b k) (gsl l.g G k))
  (fun pre=>pu (1≤nV (x k) (y k) pre)::SlB (l.b k) (x k)::SlB (gsl l.g G k) (y k)::SlB (l.b (1 - k)) (x (1 - k))::SlB (gsl l.g G (1 - k)) (y (1 - k))::pt b7 [.int .i64 (nV (x k) (y k) pre)] 2::pt b5 [.int .u64 now] 29::L)
  (fun j pre=>pu (j=some 0)::pu (nV (x k) (y k) pre < 1)::SlB (l.b k) (x k)::SlB (gsl l.g G k) (y k)::SlB (l.b (1 - k)) (x (1 - k))::SlB (gsl l.g G (1 - k)) (y (1 - k))::pt b7 [.int .i64 0] 2::pt b5 [.int .u64 now] 29::L)
  rfl kq (fun _=>rfl) rfl (buckets_it lb bl bk l G k hk) (by refine Ent.sep ?_;refine Ent.pure (by show (1:Int)≤4096;omega) ?_;refine Ent.pick pkk ?_;refine Ent.pick pkk ?_;refine Ent.pick pkk ?_;refine Ent.pick pkk ?_;refine Ent.eq pkk (pt_eq (by rfl)) ?_;refine Ent.pick pkk ?_;exact Ent.swap (L:=[_,_,_,_])) ?_ ?_ ?_
 ·intro E l' R pre c N hR hG
  obtain ⟨p,z,O,hpp,hz,hc01,ho,hi⟩:=item_same (x k) (y k) hG
  have hzo:BkOk z:=by rw [hz];split;exact h.x k;exact h.y k
  have hza:come z now=z:=by rw [hz];split;exact hat.x k hk;exact hat.y k hk
  have hnv:=nV_snoc (x k) (y k) pre c
  have hzh:(if c=0 then (x k).have_ else (y k).have_)=z.have_:=by rw [hz];split<;>rfl
  rw [hzh] at hnv;unfold Rnd;simp only [List.cons_append,List.nil_append,pz,encI];rw [hpp];refine Hd.region<|yv y_as<|Hd.nil<|slots [(5,_),(7,_),(8,_)] sbq ?_;refine thenN<|Hd.begin hR pkk ?_;refine Hd.block<|Hd.seq fun _ K6=>?_
  refine Hd.heap (pu (1≤nV (x k) (y k) pre)::_) (fun q s=>Ent.sep (.pick pkk .same) q s) ?_;refine Hd.pure (fun hge=>?_);refine Hd.heap (BkP p z::O::_) (fun q s=>ho _ q (Ent.sep (.pick pkk (.pick pkk .same)) q s)) ?_;refine Hd.drawsH ([pt b7 [.int .i64 (nV (x k) (y k) pre)] 2,pt b5 [.int .u64 now] 29]) (fun j=>!([5].contains j)) mixed ?_;simp only [List.length,Nat.zero_add,Nat.reduceAdd];refine tH 0 rfl (y_l1 ag2 rfl)<|tH 1 rfl y_mv<|tH 2 rfl (y_l1 ag29 rfl)<|qo 3 ?_;refine callE rfl fk189 (have_ct _ p z hzo now hn) sq ?_;intro _;rw [hza];refine qk<|tH 4 rfl (y_min rfl rfl) ?_;refine qo 5 ?_;refine Hd.store1 sz2 rfl rfl rfl pkk (by simp;done) ?_
  try simp only [hyS]
  refine qn<|endH kq ?_;rw [←hnv];refine sk [(7,_)] K6 ?_;refine sr fun _ K7=>?_
  refine yv (y_l1 ag2 rfl)<|yv (y_lss rfl rfl) ?_;refine fk [(7,_),(19,_)] K7 ?_;refine qz ?_ ?_<;>intro hc0<;>try simp only [hyZ] at hc0
  ·refine sr fun _ K8=>?_
   refine Hd.store1 sz2 rfl rfl rfl pkk (by simp;done) ?_
   try simp only [hyS]
   refine fk [(7,_)] K8 ?_;refine Hd.exit<|Hd.inBexit' rfl ?_;refine Hd.reX ?_;simp only [List.cons_append,List.nil_append];intro q s
   have s1:sep (BkP p z::O::_) q:=Ent.sep (.pick pkk (.pick pkk .same)) q s
   have s2:=hi _ q s1
   exact Ent.sep (.pick pkk (.pure (by trivial) (.pure (by omega) enn))) q s2
  refine Hd.skip<|Hd.inB<|Hd.reN ?_;simp only [List.cons_append,List.nil_append];intro q s
  have s1:sep (BkP p z::O::_) q:=Ent.sep (.pick pkk (.pick pkk .same)) q s
  have s2:=hi _ q s1
  exact Ent.sep (.pick pkk (.pure (by omega) enn)) q s2
 ·intro r0 ys hys
  obtain rfl:ys=itS (l.b k) (gsl l.g G k):=hys
  simp only [List.cons_append,List.nil_append];refine Hd.pure (fun hge=>?_)
  try simp only [List.cons_append,List.nil_append]
  refine Hd.inB<|Hd.toK K4 ?_;refine sr fun _ K9=>?_
  refine yv (y_l1 ag2 rfl)<|yv y_as<|fk [(6,_)] K9 ?_;refine Hd.ret<|Hd.scRet ?_;rw [show lvS (l.b k) (gsl l.g G k) (x k) (y k)=nV (x k) (y k) (itS (l.b k) (gsl l.g G k)) from if_neg (by omega)];exact Hd.retM (fun a fr=>Lv.mark pkk (Lv.end1 fr rfl () rfl (fun q s=>lg_l hk q (Ent.sep enn q s))))
 rintro r0_0 (_ | id0) pre0 hG0
 ·exact Hd.absurd (by simp)
 by_cases hid0:id0=0
 ·subst hid0
  simp only [List.cons_append,List.nil_append];refine Hd.pure (fun _=>?_);refine Hd.pure (fun hlt=>?_)
  try simp only [List.cons_append,List.nil_append]
  refine Hd.exit<|Hd.inBexit<|Hd.toK K4 ?_;refine sr fun _ K10=>?_
  refine yv (y_l1 ag2 rfl)<|yv y_as<|fk [(6,_)] K10 ?_;refine Hd.ret<|Hd.scRet ?_
  obtain ⟨t,ht⟩:=hG0
  have hle:=nV_le (x k) (y k) pre0 t
  rw [ht] at hle;rw [show lvS (l.b k) (gsl l.g G k) (x k) (y k)=0 from if_pos (by omega)];exact Hd.retM (fun a fr=>Lv.mark pkk (Lv.end1 fr rfl () rfl (fun q s=>lg_l hk q (Ent.sep enn q s))))
 ·exact Hd.absurd (by simpa using hid0)
theorem leaves_ct (L:List SP) (lb:Nat) (l:LmA) (G:GrA) (x y:Nat→BkA) (h:ConOk x y) (now:Int) (hn:InK .u64 now):Ct Tryz.prog 102 #[.pointer (some ⟨lb,0,none⟩),.int .u64 now] (LgL lb l G x y L) (fun _:Unit=>.tuple #[.int .i64 (lvS (l.b 0) (gsl l.g G 0) (cmA now x 0) (cmA now y 0)),.int .i64 (lvS (l.b 1) (gsl l.g G 1) (cmA now x 1) (cmA now y 1))]) (fun _:Unit=>LgL lb l G (cmA now x) (cmA now y) L):=by
 refine Ct.o2 Tryz.func102 ?_;intro E
 show Hd E 17 _ _ _ _
 refine sr fun _ K1=>?_
 refine yv y_as<|yv y_as<|fk [(0,_),(1,_)] K1 ?_;refine Hd.seq fun _ K2=>?_
 refine sr fun _ K3=>?_
 refine yv y_mv<|callE rfl fk179 (lnone_ct _ lb l) sq ?_;intro _;refine fk [(0,_),(1,_),(7,_)] K3 ?_;refine Hd.condF rfl ?_;refine qv K2<|sr fun _ K4=>?_
 refine yv y_mv<|yv y_mv<|callE rfl fk184 (lcomes_ct _ lb l G x y h now hn) sq ?_;intro _;refine fk [(0,_),(1,_)] K4 ?_;refine sr fun _ K5=>?_
 refine yv y_mv<|yv y_mv<|callE rfl fk185 (leave_ct _ lb l G (cmA now x) (cmA now y) (con_come h hn) 0 (by decide) now hn (at_come h hn)) sq ?_;intro _;refine yv y_mv<|yv y_mv<|callE rfl fk185 (leave_ct _ lb l G (cmA now x) (cmA now y) (con_come h hn) 1 (by decide) now hn (at_come h hn)) sq ?_;intro _;refine yv y_as<|yv y_as<|fk [(4,_),(5,_)] K5 ?_;refine Hd.ret ?_;exact Hd.ret2 rfl () rfl rfl (by rfl) sq
end Lm
end Go.Proofs.YtmpemhbfgbochaaGreatDoor
namespace Go.Proofs.YtmpemhbfgbochaaGreatDoor
open Go.RX Fx
namespace Lm
open Bu Wo
abbrev flV:List Value:=[.int .i64 2,.int .i64 4]
theorem fl_at {k:Nat} (hk:k < 2):(flV.toArray)[k * 1]?=some (.int .i64 (flagA k)):=by
 rcases (show k=0∨k=1 by omega) with rfl | rfl<;>rfl
def lvA (l:LmA) (G:GrA) (x y:Nat→BkA) (k:Nat):Int:=lvS (l.b k) (gsl l.g G k) (x k) (y k)
def lwK (l:LmA) (G:GrA) (x y:Nat→BkA) (m:Int) (k:Nat):Int:=(List.range k).foldl (fun m k=>if lvA l G x y k=0 then bits .andNot .i64 m (flagA k) else m) m
theorem lwK_succ (l:LmA) (G:GrA) (x y:Nat→BkA) (m:Int) (k:Nat):lwK l G x y m (k + 1)=if lvA l G x y k=0 then bits .andNot .i64 (lwK l G x y m k) (flagA k) else lwK l G x y m k:=by
 unfold lwK;rw [List.range_succ,List.foldl_append];rfl
theorem cmA_idem {x:Nat→BkA} (h:∀ k,BkOk (x k)) {now:Int} (hn:InK .u64 now):cmA now (cmA now x)=cmA now x:=funext fun k=>come_idem (h k) hn
theorem lwants_ct (L:List SP) (lb wb:Nat) (l:LmA) (G:GrA) (x y:Nat→BkA) (h:ConOk x y) (X:BfA) (now:Int) (hn:InK .u64 now) (hF:Rd L 0 0 flV):Ct Tryz.prog 104 #[.pointer (some ⟨lb,0,none⟩),.int .u64 now] (LgL lb l G x y (BufP l.buf wb X::L)) (fun _:Unit=>.int .i64 (lwK l G (cmA now x) (cmA now y) (wantsA X) 2)) (fun _:Unit=>LgL lb l G (cmA now x) (cmA now y) (BufP l.buf wb X::L)):=by
 refine Ct.o2 Tryz.func104 ?_;intro E
 show Hd E 33 _ _ _ _
 refine sr fun _ K1=>?_
 refine yv y_as<|fk [(0,_),(1,_)] K1 ?_;refine Hd.seq fun _ K2=>?_
 refine sr fun _ K3=>?_
 refine yv y_mv<|callE rfl fk179 (lnone_ct _ lb l) sq ?_;intro _;refine fk [(0,_),(1,_),(9,_)] K3 ?_;refine Hd.condF rfl ?_;refine qv K2<|sr fun _ K4=>?_
 refine yv y_mv<|yv y_mv<|callE rfl fk184 (lcomes_ct _ lb l G x y h now hn) sq ?_;intro _;refine fk [(0,_),(1,_)] K4 ?_;refine sr fun _ K5=>?_
 refine yv y_mv<|yv y_np<|yv (y_f 0 33 Tryz.underlying247 sz33)<|yv (y_l1 ag33 rfl)<|callE rfl fk30 (wants_ct _ l.buf wb X) sq ?_;intro _;refine yv y_as<|fk [(0,_),(1,_),(5,_)] K5 ?_;refine Hd.seq fun _ K6=>?_
 refine sr fun _ K7=>?_
 refine yv (y_loadn (us:=flV) ag263 rfl (Rd.mono hF sq) (by exact sz263)) ?_;refine yv y_mv<|fk [(0,_),(1,_),(5,_),(18,_),(19,_)] K7 ?_;refine Hd.block<|Hd.loopK (ι:=Nat) [(0,_),(1,_),(18,_)] (fun k=>[(5,.int .i64 (lwK l G (cmA now x) (cmA now y) (wantsA X) k)),(19,.int .i64 (k:Int))]) (fun k=>pu (k≤2)::LgL lb l G (cmA now x) (cmA now y) (BufP l.buf wb X::L)) (fun k=>2 - k) 0 sbq sbq (Ent.sep (.pure (by omega) enn)) ?_;intro k
 try dsimp only
 refine Hd.pure (fun hp0=>?_)
 try dsimp only at hp0
 refine sr fun _ K8=>?_
 refine yv (y_lss rfl rfl) ?_;refine fk [(0,_),(1,_),(5,_),(18,_),(19,_),(20,_)] K8 ?_;refine Hd.seq fun _ K9=>?_
 refine qz ?_ ?_<;>intro hc1<;>try simp only [hyZ] at hc1
 ·have hk:k < 2:=by omega
  refine qv K9<|Hd.seq fun _ K10=>?_
  refine Hd.block<|sr fun _ K11=>?_
  refine yv y_mv<|yv (y_index1 Tryz.underlying263 ag3 sz3 rfl rfl (by omega) (by exact fl_at hk)) ?_;refine yv y_as<|yv y_as<|fk [(0,_),(1,_),(5,_),(6,_),(7,_),(18,_),(19,_)] K11 ?_;refine sr fun _ K12=>?_
  refine yv y_mv<|yv y_mv<|yv y_mv<|callE rfl fk185 (leave_ct _ lb l G (cmA now x) (cmA now y) (con_come h hn) k hk now hn (at_come h hn)) sq ?_;intro _;refine yv (y_eql rfl rfl) ?_;refine fk [(0,_),(1,_),(5,_),(7,_),(18,_),(19,_),(27,_)] K12 ?_;refine qz ?_ ?_<;>intro hc2<;>try simp only [hyZ] at hc2
  ·refine Hd.region ?_
   refine yv y_mv<|yv y_mv<|yv (y_andNot rfl rfl) ?_;refine yv y_as<|Hd.nil<|slots [(0,_),(1,_),(5,_),(18,_),(19,_)] sbq ?_;refine Hd.inB<|Hd.toK K10 ?_;refine Hd.region<|yv (y_addn rfl rfl (by simp only [InK];omega)) ?_;refine yv y_mv<|Hd.nil<|slots [(0,_),(1,_),(5,_),(18,_),(19,_)] sbq ?_;refine thenN ?_
   have hs:lwK l G (cmA now x) (cmA now y) (wantsA X) (k + 1)=bits .andNot .i64 (lwK l G (cmA now x) (cmA now y) (wantsA X) k) (flagA k):=by rw [lwK_succ,if_pos (show lvA l G (cmA now x) (cmA now y) k=0 from hc2)]
   rw [←hs];exact Hd.again (k + 1) (by omega) sbq (Ent.sep (.pure (by omega) enn))
  refine Hd.skip<|Hd.inB<|Hd.toK K10 ?_;refine Hd.region<|yv (y_addn rfl rfl (by simp only [InK];omega)) ?_;refine yv y_mv<|Hd.nil<|slots [(0,_),(1,_),(5,_),(18,_),(19,_)] sbq ?_;refine thenN ?_
  have hs:lwK l G (cmA now x) (cmA now y) (wantsA X) (k + 1)=lwK l G (cmA now x) (cmA now y) (wantsA X) k:=by rw [lwK_succ,if_neg (show ¬ lvA l G (cmA now x) (cmA now y) k=0 from hc2)]
  rw [←hs];exact Hd.again (k + 1) (by omega) sbq (Ent.sep (.pure (by omega) enn))
 obtain rfl:k=2:=by omega
 refine Hd.exit<|Hd.thenExit<|Hd.thenExit<|Hd.inBexit<|Hd.toK K6 ?_;refine sr fun _ K13=>?_
 refine yv y_mv<|yv y_as<|fk [(4,_)] K13 ?_;refine Hd.ret ?_;exact Hd.ret1 rfl () (by rfl) sq
def stX (now:Int) (t:ToA) (x:Nat→BkA):Nat→BkA:=fun k=>tak (x k) now (if k=0 then t.i else t.o)
def lsS (l:LmA) (G:GrA) (x y:Nat→BkA) (X:BfA) (w:WA) (now flags:Int):StA :=
 stepS X w now (bits .and .i64 flags (lwK l G (cmA now x) (cmA now y) (wantsA X) 2)) (lvA l G (cmA now x) (cmA now y) 0) (lvA l G (cmA now x) (cmA now y) 1)
theorem tak_once {x:BkA} (h:BkOk x) {now:Int} (hn:InK .u64 now) (n:Int):tak (come x now) now n=tak x now n:=by unfold tak;rw [come_idem h hn]
theorem stX_cm {x:Nat→BkA} (h:∀ k,BkOk (x k)) {now:Int} (hn:InK .u64 now) (t:ToA):stX now t (cmA now x)=stX now t x:=funext fun k=>tak_once (h k) hn _
theorem lstep_ct (L:List SP) (lb wb:Nat) (l:LmA) (G:GrA) (x y:Nat→BkA) (h:ConOk x y) (X:BfA) (hX:BOk X) (w:WA) (now flags:Int) (hn:InK .u64 now) (hF:Rd L 0 0 flV) (σ:StA) (hσ:lsS l G x y X w now flags=σ) (hi:InK .i64 σ.t.i) (ho:InK .i64 σ.t.o):Ct Tryz.prog 96 #[.pointer (some ⟨lb,0,none⟩),.int .u64 now,.int .i64 flags] (LgL lb l G x y (BufP l.buf wb X::WorldP wb w::L)) (fun _:Unit=>.agg (encT σ.t).toArray) (fun _:Unit=>LgL lb l G (stX now σ.t x) (stX now σ.t y) (BufP l.buf wb σ.x::WorldP wb σ.w::L)):=by
 refine Ct.o3M Tryz.func96 ?_;intro E
 show Hd E 51 _ _ _ _
 have hv0:=lvS_in (l.b 0) (gsl l.g G 0) (cmA now x 0) (cmA now y 0)
 have hv1:=lvS_in (l.b 1) (gsl l.g G 1) (cmA now x 1) (cmA now y 1)
 refine sr fun _ K1=>?_
 refine Hd.box rfl rfl (fun b4=>?_);refine Hd.alloc zr58 (fun b6=>?_);refine fk [(0,_),(2,_),(4,_),(6,_)] K1 ?_;refine Hd.seq fun _ K2=>?_
 refine sr fun _ K3=>?_
 refine yv y_mv<|callE rfl fk179 (lnone_ct _ lb l) sq ?_;intro _;refine fk [(0,_),(2,_),(4,_),(6,_),(13,_)] K3 ?_;refine Hd.condF rfl ?_;refine qv K2<|sr fun _ K4=>?_
 refine yv y_mv<|yv (y_l1 ag29 rfl)<|callE rfl fk102 (leaves_ct _ lb l G x y h now hn) sq ?_;intro _;refine yv y_mv<|yv y_ex<|yv y_ex<|yv y_as<|yv y_as<|fk [(0,_),(2,_),(4,_),(6,_),(7,_),(8,_)] K4 ?_;refine Hd.cutK (ι:=Nat) [(0,_),(4,_),(6,_)] (fun b9=>[(9,.pointer (some ⟨b9,0,none⟩))]) (fun b9=>LgL lb l G (cmA now x) (cmA now y) (BufP l.buf wb σ.x::WorldP wb σ.w::pt b9 (encT σ.t) 58::pt b6 (encT noT) 58::pt b4 [.int .u64 now] 29::L)) ?_ ?_ ⟨rfl,rfl,rfl,trivial⟩
 ·refine Hd.drawsH ([LmH lb l,pt b4 [.int .u64 now] 29]) (fun j=>!([14].contains j)) mixed ?_
  simp only [List.length,Nat.zero_add,Nat.reduceAdd];refine tH 0 rfl y_mv<|tH 1 rfl y_np<|tH 2 rfl (y_f 0 33 Tryz.underlying247 sz33)<|tH 3 rfl (y_l1 ag33 rfl)<|tH 4 rfl (y_l1 ag29 rfl)<|tH 5 rfl y_mv<|tH 6 rfl y_mv<|tH 7 rfl (y_l1 ag29 rfl)<|tH 10 rfl y_mv<|tH 11 rfl y_mv<|Hd.eitherH 8 13 rfl rfl kq ?_ ?_
  ·refine callE rfl fk104 (lwants_ct _ lb wb l G (cmA now x) (cmA now y) (con_come h hn) X now hn ?hF) sq ?_
   case hF=>exact Rd.mono hF sq
   intro _;rw [cmA_idem h.x hn,cmA_idem h.y hn];refine qk<|tH 9 rfl (y_and rfl rfl) ?_;refine Hd.eitherH 12 13 rfl rfl kq ?_ ?_
   ·refine callE rfl fk24 (step_ct _ l.buf wb X w hX.tm hX.hi now (bits .and .i64 flags (lwK l G (cmA now x) (cmA now y) (wantsA X) 2)) (lvA l G (cmA now x) (cmA now y) 0) (lvA l G (cmA now x) (cmA now y) 1) hn (by unfold lvA;omega) (by unfold lvA;simp only [InK];omega)) sq ?_
    intro _;rw [show stepS X w now (bits .and .i64 flags (lwK l G (cmA now x) (cmA now y) (wantsA X) 2)) (lvA l G (cmA now x) (cmA now y) 0) (lvA l G (cmA now x) (cmA now y) 1)=σ from hσ];refine qk<|qo 13 ?_;refine Hd.alloc zr58 (fun b9=>?_);refine qk<|qo 14 ?_;refine Hd.storeA (us:=encT σ.t) sz58 rfl rfl rfl (by simp [Value.oneCell']) pkk (by exact rfl) ?_;refine qn<|endH kq ?_;refine slots [(0,_),(4,_),(6,_),(9,_)] sbq ?_;refine thenN ?_;exact Hd.meet b9 sbq (Ent.sep (.pick pkk (.pick pkk (.pick pkk (.pick pkk (.pick pkk (.pick pkk (.pick pkk (.pick pkk (.pick pkk (.eq pkk (pt_eq (by rfl)) enn)))))))))))
   refine Hd.alloc zr58 (fun b9=>?_);refine qk<|qo 12 ?_;refine callE rfl fk24 (step_ct _ l.buf wb X w hX.tm hX.hi now (bits .and .i64 flags (lwK l G (cmA now x) (cmA now y) (wantsA X) 2)) (lvA l G (cmA now x) (cmA now y) 0) (lvA l G (cmA now x) (cmA now y) 1) hn (by unfold lvA;omega) (by unfold lvA;simp only [InK];omega)) sq ?_;intro _;rw [show stepS X w now (bits .and .i64 flags (lwK l G (cmA now x) (cmA now y) (wantsA X) 2)) (lvA l G (cmA now x) (cmA now y) 0) (lvA l G (cmA now x) (cmA now y) 1)=σ from hσ];refine qk<|qo 14 ?_;refine Hd.storeA (us:=encT σ.t) sz58 rfl rfl rfl (by simp [Value.oneCell']) pkk (by exact rfl) ?_;refine qn<|endH kq ?_;refine slots [(0,_),(4,_),(6,_),(9,_)] sbq ?_;refine thenN ?_;exact Hd.meet b9 sbq (Ent.sep (.pick pkk (.pick pkk (.pick pkk (.pick pkk (.pick pkk (.pick pkk (.pick pkk (.pick pkk (.pick pkk (.eq pkk (pt_eq (by rfl)) enn)))))))))))
  refine Hd.alloc zr58 (fun b9=>?_);refine qk<|qo 8 ?_;refine callE rfl fk104 (lwants_ct _ lb wb l G (cmA now x) (cmA now y) (con_come h hn) X now hn ?hF) sq ?_
  case hF=>exact Rd.mono hF sq
  intro _;rw [cmA_idem h.x hn,cmA_idem h.y hn];refine qk<|tH 9 rfl (y_and rfl rfl) ?_;refine qo 12 ?_;refine callE rfl fk24 (step_ct _ l.buf wb X w hX.tm hX.hi now (bits .and .i64 flags (lwK l G (cmA now x) (cmA now y) (wantsA X) 2)) (lvA l G (cmA now x) (cmA now y) 0) (lvA l G (cmA now x) (cmA now y) 1) hn (by unfold lvA;omega) (by unfold lvA;simp only [InK];omega)) sq ?_;intro _;rw [show stepS X w now (bits .and .i64 flags (lwK l G (cmA now x) (cmA now y) (wantsA X) 2)) (lvA l G (cmA now x) (cmA now y) 0) (lvA l G (cmA now x) (cmA now y) 1)=σ from hσ];refine qk<|qo 14 ?_;refine Hd.storeA (us:=encT σ.t) sz58 rfl rfl rfl (by simp [Value.oneCell']) pkk (by exact rfl) ?_;refine qn<|endH kq ?_;refine slots [(0,_),(4,_),(6,_),(9,_)] sbq ?_;refine thenN ?_;exact Hd.meet b9 sbq (Ent.sep (.pick pkk (.pick pkk (.pick pkk (.pick pkk (.pick pkk (.pick pkk (.pick pkk (.pick pkk (.pick pkk (.eq pkk (pt_eq (by rfl)) enn)))))))))))
 intro b9;refine Hd.seq fun _ K5=>?_
 refine sr fun _ K6=>?_
 refine yv y_mv<|callE rfl fk181 (buckets_ct _ lb 0) sq ?_;rintro ⟨bl,bk⟩;dsimp only;refine fk [(0,_),(4,_),(6,_),(9,_),(35,_)] K6 ?_;refine Hd.block<|Hd.rangeF (enc:=encI (l.b 0) (gsl l.g G 0)) (S:=fun ys=>ys=itS (l.b 0) (gsl l.g G 0)) (Sp:=fun ys=>ys <+: itS (l.b 0) (gsl l.g G 0))
  (fun pre=>SlB (l.b 0) (efX (tak · now σ.t.i) 0 pre (cmA now x 0))::SlB (gsl l.g G 0) (efX (tak · now σ.t.i) 1 pre (cmA now y 0))::SlB (l.b 1) (cmA now x 1)::SlB (gsl l.g G 1) (cmA now y 1)::BufP l.buf wb σ.x::WorldP wb σ.w::pt b9 (encT σ.t) 58::pt b6 (encT noT) 58::pt b4 [.int .u64 now] 29::L) (fun _ _=>[pu False])
  rfl kq (fun _=>rfl) rfl (buckets_it lb bl bk l G 0 (by decide)) (by simp only [ef_nil];refine Ent.sep ?_;refine Ent.pick pkk ?_;refine Ent.pick pkk ?_;refine Ent.pick pkk ?_;refine Ent.pick pkk ?_;refine Ent.pick pkk ?_;refine Ent.pick pkk ?_;refine Ent.pick pkk ?_;refine Ent.pick pkk ?_;refine Ent.pick pkk ?_;exact Ent.swap (L:=[_,_,_,_])) ?_ ?_ ?_
 ·intro E l' R pre c N hR hG
  obtain ⟨p,z,O,hpp,hz,ho,hi2⟩:=item_out (f:=(tak · now σ.t.i)) (X:=cmA now x 0) (Y:=cmA now y 0) hG
  have hcc:=con_come h hn
  have hzo:BkOk z:=by
   rcases hz with ⟨rfl,_⟩ | ⟨rfl,_⟩
   ·exact hcc.x 0
   ·exact hcc.y 0
  unfold Rnd;simp only [List.cons_append,List.nil_append,pz,encI];rw [hpp];refine Hd.region<|yv y_as<|Hd.nil<|slots [(0,_),(4,_),(6,_),(9,_),(10,_)] sbq ?_;refine thenN<|Hd.begin hR pkk ?_;refine Hd.block<|Hd.heap (BkP p z::O::_) (fun q s=>ho _ q (Ent.sep (.pick pkk (.pick pkk .same)) q s)) ?_;refine Hd.region<|yv y_mv<|yv (y_l1 ag29 rfl)<|yv (y_f 4 3 Tryz.underlying58 sz3)<|yv (y_l1 ag3 rfl)<|callE rfl fk182 (take_ct _ p z hzo now σ.t.i hn hi) sq ?_;intro _;refine Hd.nil<|slots [(0,_),(4,_),(6,_),(9,_)] sbq ?_;refine Hd.inB<|Hd.reN ?_;simp only [List.cons_append,List.nil_append];intro q s
  have s1:sep (BkP p (tak z now σ.t.i)::O::_) q:=Ent.sep (.pick pkk (.pick pkk .same)) q s
  have s2:=hi2 _ q s1
  exact Ent.sep enn q s2
 ·intro r0 ys hys
  obtain rfl:ys=itS (l.b 0) (gsl l.g G 0):=hys
  rw [(slB_all (cmA now x 0) (cmA now y 0)).1,(slB_all (cmA now x 0) (cmA now y 0)).2]
  try simp only [List.cons_append,List.nil_append]
  refine Hd.inB<|Hd.toK K5 ?_;refine Hd.seq fun _ K7=>?_
  refine Hd.seq fun _ K8=>?_
  refine Hd.heap (LmH lb l::GoH l.g G::SlB (l.b 0) (tak (cmA now x 0) now σ.t.i)::SlB (gsl l.g G 0) (tak (cmA now y 0) now σ.t.i)::SlB (l.b 1) (cmA now x 1)::SlB (gsl l.g G 1) (cmA now y 1)::BufP l.buf wb σ.x::WorldP wb σ.w::pt b9 (encT σ.t) 58::pt b6 (encT noT) 58::pt b4 [.int .u64 now] 29::ob r0 (.deferred (some []))::L) sq ?_;refine Hd.region<|yv y_mv<|callE rfl fk181 (buckets_ct _ lb 1) sq ?_;rintro ⟨bl,bk⟩;dsimp only;refine fk [(4,_),(6,_),(9,_),(43,_)] K8 ?_;refine Hd.block<|Hd.rangeF (enc:=encI (l.b 1) (gsl l.g G 1)) (S:=fun ys=>ys=itS (l.b 1) (gsl l.g G 1)) (Sp:=fun ys=>ys <+: itS (l.b 1) (gsl l.g G 1))
   (fun pre=>SlB (l.b 1) (efX (tak · now σ.t.o) 0 pre (cmA now x 1))::SlB (gsl l.g G 1) (efX (tak · now σ.t.o) 1 pre (cmA now y 1))::SlB (l.b 0) (tak (cmA now x 0) now σ.t.i)::SlB (gsl l.g G 0) (tak (cmA now y 0) now σ.t.i)::BufP l.buf wb σ.x::WorldP wb σ.w::pt b9 (encT σ.t) 58::pt b6 (encT noT) 58::pt b4 [.int .u64 now] 29::ob r0 (.deferred (some []))::L) (fun _ _=>[pu False])
   rfl kq (fun _=>rfl) rfl (buckets_it lb bl bk l G 1 (by decide)) (by simp only [ef_nil];refine Ent.sep ?_;refine Ent.pick pkk ?_;refine Ent.pick pkk ?_;refine Ent.pick pkk ?_;refine Ent.pick pkk ?_;refine Ent.pick pkk ?_;refine Ent.pick pkk ?_;refine Ent.pick pkk ?_;refine Ent.pick pkk ?_;refine Ent.pick pkk ?_;refine Ent.pick pkk ?_;exact Ent.swap (L:=[_,_,_,_])) ?_ ?_ ?_
  ·intro E l' R pre c N hR hG
   obtain ⟨p,z,O,hpp,hz,ho2,hi2⟩:=item_out (f:=(tak · now σ.t.o)) (X:=cmA now x 1) (Y:=cmA now y 1) hG
   have hcc:=con_come h hn
   have hzo:BkOk z:=by
    rcases hz with ⟨rfl,_⟩ | ⟨rfl,_⟩
    ·exact hcc.x 1
    ·exact hcc.y 1
   unfold Rnd;simp only [List.cons_append,List.nil_append,pz,encI];rw [hpp];refine Hd.region<|yv y_as<|Hd.nil<|slots [(4,_),(6,_),(9,_),(11,_)] sbq ?_;refine thenN<|Hd.begin hR pkk ?_;refine Hd.block<|Hd.heap (BkP p z::O::_) (fun q s=>ho2 _ q (Ent.sep (.pick pkk (.pick pkk .same)) q s)) ?_;refine Hd.region<|yv y_mv<|yv (y_l1 ag29 rfl)<|yv (y_f 5 3 Tryz.underlying58 sz3)<|yv (y_l1 ag3 rfl)<|callE rfl fk182 (take_ct _ p z hzo now σ.t.o hn ho) sq ?_;intro _;refine Hd.nil<|slots [(6,_),(9,_)] sbq ?_;refine Hd.inB<|Hd.reN ?_;simp only [List.cons_append,List.nil_append];intro q s
   have s1:sep (BkP p (tak z now σ.t.o)::O::_) q:=Ent.sep (.pick pkk (.pick pkk .same)) q s
   have s2:=hi2 _ q s1
   exact Ent.sep enn q s2
  ·intro r1 ys hys
   obtain rfl:ys=itS (l.b 1) (gsl l.g G 1):=hys
   have hs0:∀ x:Nat→BkA,tak (x 0) now σ.t.i=stX now σ.t x 0:=fun _=>rfl
   have hs1:∀ x:Nat→BkA,tak (x 1) now σ.t.o=stX now σ.t x 1:=fun _=>rfl
   rw [(slB_all (cmA now x 1) (cmA now y 1)).1,(slB_all (cmA now x 1) (cmA now y 1)).2,hs1 (cmA now x),hs1 (cmA now y),hs0 (cmA now x),hs0 (cmA now y)]
   try simp only [List.cons_append,List.nil_append]
   refine Hd.inB<|Hd.toK K7 ?_;refine sr fun _ K9=>?_
   refine yv (y_loadn (us:=encT σ.t) ag58 rfl (Rd.pt pkk (fun j v e=>by rw [Nat.zero_add];exact e)) (by exact sz58)) ?_;refine Hd.storeA (us:=encT σ.t) sz58 rfl rfl rfl (by simp [Value.oneCell']) pkk (by exact rfl) ?_;refine fk [(6,_)] K9 ?_;refine Hd.ret ?_;rw [←stX_cm h.x hn,←stX_cm h.y hn];exact Hd.retM (fun a fr=>Lv.mark (r0:=r1) pkk (Lv.mark (r0:=r0) pkk (Lv.endC fr rfl () ag58 rfl (Rd.pt (us:=encT σ.t) pkk (fun j v e=>by rw [Nat.zero_add];exact e)) (by exact sz58) rfl sq)))
  rintro r1_0 (_ | id1) pre1 hG1
  ·exact Hd.absurd (by exact id)
  exact Hd.absurd (by exact id)
 rintro r0_0 (_ | id0) pre0 hG0
 ·exact Hd.absurd (by exact id)
 exact Hd.absurd (by exact id)
def mV (X Y:BkA) (now:Int) (pre:List Nat):Int:=pre.foldl (fun a i=>max a (whn (if i=0 then X else Y) now 1)) now
theorem mV_snoc (X Y:BkA) (now:Int) (pre:List Nat) (c:Nat):mV X Y now (pre++[c])=max (mV X Y now pre) (whn (if c=0 then X else Y) now 1):=by unfold mV;rw [List.foldl_append];rfl
def whK (l:LmA) (G:GrA) (x y:Nat→BkA) (m now:Int) (k:Nat):Int:=(List.range k).foldl (fun o k=>if bits .and .i64 m (flagA k)=0∨0 < lvA l G x y k then o else min o (mV (x k) (y k) now (itS (l.b k) (gsl l.g G k)))) NV
theorem whK_succ (l:LmA) (G:GrA) (x y:Nat→BkA) (m now:Int) (k:Nat):whK l G x y m now (k + 1)=if bits .and .i64 m (flagA k)=0∨0 < lvA l G x y k then whK l G x y m now k else min (whK l G x y m now k) (mV (x k) (y k) now (itS (l.b k) (gsl l.g G k))):=by
 unfold whK;rw [List.range_succ,List.foldl_append];rfl
theorem lwhen_ct (L:List SP) (lb wb:Nat) (l:LmA) (G:GrA) (x y:Nat→BkA) (h:ConOk x y) (X:BfA) (now:Int) (hn:InK .u64 now) (hF:Rd L 0 0 flV):Ct Tryz.prog 99 #[.pointer (some ⟨lb,0,none⟩),.int .u64 now] (LgL lb l G x y (BufP l.buf wb X::L)) (fun _:Unit=>.int .u64 (whK l G (cmA now x) (cmA now y) (wantsA X) now 2)) (fun _:Unit=>LgL lb l G (cmA now x) (cmA now y) (BufP l.buf wb X::L)):=by
 refine Ct.o2M Tryz.func99 ?_;intro E
 show Hd E 50 _ _ _ _
 refine sr fun _ K1=>?_
 refine Hd.box rfl rfl (fun b3=>?_);refine yv y_as<|fk [(0,_),(3,_)] K1 ?_;refine sr fun _ K2=>?_
 refine yv y_as<|fk [(0,_),(3,_),(5,_)] K2 ?_;refine Hd.seq fun _ K3=>?_
 refine sr fun _ K4=>?_
 refine yv y_mv<|callE rfl fk179 (lnone_ct _ lb l) sq ?_;intro _;refine fk [(0,_),(3,_),(5,_),(11,_)] K4 ?_;refine Hd.condF rfl ?_;refine qv K3<|sr fun _ K5=>?_
 refine yv y_mv<|yv (y_l1 ag29 rfl)<|callE rfl fk184 (lcomes_ct _ lb l G x y h now hn) sq ?_;intro _;refine fk [(0,_),(3,_),(5,_)] K5 ?_;refine Hd.seq fun _ K6=>?_
 refine sr fun _ K7=>?_
 refine yv (y_loadn (us:=flV) ag263 rfl (Rd.mono hF sq) (by exact sz263)) ?_;refine yv y_mv<|fk [(0,_),(3,_),(5,_),(15,_),(16,_)] K7 ?_;refine Hd.block<|Hd.loopM (ι:=Nat) [(0,_),(3,_),(15,_)] (fun k=>[(5,.int .u64 (whK l G (cmA now x) (cmA now y) (wantsA X) now k)),(16,.int .i64 (k:Int))]) (fun k=>pu (k≤2)::LgL lb l G (cmA now x) (cmA now y) (BufP l.buf wb X::pt b3 [.int .u64 now] 29::L)) (fun k=>2 - k) 0 sbq sbq (Ent.sep (.pure (by omega) enn)) ?_;intro rs0 k
 try dsimp only
 refine Hd.heap (pu _::MkS rs0::_) (fun q s=>Ent.sep (.pick (.there .here) (.pick .here .same)) q s) ?_;refine Hd.pure (fun hp0=>?_)
 try dsimp only at hp0
 refine sr fun _ K8=>?_
 refine yv (y_lss rfl rfl) ?_;refine fk [(0,_),(3,_),(5,_),(15,_),(16,_),(17,_)] K8 ?_;refine Hd.seq fun _ K9=>?_
 refine qz ?_ ?_<;>intro hc1<;>try simp only [hyZ] at hc1
 ·have hk:k < 2:=by omega
  have hws:=whK_succ l G (cmA now x) (cmA now y) (wantsA X) now k
  refine qv K9<|Hd.seq fun _ K10=>?_
  refine Hd.block<|sr fun _ K11=>?_
  refine yv y_mv<|yv (y_index1 Tryz.underlying263 ag3 sz3 rfl rfl (by omega) (by exact fl_at hk)) ?_;refine yv y_as<|yv y_as<|fk [(0,_),(3,_),(5,_),(6,_),(7,_),(15,_),(16,_)] K11 ?_;refine Hd.seq fun _ K12=>?_
  refine sr fun _ K13=>?_
  refine yv y_mv<|yv y_np<|yv (y_f 0 33 Tryz.underlying247 sz33)<|yv (y_l1 ag33 rfl)<|callE rfl fk30 (wants_ct _ l.buf wb X) sq ?_;intro _;refine yv y_mv<|yv (y_and rfl rfl) ?_;refine yv (y_eql rfl rfl) ?_;refine yv y_mv ?_;apply Hd.org 6 28 34 [(0,_),(3,_),(5,_),(6,_),(15,_),(16,_)] rfl sbq
  ·intro hg8_28
   try simp only [hyZ] at hg8_28
   simp only [List.take];refine n1<|n1<|n1<|n1<|n1<|yv (y_pickT rfl rfl) ?_;exact Hd.mn
  ·intro hg8_28
   try simp only [hyZ] at hg8_28
   simp only [List.take];refine y2 y_mv<|y2 y_mv<|y2 (y_l1 ag29 rfl)<|Hd.unguard rfl rfl ?_;refine callE rfl fk185 (leave_ct _ lb l G (cmA now x) (cmA now y) (con_come h hn) k hk now hn (at_come h hn)) sq ?_;intro _;refine y2 (y_gtr rfl rfl) ?_;refine yv (y_pickF rfl rfl) ?_;exact Hd.mn
  simp only [List.drop];refine fk [(0,_),(3,_),(5,_),(6,_),(15,_),(16,_),(34,_)] K13 ?_;refine qz ?_ ?_<;>intro hc2<;>try simp only [hyZ] at hc2
  ·refine Hd.exit ?_
   refine Hd.thenExit<|Hd.inBexit<|Hd.toK K10 ?_;refine Hd.region<|yv (y_addn rfl rfl (by simp only [InK];omega)) ?_;refine yv y_mv<|Hd.nil<|slots [(0,_),(3,_),(5,_),(15,_),(16,_)] sbq ?_;refine thenN ?_;rw [if_pos (show bits .and .i64 (wantsA X) (flagA k)=0∨0 < lvA l G (cmA now x) (cmA now y) k from hc2)] at hws;rw [←hws];exact Hd.againM rs0 (k + 1) rfl (by omega) sbq (Ent.sep (.pick pkk (.pure (show k + 1≤2 by omega) enn)))
  rw [if_neg (show ¬ (bits .and .i64 (wantsA X) (flagA k)=0∨0 < lvA l G (cmA now x) (cmA now y) k) from fun h=>by rcases h with h | h;exact hc2.1 h;exact absurd h (by have:=hc2.2;unfold lvA;omega))] at hws;refine qv K12<|sr fun _ K14=>?_
  refine yv (y_l1 ag29 rfl)<|Hd.alloc zr29 (fun b8=>?_);refine Hd.store1 sz29 rfl rfl rfl pkk (by decide) ?_
  try simp only [hyS]
  refine fk [(0,_),(3,_),(5,_),(6,_),(8,_),(15,_),(16,_)] K14 ?_;refine Hd.seq fun _ K15=>?_
  refine sr fun _ K16=>?_
  refine yv y_mv<|yv y_mv<|callE rfl fk181 (buckets_ct _ lb k) sq ?_;rintro ⟨bl,bk⟩;dsimp only;refine Hd.heap (pt bl [.pointer (some ⟨lb,0,none⟩)] 145::pt bk [.int .i64 (k:Int)] 3::MkS rs0::pt b8 [.int .u64 now] 29::SlB (l.b k) (cmA now x k)::SlB (gsl l.g G k) (cmA now y k)::SlB (l.b (1 - k)) (cmA now x (1 - k))::SlB (gsl l.g G (1 - k)) (cmA now y (1 - k))::LmH lb l::GoH l.g G::BufP l.buf wb X::pt b3 [.int .u64 now] 29::L) (fun q s=>?_) ?_
  ·have s2:sep ([pt bl [.pointer (some ⟨lb,0,none⟩)] 145,pt bk [.int .i64 (k:Int)] 3,MkS rs0,pt b8 [.int .u64 now] 29]++LgL lb l G (cmA now x) (cmA now y) (BufP l.buf wb X::pt b3 [.int .u64 now] 29::L)) q:=Ent.sep (.pick pkk (.pick pkk (.pick pkk (.eq pkk (pt_eq (by rfl)) enn)))) q s
   exact sep_right (M:=[_,_,_,_]) (fun q s=>lg_k hk q s) s2
  refine fk [(0,_),(3,_),(5,_),(8,_),(15,_),(16,_),(38,_)] K16 ?_;refine Hd.block<|Hd.rangeF (enc:=encI (l.b k) (gsl l.g G k)) (S:=fun ys=>ys=itS (l.b k) (gsl l.g G k)) (Sp:=fun ys=>ys <+: itS (l.b k) (gsl l.g G k))
   (fun pre=>SlB (l.b k) (cmA now x k)::SlB (gsl l.g G k) (cmA now y k)::SlB (l.b (1 - k)) (cmA now x (1 - k))::SlB (gsl l.g G (1 - k)) (cmA now y (1 - k))::pt b8 [.int .u64 (mV (cmA now x k) (cmA now y k) now pre)] 29::BufP l.buf wb X::pt b3 [.int .u64 now] 29::MkS rs0::L) (fun _ _=>[pu False])
   rfl kq (fun _=>rfl) rfl (buckets_it lb bl bk l G k hk) (by refine Ent.sep ?_;refine Ent.pick pkk ?_;refine Ent.pick pkk ?_;refine Ent.pick pkk ?_;refine Ent.pick pkk ?_;refine Ent.eq pkk (pt_eq (by rfl)) ?_;refine Ent.pick pkk ?_;refine Ent.pick pkk ?_;refine Ent.pick pkk ?_;exact Ent.swap (L:=[_,_,_,_])) ?_ ?_ ?_
  ·intro E l' R pre c N hR hG
   obtain ⟨p,z,O,hpp,hz,hc01,ho,hi⟩:=item_same (cmA now x k) (cmA now y k) hG
   have hcc:=con_come h hn
   have hat:=at_come h hn
   have hzo:BkOk z:=by rw [hz];split;exact hcc.x k;exact hcc.y k
   have hza:come z now=z:=by rw [hz];split;exact hat.x k hk;exact hat.y k hk
   have hmv:=mV_snoc (cmA now x k) (cmA now y k) now pre c
   rw [←hz] at hmv;unfold Rnd;simp only [List.cons_append,List.nil_append,pz,encI];rw [hpp];refine Hd.region<|yv y_as<|Hd.nil<|slots [(0,_),(3,_),(5,_),(8,_),(9,_),(15,_),(16,_)] sbq ?_;refine thenN<|Hd.begin hR pkk ?_;refine Hd.block<|Hd.heap (BkP p z::O::_) (fun q s=>ho _ q (Ent.sep (.pick pkk (.pick pkk .same)) q s)) ?_;refine Hd.drawsH ([pt b8 [.int .u64 (mV (cmA now x k) (cmA now y k) now pre)] 29,pt b3 [.int .u64 now] 29]) (fun j=>!([5].contains j)) mixed ?_;simp only [List.length,Nat.zero_add,Nat.reduceAdd];refine tH 0 rfl (y_l1 ag29 rfl)<|tH 1 rfl y_mv<|tH 2 rfl (y_l1 ag29 rfl)<|qo 3 ?_;refine callE rfl fk186 (bkwhen_ct _ p z hzo now 1 hn (by decide) (by decide)) sq ?_;intro _;rw [hza];refine qk<|tH 4 rfl (y_max rfl rfl) ?_;refine qo 5 ?_;refine Hd.store1 sz29 rfl rfl rfl pkk (by simp;done) ?_
   try simp only [hyS]
   refine qn<|endH kq ?_;rw [←hmv];refine slots [(0,_),(3,_),(5,_),(8,_),(15,_),(16,_)] sbq ?_;refine Hd.inB<|Hd.reN ?_;simp only [List.cons_append,List.nil_append];intro q s
   have s1:sep (BkP p z::O::_) q:=Ent.sep (.pick pkk (.pick pkk .same)) q s
   have s2:=hi _ q s1
   exact Ent.sep enn q s2
  ·intro r0 ys hys
   obtain rfl:ys=itS (l.b k) (gsl l.g G k):=hys
   try simp only [List.cons_append,List.nil_append]
   refine Hd.inB<|Hd.toK K15 ?_;refine Hd.region<|yv y_mv<|yv (y_l1 ag29 rfl)<|yv (y_min rfl rfl) ?_;refine yv y_as<|Hd.nil<|slots [(0,_),(3,_),(5,_),(15,_),(16,_)] sbq ?_;refine Hd.inB<|Hd.toK K10 ?_;refine Hd.region<|yv (y_addn rfl rfl (by simp only [InK];omega)) ?_;refine yv y_mv<|Hd.nil<|slots [(0,_),(3,_),(5,_),(15,_),(16,_)] sbq ?_;refine thenN ?_;rw [←hws];refine Hd.againM (r0::rs0) (k + 1) rfl (by omega) sbq (fun q s=>MkS.cons q ?_)
   have s2:sep ([ob r0 (.deferred (some [])),MkS rs0]++(SlB (l.b k) (cmA now x k)::SlB (gsl l.g G k) (cmA now y k)::SlB (l.b (1 - k)) (cmA now x (1 - k))::SlB (gsl l.g G (1 - k)) (cmA now y (1 - k))::LmH lb l::GoH l.g G::BufP l.buf wb X::pt b3 [.int .u64 now] 29::L)) q:=Ent.sep enn q s
   exact sep_right (M:=[_,_]) (fun q s=>Ent.sep (.pure (show k + 1≤2 by omega) .same) q (lg_l hk q s)) s2
  rintro r0_0 (_ | id0) pre0 hG0
  ·exact Hd.absurd (by exact id)
  exact Hd.absurd (by exact id)
 obtain rfl:k=2:=by omega
 refine Hd.exit<|Hd.thenExit<|Hd.thenExit<|Hd.inBexit<|Hd.toK K6 ?_;refine sr fun _ K17=>?_
 refine yv y_mv<|yv y_as<|fk [(4,_)] K17 ?_;refine Hd.ret ?_;exact Hd.retM (fun a fr=>Lv.marksP pkk (Lv.end1 fr rfl () rfl sq))
end Lm
end Go.Proofs.YtmpemhbfgbochaaGreatDoor
