/-
  Buffered events: masks, and what a side becomes, as the document says it (plain).
-/
import Derived.Test.YtmpemhbfgbochaaGreatDoorZBufevPlaysE
set_option linter.unusedSimpArgs false
set_option linter.unusedVariables false
set_option linter.unnecessarySimpa false
set_option maxRecDepth 8000
set_option maxHeartbeats 2000000
open Go.RX.Hd (yv y2 n1 fk sk sr tH callE heldK qo qk qn qt qz qv endH thenN slots)
namespace Go.Proofs.YtmpemhbfgbochaaGreatDoor
open Go.RX
namespace Bu
open Wo
theorem land6 (v:BitVec 64):(v &&& 6#64).toNat≤6:=by rw [BitVec.toNat_and];exact Nat.and_le_right
abbrev Six (m:Int):Prop:=m=0∨m=2∨m=4∨m=6
theorem six_tab:∀ k:Nat,k < 7→bits .andNot .i64 (k:Int) 6=0→Six (k:Int):=by decide
theorem six_of {m:Int} (hm:InK .i64 m):bits .andNot .i64 m 6=0↔Six m:=by
 constructor
 ·intro h0
  have h:=h0
  rw [bits_andNot_zero] at h
  have e:bv m=bv m &&& bv 6:=by
   apply BitVec.eq_of_getLsbD_eq;intro i hi
   have:=congrArg (fun v=>BitVec.getLsbD v i) h
   simp only [BitVec.getLsbD_and,BitVec.getLsbD_not,hi,decide_true,Bool.true_and,BitVec.getLsbD_zero] at this;rw [BitVec.getLsbD_and]
   cases h1:(bv m).getLsbD i<;>cases h2:(bv 6).getLsbD i<;>simp_all
  have h1:(bv m).toNat≤6:=by rw [e];exact land6 _
  simp only [InK] at hm;unfold bv at h1;rw [BitVec.toNat_ofInt] at h1
  have h2:0≤m∧m < 7:=by omega
  have h3:((m.toNat:Nat):Int)=m:=Int.toNat_of_nonneg h2.1
  have:=six_tab m.toNat (by omega) (by rw [h3];exact h0)
  rwa [h3] at this
 ·rintro (rfl | rfl | rfl | rfl)<;>decide
theorem effS (f:Nat→SdA→SdA) (x:BfA) (m:Int) {k:Nat} (hk:k < 2):(effB f x (sidesA m)).s k=if hasA m k=true then f k (x.s k) else x.s k:=by
 show (if k∈sidesA m then f k (x.s k) else x.s k)=_
 by_cases h:hasA m k=true
 ·rw [if_pos h,if_pos ((sides_mem hk).2 h)]
 ·rw [if_neg h,if_neg (fun q=>h ((sides_mem hk).1 q))]
theorem sides6:sidesA 6=[0,1]:=by decide
theorem onM6 (x:BfA):onM x (sidesA 6)=(if (x.s 0).on=true then 2 else 0) + (if (x.s 1).on=true then 4 else 0):=by
 rw [sides6];unfold onM;simp only [List.foldl_cons,List.foldl_nil]
 generalize (x.s 0).on=a
 generalize (x.s 1).on=b
 cases a<;>cases b<;>decide
def wa0 (s:SdA):Bool:=(s.on && !s.ended) && (decide (s.high=0) || decide ((s.c.length:Int) < s.high))
def wa1 (s:SdA):Bool:=(s.on && !s.ended) && decide ((s.c.length:Int) > 0)
theorem wantsA_eq (x:BfA):wantsA x=(if wa0 (x.s 0)=true then 2 else 0) + (if wa1 (x.s 1)=true then 4 else 0):=by
 have h0:wantK x 0=(!(x.s 0).ended && (decide ((x.s 0).high=0) || decide (((x.s 0).c.length:Int) < (x.s 0).high))):=by unfold wantK;simp
 have h1:wantK x 1=(!(x.s 1).ended && decide (((x.s 1).c.length:Int) > 0)):=by unfold wantK;simp
 have e0:wa0 (x.s 0)=((x.s 0).on && wantK x 0):=by rw [h0];unfold wa0;rw [Bool.and_assoc]
 have e1:wa1 (x.s 1)=((x.s 1).on && wantK x 1):=by rw [h1];unfold wa1;rw [Bool.and_assoc]
 unfold wantsA;rw [onM6,e0,e1];unfold waM
 rw [show sidesA ((if (x.s 0).on=true then 2 else 0) + (if (x.s 1).on=true then 4 else 0))=(if (x.s 0).on=true then [0] else [])++(if (x.s 1).on=true then [1] else []) by
  generalize (x.s 0).on=a
  generalize (x.s 1).on=b
  cases a<;>cases b<;>decide]
 generalize (x.s 0).on=a
 generalize (x.s 1).on=b
 cases a<;>cases b<;>simp only [if_true,if_false,Bool.false_eq_true,List.nil_append,List.append_nil,List.cons_append,List.foldl_cons,List.foldl_nil,Bool.true_and,Bool.false_and]
 all_goals
  generalize wantK x 0=p
  generalize wantK x 1=q
  cases p<;>cases q<;>decide
theorem wants_six (x:BfA):Six (wantsA x):=by
 rw [wantsA_eq]
 generalize wa0 (x.s 0)=a
 generalize wa1 (x.s 1)=b
 cases a<;>cases b<;>decide
theorem and_ge (f c:Int) (hc:(bv c).toNat≤4):0≤bits .and .i64 f c:=by
 unfold bits;rw [wrap_i64]
 have:(BitVec.ofInt IntKind.i64.bits f &&& BitVec.ofInt IntKind.i64.bits c).toNat≤4:=by
  rw [BitVec.toNat_and];exact Nat.le_trans Nat.and_le_right hc
 dsimp only;omega
theorem and_pos {f c:Int} (hc:(bv c).toNat≤4):bits .and .i64 f c > 0↔bits .and .i64 f c≠0:=by
 have:=and_ge f c hc
 omega
theorem and2 (f:Int) {w:Int} (hw:Six w):bits .and .i64 (bits .and .i64 f w) 2≠0↔hasA w 0=true∧bits .and .i64 f 2 > 0:=by
 rw [and_pos (by decide)];simp only [ne_eq,bits_and_zero,bv_and,BitVec.and_assoc]
 rcases hw with rfl | rfl | rfl | rfl
 ·rw [show bv 0 &&& bv 2=0#64 by decide,show hasA 0 0=false by decide];simp
 ·rw [show bv 2 &&& bv 2=bv 2 by decide,show hasA 2 0=true by decide];simp
 ·rw [show bv 4 &&& bv 2=0#64 by decide,show hasA 4 0=false by decide];simp
 ·rw [show bv 6 &&& bv 2=bv 2 by decide,show hasA 6 0=true by decide];simp
theorem and4 (f:Int) {w:Int} (hw:Six w):bits .and .i64 (bits .and .i64 f w) 4≠0↔hasA w 1=true∧bits .and .i64 f 4 > 0:=by
 rw [and_pos (by decide)];simp only [ne_eq,bits_and_zero,bv_and,BitVec.and_assoc]
 rcases hw with rfl | rfl | rfl | rfl
 ·rw [show bv 0 &&& bv 4=0#64 by decide,show hasA 0 1=false by decide];simp
 ·rw [show bv 2 &&& bv 4=0#64 by decide,show hasA 2 1=false by decide];simp
 ·rw [show bv 4 &&& bv 4=bv 4 by decide,show hasA 4 1=true by decide];simp
 ·rw [show bv 6 &&& bv 4=bv 4 by decide,show hasA 6 1=true by decide];simp
theorem late6 (x:BfA) (now:Int):lateT x now (sidesA 6)=if lateK now (x.s 1)=true then Int.tmod (if lateK now (x.s 0)=true then 65 else 0) 64 + 2 + 64 else (if lateK now (x.s 0)=true then 65 else 0):=by
 rw [sides6];unfold lateT;simp only [List.foldl_cons,List.foldl_nil]
 generalize lateK now (x.s 0)=a
 generalize lateK now (x.s 1)=b
 cases a<;>cases b<;>decide
theorem set0_yes {now:Int} {s:SdA} (h:s.on=true) (h2:s.after > 0):setA 0 now s={ s with at_:=dl now s.after }:=by
 show { s with at_:=atV s 0 now }=_
 have:atV s 0 now=dl now s.after:=by unfold atV;rw [if_pos (by rw [h];simp;omega)]
 rw [this]
theorem set0_no {now:Int} {s:SdA} (ha:InK .u64 s.after) (h:s.on=false∨s.after≤0):setA 0 now s={ s with at_:=NV }:=by
 show { s with at_:=atV s 0 now }=_
 simp only [InK] at ha
 have:atV s 0 now=NV:=by
  unfold atV;rw [if_neg];intro q;simp only [Bool.and_eq_true,decide_eq_true_eq] at q
  rcases h with h | h
  ·rw [h] at q;exact absurd q.1.1 (by decide)
  ·exact q.1.2 (by omega)
 rw [this]
theorem set1_yes {now:Int} {s:SdA} (h:s.on=true) (h2:s.after > 0) (h3:(s.c.length:Int) > 0):setA 1 now s={ s with at_:=dl now s.after }:=by
 show { s with at_:=atV s 1 now }=_
 have:atV s 1 now=dl now s.after:=by unfold atV;rw [if_pos (by rw [h,decide_eq_true h3];simp;omega)]
 rw [this]
theorem set1_no {now:Int} {s:SdA} (ha:InK .u64 s.after) (h:(s.on=false∨s.after≤0)∨(s.c.length:Int)≤0):setA 1 now s={ s with at_:=NV }:=by
 show { s with at_:=atV s 1 now }=_
 simp only [InK] at ha
 have:atV s 1 now=NV:=by
  unfold atV;rw [if_neg];intro q;simp only [Bool.and_eq_true,Bool.or_eq_true,decide_eq_true_eq] at q
  have h3:(s.c.length:Int) > 0:=by
   rcases q.2 with g | g
   ·exact absurd g (by decide)
   ·exact g
  rcases h with (h | h) | h
  ·rw [h] at q;exact absurd q.1.1 (by decide)
  ·exact q.1.2 (by omega)
  ·omega
 rw [this]
theorem readR_le (w:WA) (fd n:Int):(readR w fd n).1.1.length≤n.toNat:=by
 unfold readR
 repeat' split
 all_goals first
  | (simp;done)
  | (rw [List.length_take];omega)
theorem readR_end (w:WA) (fd n:Int):(readR w fd n).1.2.1=true→(readR w fd n).1.2.2=0:=by
 unfold readR
 repeat' split
 all_goals first
  | (intro h;rfl)
  | (intro h;cases h)
theorem writeR_ge (w:WA) (fd:Int) (bs:List UInt8):0≤(writeR w fd bs).1.1:=by
 unfold writeR
 repeat' split
 all_goals first
  | (dsimp only;omega)
  | (dsimp only;exact Int.natCast_nonneg _)
end Bu
end Go.Proofs.YtmpemhbfgbochaaGreatDoor
namespace Go.Proofs.YtmpemhbfgbochaaGreatDoor
open Go.RX Fx
namespace Wo
structure SbW (x x':WireA):Prop where
 e:∀ k,k < 2→((x'.e k).what=1→(x.e k).what=1)∧(x'.e k).fd=(x.e k).fd∧(x'.e k).rd=(x.e k).rd∧(x'.e k).wr=(x.e k).wr
 wh:∀ k,k < 2→0≤(x'.e k).what∧(x'.e k).what≤3
 w0:(x.e 0).what≠0→(x'.e 0).what≠0
 ou:(x'.e 1).what=2→(x.e 1).what=2
 wt:x'.wt.Sublist x.wt
 bl:x'.bl=x.bl
 cap:x'.cap=x.cap
 le:∀ k,k < 2→(x'.e k).b.length≤x.cap
 nb:∀ k,k < 2→(x.e k).rd=false→(x'.e k).b=[]
theorem SmW.sb {x x':WireA} (h:WfW x) (hs:SmW x x'):SbW x x' where
 e k hk:=⟨fun e=>by rw [←(hs.e k hk).1];exact e,(hs.e k hk).2⟩
 wh k hk:=by rw [(hs.e k hk).1];exact h.what k hk
 w0 e:=by rw [(hs.e 0 (by omega)).1];exact e
 ou e:=by rw [←(hs.e 1 (by omega)).1];exact e
 wt:=by rw [hs.wt];exact List.Sublist.refl _
 bl:=hs.bl
 cap:=hs.cap
 le:=hs.le
 nb:=hs.nb
theorem SbW.wf {x x':WireA} (hs:SbW x x') (h:WfW x):WfW x' where
 wr k hk:=by rw [(hs.e k hk).2.2.2,(hs.e (1 - k) (by omega)).2.2.1];exact h.wr k hk
 le k hk:=by rw [hs.cap];exact hs.le k hk
 nb k hk hr:=hs.nb k hk (by rw [←(hs.e k hk).2.2.1];exact hr)
 cap:=by rw [hs.cap];exact h.cap
 what:=hs.wh
 bl:=by
  rw [hs.bl]
  have:=hs.wt.length_le
  have:=h.bl
  omega
 ou e:=by
  rw [(hs.e 0 (by omega)).2.2.1,(hs.e 1 (by omega)).2.2.1];exact h.ou (hs.ou e)
theorem flatMap_set_sub {α β:Type} {f:α→List β}:∀ {l:List α} {n:Nat} {x x':α},l[n]?=some x→(f x').Sublist (f x)→((l.set n x').flatMap f).Sublist (l.flatMap f)
 | [],_,_,_,h,_=>by simp at h
 | a::l,0,x,x',h,e=>by
  obtain rfl:a=x:=by simpa using h
  show (f x'++_).Sublist (f a++_)
  exact e.append (List.Sublist.refl _)
 | a::l,n + 1,x,x',h,e=>by
  show (f a++(l.set n x').flatMap f).Sublist (f a++l.flatMap f)
  exact (List.Sublist.refl _).append (flatMap_set_sub (by simpa using h) e)
theorem setW_get {w:WA} {n m:Nat} {x' y:WireA} (h:(w.setW n x').ws[m]?=some y):(m=n∧y=x')∨(m≠n∧w.ws[m]?=some y):=set_at h
theorem setW_self {w:WA} {n:Nat} {x x':WireA} (h:w.ws[n]?=some x):(w.setW n x').ws[n]?=some x':=by
 show (w.ws.set n x')[n]?=_
 rw [List.getElem?_set_self (List.getElem?_eq_some_iff.1 h).1]
theorem setW_ne {w:WA} {n m:Nat} {x':WireA} (h:m≠n):(w.setW n x').ws[m]?=w.ws[m]?:=by
 show (w.ws.set n x')[m]?=_
 rw [List.getElem?_set_ne (Ne.symm h)]
theorem setW_len {w:WA} {n:Nat} {x':WireA}:(w.setW n x').ws.length=w.ws.length:=by
 show (w.ws.set n x').length=_
 rw [List.length_set]
theorem WOk.setS {w:WA} (h:WOk w) {n:Nat} {x x':WireA} (hx:w.ws[n]?=some x) (hs:SbW x x') (h0:n∈(w.setW n x').ws.flatMap WireA.wt→(x'.e 0).what=0):WOk (w.setW n x'):=by
 have hxm:=List.mem_of_getElem? hx
 have hwf:=h.wf x hxm
 have hfm:((w.setW n x').ws.flatMap WireA.wt).Sublist (w.ws.flatMap WireA.wt):=flatMap_set_sub hx hs.wt
 have hat:∀ {m:Nat} {y:WireA},(w.setW n x').ws[m]?=some y→∃ z,w.ws[m]?=some z∧∀ k,k < 2→((y.e k).what=1→(z.e k).what=1)∧(y.e k).fd=(z.e k).fd∧(y.e k).rd=(z.e k).rd:=fun hm=>by
  rcases setW_get hm with ⟨rfl,rfl⟩ | ⟨_,hm⟩
  ·exact ⟨x,hx,fun k hk=>⟨(hs.e k hk).1,(hs.e k hk).2.1,(hs.e k hk).2.2.1⟩⟩
  ·exact ⟨_,hm,fun _ _=>⟨id,rfl,rfl⟩⟩
 refine ⟨?_,?_,by rw [setW_len];exact h.len,h.hdl,h.ctl,?_,hfm.nodup h.wn,?_,?_,fun m y hm=>by
  rcases setW_get hm with ⟨rfl,rfl⟩ | ⟨_,hm⟩
  ·exact fun e=>h.ns _ _ hx (hs.wt.subset e)
  ·exact h.ns _ _ hm⟩
 ·intro a b y z k j ha hb hk hj h1 h2 h3
  obtain ⟨y',ha',hy⟩:=hat ha
  obtain ⟨z',hb',hz⟩:=hat hb
  exact h.uq a b y' z' k j ha' hb' hk hj ((hy k hk).1 h1) ((hz j hj).1 h2) (by rw [←(hy k hk).2.1,←(hz j hj).2.1];exact h3)
 ·intro y hy k hk h1
  obtain ⟨m,hm,e⟩:=List.getElem_of_mem hy
  obtain ⟨z,hz,he⟩:=hat (m:=m) (y:=y) (by rw [List.getElem?_eq_getElem hm,e])
  have:=h.fd z (List.mem_of_getElem? hz) k hk ((he k hk).1 h1)
  rw [(he k hk).2.1];exact this
 ·intro y hy
  rcases List.mem_or_eq_of_mem_set hy with hy | rfl
  ·exact h.wf y hy
  ·exact hs.wf hwf
 ·intro m hm
  by_cases e:m=n
  ·subst e
   exact ⟨x',setW_self hx,h0 hm⟩
  ·obtain ⟨z,hz,hz0⟩:=h.wm m (hfm.subset hm)
   exact ⟨z,by rw [setW_ne e];exact hz,hz0⟩
 ·intro m k hm
  obtain ⟨hk,z,hz,z0,z1⟩:=h.nt m k hm
  by_cases e:m=n
  ·subst e
   rw [hx] at hz;obtain rfl:=Option.some.inj hz;exact ⟨hk,x',setW_self hx,by rw [(hs.e 0 (by omega)).2.2.1];exact z0,by rw [(hs.e 1 (by omega)).2.2.1];exact z1⟩
  ·exact ⟨hk,z,by rw [setW_ne e];exact hz,z0,z1⟩
theorem WOk.setS_at {w:WA} (h:WOk w) {n:Nat} {x x':WireA} (hx:w.ws[n]?=some x) (hs:SbW x x') (h0:n∈(w.setW n x').ws.flatMap WireA.wt→(x'.e 0).what=0) (hk:∀ k,k < 2→(x.e k).what=1→(x'.e k).what=1):(w.setW n x').at=w.at:=by
 funext fd
 refine atW_ext (h.setS hx hs h0).uq h.uq fun m k hk2=>?_
 by_cases e:m=n
 ·subst e
  rw [setW_self hx,hx]
  have:=hs.e k hk2
  constructor
  ·rintro ⟨y,hy,h1,h2⟩;obtain rfl:=Option.some.inj hy;exact ⟨x,rfl,this.1 h1,this.2.1 ▸ h2⟩
  ·rintro ⟨y,hy,h1,h2⟩;obtain rfl:=Option.some.inj hy;exact ⟨x',rfl,hk k hk2 h1,by rw [this.2.1];exact h2⟩
 ·rw [setW_ne e]
def giveW (y:WireA) (f:Nat):WireA:=y.up 0 fun e=>{ e with what:=1,fd:=(f:Int) }
theorem give0 (y:WireA) (f:Nat):(giveW y f).e 0={ y.e 0 with what:=1,fd:=(f:Int) }:=up_at _ _ _
theorem give1 (y:WireA) (f:Nat):(giveW y f).e 1=y.e 1:=up_ne _ _ (by omega)
theorem WOk.give {w:WA} (h:WOk w) {n f:Nat} {y:WireA} (hy:w.ws[n]?=some y) (hn:(y.e 0).what≠1) (hw:n ∉ w.ws.flatMap WireA.wt) (hf:f < 96) (hfr:w.at (f:Int)=none) :
  WOk (w.setW n (giveW y f))∧(w.setW n (giveW y f)).at=setT w.at (f:Int) (some (n,0)):=by
 have hym:=List.mem_of_getElem? hy
 have hwf:=h.wf y hym
 have hold:=atW_no.1 hfr
 have hfm:(w.setW n (giveW y f)).ws.flatMap WireA.wt=w.ws.flatMap WireA.wt:=flatMap_set hy rfl
 have hat:∀ {m:Nat} {x:WireA},(w.setW n (giveW y f)).ws[m]?=some x→∃ z,w.ws[m]?=some z∧∀ k,k < 2→((m=n∧k=0∧(x.e k).what=1∧(x.e k).fd=(f:Int))∨(¬ (m=n∧k=0)∧(x.e k).what=(z.e k).what∧(x.e k).fd=(z.e k).fd))∧(x.e k).rd=(z.e k).rd:=fun {m} {x} hm=>by
  rcases setW_get hm with ⟨rfl,rfl⟩ | ⟨hne,hm⟩
  ·refine ⟨y,hy,fun k hk=>?_⟩
   rcases (show k=0∨k=1 by omega) with rfl | rfl
   ·rw [give0];exact ⟨.inl ⟨rfl,rfl,rfl,rfl⟩,rfl⟩
   ·rw [give1];exact ⟨.inr ⟨by omega,rfl,rfl⟩,rfl⟩
  ·exact ⟨_,hm,fun k _=>⟨.inr ⟨fun e=>hne e.1,rfl,rfl⟩,rfl⟩⟩
 have hok:WOk (w.setW n (giveW y f)):=by
  refine ⟨?_,?_,by rw [setW_len];exact h.len,h.hdl,h.ctl,?_,by rw [hfm];exact h.wn,?_,?_,fun m z hm=>by
   rcases setW_get hm with ⟨rfl,rfl⟩ | ⟨_,hm⟩
   ·exact fun e=>h.ns _ y hy e
   ·exact h.ns _ _ hm⟩
  ·intro a b x z k j ha hb hk hj h1 h2 h3
   obtain ⟨x',ha',hx⟩:=hat ha
   obtain ⟨z',hb',hz⟩:=hat hb
   rcases (hx k hk).1 with ⟨rfl,rfl,_,e1⟩ | ⟨a1,a2,a3⟩<;>rcases (hz j hj).1 with ⟨rfl,rfl,_,e2⟩ | ⟨b1,b2,b3⟩
   ·exact ⟨rfl,rfl⟩
   ·exact absurd ⟨by rw [←b2];exact h2,by rw [←b3,←h3];exact e1⟩ (hold z' (List.mem_of_getElem? hb') j hj)
   ·exact absurd ⟨by rw [←a2];exact h1,by rw [←a3,h3];exact e2⟩ (hold x' (List.mem_of_getElem? ha') k hk)
   ·exact h.uq a b x' z' k j ha' hb' hk hj (by rw [←a2];exact h1) (by rw [←b2];exact h2) (by rw [←a3,←b3];exact h3)
  ·intro x hx k hk h1
   obtain ⟨m,hm,e⟩:=List.getElem_of_mem hx
   obtain ⟨z,hz,he⟩:=hat (m:=m) (x:=x) (by rw [List.getElem?_eq_getElem hm,e])
   rcases (he k hk).1 with ⟨_,_,_,e1⟩ | ⟨_,a2,a3⟩
   ·rw [e1];omega
   ·rw [a3];exact h.fd z (List.mem_of_getElem? hz) k hk (by rw [←a2];exact h1)
  ·intro x hx
   rcases List.mem_or_eq_of_mem_set hx with hx | rfl
   ·exact h.wf x hx
   ·refine ⟨fun k hk=>?_,fun k hk=>?_,fun k hk hr=>?_,hwf.cap,fun k hk=>?_,hwf.bl,fun e=>?_⟩
    ·have h1:∀ j,j < 2→((giveW y f).e j).wr=(y.e j).wr∧((giveW y f).e j).rd=(y.e j).rd:=fun j hj=>by
      rcases (show j=0∨j=1 by omega) with rfl | rfl
      ·rw [give0];exact ⟨rfl,rfl⟩
      ·rw [give1];exact ⟨rfl,rfl⟩
     rw [(h1 k hk).1,(h1 (1 - k) (by omega)).2];exact hwf.wr k hk
    ·rcases (show k=0∨k=1 by omega) with rfl | rfl
     ·rw [give0];exact hwf.le 0 hk
     ·rw [give1];exact hwf.le 1 hk
    ·rcases (show k=0∨k=1 by omega) with rfl | rfl
     ·rw [give0] at hr ⊢;exact hwf.nb 0 hk hr
     ·rw [give1] at hr ⊢;exact hwf.nb 1 hk hr
    ·rcases (show k=0∨k=1 by omega) with rfl | rfl
     ·rw [give0];show (0:Int)≤1∧(1:Int)≤3;omega
     ·rw [give1];exact hwf.what 1 hk
    ·rw [give1] at e ⊢;rw [give0];exact hwf.ou e
  ·intro m hm
   rw [hfm] at hm
   have e:m≠n:=fun e=>hw (e ▸ hm)
   obtain ⟨z,hz,hz0⟩:=h.wm m hm
   exact ⟨z,by rw [setW_ne e];exact hz,hz0⟩
  ·intro m k hm
   obtain ⟨hk,z,hz,z0,z1⟩:=h.nt m k hm
   by_cases e:m=n
   ·subst e
    rw [hy] at hz;obtain rfl:=Option.some.inj hz;exact ⟨hk,_,setW_self hy,by rw [give0];exact z0,by rw [give1];exact z1⟩
   ·exact ⟨hk,z,by rw [setW_ne e];exact hz,z0,z1⟩
 refine ⟨hok,?_⟩
 funext a
 apply Option.ext;rintro ⟨m,k⟩;rw [show (w.setW n (giveW y f)).at a=some (m,k)↔_ from atW_iff hok.uq]
 show _↔(if a=(f:Int) then some (n,0) else w.at a)=some (m,k)
 constructor
 ·rintro ⟨hk,x,hx,h1,h2⟩
  obtain ⟨z,hz,he⟩:=hat hx
  rcases (he k hk).1 with ⟨rfl,rfl,_,e1⟩ | ⟨a1,a2,a3⟩
  ·rw [if_pos (by rw [←h2];exact e1)]
  ·have hne:a≠(f:Int):=fun e=>hold z (List.mem_of_getElem? hz) k hk ⟨by rw [←a2];exact h1,by rw [←a3,h2];exact e⟩
   rw [if_neg hne];exact (atW_iff h.uq).2 ⟨hk,z,hz,by rw [←a2];exact h1,by rw [←a3];exact h2⟩
 ·intro e
  by_cases ha:a=(f:Int)
  ·rw [if_pos ha] at e
   obtain ⟨rfl,rfl⟩:=Prod.mk.inj (Option.some.inj e)
   exact ⟨by omega,_,setW_self hy,by rw [give0],by rw [give0];exact ha.symm⟩
  ·rw [if_neg ha] at e
   obtain ⟨hk,z,hz,h1,h2⟩:=(atW_iff h.uq).1 e
   by_cases em:m=n
   ·subst em
    rw [hy] at hz;obtain rfl:=Option.some.inj hz
    rcases (show k=0∨k=1 by omega) with rfl | rfl
    ·exact absurd h1 hn
    ·exact ⟨hk,_,setW_self hy,by rw [give1];exact h1,by rw [give1];exact h2⟩
   ·exact ⟨hk,z,by rw [setW_ne em];exact hz,h1,h2⟩
def waitW (x:WireA) (m:Nat):WireA:={ x.up 0 (fun e=>{ e with inn:=IntKind.u64.wrap (e.inn + 1) }) with wt:=x.wt++[m] }
theorem wait_e (x:WireA) (m k:Nat):((waitW x m).e k).what=(x.e k).what∧((waitW x m).e k).fd=(x.e k).fd∧((waitW x m).e k).rd=(x.e k).rd∧((waitW x m).e k).wr=(x.e k).wr∧((waitW x m).e k).b=(x.e k).b:=by
 show ((if k=0 then _ else _:EndA)).what=_∧((if k=0 then _ else _:EndA)).fd=_∧((if k=0 then _ else _:EndA)).rd=_∧((if k=0 then _ else _:EndA)).wr=_∧((if k=0 then _ else _:EndA)).b=_
 by_cases h:k=0
 ·subst h;exact ⟨rfl,rfl,rfl,rfl,rfl⟩
 ·rw [if_neg h];exact ⟨rfl,rfl,rfl,rfl,rfl⟩
theorem flatMap_set_app {α β:Type} {f:α→List β} {bs:List β}:∀ {l:List α} {n:Nat} {x x':α},l[n]?=some x→f x'=f x++bs→((l.set n x').flatMap f).Perm (bs++l.flatMap f)
 | [],_,_,_,h,_=>by simp at h
 | a::l,0,x,x',h,e=>by
  obtain rfl:a=x:=by simpa using h
  show (f x'++l.flatMap f).Perm (bs++(f a++l.flatMap f))
  rw [e,←List.append_assoc];exact List.Perm.append_right _ List.perm_append_comm
 | a::l,n + 1,x,x',h,e=>by
  show (f a++(l.set n x').flatMap f).Perm (bs++(f a++l.flatMap f))
  have:=flatMap_set_app (f:=f) (l:=l) (n:=n) (by simpa using h) e
  refine (List.Perm.append_left (f a) this).trans ?_;rw [←List.append_assoc,←List.append_assoc];exact List.Perm.append_right _ List.perm_append_comm
theorem WOk.wait {w:WA} (h:WOk w) {n m:Nat} {x y:WireA} (hx:w.ws[n]?=some x) (hm:w.ws[m]?=some y) (h0:(y.e 0).what=0) (hnm:n≠m) (hw:m ∉ w.ws.flatMap WireA.wt) (hl:(x.wt.length:Int) + 1≤x.bl) :
  WOk (w.setW n (waitW x m))∧(w.setW n (waitW x m)).at=w.at:=by
 have hwf:=h.wf x (List.mem_of_getElem? hx)
 have hpm:((w.setW n (waitW x m)).ws.flatMap WireA.wt).Perm ([m]++w.ws.flatMap WireA.wt):=flatMap_set_app hx rfl
 have hat:∀ {a:Nat} {z:WireA},(w.setW n (waitW x m)).ws[a]?=some z→∃ z',w.ws[a]?=some z'∧∀ k,(z.e k).what=(z'.e k).what∧(z.e k).fd=(z'.e k).fd∧(z.e k).rd=(z'.e k).rd:=fun ha=>by
  rcases setW_get ha with ⟨rfl,rfl⟩ | ⟨_,ha⟩
  ·exact ⟨x,hx,fun k=>⟨(wait_e x m k).1,(wait_e x m k).2.1,(wait_e x m k).2.2.1⟩⟩
  ·exact ⟨_,ha,fun _=>⟨rfl,rfl,rfl⟩⟩
 have hta:∀ {a:Nat} {z:WireA},w.ws[a]?=some z→∃ z',(w.setW n (waitW x m)).ws[a]?=some z'∧∀ k,(z'.e k).what=(z.e k).what∧(z'.e k).fd=(z.e k).fd∧(z'.e k).rd=(z.e k).rd:=fun {a} {z} ha=>by
  by_cases e:a=n
  ·subst e
   rw [hx] at ha;obtain rfl:=Option.some.inj ha;exact ⟨_,setW_self hx,fun k=>⟨(wait_e x m k).1,(wait_e x m k).2.1,(wait_e x m k).2.2.1⟩⟩
  ·exact ⟨z,by rw [setW_ne e];exact ha,fun _=>⟨rfl,rfl,rfl⟩⟩
 have hok:WOk (w.setW n (waitW x m)):=by
  refine ⟨?_,?_,by rw [setW_len];exact h.len,h.hdl,h.ctl,?_,?_,?_,?_,fun a z ha=>by
   rcases setW_get ha with ⟨rfl,rfl⟩ | ⟨_,ha⟩
   ·intro e
    rcases List.mem_append.1 (show a∈x.wt++[m] from e) with e | e
    ·exact h.ns _ _ hx e
    ·exact hnm (by simpa using e)
   ·exact h.ns _ _ ha⟩
  ·intro a b p q k j ha hb hk hj h1 h2 h3
   obtain ⟨p',ha',hp⟩:=hat ha
   obtain ⟨q',hb',hq⟩:=hat hb
   exact h.uq a b p' q' k j ha' hb' hk hj (by rw [←(hp k).1];exact h1) (by rw [←(hq j).1];exact h2) (by rw [←(hp k).2.1,←(hq j).2.1];exact h3)
  ·intro p hp k hk h1
   obtain ⟨a,ha,e⟩:=List.getElem_of_mem hp
   obtain ⟨p',hp',he⟩:=hat (a:=a) (z:=p) (by rw [List.getElem?_eq_getElem ha,e])
   have:=h.fd p' (List.mem_of_getElem? hp') k hk (by rw [←(he k).1];exact h1)
   rw [(he k).2.1];exact this
  ·intro p hp
   rcases List.mem_or_eq_of_mem_set hp with hp | rfl
   ·exact h.wf p hp
   ·have e:=wait_e x m
    refine ⟨fun k hk=>by rw [(e k).2.2.2.1,(e (1 - k)).2.2.1];exact hwf.wr k hk,fun k hk=>by rw [(e k).2.2.2.2];exact hwf.le k hk,fun k hk hr=>by rw [(e k).2.2.2.2];exact hwf.nb k hk (by rw [←(e k).2.2.1];exact hr),hwf.cap,fun k hk=>by rw [(e k).1];exact hwf.what k hk,?_,fun h1=>?_⟩
    ·have h1:=hwf.bl
     refine ⟨h1.1,h1.2.1,?_⟩
     show ((x.wt++[m]).length:Int)≤x.bl
     rw [List.length_append]
     show ((x.wt.length + 1:Nat):Int)≤_
     omega
    ·rw [(e 1).1] at h1
     rw [(e 0).2.2.1,(e 1).2.2.1];exact hwf.ou h1
  ·rw [hpm.nodup_iff]
   exact List.nodup_cons.2 ⟨hw,h.wn⟩
  ·intro a ha
   have ha2:a∈[m]++w.ws.flatMap WireA.wt:=hpm.mem_iff.1 ha
   rcases List.mem_append.1 ha2 with h1 | h1
   ·obtain rfl:a=m:=by simpa using h1
    exact ⟨y,by rw [setW_ne (Ne.symm hnm)];exact hm,h0⟩
   ·obtain ⟨z,hz,hz0⟩:=h.wm a h1
    obtain ⟨z',hz',he⟩:=hta hz
    exact ⟨z',hz',by rw [(he 0).1];exact hz0⟩
  ·intro a k ha
   obtain ⟨hk,z,hz,z0,z1⟩:=h.nt a k ha
   obtain ⟨z',hz',he⟩:=hta hz
   exact ⟨hk,z',hz',by rw [(he 0).2.2];exact z0,by rw [(he 1).2.2];exact z1⟩
 refine ⟨hok,?_⟩
 funext fd
 refine atW_ext hok.uq h.uq fun a k _=>?_
 constructor
 ·rintro ⟨z,hz,h1,h2⟩
  obtain ⟨z',hz',he⟩:=hat hz
  exact ⟨z',hz',by rw [←(he k).1];exact h1,by rw [←(he k).2.1];exact h2⟩
 ·rintro ⟨z,hz,h1,h2⟩
  obtain ⟨z',hz',he⟩:=hta hz
  exact ⟨z',hz',by rw [(he k).1];exact h1,by rw [(he k).2.1];exact h2⟩
structure Gr (w w':WA):Prop where
 all:∀ (n:Nat) (x:WireA),w.ws[n]?=some x→∃ x',w'.ws[n]?=some x'∧((x.e 0).what≠0→(x'.e 0).what≠0)∧∀ k,k < 2→(x.e k).inn≤(x'.e k).inn∧(x.e k).out≤(x'.e k).out∧((x.e 0).what≠0→(x'.e k).what=1→(x.e k).what=1∧(x'.e k).fd=(x.e k).fd)
theorem Gr.refl (w:WA):Gr w w:=⟨fun n x h=>⟨x,h,id,fun k _=>⟨Int.le_refl _,Int.le_refl _,fun _ e=>⟨e,rfl⟩⟩⟩⟩
theorem Gr.trans {a b c:WA} (h:Gr a b) (g:Gr b c):Gr a c:=⟨fun n x hx=>by
 obtain ⟨y,hy,y0,ye⟩:=h.all n x hx
 obtain ⟨z,hz,z0,ze⟩:=g.all n y hy
 refine ⟨z,hz,fun e=>z0 (y0 e),fun k hk=>?_⟩
 obtain ⟨a1,a2,a3⟩:=ye k hk
 obtain ⟨b1,b2,b3⟩:=ze k hk
 refine ⟨by omega,by omega,fun e e1=>?_⟩
 obtain ⟨c1,c2⟩:=b3 (y0 e) e1
 obtain ⟨d1,d2⟩:=a3 e c1
 exact ⟨d1,by rw [c2,d2]⟩⟩
structure Lo (K:Nat) (w:WA):Prop where
 ct:∀ c∈w.ct,0≤c∧c≤(K:Int)
 rs:∀ x∈w.ws,∀ k,k < 2→0≤(x.e k).inn∧(x.e k).inn≤(K:Int)∧0≤(x.e k).out∧(x.e k).out≤(K:Int)
 now:0≤w.now∧w.now≤18446744073709551615
 g1:∀ x∈w.ws,(x.e 1).what=1→(x.e 0).what≠0
theorem Lo.mono {K K':Nat} {w:WA} (h:Lo K w) (hk:K≤K'):Lo K' w:=⟨fun c hc=>by have:=h.ct c hc;omega,fun x hx k hk=>by have:=h.rs x hx k hk;omega,h.now,h.g1⟩
def Stp (j:Nat) (w w':WA):Prop:=∀ K,K + j≤1000000000→Lo K w→Lo (K + j) w'∧Gr w w'
theorem Stp.refl (w:WA):Stp 0 w w:=fun _ _ h=>⟨h,Gr.refl w⟩
theorem Stp.mono {i j:Nat} {w w':WA} (h:Stp i w w') (hij:i≤j):Stp j w w':=fun K hK hl=>by
 obtain ⟨h1,h2⟩:=h K (by omega) hl
 exact ⟨h1.mono (by omega),h2⟩
theorem Stp.same {j:Nat} (w:WA):Stp j w w:=(Stp.refl w).mono (Nat.zero_le _)
theorem Stp.trans {i j:Nat} {a b c:WA} (h:Stp i a b) (g:Stp j b c):Stp (i + j) a c:=fun K hK hl=>by
 obtain ⟨h1,h2⟩:=h K (by omega) hl
 obtain ⟨g1,g2⟩:=g (K + i) (by omega) h1
 exact ⟨by rw [←Nat.add_assoc];exact g1,h2.trans g2⟩
def RsE (e e':EndA):Prop:=(e'.inn=e.inn∨e'.inn=IntKind.u64.wrap (e.inn + 1))∧(e'.out=e.out∨e'.out=IntKind.u64.wrap (e.out + 1))
theorem RsE.refl (e:EndA):RsE e e:=⟨.inl rfl,.inl rfl⟩
theorem rsE_rise (i o:Bool) (e:EndA):RsE e (riseE i o e):=by
 unfold riseE RsE;dsimp only
 constructor
 ·by_cases h:(i && e.rd)=true
  ·rw [if_pos h];exact .inr rfl
  ·rw [if_neg h];exact .inl rfl
 ·by_cases h:(o && e.wr)=true
  ·rw [if_pos h];exact .inr rfl
  ·rw [if_neg h];exact .inl rfl
theorem wrap_add {x:Int} {K:Nat} (h0:0≤x) (h1:x≤(K:Int)) (hK:K + 1≤1000000000):IntKind.u64.wrap (x + 1)=x + 1:=by
 have:IntKind.u64.wrap (x + 1)=(x + 1) % 18446744073709551616:=rfl
 rw [this];omega
theorem RsE.le {e e':EndA} (h:RsE e e') {K:Nat} (hK:K + 1≤1000000000) (hl:0≤e.inn∧e.inn≤(K:Int)∧0≤e.out∧e.out≤(K:Int)):e.inn≤e'.inn∧e.out≤e'.out∧0≤e'.inn∧e'.inn≤((K + 1:Nat):Int)∧0≤e'.out∧e'.out≤((K + 1:Nat):Int):=by
 obtain ⟨h1,h2⟩:=h
 rw [wrap_add hl.1 hl.2.1 hK] at h1;rw [wrap_add hl.2.2.1 hl.2.2.2 hK] at h2;omega
theorem stp_set {w:WA} {n:Nat} {x x':WireA} (hx:w.ws[n]?=some x) (hr:∀ k,k < 2→RsE (x.e k) (x'.e k)) (h0:(x.e 0).what≠0→(x'.e 0).what≠0) (hn:(x.e 0).what≠0→∀ k,k < 2→(x'.e k).what=1→(x.e k).what=1∧(x'.e k).fd=(x.e k).fd) (h1:(x'.e 1).what=1→(x.e 1).what=1):Stp 1 w (w.setW n x'):=fun K hK hl=>by
 have hlx:=hl.rs x (List.mem_of_getElem? hx)
 refine ⟨⟨(hl.mono (Nat.le_succ K)).ct,fun y hy k hk=>?_,hl.now,fun y hy e1=>(List.mem_or_eq_of_mem_set hy).elim (fun hy=>hl.g1 y hy e1) (fun e=>by subst e;exact h0 (hl.g1 x (List.mem_of_getElem? hx) (h1 e1)))⟩,⟨fun m y hy=>?_⟩⟩
 ·rcases List.mem_or_eq_of_mem_set hy with hy | rfl
  ·exact (hl.mono (Nat.le_succ K)).rs y hy k hk
  ·have:=(hr k hk).le hK (hlx k hk)
   omega
 ·by_cases e:m=n
  ·subst e
   rw [hx] at hy;obtain rfl:=Option.some.inj hy;refine ⟨x',setW_self hx,h0,fun k hk=>?_⟩
   have:=(hr k hk).le hK (hlx k hk)
   exact ⟨this.1,this.2.1,fun e0 e1=>hn e0 k hk e1⟩
  ·exact ⟨y,by rw [setW_ne e];exact hy,id,fun k _=>⟨Int.le_refl _,Int.le_refl _,fun _ e=>⟨e,rfl⟩⟩⟩
theorem SbW.stp {w:WA} {n:Nat} {x x':WireA} (hx:w.ws[n]?=some x) (hs:SbW x x') (hr:∀ k,k < 2→RsE (x.e k) (x'.e k)):Stp 1 w (w.setW n x') :=
 stp_set hx hr hs.w0 (fun _ k hk e=>⟨(hs.e k hk).1 e,(hs.e k hk).2.1⟩) (fun e=>(hs.e 1 (by omega)).1 e)
theorem stp_add (w:WA) {x:WireA} (h:∀ k,k < 2→(x.e k).inn=0∧(x.e k).out=0) (h1:(x.e 1).what=1→(x.e 0).what≠0):Stp 0 w (w.addW x):=fun K _ hl=>by
 refine ⟨⟨hl.ct,fun y hy k hk=>?_,hl.now,fun y hy e1=>(List.mem_append.1 hy).elim (fun hy=>hl.g1 y hy e1) (fun hy=>by obtain rfl:y=x:=(by simpa using hy);exact h1 e1)⟩,⟨fun m y hy=>⟨y,by show (w.ws++[x])[m]?=_;rw [List.getElem?_append_left (List.getElem?_eq_some_iff.1 hy).1];exact hy,id,fun k _=>⟨Int.le_refl _,Int.le_refl _,fun _ e=>⟨e,rfl⟩⟩⟩⟩⟩
 rcases List.mem_append.1 hy with hy | hy
 ·exact hl.rs y hy k hk
 ·obtain rfl:y=x:=by simpa using hy
  have:=h k hk
  omega
theorem gr_ws {w w':WA} (h:w'.ws=w.ws):Gr w w':=⟨fun n x hx=>⟨x,by rw [h];exact hx,id,fun k _=>⟨Int.le_refl _,Int.le_refl _,fun _ e=>⟨e,rfl⟩⟩⟩⟩
theorem rs_up (x:WireA) (k:Nat) {f:EndA→EndA} (h:∀ e,RsE e (f e)):∀ j,RsE (x.e j) ((x.up k f).e j):=fun j=>by
 by_cases e:j=k
 ·subst e;rw [up_at];exact h _
 ·rw [up_ne _ _ e];exact RsE.refl _
theorem rs_same {x y:WireA} (h:∀ j,(y.e j).inn=(x.e j).inn∧(y.e j).out=(x.e j).out) {z:WireA} (hz:∀ j,RsE (y.e j) (z.e j)):∀ j,RsE (x.e j) (z.e j):=fun j=>by
 have:=hz j
 unfold RsE at this ⊢;rw [(h j).1,(h j).2] at this;exact this
theorem up_cnt (x:WireA) (k:Nat) {f:EndA→EndA} (h:∀ e,(f e).inn=e.inn∧(f e).out=e.out):∀ j,((x.up k f).e j).inn=(x.e j).inn∧((x.up k f).e j).out=(x.e j).out:=fun j=>by
 by_cases e:j=k
 ·subst e;rw [up_at];exact h _
 ·rw [up_ne _ _ e];exact ⟨rfl,rfl⟩
theorem rs_take (x:WireA) (k n:Nat):∀ j,RsE (x.e j) ((takeW x k n).e j):=rs_same (up_cnt x k (f:=fun e=>{ e with b:=e.b.drop n }) fun _=>⟨rfl,rfl⟩) (rs_up _ _ (rsE_rise _ _))
theorem rs_put (x:WireA) (k:Nat) (bs:List UInt8):∀ j,RsE (x.e j) ((putW x k bs).e j):=rs_same (up_cnt x (1 - k) (f:=fun e=>{ e with b:=e.b++bs.take (putN x k bs) }) fun _=>⟨rfl,rfl⟩) (rs_up _ _ (rsE_rise _ _))
theorem rs_shut (x:WireA) (k:Nat):∀ j,RsE (x.e j) ((shutW x k).e j):=by
 unfold shutW
 by_cases h:(x.e k).shut=true
 ·rw [if_pos h];exact fun j=>RsE.refl _
 ·rw [if_neg h];exact rs_same (up_cnt x k (f:=fun e=>{ e with shut:=true }) fun _=>⟨rfl,rfl⟩) (rs_up _ _ (rsE_rise _ _))
theorem rs_close (x:WireA) (k:Nat):∀ j,RsE (x.e j) ((closeW x k).e j):=fun j=>by
 unfold closeW
 have h1:=rs_up x (1 - k) (rsE_rise (!(x.e k).shut) true) j
 have h2:=up_cnt (x.up (1 - k) (riseE (!(x.e k).shut) true)) k (f:=fun e=>{ e with what:=3 }) (fun _=>⟨rfl,rfl⟩) j
 unfold RsE at h1 ⊢;rw [h2.1,h2.2];exact h1
theorem smW_shut {x:WireA} (h:WfW x) {k:Nat}:SmW x (shutW x k):=by
 unfold shutW
 by_cases hs:(x.e k).shut=true
 ·rw [if_pos hs];exact smW_same h
 ·rw [if_neg hs]
  have h1:SmW x (x.up k fun e=>{ e with shut:=true }):=by
   have e:∀ j,((x.up k fun e=>{ e with shut:=true }).e j).what=(x.e j).what∧((x.up k fun e=>{ e with shut:=true }).e j).fd=(x.e j).fd∧((x.up k fun e=>{ e with shut:=true }).e j).rd=(x.e j).rd∧((x.up k fun e=>{ e with shut:=true }).e j).wr=(x.e j).wr∧((x.up k fun e=>{ e with shut:=true }).e j).b=(x.e j).b:=fun j=>by
    by_cases e:j=k
    ·subst e;rw [up_at];exact ⟨rfl,rfl,rfl,rfl,rfl⟩
    ·rw [up_ne _ _ e];exact ⟨rfl,rfl,rfl,rfl,rfl⟩
   exact ⟨fun j _=>⟨(e j).1,(e j).2.1,(e j).2.2.1,(e j).2.2.2.1⟩,rfl,rfl,rfl,fun j hj=>by rw [(e j).2.2.2.2];exact h.le j hj,fun j hj hr=>by rw [(e j).2.2.2.2];exact h.nb j hj hr⟩
  exact h1.trans (smW_rise (h1.wf h) _ _ _)
theorem sbW_close {x:WireA} (h:WfW x) {k:Nat} (hk:k < 2):SbW x (closeW x k) where
 e j hj:=by
  obtain ⟨a,b,c,d,_⟩:=close_e x hk hj
  refine ⟨fun e=>?_,b,c,d⟩;rw [a] at e
  split at e
  ·cases e
  ·exact e
 wh:=(close_wf h hk).what
 w0 e:=by
  rw [(close_e x hk (by omega)).1]
  split
  ·decide
  ·exact e
 ou e:=by
  rw [(close_e x hk (by omega)).1] at e
  split at e
  ·cases e
  ·exact e
 wt:=List.Sublist.refl _
 bl:=rfl
 cap:=rfl
 le j hj:=by rw [(close_e x hk hj).2.2.2.2];exact h.le j hj
 nb j hj hr:=by rw [(close_e x hk hj).2.2.2.2];exact h.nb j hj hr
def WireA.wts (x:WireA) (l:List Nat):WireA:={ x with wt:=l }
theorem sbW_wts {x:WireA} (h:WfW x) {l:List Nat} (hl:l.Sublist x.wt):SbW x (x.wts l) where
 e _ _:=⟨id,rfl,rfl,rfl⟩
 wh:=h.what
 w0:=id
 ou:=id
 wt:=hl
 bl:=rfl
 cap:=rfl
 le:=h.le
 nb:=h.nb
theorem SbW.trans {x y z:WireA} (h1:SbW x y) (h2:SbW y z):SbW x z where
 e k hk:=by
  obtain ⟨a1,a2,a3,a4⟩:=h1.e k hk
  obtain ⟨b1,b2,b3,b4⟩:=h2.e k hk
  exact ⟨fun e=>a1 (b1 e),by rw [b2,a2],by rw [b3,a3],by rw [b4,a4]⟩
 wh:=h2.wh
 w0 e:=h2.w0 (h1.w0 e)
 ou e:=h1.ou (h2.ou e)
 wt:=h2.wt.trans h1.wt
 bl:=by rw [h2.bl,h1.bl]
 cap:=by rw [h2.cap,h1.cap]
 le k hk:=by rw [←h1.cap];exact h2.le k hk
 nb k hk hr:=h2.nb k hk (by rw [(h1.e k hk).2.2.1];exact hr)
def resetW (x:WireA):WireA:={ x with rs:=true,e:=fun k=>if k < 2 then riseE true true { x.e k with b:=[] } else x.e k }
theorem reset_e (x:WireA) {k:Nat} (hk:k < 2):(resetW x).e k=riseE true true { x.e k with b:=[] }:=if_pos hk
theorem smW_reset (x:WireA):SmW x (resetW x):=⟨fun k hk=>by rw [reset_e x hk];exact ⟨rfl,rfl,rfl,rfl⟩,rfl,rfl,rfl,fun k hk=>by rw [reset_e x hk];exact Nat.zero_le _,fun k hk _=>by rw [reset_e x hk];rfl⟩
theorem rs_reset (x:WireA):∀ j,RsE (x.e j) ((resetW x).e j):=fun j=>by
 by_cases h:j < 2
 ·rw [reset_e x h];exact rsE_rise true true { x.e j with b:=[] }
 ·rw [show (resetW x).e j=x.e j from if_neg h];exact RsE.refl _
def outW (w:WA) (n:Int):Option WireA:=if n < 0 then none else match w.ws[n.toNat]? with
 | none=>none
 | some x=>if (x.e 1).what=2 then some x else none
theorem outW_some {w:WA} {n:Int} {x:WireA} (h:outW w n=some x):0≤n∧w.ws[n.toNat]?=some x∧(x.e 1).what=2:=by
 unfold outW at h
 split at h
 ·cases h
 ·split at h
  ·cases h
  ·rename_i y hy
   split at h
   ·rename_i h2;obtain rfl:=Option.some.inj h;exact ⟨by omega,hy,h2⟩
   ·cases h
def putR (w:WA) (n:Int) (bs:List UInt8):(Int×Int)×WA:=match outW w n with
 | none=>((0,116),w)
 | some x=>if x.rs=true then ((0,115),w) else if (x.e 1).shut=true∨(x.e 0).what=3 then ((0,114),w) else (((putN x 1 bs:Nat),0),w.setW n.toNat (putW x 1 bs))
def takR (w:WA) (n m:Int):(List UInt8×Int)×WA:=match outW w n with
 | none=>(([],116),w)
 | some x=>if m < 0 then (([],2),w) else if x.rs=true then (([],115),w) else (((x.e 1).b.take m.toNat,0),w.setW n.toNat (takeW x 1 m.toNat))
def pshutR (w:WA) (n:Int):Int×WA:=match outW w n with
 | none=>(116,w)
 | some x=>(0,w.setW n.toNat (shutW x 1))
def pcloseR (w:WA) (n:Int):Int×WA:=match outW w n with
 | none=>(116,w)
 | some x=>(0,w.setW n.toNat (closeW x 1))
def resetR (w:WA) (n:Int):Int×WA:=match outW w n with
 | none=>(116,w)
 | some x=>(0,if x.rs=true then w else w.setW n.toNat (resetW x))
def shutR (w:WA) (fd:Int):Int×WA:=match w.at fd with
 | none=>(110,w)
 | some (m,k)=>match w.ws[m]? with
  | none=>(110,w)
  | some x=>if (x.e k).rd=false∨(x.e k).wr=false then (111,w) else (0,w.setW m (shutW x k))
def closeAll:List WireA→List Nat→List WireA
 | ws,[]=>ws
 | ws,n::t=>closeAll (match ws[n]? with | some y=>ws.set n (closeW y 0) | none=>ws) t
def closeF (w:WA) (fd:Int):Int×WA:=match w.at fd with
 | none=>(110,w)
 | some (m,k)=>match w.ws[m]? with
  | none=>(110,w)
  | some x=>(0,{ w with ws:=closeAll (w.ws.set m ((closeW x k).wts [])) x.wt })
def connW (n:Nat):WireA:=(halfW n 2).up 1 fun e=>{ e with what:=2 }
def connR (w:WA) (n m:Int):(Int×Int)×WA:=match (if n < 0 then none else w.ws[n.toNat]?) with
 | none=>((0,116),w)
 | some x=>if x.bl=0∨(x.e 0).what≠1 then ((0,116),w) else if m < 1∨65536 < m then ((0,2),w) else if x.bl≤(x.wt.length:Int) then ((0,113),w)
  else if 1000≤w.ws.length then ((0,112),w) else (((w.ws.length:Nat),0),(w.addW (connW m.toNat)).setW n.toNat (waitW x w.ws.length))
def accR (w:WA) (fd:Int):(Int×Int×Int)×WA:=match w.at fd with
 | none=>((0,0,110),w)
 | some (m,_)=>match w.ws[m]? with
  | none=>((0,0,110),w)
  | some x=>if x.bl=0 then ((0,0,111),w) else match x.wt with
   | []=>((0,0,113),w)
   | a::t=>match frees w.at with
    | []=>((0,0,112),w)
    | f::_=>match (w.setW m (x.wts t)).ws[a]? with
     | none=>((0,0,112),w)
     | some y=>(((f:Nat),(a:Nat),0),(w.setW m (x.wts t)).setW a (giveW y f))
def passR (w:WA) (n:Int):WA:={ w with now:=w.now + min n (18446744073709551615 - w.now) }
def pendN (w:WA):Int:=(w.ct.drop 1).sum
def ntcR (w:WA):WA:=match w.nt with
 | none=>w
 | some (n,k)=>match w.ws[n]? with
  | none=>w
  | some x=>if pendN w=0 then w.setW n (takeW x k (x.e k).b.length) else if (x.e k).b=[] then w.setW n (putW x (1 - k) [1]) else w
def hanR (w:WA) (s:Int) (on:Bool):Int×WA:=if s < 1∨31 < s then (100,ntcR w) else (0,ntcR { w with hd:=w.hd.set s.toNat on,ct:=if on=true then w.ct else w.ct.set s.toNat 0 })
def raiR (w:WA) (s:Int):Int×WA:=if s < 1∨31 < s then (100,ntcR w) else (0,ntcR { w with ct:=if w.hd.getD s.toNat false=true then w.ct.set s.toNat (w.ct.getD s.toNat 0 + 1) else w.ct })
def cntF:Nat→List Int→List (Int×Int)
 | _,[]=>[]
 | i,c::t=>if i=0∨c=0 then cntF (i + 1) t else ((i:Int),c)::cntF (i + 1) t
def sigR (w:WA):List (Int×Int)×WA:=(cntF 0 w.ct,ntcR { w with ct:=match w.ct with | []=>[] | c::t=>c::t.map fun _=>0 })
def notR (w:WA) (a b:Int):Int×WA:=match w.at a,w.at b with
 | some (n,k),some (m,i)=>match w.ws[n]? with
  | none=>(110,w)
  | some x=>if n≠m∨k=i∨(x.e 0).rd=false∨(x.e 1).rd=false then (111,w) else (0,ntcR { w with nt:=some (n,k) })
 | _,_=>(110,w)
theorem read_stp {w:WA} (h:WOk w) (fd n:Int):Stp 1 w (readR w fd n).2:=by
 unfold readR
 split
 ·exact Stp.same w
 ·split
  ·exact Stp.same w
  ·rename_i m k hk _ x hx
   split
   ·exact Stp.same w
   ·split
    ·exact Stp.same w
    ·split
     ·exact Stp.same w
     ·split
      ·rename_i hr _ _ _
       have hwf:=h.wf x (List.mem_of_getElem? hx)
       exact ((smW_take hwf (h.at_lt hk).2.2.1 (by simpa using hr)).sb hwf).stp hx fun j _=>rs_take x k n.toNat j
      ·split
       ·exact Stp.same w
       ·exact Stp.same w
theorem write_stp {w:WA} (h:WOk w) (fd:Int) (bs:List UInt8):Stp 1 w (writeR w fd bs).2:=by
 unfold writeR
 split
 ·exact Stp.same w
 ·split
  ·exact Stp.same w
  ·rename_i m k hk _ x hx
   split
   ·exact Stp.same w
   ·split
    ·exact Stp.same w
    ·split
     ·exact Stp.same w
     ·split
      ·exact Stp.same w
      ·split
       ·exact Stp.same w
       ·rename_i hr _ _ _ _
        have hwf:=h.wf x (List.mem_of_getElem? hx)
        have hk2:=(h.at_lt hk).2.2.1
        exact ((smW_put hwf hk2 bs (by rw [←hwf.wr k hk2];simpa using hr)).sb hwf).stp hx fun j _=>rs_put x k bs j
theorem put_stp {w:WA} (h:WOk w) (n:Int) (bs:List UInt8):Stp 1 w (putR w n bs).2:=by
 unfold putR
 split
 ·exact Stp.same w
 ·rename_i x hx
  obtain ⟨_,hx,ho⟩:=outW_some hx
  have hwf:=h.wf x (List.mem_of_getElem? hx)
  split
  ·exact Stp.same w
  ·split
   ·exact Stp.same w
   ·exact ((smW_put hwf (k:=1) (by omega) bs (hwf.ou ho).1).sb hwf).stp hx fun j _=>rs_put x 1 bs j
theorem tak_stp {w:WA} (h:WOk w) (n m:Int):Stp 1 w (takR w n m).2:=by
 unfold takR
 split
 ·exact Stp.same w
 ·rename_i x hx
  obtain ⟨_,hx,ho⟩:=outW_some hx
  have hwf:=h.wf x (List.mem_of_getElem? hx)
  split
  ·exact Stp.same w
  ·split
   ·exact Stp.same w
   ·exact ((smW_take hwf (k:=1) (by omega) (hwf.ou ho).2).sb hwf).stp hx fun j _=>rs_take x 1 m.toNat j
theorem pshut_stp {w:WA} (h:WOk w) (n:Int):Stp 1 w (pshutR w n).2:=by
 unfold pshutR
 split
 ·exact Stp.same w
 ·rename_i x hx
  obtain ⟨_,hx,ho⟩:=outW_some hx
  have hwf:=h.wf x (List.mem_of_getElem? hx)
  exact ((smW_shut hwf).sb hwf).stp hx fun j _=>rs_shut x 1 j
theorem pclose_stp {w:WA} (h:WOk w) (n:Int):Stp 1 w (pcloseR w n).2:=by
 unfold pcloseR
 split
 ·exact Stp.same w
 ·rename_i x hx
  obtain ⟨_,hx,ho⟩:=outW_some hx
  have hwf:=h.wf x (List.mem_of_getElem? hx)
  exact (sbW_close hwf (by omega)).stp hx fun j _=>rs_close x 1 j
theorem reset_stp {w:WA} (h:WOk w) (n:Int):Stp 1 w (resetR w n).2:=by
 unfold resetR
 split
 ·exact Stp.same w
 ·rename_i x hx
  obtain ⟨_,hx,ho⟩:=outW_some hx
  have hwf:=h.wf x (List.mem_of_getElem? hx)
  dsimp only
  split
  ·exact Stp.same w
  ·exact ((smW_reset x).sb hwf).stp hx fun j _=>rs_reset x j
theorem shut_stp {w:WA} (h:WOk w) (fd:Int):Stp 1 w (shutR w fd).2:=by
 unfold shutR
 split
 ·exact Stp.same w
 ·split
  ·exact Stp.same w
  ·rename_i m k hk _ x hx
   have hwf:=h.wf x (List.mem_of_getElem? hx)
   split
   ·exact Stp.same w
   ·exact ((smW_shut hwf).sb hwf).stp hx fun j _=>rs_shut x k j
theorem sbW_closeP {w:WA} (h:WOk w) {m k:Nat} {x:WireA} {fd:Int} (hn:w.at fd=some (m,k)) (hx:w.ws[m]?=some x):SbW x ((closeW x k).wts []):=by
 have hwf:=h.wf x (List.mem_of_getElem? hx)
 have hk:=(h.at_lt hn).2.2.1
 exact (sbW_close hwf hk).trans (sbW_wts (close_wf hwf hk) (List.nil_sublist _))
theorem closeAll_ok:∀ (l:List Nat) (w:WA),WOk w→l.Nodup→(∀ n∈l,∃ y,w.ws[n]?=some y∧(y.e 0).what=0)→(∀ n∈l,n ∉ w.ws.flatMap WireA.wt) →
  WOk { w with ws:=closeAll w.ws l }∧WA.at { w with ws:=closeAll w.ws l }=w.at∧Stp l.length w { w with ws:=closeAll w.ws l }
 | [],w,h,_,_,_=>⟨h,rfl,Stp.refl w⟩
 | n::t,w,h,hd,h0,hw=>by
  obtain ⟨y,hy,hy0⟩:=h0 n List.mem_cons_self
  have hwf:=h.wf y (List.mem_of_getElem? hy)
  have hs:=sbW_close hwf (k:=0) (by omega)
  have hfm:(w.setW n (closeW y 0)).ws.flatMap WireA.wt=w.ws.flatMap WireA.wt:=flatMap_set hy rfl
  have hni:n ∉ (w.setW n (closeW y 0)).ws.flatMap WireA.wt:=by rw [hfm];exact hw n List.mem_cons_self
  have hok:=h.setS hy hs (fun e=>absurd e hni)
  have hat:=h.setS_at hy hs (fun e=>absurd e hni) (fun k hk e=>by
   rw [(close_e y (by omega) hk).1]
   split
   ·rename_i e0;subst e0;rw [hy0] at e;cases e
   ·exact e)
  have ih:=closeAll_ok t (w.setW n (closeW y 0)) hok (List.nodup_cons.1 hd).2 (fun a ha=>by
   obtain ⟨z,hz,hz0⟩:=h0 a (List.mem_cons_of_mem _ ha)
   have:a≠n:=fun e=>(List.nodup_cons.1 hd).1 (e ▸ ha)
   exact ⟨z,by rw [setW_ne this];exact hz,hz0⟩) (fun a ha=>by rw [hfm];exact hw a (List.mem_cons_of_mem _ ha))
  have e:closeAll w.ws (n::t)=closeAll (w.setW n (closeW y 0)).ws t:=by
   show closeAll (match w.ws[n]? with | some y=>w.ws.set n (closeW y 0) | none=>w.ws) t=_
   rw [hy];rfl
  have e2:({ w with ws:=closeAll w.ws (n::t) }:WA)={ w.setW n (closeW y 0) with ws:=closeAll (w.setW n (closeW y 0)).ws t }:=by rw [e];rfl
  rw [e2];refine ⟨ih.1,ih.2.1.trans hat,?_⟩;rw [List.length_cons,Nat.add_comm];exact (hs.stp hy fun j _=>rs_close y 0 j).trans ih.2.2
theorem wt_le {w:WA} (h:WOk w) {m:Nat} {x:WireA} (hx:w.ws[m]?=some x):x.wt.length≤64:=by
 have:=(h.wf x (List.mem_of_getElem? hx)).bl
 omega
theorem wt_gone {w:WA} (h:WOk w) {m:Nat} {x x':WireA} (hx:w.ws[m]?=some x) (hx':x'.wt=[]):∀ n∈x.wt,n ∉ (w.setW m x').ws.flatMap WireA.wt:=by
 have hp:=flatMap_set_app (f:=WireA.wt) (bs:=x.wt) (l:=(w.setW m x').ws) (n:=m) (x:=x') (x':=x) (setW_self hx) (by rw [hx'];rfl)
 have e:(w.setW m x').ws.set m x=w.ws:=by
  show (w.ws.set m x').set m x=w.ws
  rw [List.set_set]
  obtain ⟨hl,e⟩:=List.getElem?_eq_some_iff.1 hx
  rw [←e,List.set_getElem_self]
 rw [e] at hp
 have hn:=hp.nodup_iff.1 h.wn
 intro n h1 h2;exact (List.nodup_append.1 hn).2.2 n h1 n h2 rfl
theorem sub_flatMap {α β:Type} {f:α→List β}:∀ {l:List α} {n:Nat} {x:α},l[n]?=some x→(f x).Sublist (l.flatMap f)
 | [],_,_,h=>by simp at h
 | a::l,0,x,h=>by
  obtain rfl:a=x:=by simpa using h
  exact List.sublist_append_left _ _
 | a::l,n + 1,x,h=>(sub_flatMap (f:=f) (l:=l) (n:=n) (by simpa using h)).trans (List.sublist_append_right _ _)
theorem closeF_ok {w:WA} (h:WOk w) (fd:Int):WOk (closeF w fd).2∧(closeF w fd).2.at=setT w.at fd none∧Stp 65 w (closeF w fd).2:=by
 unfold closeF
 split
 ·rename_i hn
  refine ⟨h,?_,Stp.same w⟩
  funext a
  show w.at a=if a=fd then none else w.at a
  split
  ·rename_i e;rw [e];exact hn
  ·rfl
 ·rename_i m k hn
  obtain ⟨_,_,hk,_,x0,hx0,hxw,_⟩:=h.at_lt hn
  split
  ·rename_i hx;rw [hx] at hx0;cases hx0
  ·rename_i x hx
   rw [hx] at hx0;obtain rfl:=Option.some.inj hx0
   have hwf:=h.wf x (List.mem_of_getElem? hx)
   have hc:=h.closeW hn hx
   have hs:=sbW_closeP h hn hx
   have hgo:=wt_gone h hx (x':=(closeW x k).wts []) rfl
   have hsub:∀ n∈x.wt,n∈w.ws.flatMap WireA.wt:=fun n hn=>List.mem_flatMap.2 ⟨x,List.mem_of_getElem? hx,hn⟩
   have h00:∀ n∈x.wt,∃ y,(w.setW m ((closeW x k).wts [])).ws[n]?=some y∧(y.e 0).what=0:=fun n hn=>by
    obtain ⟨y,hy,hy0⟩:=h.wm n (hsub n hn)
    by_cases e:n=m
    ·subst e
     rw [hx] at hy;obtain rfl:=Option.some.inj hy;refine ⟨_,setW_self hx,?_⟩
     show ((closeW x k).e 0).what=0
     rw [(close_e x hk (by omega)).1,if_neg]
     ·exact hy0
     ·intro e;subst e;rw [hy0] at hxw;cases hxw
    ·exact ⟨y,by rw [setW_ne e];exact hy,hy0⟩
   have hm0:m∈(w.setW m ((closeW x k).wts [])).ws.flatMap WireA.wt→(((closeW x k).wts []).e 0).what=0:=fun e=>by
    have:=(flatMap_set_sub (f:=WireA.wt) (x':=(closeW x k).wts []) hx (List.nil_sublist _)).subset e
    obtain ⟨y,hy,hy0⟩:=h.wm m this
    rw [hx] at hy;obtain rfl:=Option.some.inj hy
    show ((closeW x k).e 0).what=0
    rw [(close_e x hk (by omega)).1,if_neg]
    ·exact hy0
    ·intro e;subst e;rw [hy0] at hxw;cases hxw
   have hok:=h.setS hx hs hm0
   have hat:(w.setW m ((closeW x k).wts [])).at=setT w.at fd none:=by
    rw [←hc.2]
    have h2:(w.setW m (closeW x k)).ws[m]?=some (closeW x k):=setW_self hx
    have e:w.setW m ((closeW x k).wts [])=(w.setW m (closeW x k)).setW m ((closeW x k).wts []):=by
     show ({ w with ws:=_ }:WA)={ w with ws:=_ }
     congr 1
     show _=(w.ws.set m _).set m _
     rw [List.set_set]
    rw [e];refine hc.1.setS_at h2 (sbW_wts (close_wf hwf hk) (List.nil_sublist _)) (by rw [←e];exact hm0) fun _ _ e=>e
   have hx1:=(wt_le h hx)
   obtain ⟨a,b,c⟩:=closeAll_ok x.wt (w.setW m ((closeW x k).wts [])) hok ((sub_flatMap (f:=WireA.wt) hx).nodup h.wn) h00 hgo
   refine ⟨a,b.trans hat,?_⟩;exact ((hs.stp hx fun j _=>rs_close x k j).trans c).mono (by omega)
theorem conn_e (n k:Nat) (hk:k < 2):((connW n).e k).what=(if k=1 then 2 else 0)∧((connW n).e k).rd=true∧((connW n).e k).wr=true∧((connW n).e k).b=[]∧((connW n).e k).inn=0∧((connW n).e k).out=0:=by
 rcases (show k=0∨k=1 by omega) with rfl | rfl
 ·exact ⟨rfl,rfl,rfl,rfl,rfl,rfl⟩
 ·exact ⟨rfl,rfl,rfl,rfl,rfl,rfl⟩
theorem conn_new {n l:Nat} (h:n≤65536):NewW (connW n) l:=by
 have e:=conn_e n
 refine ⟨⟨fun k hk=>by rw [(e k hk).2.2.1,(e (1 - k) (by omega)).2.1],fun k hk=>by rw [(e k hk).2.2.2.1];exact Nat.zero_le _,fun k hk _=>(e k hk).2.2.2.1,h,fun k hk=>?_,⟨Int.le_refl _,by show (0:Int)≤64;decide,by show ((0:Nat):Int)≤0;decide⟩,fun _=>⟨rfl,rfl⟩⟩,fun k hk=>?_,rfl⟩
 ·rw [(e k hk).1];split<;>decide
 ·rw [(e k hk).1];split<;>decide
theorem opF_nil (w:WA):OpF w []:=⟨.nil,fun _ h=>(by cases h),Nat.zero_le _⟩
theorem open_nil (x:WireA):openW x [] 0=x:=by
 obtain ⟨e,c,r,bl,wt⟩:=x
 rfl
theorem WOk.addN {w:WA} (h:WOk w) {x:WireA} (hx:NewW x w.ws.length) (hl:w.ws.length < 1000):WOk (w.addW x)∧(w.addW x).at=w.at:=by
 have h1:=h.addW hx (opF_nil w) hl
 have h2:=addW_at hx (opF_nil w)
 rw [show ([]:List Nat).length=0 from rfl,open_nil] at h1 h2;exact ⟨h1,h2⟩
theorem rs_wait (x:WireA) (m:Nat):∀ j,RsE (x.e j) ((waitW x m).e j):=fun j=>by
 show RsE (x.e j) ((x.up 0 fun e=>{ e with inn:=IntKind.u64.wrap (e.inn + 1) }).e j)
 exact rs_up x 0 (f:=fun e=>{ e with inn:=IntKind.u64.wrap (e.inn + 1) }) (fun e=>⟨.inr rfl,.inl rfl⟩) j
theorem conn_ok {w:WA} (h:WOk w) (n m:Int):WOk (connR w n m).2∧(connR w n m).2.at=w.at∧Stp 1 w (connR w n m).2:=by
 unfold connR
 split
 ·exact ⟨h,rfl,Stp.same w⟩
 ·rename_i x hx
  have hx:0≤n∧w.ws[n.toNat]?=some x:=by
   split at hx
   ·cases hx
   ·exact ⟨by omega,hx⟩
  split
  ·exact ⟨h,rfl,Stp.same w⟩
  ·split
   ·exact ⟨h,rfl,Stp.same w⟩
   ·split
    ·exact ⟨h,rfl,Stp.same w⟩
    ·split
     ·exact ⟨h,rfl,Stp.same w⟩
     ·rename_i h1 h2 h3 h4
      have hlt:=(List.getElem?_eq_some_iff.1 hx.2).1
      have ha:=h.addN (conn_new (n:=m.toNat) (l:=w.ws.length) (by omega)) (by omega)
      have hx2:(w.addW (connW m.toNat)).ws[n.toNat]?=some x:=by show (w.ws++[_])[n.toNat]?=_;rw [List.getElem?_append_left hlt];exact hx.2
      have hy:(w.addW (connW m.toNat)).ws[w.ws.length]?=some (connW m.toNat):=by show (w.ws++[_])[w.ws.length]?=_;simp
      have hnw:w.ws.length ∉ (w.addW (connW m.toNat)).ws.flatMap WireA.wt:=fun e=>by
       have e2:(w.addW (connW m.toNat)).ws.flatMap WireA.wt=w.ws.flatMap WireA.wt:=by
        show (w.ws++[_]).flatMap WireA.wt=_
        rw [List.flatMap_append,List.flatMap_cons,List.flatMap_nil,show (connW m.toNat).wt=[] from rfl,List.append_nil,List.append_nil]
       rw [e2] at e
       obtain ⟨z,hz,_⟩:=h.wm _ e
       have:=(List.getElem?_eq_some_iff.1 hz).1
       omega
      have hw:=ha.1.wait hx2 hy rfl (by omega) hnw (by omega)
      refine ⟨hw.1,hw.2.trans ha.2,?_⟩
      have s1:=stp_add w (x:=connW m.toNat) (fun k hk=>⟨(conn_e m.toNat k hk).2.2.2.2.1,(conn_e m.toNat k hk).2.2.2.2.2⟩) (fun e=>by rw [(conn_e m.toNat 1 (by omega)).1] at e;exact absurd e (by decide))
      have s2:=stp_set (w:=w.addW (connW m.toNat)) (x':=waitW x w.ws.length) hx2 (fun k _=>rs_wait x _ k) (fun e=>by rw [(wait_e x _ 0).1];exact e) (fun _ k hk e=>⟨by rw [←(wait_e x w.ws.length k).1];exact e,(wait_e x _ k).2.1⟩) (fun e=>by rw [(wait_e x w.ws.length 1).1] at e;exact e)
      exact (s1.trans s2).mono (by omega)
theorem acc_ok {w:WA} (h:WOk w) (fd:Int):WOk (accR w fd).2∧Stp 2 w (accR w fd).2:=by
 unfold accR
 split
 ·exact ⟨h,Stp.same w⟩
 ·rename_i m k hm
  split
  ·exact ⟨h,Stp.same w⟩
  ·rename_i x hx
   split
   ·exact ⟨h,Stp.same w⟩
   ·split
    ·exact ⟨h,Stp.same w⟩
    ·rename_i a t hwt
     split
     ·exact ⟨h,Stp.same w⟩
     ·rename_i f fs hfs
      split
      ·exact ⟨h,Stp.same w⟩
      ·rename_i y hy
       have hwf:=h.wf x (List.mem_of_getElem? hx)
       have hs:SbW x (x.wts t):=sbW_wts hwf (by rw [hwt];exact List.sublist_cons_self _ _)
       have hsub:=flatMap_set_sub (f:=WireA.wt) (x':=x.wts t) hx hs.wt
       have hm0:m∈(w.setW m (x.wts t)).ws.flatMap WireA.wt→((x.wts t).e 0).what=0:=fun e=>by
        obtain ⟨z,hz,hz0⟩:=h.wm m (hsub.subset e)
        rw [hx] at hz;obtain rfl:=Option.some.inj hz;exact hz0
       have hok:=h.setS hx hs hm0
       have hat:=h.setS_at hx hs hm0 (fun _ _ e=>e)
       have ham:a∈w.ws.flatMap WireA.wt:=List.mem_flatMap.2 ⟨x,List.mem_of_getElem? hx,by rw [hwt];exact List.mem_cons_self⟩
       have hy0:(y.e 0).what=0:=by
        obtain ⟨z,hz,hz0⟩:=h.wm a ham
        rcases setW_get hy with ⟨rfl,rfl⟩ | ⟨_,hy⟩
        ·rw [hx] at hz;obtain rfl:=Option.some.inj hz
         exact hz0
        ·rw [hy] at hz;obtain rfl:=Option.some.inj hz
         exact hz0
       have hamw:a ∉ (w.setW m (x.wts t)).ws.flatMap WireA.wt:=by
        have hp2:=flatMap_set_app (f:=WireA.wt) (bs:=[a]++t) (l:=(w.setW m (x.wts [])).ws) (n:=m) (x:=x.wts []) (x':=x) (setW_self hx) (by rw [hwt];rfl)
        have hp3:=flatMap_set_app (f:=WireA.wt) (bs:=t) (l:=(w.setW m (x.wts [])).ws) (n:=m) (x:=x.wts []) (x':=x.wts t) (setW_self hx) rfl
        have e1:(w.setW m (x.wts [])).ws.set m x=w.ws:=by
         show (w.ws.set m _).set m x=w.ws
         rw [List.set_set]
         obtain ⟨hl,e⟩:=List.getElem?_eq_some_iff.1 hx
         rw [←e,List.set_getElem_self]
        have e2:(w.setW m (x.wts [])).ws.set m (x.wts t)=(w.setW m (x.wts t)).ws:=by
         show (w.ws.set m _).set m _=w.ws.set m _
         rw [List.set_set]
        rw [e1] at hp2;rw [e2] at hp3
        have hn:=hp2.nodup_iff.1 h.wn
        intro hm
        have:=hp3.mem_iff.1 hm
        rw [List.append_assoc] at hn;exact (List.nodup_cons.1 hn).1 this
       have hff:=frees_mem.1 (show f∈frees w.at by rw [hfs];exact List.mem_cons_self)
       have hg:=hok.give (f:=f) hy (by rw [hy0];decide) hamw hff.1 (by rw [hat];exact hff.2)
       refine ⟨hg.1,?_⟩
       have s1:=hs.stp hx fun j _=>RsE.refl _
       have s2:=stp_set (w:=w.setW m (x.wts t)) (x':=giveW y f) hy (fun k _=>rs_up y 0 (f:=fun e=>{ e with what:=1,fd:=(f:Int) }) (fun e=>RsE.refl _) k) (fun e=>absurd hy0 e) (fun e=>absurd hy0 e) (fun e=>by rw [give1] at e;exact e)
       exact s1.trans s2
theorem pass_ok {w:WA} (h:WOk w) (n:Int) (h0:0≤n):WOk (passR w n)∧Stp 0 w (passR w n):=by
 refine ⟨⟨h.uq,h.fd,h.len,h.hdl,h.ctl,h.wf,h.wn,h.wm,h.nt,h.ns⟩,fun K _ hl=>⟨⟨hl.ct,hl.rs,?_,hl.g1⟩,gr_ws rfl⟩⟩
 have:=hl.now
 show 0≤w.now + min n (18446744073709551615 - w.now)∧w.now + min n (18446744073709551615 - w.now)≤18446744073709551615
 omega
theorem ntc_ok {w:WA} (h:WOk w):WOk (ntcR w)∧(ntcR w).at=w.at∧Stp 1 w (ntcR w):=by
 unfold ntcR
 split
 ·exact ⟨h,rfl,Stp.same w⟩
 ·rename_i n k hn
  obtain ⟨hk,x0,hx0,z0,z1⟩:=h.nt n k hn
  split
  ·exact ⟨h,rfl,Stp.same w⟩
  ·rename_i x hx
   rw [hx] at hx0;obtain rfl:=Option.some.inj hx0
   have hwf:=h.wf x (List.mem_of_getElem? hx)
   have hrd:∀ j,j < 2→(x.e j).rd=true:=fun j hj=>by
    rcases (show j=0∨j=1 by omega) with rfl | rfl
    ·exact z0
    ·exact z1
   split
   ·have hs:=smW_take hwf (n:=(x.e k).b.length) hk (hrd k hk)
    exact ⟨h.setW hx hs,h.setW_at hx hs,(hs.sb hwf).stp hx fun j _=>rs_take x k _ j⟩
   ·split
    ·have hs:=smW_put hwf (k:=1 - k) (by omega) [1] (hrd (1 - (1 - k)) (by omega))
     exact ⟨h.setW hx hs,h.setW_at hx hs,(hs.sb hwf).stp hx fun j _=>rs_put x (1 - k) [1] j⟩
    ·exact ⟨h,rfl,Stp.same w⟩
theorem ct_ok {w:WA} (h:WOk w) {hd:List Bool} {ct:List Int} (h1:hd.length=32) (h2:ct.length=32):WOk { w with hd:=hd,ct:=ct }:=⟨h.uq,h.fd,h.len,h1,h2,h.wf,h.wn,h.wm,h.nt,h.ns⟩
theorem ct_stp (w:WA) {hd:List Bool} {ct:List Int} (h:∀ K:Nat,(∀ c∈w.ct,0≤c∧c≤(K:Int))→∀ c∈ct,0≤c∧c≤((K + 1:Nat):Int)):Stp 1 w { w with hd:=hd,ct:=ct }:=fun K _ hl=>⟨⟨h K hl.ct,(hl.mono (Nat.le_succ K)).rs,hl.now,hl.g1⟩,gr_ws rfl⟩
theorem han_ok {w:WA} (h:WOk w) (s:Int) (on:Bool):WOk (hanR w s on).2∧Stp 2 w (hanR w s on).2:=by
 unfold hanR
 split
 ·have:=ntc_ok h
  exact ⟨this.1,this.2.2.mono (by omega)⟩
 ·have h1:WOk { w with hd:=w.hd.set s.toNat on,ct:=if on=true then w.ct else w.ct.set s.toNat 0 }:=ct_ok h (by rw [List.length_set];exact h.hdl) (by split;exact h.ctl;rw [List.length_set];exact h.ctl)
  have:=ntc_ok h1
  refine ⟨this.1,(ct_stp w fun K hc c hm=>?_).trans this.2.2⟩
  split at hm
  ·have:=hc c hm;omega
  ·rcases List.mem_or_eq_of_mem_set hm with hm | rfl
   ·have:=hc c hm;omega
   ·omega
theorem rai_ok {w:WA} (h:WOk w) (s:Int):WOk (raiR w s).2∧Stp 2 w (raiR w s).2:=by
 unfold raiR
 split
 ·have:=ntc_ok h
  exact ⟨this.1,this.2.2.mono (by omega)⟩
 ·rename_i hs
  have h1:WOk { w with ct:=if w.hd.getD s.toNat false=true then w.ct.set s.toNat (w.ct.getD s.toNat 0 + 1) else w.ct }:=ct_ok h h.hdl (by split;rw [List.length_set];exact h.ctl;exact h.ctl)
  have:=ntc_ok h1
  refine ⟨this.1,(ct_stp w fun K hc c hm=>?_).trans this.2.2⟩
  split at hm
  ·rcases List.mem_or_eq_of_mem_set hm with hm | rfl
   ·have:=hc c hm;omega
   ·have hl:s.toNat < w.ct.length:=by rw [h.ctl];omega
    rw [List.getD_eq_getElem?_getD,List.getElem?_eq_getElem hl]
    have:=hc _ (List.getElem_mem hl)
    show 0≤w.ct[s.toNat] + 1∧w.ct[s.toNat] + 1≤_
    omega
  ·have:=hc c hm;omega
theorem sig_ok {w:WA} (h:WOk w):WOk (sigR w).2∧Stp 2 w (sigR w).2:=by
 unfold sigR;dsimp only
 have h1:WOk { w with ct:=match w.ct with | []=>[] | c::t=>c::t.map fun _=>0 }:=ct_ok h h.hdl (by
  have:=h.ctl
  cases hc:w.ct with
  | nil=>rw [hc] at this;exact this
  | cons c t=>rw [hc] at this;simpa using this)
 have:=ntc_ok h1
 refine ⟨this.1,(ct_stp w fun K hc c hm=>?_).trans this.2.2⟩
 cases he:w.ct with
 | nil=>rw [he] at hm;cases hm
 | cons a t =>
  rw [he] at hm
  rcases List.mem_cons.1 hm with rfl | hm
  ·have:=hc c (by rw [he];exact List.mem_cons_self);omega
  ·obtain ⟨_,_,rfl⟩:=List.mem_map.1 hm;omega
theorem not_ok {w:WA} (h:WOk w) (a b:Int):WOk (notR w a b).2∧Stp 1 w (notR w a b).2:=by
 unfold notR
 split
 ·rename_i n k m i ha hb
  split
  ·exact ⟨h,Stp.same w⟩
  ·rename_i x hx
   split
   ·exact ⟨h,Stp.same w⟩
   ·rename_i hc
    have hk:=(h.at_lt ha).2.2.1
    have h1:WOk { w with nt:=some (n,k) }:=⟨h.uq,h.fd,h.len,h.hdl,h.ctl,h.wf,h.wn,h.wm,fun a b e=>by
     obtain ⟨rfl,rfl⟩:=Prod.mk.inj (Option.some.inj e)
     exact ⟨hk,x,hx,by cases hz:(x.e 0).rd with | true=>rfl | false=>exact absurd (.inr (.inr (.inl hz))) hc,by cases hz:(x.e 1).rd with | true=>rfl | false=>exact absurd (.inr (.inr (.inr hz))) hc⟩,h.ns⟩
    have:=ntc_ok h1
    refine ⟨this.1,?_⟩
    have s0:Stp 0 w { w with nt:=some (n,k) }:=fun K _ hl=>⟨⟨hl.ct,hl.rs,hl.now,hl.g1⟩,gr_ws rfl⟩
    exact (s0.trans this.2.2).mono (by omega)
 ·exact ⟨h,Stp.same w⟩
end Wo
end Go.Proofs.YtmpemhbfgbochaaGreatDoor
namespace Go.Proofs.YtmpemhbfgbochaaGreatDoor
open Go.RX Fx
namespace Rf
open Wo
structure RwI where
 a:Nat→Option Addr
 c:Nat→Nat
 wa:Option Addr
 wc:Nat
abbrev Row:=WireA×RwI
abbrev encRE (x:EndA) (a:Option Addr) (c:Nat):List Value:=[.int .i64 x.what,.int .i64 x.fd,.bool x.rd,.bool x.wr,.slice a x.b.length c,.bool x.shut,.int .u64 x.inn,.int .u64 x.out]
abbrev encRW (p:Row):List Value:=encRE (p.1.e 0) (p.2.a 0) (p.2.c 0)++(encRE (p.1.e 1) (p.2.a 1) (p.2.c 1)++[.int .i64 (p.1.cap:Int),.bool p.1.rs,.int .i64 p.1.bl,.slice p.2.wa p.1.wt.length p.2.wc])
theorem encRW_len (p:Row):(encRW p).length=20:=rfl
theorem encRW_one (p:Row):∀ u∈encRW p,u.oneCell'=true:=by simp [Value.oneCell']
abbrev SdB (p:Row) (k:Nat):SP:=own 5 1 (p.2.a k) (p.1.e k).b.length (p.2.c k) (bsl (p.1.e k).b)
abbrev SdW (p:Row):SP:=own 3 1 p.2.wa p.1.wt.length p.2.wc (nats p.1.wt)
abbrev SdL (p:Row) (k:Nat) (L:List SP):List SP:=SdB p k::SdB p (1 - k)::SdW p::L
def Sd (p:Row):SP:=RX.ex fun k:Nat=>pu (k < 2)::SdL p k []
theorem Hd.sd {E:World} {n:Nat} {ds:List Deferred} {st:List (Nat×Value)} {L L':List SP} {K:Act→World→Prop} {p:Row} (q:Pick L (Sd p) L') (k:Nat) (hk:k < 2) (h:Hd E n ds st (SdL p k L') K):Hd E n ds st L K :=
 Hd.exs (f:=fun k:Nat=>pu (k < 2)::SdL p k []) q fun j=>Hd.pure fun hj=>by
  by_cases e:j=k
  ·subst e;exact h
  ·obtain rfl:j=1 - k:=by omega
   refine Hd.heap (SdL p k L') (fun q s=>?_) h
   have e2:1 - (1 - k)=k:=by omega
   have s':sep (SdL p (1 - k) L') q:=s
   unfold SdL at s';rw [e2] at s';exact Ent.sep enn q s'
theorem sd_fold {p:Row} {k:Nat} (hk:k < 2) {L:List SP}:∀ h,sep (SdL p k L) h→sep (Sd p::L) h:=fun h s=>Ent.sep (.ex k (.pure hk enn)) h s
theorem sd_same {p p':Row} (hb:∀ k,k < 2→(p'.1.e k).b=(p.1.e k).b) (hw:p'.1.wt=p.1.wt) (hi:p'.2=p.2):Sd p'=Sd p:=by
 have h:∀ k,k < 2→SdL p' k []=SdL p k []:=fun k hk=>by
  unfold SdL SdB SdW;rw [hb k hk,hb (1 - k) (by omega),hw,hi]
 unfold Sd
 funext q
 refine propext ⟨?_,?_⟩
 ·rintro ⟨k,s⟩
  have hk:k < 2:=by obtain ⟨_,_,_,_,_,hf,_⟩:=s;exact hf
  exact ⟨k,by show sep (pu (k < 2)::SdL p k []) q;rw [←h k hk];exact s⟩
 ·rintro ⟨k,s⟩
  have hk:k < 2:=by obtain ⟨_,_,_,_,_,hf,_⟩:=s;exact hf
  exact ⟨k,by show sep (pu (k < 2)::SdL p' k []) q;rw [h k hk];exact s⟩
abbrev ntV:Option (Nat×Nat)→List Value
 | none=>[.int .i64 (-1),.int .i64 0]
 | some (n,k)=>[.int .i64 (n:Int),.int .i64 (k:Int)]
abbrev RwC (w:WA) (n:Nat) (ad:Option Addr) (c:Nat):List Value:=[.slice ad n c,.int .u64 w.now]++(w.hd.map .bool++(w.ct.map (Value.int .i64)++ntV w.nt))
abbrev RwH (b:Nat) (w:WA) (n:Nat) (ad:Option Addr) (c:Nat):SP:=pt b (RwC w n ad c) 102
abbrev Rows_:=List Row×Option Addr×Nat
abbrev OwR (i:Rows_):SP:=own 204 20 i.2.1 i.1.length i.2.2 (i.1.flatMap encRW)
abbrev RwL (b:Nat) (w:WA) (i:Rows_) (L:List SP):List SP:=RwH b w i.1.length i.2.1 i.2.2::OwR i::Bag Sd i.1::L
def RwP (b:Nat) (w:WA):SP:=RX.ex fun i:Rows_=>pu (i.1.map Prod.fst=w.ws)::RwL b w i []
theorem Hd.rw {E:World} {n:Nat} {ds:List Deferred} {st:List (Nat×Value)} {L L':List SP} {K:Act→World→Prop} {b:Nat} {w:WA} (p:Pick L (RwP b w) L') (h:∀ i:Rows_,i.1.map Prod.fst=w.ws→Hd E n ds st (RwL b w i L') K):Hd E n ds st L K :=
 Hd.exs (f:=fun i:Rows_=>pu (i.1.map Prod.fst=w.ws)::RwL b w i []) p fun i=>Hd.pure fun hr=>h i hr
theorem rw_fold {b:Nat} {w:WA} {i:Rows_} {L:List SP} (h:i.1.map Prod.fst=w.ws):∀ k,sep (RwL b w i L) k→sep (RwP b w::L) k:=fun k s=>Ent.sep (.ex i (.pure h enn)) k s
theorem row_at {w:WA} {i:Rows_} (h:i.1.map Prod.fst=w.ws) {n:Nat} {x:WireA} (hn:w.ws[n]?=some x):∃ j,i.1[n]?=some (x,j):=by
 rw [←h,List.getElem?_map] at hn
 cases hr:i.1[n]? with
 | none=>rw [hr] at hn;cases hn
 | some p=>rw [hr] at hn;obtain ⟨y,j⟩:=p;obtain rfl:=Option.some.inj hn;exact ⟨j,rfl⟩
theorem rows_n {w:WA} {i:Rows_} (h:i.1.map Prod.fst=w.ws):i.1.length=w.ws.length:=by rw [←h,List.length_map]
theorem rcell {rs:List Row} {n k j o:Nat} {x:WireA} {i:RwI} {v:Value} (h:rs[n]?=some (x,i)) (hk:k < 2) (hj:j < 8) (ho:o=n * 20 + k * 8 + j) (hv:(encRE (x.e k) (i.a k) (i.c k))[j]?=some v):(rs.flatMap encRW)[o]?=some v:=by
 subst ho;rw [Nat.add_assoc];refine flat_cells encRW 20 encRW_len h (k * 8 + j) v ?_
 rcases (show k=0∨k=1 by omega) with rfl | rfl
 ·rw [show 0 * 8 + j=j by omega,List.getElem?_append_left (by simp;omega)];exact hv
 ·rw [List.getElem?_append_right (by simp),List.getElem?_append_left (by simp;omega)]
  simpa using hv
theorem rcellW {rs:List Row} {n j o:Nat} {x:WireA} {i:RwI} {v:Value} (h:rs[n]?=some (x,i)) (ho:o=n * 20 + j) (hv:(encRW (x,i))[j]?=some v):(rs.flatMap encRW)[o]?=some v:=by
 subst ho;exact flat_cells encRW 20 encRW_len h j v hv
theorem rset {rs:List Row} {n k j o:Nat} {x x':WireA} {i i':RwI} {v:Value} (h:rs[n]?=some (x,i)) (hk:k < 2) (hj:j < 8) (ho:o=n * 20 + k * 8 + j) (he:(encRE (x.e k) (i.a k) (i.c k)).set j v=encRE (x'.e k) (i'.a k) (i'.c k))
  (h1:encRE (x.e (1 - k)) (i.a (1 - k)) (i.c (1 - k))=encRE (x'.e (1 - k)) (i'.a (1 - k)) (i'.c (1 - k))) (h2:(encRW (x,i)).drop 16=(encRW (x',i')).drop 16):(rs.flatMap encRW).set o v=(rs.set n (x',i')).flatMap encRW:=by
 subst ho;refine rows_set (j:=k * 8 + j) encRW_len (by omega) ?_ h (by omega)
 have h3:([.int .i64 (x.cap:Int),.bool x.rs,.int .i64 x.bl,.slice i.wa x.wt.length i.wc]:List Value)=[.int .i64 (x'.cap:Int),.bool x'.rs,.int .i64 x'.bl,.slice i'.wa x'.wt.length i'.wc]:=h2
 rcases (show k=0∨k=1 by omega) with rfl | rfl
 ·rw [show 0 * 8 + j=j by omega]
  show (encRE (x.e 0) (i.a 0) (i.c 0)++_).set j v=_
  rw [List.set_append_left _ _ (by simp;omega),he]
  show _++(encRE (x.e 1) (i.a 1) (i.c 1)++_)=_++(_++_)
  rw [h1,h3]
 ·show (encRE (x.e 0) (i.a 0) (i.c 0)++(encRE (x.e 1) (i.a 1) (i.c 1)++_)).set (1 * 8 + j) v=_
  rw [List.set_append_right _ _ (by simp),List.set_append_left _ _ (by simp;omega)];rw [show 1 * 8 + j - (encRE (x.e 0) (i.a 0) (i.c 0)).length=j by simp,he,h3]
  have h1':encRE (x.e 0) (i.a 0) (i.c 0)=encRE (x'.e 0) (i'.a 0) (i'.c 0):=h1
  rw [h1']
section
variable {E : World} {n : Nat} {ds : List Deferred} {st : List (Nat × Value)} {L L' : List SP} {P : Program} {d : Nat} {ty t : TypeId} {pos : String} {af : Array Edge} {g : Option (Nat × Bool)} {op : Operand} {v : Value}
theorem y_rc {e m c q k o:Nat} {ad:Option Addr} {rs:List Row} {x:WireA} {i:RwI} (ha:agk P t=some false) (hx:evo st op=some (.pointer (some ((adr ad).add o)))) (hr:rs[q]?=some (x,i)) (hk:k < 2) (j:Nat) (hv:(encRE (x.e k) (i.a k) (i.c k))[j]?=some v)
  (p:Pick L (own e 20 ad m c (rs.flatMap encRW)) L':=by repeat (first | with_reducible exact Pick.here | apply Pick.there | with_reducible apply Pick.right)) (ho:o=q * 20 + k * 8 + j:=by omega) (hj:j < 8:=by decide):Yv E n ds st L P ⟨some d,.load t op,ty,pos,af,g⟩ v :=
 y_loadR1 ha hx (RdS.own p) (rcell hr hk hj ho hv)
theorem y_rw {e m c q o:Nat} {ad:Option Addr} {rs:List Row} {x:WireA} {i:RwI} (ha:agk P t=some false) (hx:evo st op=some (.pointer (some ((adr ad).add o)))) (hr:rs[q]?=some (x,i)) (j:Nat) (hv:(encRW (x,i))[j]?=some v)
  (p:Pick L (own e 20 ad m c (rs.flatMap encRW)) L':=by repeat (first | with_reducible exact Pick.here | apply Pick.there | with_reducible apply Pick.right)) (ho:o=q * 20 + j:=by omega):Yv E n ds st L P ⟨some d,.load t op,ty,pos,af,g⟩ v :=
 y_loadR1 ha hx (RdS.own p) (rcellW hr ho hv)
end
end Rf
end Go.Proofs.YtmpemhbfgbochaaGreatDoor
namespace Go.Proofs.YtmpemhbfgbochaaGreatDoor
open Go.RX Fx
namespace Wo
theorem wol_back {wb n b:Nat} {w:WA} {i:WoI} {x:WireA} {L:List SP} (hb:i.rs[n]?=some (b,x)):∀ h,sep (WireP b x::WoR wb n w i L) h→sep (WoL wb w i L) h:=by
 intro h s
 obtain ⟨hn,e⟩:=List.getElem?_eq_some_iff.1 hb
 have h1:sep (WireP b x::Wires (i.rs.take n)::Wires (i.rs.drop (n + 1))::WoH wb w.at w i.rs.length i::own 189 1 i.wa i.rs.length i.wc (pws i.rs)::SigP i.sb w.hd w.ct::L) h:=Ent.sep enn h s
 have h2:=ws_in hn h1
 rw [←e,List.set_getElem_self] at h2;exact Ent.sep enn h h2
def outB (i:WoI) (w:WA) (n:Int):Option Nat:=if (outW w n).isSome then (i.rs[n.toNat]?).map Prod.fst else none
def outE (w:WA) (n:Int):Int:=if (outW w n).isSome then 0 else 116
theorem outW_nat {w:WA} {n:Nat} {x:WireA} (hx:w.ws[n]?=some x):outW w (n:Int)=if (x.e 1).what=2 then some x else none:=by
 unfold outW;rw [if_neg (by omega),Int.toNat_natCast,hx]
theorem outW_off {w:WA} {n:Int} (h:n < 0∨(w.ws.length:Int)≤n):outW w n=none:=by
 unfold outW
 split
 ·rfl
 ·rw [List.getElem?_eq_none (by omega)]
theorem outer1_ct (L:List SP) (wb:Nat) (w:WA) (i:WoI) (hw:WOk w) (hrs:i.rs.map Prod.snd=w.ws) (n b:Nat) (x:WireA) (hb:i.rs[n]?=some (b,x)):Ct Tryz.prog 200 #[.pointer (some ⟨wb,0,none⟩),.int .i64 (n:Int)] (WoL wb w i L) (fun _:Unit=>.tuple #[ptr (if (x.e 1).what=2 then some b else none),.int .i64 (if (x.e 1).what=2 then 0 else 116)]) (fun _:Unit=>WoL wb w i L):=by
 refine Ct.o2 Tryz.func200 ?_;intro E
 show Hd E 43 _ _ _ _
 have hn:=(List.getElem?_eq_some_iff.1 hb).1
 refine sr fun _ K1=>?_
 refine yv y_as<|yv y_as<|fk [(0,_),(1,_)] K1 ?_;refine Hd.seq fun _ K2=>?_
 refine Hd.block<|sr fun _ K3=>?_
 refine yv y_mv<|callE rfl fk114 (wnone_ct _ wb w.at w i.rs.length i) sq ?_;intro _;refine yv y_as<|fk [(0,_),(1,_),(6,_)] K3 ?_;refine Hd.condF rfl ?_;refine Hd.seq fun _ K4=>?_
 refine Hd.wOut pkk hb ?_;refine Hd.wire .here 1 (by omega) (fun i2 hi=>?_);refine Hd.region<|yv y_mv<|yv (y_lss rfl rfl) ?_;refine yv y_mv ?_;apply Hd.org 8 12 20 [(0,_),(1,_)] rfl sbq
 ·intro hg3_12
  try simp only [hyZ] at hg3_12
  simp only [List.take];refine n1<|n1<|n1<|n1<|n1<|n1<|n1<|yv (y_pickT rfl rfl) ?_;exact Hd.mn
 ·intro hg3_12
  try simp only [hyZ] at hg3_12
  simp only [List.take];refine y2 y_mv<|y2 y_mv<|y2 y_np<|y2 (y_f 288 184 Tryz.underlying186 sz184)<|y2 (y_load1 ag184 rfl (Rd.pt1 pkk (by exact woT_at (j:=0) (by omega) rfl))) ?_;refine y2 (y_len Tryz.underlying184 rfl) ?_;refine y2 (y_geq rfl rfl) ?_;refine yv (y_pickF rfl rfl) ?_;exact Hd.mn
 simp only [List.drop];refine yv y_mv ?_;apply Hd.org (q:=decide ((x.e 1).what≠2)) 14 21 35 [(0,_),(1,_)] rfl sbq
 ·intro hg3_21
  try simp only [hyZ] at hg3_21
  simp only [List.take];refine n1<|n1<|n1<|n1<|n1<|n1<|n1<|n1<|n1<|n1<|n1<|n1<|n1<|yv (y_pickT rfl rfl) ?_;exact Hd.mn
 ·intro hg3_21
  try simp only [hyZ] at hg3_21
  simp only [List.take];refine y2 y_mv<|y2 y_np<|y2 (y_f 288 184 Tryz.underlying186 sz184)<|y2 (y_load1 ag184 rfl (Rd.pt1 pkk (by exact woT_at (j:=0) (by omega) rfl))) ?_;refine y2 y_mv<|y2 (y_idxR Tryz.underlying184 sz189 rfl rfl (by omega) (by exact RdS.own pkk)) ?_;refine y2 (y_loadR1 ag189 rfl (by exact RdS.own pkk) (by exact pws_at hb)) ?_;refine y2 y_np<|y2 (y_f 0 196 Tryz.underlying198 sz196)<|y2 (y_idxA Tryz.underlying196 sz195 rfl rfl (by decide)) ?_;refine y2 (y_f 0 3 Tryz.underlying195 sz3)<|y2 (y_l1 ag3 rfl)<|y2 (y_neq rfl rfl) ?_;refine yv (y_pickF rfl rfl) ?_;exact Hd.mn
 simp only [List.drop];refine yv y_as<|fk [(0,_),(1,_),(9,_)] K4 ?_;refine qz ?_ ?_<;>intro hc1<;>try simp only [hyZ] at hc1
 ·refine sr fun _ K5=>?_
  refine yv y_as<|yv y_as<|fk [(4,_),(5,_)] K5 ?_;refine Hd.ret<|Hd.inBret<|Hd.thenRet ?_
  have h2:¬ ((x.e 1).what=2):=by
   rcases hc1 with h | h
   ·omega
   ·exact h
  rw [if_neg h2,if_neg h2];exact Hd.ret2 rfl () rfl rfl rfl (fun q s=>wol_back hb q (wire_fold (k:=1) hi (by omega) q (Ent.sep enn q s)))
 refine Hd.skip<|Hd.inB<|Hd.toK K2 ?_;refine sr fun _ K6=>?_
 refine yv y_mv<|yv y_np<|yv (y_f 288 184 Tryz.underlying186 sz184)<|yv (y_load1 ag184 rfl (Rd.pt1 pkk (by exact woT_at (j:=0) (by omega) rfl))) ?_;refine yv y_mv<|yv (y_idxR Tryz.underlying184 sz189 rfl rfl (by omega) (by exact RdS.own pkk)) ?_;refine yv (y_loadR1 ag189 rfl (by exact RdS.own pkk) (by exact pws_at hb)) ?_;refine yv y_as<|yv y_as<|fk [(4,_),(5,_)] K6 ?_;refine Hd.ret ?_;rw [if_pos hc1.2,if_pos hc1.2];exact Hd.ret2 rfl () rfl rfl rfl (fun q s=>wol_back hb q (wire_fold (k:=1) hi (by omega) q (Ent.sep enn q s)))
theorem outer0_ct (L:List SP) (wb:Nat) (w:WA) (i:WoI) (n:Int) (hn:n < 0∨(i.rs.length:Int)≤n):Ct Tryz.prog 200 #[.pointer (some ⟨wb,0,none⟩),.int .i64 n] (WoL wb w i L) (fun _:Unit=>.tuple #[ptr none,.int .i64 116]) (fun _:Unit=>WoL wb w i L):=by
 refine Ct.o2 Tryz.func200 ?_;intro E
 show Hd E 43 _ _ _ _
 refine sr fun _ K1=>?_
 refine yv y_as<|yv y_as<|fk [(0,_),(1,_)] K1 ?_;refine Hd.seq fun _ K2=>?_
 refine Hd.block<|sr fun _ K3=>?_
 refine yv y_mv<|callE rfl fk114 (wnone_ct _ wb w.at w i.rs.length i) sq ?_;intro _;refine yv y_as<|fk [(0,_),(1,_),(6,_)] K3 ?_;refine Hd.condF rfl ?_;refine sr fun _ K4=>?_
 refine yv y_mv<|yv (y_lss rfl rfl) ?_;refine yv y_mv<|Hd.part (gd:=12) rfl (fun hg3_12=>?_) (fun hg3_12=>?_)
 ·try simp only [hyZ] at hg3_12
  refine n1<|n1<|n1<|n1<|n1<|n1<|n1<|yv (y_pickT rfl rfl) ?_;refine yv y_mv<|Hd.part (gd:=21) rfl (fun hg3_21=>?_) (fun hg3_21=>?_)
  ·try simp only [hyZ] at hg3_21
   refine n1<|n1<|n1<|n1<|n1<|n1<|n1<|n1<|n1<|n1<|n1<|n1<|n1<|yv (y_pickT rfl rfl) ?_;refine yv y_as<|fk [(0,_),(1,_),(9,_)] K4 ?_;refine qz ?_ ?_<;>intro hc1<;>try simp only [hyZ] at hc1
   ·refine sr fun _ K5=>?_
    refine yv y_as<|yv y_as<|fk [(4,_),(5,_)] K5 ?_;refine Hd.ret<|Hd.inBret<|Hd.thenRet ?_;exact Hd.ret2 rfl () rfl rfl (by rfl) sq
   exfalso;simp at hc1
  try simp only [hyZ] at hg3_21
  exfalso;simp at hg3_21;done
 try simp only [hyZ] at hg3_12
 refine y2 y_mv<|y2 y_mv<|y2 y_np<|y2 (y_f 288 184 Tryz.underlying186 sz184)<|y2 (y_load1 ag184 rfl (Rd.pt1 pkk (by exact woT_at (j:=0) (by omega) rfl))) ?_;refine y2 (y_len Tryz.underlying184 rfl) ?_;refine y2 (y_geq rfl rfl) ?_;refine yv (y_pickF rfl rfl) ?_;refine yv y_mv<|Hd.part (gd:=21) rfl (fun hg3_21=>?_) (fun hg3_21=>?_)
 ·try simp only [hyZ] at hg3_21
  refine n1<|n1<|n1<|n1<|n1<|n1<|n1<|n1<|n1<|n1<|n1<|n1<|n1<|yv (y_pickT rfl rfl) ?_;refine yv y_as<|fk [(0,_),(1,_),(9,_)] K4 ?_;refine qz ?_ ?_<;>intro hc1<;>try simp only [hyZ] at hc1
  ·refine sr fun _ K6=>?_
   refine yv y_as<|yv y_as<|fk [(4,_),(5,_)] K6 ?_;refine Hd.ret<|Hd.inBret<|Hd.thenRet ?_;exact Hd.ret2 rfl () rfl rfl (by rfl) sq
  exfalso;simp at hc1
 try simp only [hyZ] at hg3_21
 exfalso;omega
theorem outer_ct (L:List SP) (wb:Nat) (w:WA) (i:WoI) (hw:WOk w) (hrs:i.rs.map Prod.snd=w.ws) (n:Int) :
  Ct Tryz.prog 200 #[.pointer (some ⟨wb,0,none⟩),.int .i64 n] (WoL wb w i L) (fun _:Unit=>.tuple #[ptr (outB i w n),.int .i64 (outE w n)]) (fun _=>WoL wb w i L):=by
 have hrl:i.rs.length=w.ws.length:=by rw [←hrs,List.length_map]
 by_cases h:n < 0∨(i.rs.length:Int)≤n
 ·have e:=outW_off (w:=w) (n:=n) (by rw [←hrl];exact h)
  rw [show outB i w n=none by unfold outB;rw [e];rfl,show outE w n=116 by unfold outE;rw [e];rfl];exact outer0_ct L wb w i n h
 ·obtain ⟨k,rfl⟩:∃ k:Nat,n=(k:Int):=⟨n.toNat,by omega⟩
  have hk:k < w.ws.length:=by omega
  obtain ⟨b,hb⟩:=rs_at hrs (List.getElem?_eq_getElem hk)
  have e:=outW_nat (w:=w) (n:=k) (List.getElem?_eq_getElem hk)
  have:=outer1_ct L wb w i hw hrs k b _ hb
  have e1:outB i w (k:Int)=if (w.ws[k].e 1).what=2 then some b else none:=by
   unfold outB;rw [e,Int.toNat_natCast,hb]
   by_cases h2:(w.ws[k].e 1).what=2
   ·rw [if_pos h2,if_pos h2];rfl
   ·rw [if_neg h2,if_neg h2];rfl
  have e2:outE w (k:Int)=if (w.ws[k].e 1).what=2 then 0 else 116:=by
   unfold outE;rw [e]
   by_cases h2:(w.ws[k].e 1).what=2
   ·rw [if_pos h2,if_pos h2];rfl
   ·rw [if_neg h2,if_neg h2];rfl
  rw [e1,e2];exact this
theorem outE_no {w:WA} {n:Int} (h:outE w n≠0):outW w n=none:=by
 unfold outE at h
 cases e:outW w n with
 | none=>rfl
 | some x=>rw [e] at h;exact absurd rfl h
theorem outE_yes {w:WA} {i:WoI} (hrs:i.rs.map Prod.snd=w.ws) {n:Int} (h:outE w n=0):∃ (m b:Nat) (x:WireA),n=(m:Int)∧outW w n=some x∧w.ws[m]?=some x∧i.rs[m]?=some (b,x)∧(x.e 1).what=2∧outB i w n=some b:=by
 unfold outE at h
 cases e:outW w n with
 | none=>rw [e] at h;exact absurd h (by decide)
 | some x =>
  obtain ⟨h0,hx,h2⟩:=outW_some e
  obtain ⟨b,hb⟩:=rs_at hrs hx
  refine ⟨n.toNat,b,x,by omega,rfl,hx,hb,h2,?_⟩;unfold outB;rw [e,hb];rfl
theorem wput_ct (L:List SP) (wb:Nat) (w:WA) (n:Int) (ad:Option Addr) (m c:Nat) (bs:List UInt8) (hm:bs.length=m) (hR:RdS L 1 ad m (bsl bs)) (hml:m≤70368744177664) (hmc:m≤c):Ct Tryz.prog 126 #[.pointer (some ⟨wb,0,none⟩),.int .i64 n,.slice ad m c] (WorldP wb w::L) (fun _:Unit=>.tuple #[.int .i64 (putR w n bs).1.1,.int .i64 (putR w n bs).1.2]) (fun _:Unit=>WorldP wb (putR w n bs).2::L):=by
 refine Ct.o3 Tryz.func126 ?_;intro E
 show Hd E 44 _ _ _ _
 refine Hd.world .here (fun i hw hrs=>?_);refine sr fun _ K1=>?_
 refine yv y_as<|yv y_as<|fk [(0,_),(1,_),(2,_)] K1 ?_;refine sr fun _ K2=>?_
 refine yv y_mv<|yv y_mv<|callE rfl fk200 (outer_ct _ wb w i hw hrs n) sq ?_;intro _;refine yv y_mv<|yv (y_to (v':=ptr (outB i w n)) y_ex (by rfl)) ?_;refine yv (y_to (v':=.int .i64 (outE w n)) y_ex (by rfl)) ?_;refine yv y_as<|yv y_as<|fk [(2,_),(8,_),(9,_)] K2 ?_;refine Hd.seq fun _ K3=>?_
 refine Hd.block<|sr fun _ K4=>?_
 refine yv y_mv<|yv (y_neq rfl rfl) ?_;refine yv y_as<|fk [(2,_),(8,_),(9,_),(16,_)] K4 ?_;refine qz ?_ ?_<;>intro hc0<;>try simp only [hyZ] at hc0
 ·refine sr fun _ K5=>?_
  refine yv y_mv<|yv y_as<|yv y_as<|fk [(6,_),(7,_)] K5 ?_;refine Hd.ret<|Hd.inBret<|Hd.thenRet ?_
  have e:=outE_no hc0
  rw [show putR w n bs=((0,116),w) by unfold putR;rw [e]];exact Hd.ret2 rfl () rfl rfl (by unfold outE;rw [e];rfl) (Ent.sep (.ex i (.pure ⟨hw,hrs⟩ enn)))
 obtain ⟨k,b,x,rfl,hox,hx,hb,h2,hob⟩:=outE_yes hrs hc0
 have hwf:=hw.wf x (List.mem_of_getElem? hx)
 have hrd:putR w k bs=if x.rs=true then ((0,115),w) else if (x.e 1).shut=true∨(x.e 0).what=3 then ((0,114),w) else ((((putN x 1 bs:Nat):Int),(0:Int)),w.setW k (putW x 1 bs)):=by
  unfold putR;rw [hox];rfl
 rw [hob];refine Hd.wOut pkk hb ?_;refine Hd.wire .here 1 (by omega) (fun i2 hi=>?_);refine sr fun _ K6=>?_
 refine yv y_mv<|yv y_np<|yv (y_f 14 4 Tryz.underlying198 sz4)<|yv (y_l1 ag4 rfl)<|yv y_as<|fk [(2,_),(8,_),(20,_)] K6 ?_;refine qz ?_ ?_<;>intro hc1<;>try simp only [hyZ] at hc1
 ·refine sr fun _ K7=>?_
  refine yv y_as<|yv y_as<|fk [(6,_),(7,_)] K7 ?_;refine Hd.ret<|Hd.inBret<|Hd.thenRet ?_;rw [hrd,if_pos hc1];exact Hd.ret2 rfl () rfl rfl rfl (fun q s=>world_back (k:=1) hw hrs hb hi (by omega) q (Ent.sep enn q s))
 rw [if_neg (by rw [hc1];simp)] at hrd;refine sr fun _ K8=>?_
 refine yv y_mv<|yv y_np<|yv (y_f 0 196 Tryz.underlying198 sz196)<|yv (y_idxA Tryz.underlying196 sz195 rfl rfl (by decide)) ?_;refine yv (y_f 4 4 Tryz.underlying195 sz4)<|yv (y_l1 ag4 rfl)<|yv y_mv ?_;apply Hd.org 8 32 40 [(2,_),(8,_)] rfl sbq
 ·intro hg6_32
  try simp only [hyZ] at hg6_32
  simp only [List.take];refine n1<|n1<|n1<|n1<|n1<|n1<|n1<|yv (y_pickT rfl rfl) ?_;exact Hd.mn
 ·intro hg6_32
  try simp only [hyZ] at hg6_32
  simp only [List.take];refine y2 y_mv<|y2 y_np<|y2 (y_f 0 196 Tryz.underlying198 sz196)<|y2 (y_idxA Tryz.underlying196 sz195 rfl rfl (by decide)) ?_;refine y2 (y_f 0 3 Tryz.underlying195 sz3)<|y2 (y_l1 ag3 rfl)<|y2 (y_eql rfl rfl) ?_;refine yv (y_pickF rfl rfl) ?_;exact Hd.mn
 simp only [List.drop];refine yv y_as<|fk [(2,_),(8,_),(25,_)] K8 ?_;refine qz ?_ ?_<;>intro hc2<;>try simp only [hyZ] at hc2
 ·refine sr fun _ K9=>?_
  refine yv y_as<|yv y_as<|fk [(6,_),(7,_)] K9 ?_;refine Hd.ret<|Hd.inBret<|Hd.thenRet ?_;rw [hrd,if_pos hc2];exact Hd.ret2 rfl () rfl rfl rfl (fun q s=>world_back (k:=1) hw hrs hb hi (by omega) q (Ent.sep enn q s))
 rw [if_neg (by rw [hc2.1];simpa using hc2.2)] at hrd;refine Hd.skip<|Hd.inB<|Hd.toK K3 ?_;refine Hd.seq fun _ K10=>?_
 refine Hd.heap (WireP b x::WoR wb k w i L) (fun q s=>wire_fold (k:=1) hi (by omega) q (Ent.sep enn q s)) ?_;refine Hd.region<|yv y_mv<|yv y_mv<|callE rfl fk113 (put_ct _ b x 1 (by omega) (hwf.ou h2).1 ad m c bs hm ?hD hml hmc) sq ?_
 case hD=>exact RdS.mono hR sq
 intro _;refine yv y_as<|yv y_as<|fk [(6,_),(7,_)] K10 ?_;refine Hd.ret ?_;rw [hrd];exact Hd.ret2 rfl () rfl rfl rfl (fun q s=>world_fold' hw hrs hb (smW_put hwf (by omega) bs (hwf.ou h2).1) q (Ent.sep enn q s))
theorem wtake_ct (L:List SP) (wb:Nat) (w:WA) (n m:Int):Ct Tryz.prog 128 #[.pointer (some ⟨wb,0,none⟩),.int .i64 n,.int .i64 m] (WorldP wb w::L) (fun q_:Option Addr×Nat=>.tuple #[.slice q_.1 (takR w n m).1.1.length q_.2,.int .i64 (takR w n m).1.2]) (fun q_:Option Addr×Nat=>own 5 1 q_.1 (takR w n m).1.1.length q_.2 (bsl (takR w n m).1.1)::WorldP wb (takR w n m).2::L):=by
 refine Ct.o3 Tryz.func128 ?_;intro E
 show Hd E 31 _ _ _ _
 refine Hd.world .here (fun i hw hrs=>?_);refine sr fun _ K1=>?_
 refine yv y_as<|yv y_as<|fk [(0,_),(1,_),(2,_)] K1 ?_;refine sr fun _ K2=>?_
 refine yv y_mv<|yv y_mv<|callE rfl fk200 (outer_ct _ wb w i hw hrs n) sq ?_;intro _;refine yv y_mv<|yv (y_to (v':=ptr (outB i w n)) y_ex (by rfl)) ?_;refine yv (y_to (v':=.int .i64 (outE w n)) y_ex (by rfl)) ?_;refine yv y_as<|yv y_as<|fk [(2,_),(8,_),(9,_)] K2 ?_;refine Hd.seq fun _ K3=>?_
 refine Hd.block<|sr fun _ K4=>?_
 refine yv y_mv<|yv (y_neq rfl rfl) ?_;refine yv y_as<|fk [(2,_),(8,_),(9,_),(16,_)] K4 ?_;refine qz ?_ ?_<;>intro hc0<;>try simp only [hyZ] at hc0
 ·refine sr fun _ K5=>?_
  refine yv y_mv<|yv y_as<|yv y_as<|fk [(6,_),(7,_)] K5 ?_;refine Hd.ret<|Hd.inBret<|Hd.thenRet ?_
  have e:=outE_no hc0
  rw [show takR w n m=(([],116),w) by unfold takR;rw [e]];exact Hd.ret2 rfl (none,0) rfl rfl (by unfold outE;rw [e];rfl) (Ent.sep (.ownNil (.ex i (.pure ⟨hw,hrs⟩ enn))))
 obtain ⟨k,b,x,rfl,hox,hx,hb,h2,hob⟩:=outE_yes hrs hc0
 have hwf:=hw.wf x (List.mem_of_getElem? hx)
 have hrd:takR w k m=if m < 0 then (([],2),w) else if x.rs=true then (([],115),w) else (((x.e 1).b.take m.toNat,0),w.setW k (takeW x 1 m.toNat)):=by
  unfold takR;rw [hox];rfl
 rw [hob];refine Hd.wOut pkk hb ?_;refine Hd.wire .here 1 (by omega) (fun i2 hi=>?_);refine sr fun _ K6=>?_
 refine yv y_mv<|yv (y_lss rfl rfl) ?_;refine yv y_as<|fk [(2,_),(8,_),(20,_)] K6 ?_;refine qz ?_ ?_<;>intro hc1<;>try simp only [hyZ] at hc1
 ·refine sr fun _ K7=>?_
  refine yv y_as<|yv y_as<|fk [(6,_),(7,_)] K7 ?_;refine Hd.ret<|Hd.inBret<|Hd.thenRet ?_;rw [hrd,if_pos hc1];exact Hd.ret2 rfl (none,0) rfl rfl rfl (Ent.sep (.ownNil .same) |> fun h q s=>h q (world_back (k:=1) hw hrs hb hi (by omega) q (Ent.sep enn q s)))
 rw [if_neg (by omega)] at hrd;refine sr fun _ K8=>?_
 refine yv y_mv<|yv y_np<|yv (y_f 14 4 Tryz.underlying198 sz4)<|yv (y_l1 ag4 rfl)<|yv y_as<|fk [(2,_),(8,_),(23,_)] K8 ?_;refine qz ?_ ?_<;>intro hc2<;>try simp only [hyZ] at hc2
 ·refine sr fun _ K9=>?_
  refine yv y_as<|yv y_as<|fk [(6,_),(7,_)] K9 ?_;refine Hd.ret<|Hd.inBret<|Hd.thenRet ?_;rw [hrd,if_pos hc2];exact Hd.ret2 rfl (none,0) rfl rfl rfl (Ent.sep (.ownNil .same) |> fun h q s=>h q (world_back (k:=1) hw hrs hb hi (by omega) q (Ent.sep enn q s)))
 rw [if_neg (by rw [hc2];simp)] at hrd;refine Hd.skip<|Hd.inB<|Hd.toK K3 ?_;refine Hd.seq fun _ K10=>?_
 refine Hd.heap (WireP b x::WoR wb k w i L) (fun q s=>wire_fold (k:=1) hi (by omega) q (Ent.sep enn q s)) ?_;refine Hd.region<|yv y_mv<|yv y_mv<|callE rfl fk118 (take_ct _ b x 1 (by omega) (hwf.ou h2).2 m) sq ?_;rintro ⟨ad,c⟩;dsimp only;refine yv y_as<|yv y_as<|fk [(6,_),(7,_)] K10 ?_;refine Hd.ret ?_;rw [hrd];exact Hd.ret2 rfl (ad,c) rfl rfl rfl (fun q s=>Ent.sep (show Ent (WorldP wb (w.setW k (takeW x 1 m.toNat))::own 5 1 ad ((x.e 1).b.take m.toNat).length c (bsl ((x.e 1).b.take m.toNat))::L) (own 5 1 ad ((x.e 1).b.take m.toNat).length c (bsl ((x.e 1).b.take m.toNat))::WorldP wb (w.setW k (takeW x 1 m.toNat))::L) from enn) q (world_fold' hw hrs hb (smW_take hwf (by omega) (hwf.ou h2).2) q (Ent.sep enn q s)))
theorem pshut_ct (L:List SP) (wb:Nat) (w:WA) (n:Int):Ct Tryz.prog 130 #[.pointer (some ⟨wb,0,none⟩),.int .i64 n] (WorldP wb w::L) (fun _:Unit=>.int .i64 (pshutR w n).1) (fun _:Unit=>WorldP wb (pshutR w n).2::L):=by
 refine Ct.o2 Tryz.func130 ?_;intro E
 show Hd E 18 _ _ _ _
 refine Hd.world .here (fun i hw hrs=>?_);refine sr fun _ K1=>?_
 refine yv y_as<|fk [(0,_),(1,_)] K1 ?_;refine sr fun _ K2=>?_
 refine yv y_mv<|yv y_mv<|callE rfl fk200 (outer_ct _ wb w i hw hrs n) sq ?_;intro _;refine yv y_mv<|yv (y_to (v':=ptr (outB i w n)) y_ex (by rfl)) ?_;refine yv (y_to (v':=.int .i64 (outE w n)) y_ex (by rfl)) ?_;refine yv y_as<|yv y_as<|fk [(5,_),(6,_)] K2 ?_;refine Hd.seq fun _ K3=>?_
 refine sr fun _ K4=>?_
 refine yv y_mv<|yv (y_eql rfl rfl) ?_;refine fk [(5,_),(6,_),(14,_)] K4 ?_;refine qz ?_ ?_<;>intro hc0<;>try simp only [hyZ] at hc0
 ·obtain ⟨k,b,x,rfl,hox,hx,hb,h2,hob⟩:=outE_yes hrs hc0
  have hwf:=hw.wf x (List.mem_of_getElem? hx)
  have hrd:pshutR w k=(0,w.setW k (shutW x 1)):=by unfold pshutR;rw [hox];rfl
  rw [hob];refine Hd.wOut pkk hb ?_;refine Hd.region<|yv y_mv<|callE rfl fk122 (shut_ct _ b x 1 (by omega)) sq ?_;intro _;refine fk [(6,_)] K3 ?_;refine sr fun _ K5=>?_
  refine yv y_mv<|yv y_as<|fk [(4,_)] K5 ?_;refine Hd.ret ?_;rw [hrd];exact Hd.ret1 rfl () (by rw [hc0];rfl) (fun q s=>world_fold' hw hrs hb (smW_shut hwf) q (Ent.sep enn q s))
 refine qv K3<|sr fun _ K6=>?_
 refine yv y_mv<|yv y_as<|fk [(4,_)] K6 ?_;refine Hd.ret ?_
 have e:=outE_no hc0
 rw [show pshutR w n=(116,w) by unfold pshutR;rw [e]];exact Hd.ret1 rfl () (by unfold outE;rw [e];rfl) (Ent.sep (.ex i (.pure ⟨hw,hrs⟩ enn)))
theorem out_free {w:WA} (h:WOk w) {n:Nat} {x:WireA} (hx:w.ws[n]?=some x) (h2:(x.e 1).what=2):∀ k,k < 2→(x.e k).what=1→((closeW x 1).e k).what=1:=fun k hk e=>by
 rw [(close_e x (by omega) hk).1]
 split
 ·rename_i e1;subst e1;rw [h2] at e;cases e
 ·exact e
theorem pclose_ok {w:WA} (h:WOk w) {n:Nat} {x:WireA} (hx:w.ws[n]?=some x) (h2:(x.e 1).what=2):WOk (w.setW n (closeW x 1))∧(w.setW n (closeW x 1)).at=w.at:=by
 have hs:=sbW_close (h.wf x (List.mem_of_getElem? hx)) (k:=1) (by omega)
 have h0:n∈(w.setW n (closeW x 1)).ws.flatMap WireA.wt→((closeW x 1).e 0).what=0:=fun e=>by
  have:=(flatMap_set_sub (f:=WireA.wt) (x':=closeW x 1) hx hs.wt).subset e
  obtain ⟨z,hz,hz0⟩:=h.wm n this
  rw [hx] at hz;obtain rfl:=Option.some.inj hz;rw [(close_e x (by omega) (by omega)).1,if_neg (by omega)];exact hz0
 exact ⟨h.setS hx hs h0,h.setS_at hx hs h0 (out_free h hx h2)⟩
theorem pclose_ct (L:List SP) (wb:Nat) (w:WA) (n:Int):Ct Tryz.prog 132 #[.pointer (some ⟨wb,0,none⟩),.int .i64 n] (WorldP wb w::L) (fun _:Unit=>.int .i64 (pcloseR w n).1) (fun _:Unit=>WorldP wb (pcloseR w n).2::L):=by
 refine Ct.o2 Tryz.func132 ?_;intro E
 show Hd E 18 _ _ _ _
 refine Hd.world .here (fun i hw hrs=>?_);refine sr fun _ K1=>?_
 refine yv y_as<|fk [(0,_),(1,_)] K1 ?_;refine sr fun _ K2=>?_
 refine yv y_mv<|yv y_mv<|callE rfl fk200 (outer_ct _ wb w i hw hrs n) sq ?_;intro _;refine yv y_mv<|yv (y_to (v':=ptr (outB i w n)) y_ex (by rfl)) ?_;refine yv (y_to (v':=.int .i64 (outE w n)) y_ex (by rfl)) ?_;refine yv y_as<|yv y_as<|fk [(5,_),(6,_)] K2 ?_;refine Hd.seq fun _ K3=>?_
 refine sr fun _ K4=>?_
 refine yv y_mv<|yv (y_eql rfl rfl) ?_;refine fk [(5,_),(6,_),(14,_)] K4 ?_;refine qz ?_ ?_<;>intro hc0<;>try simp only [hyZ] at hc0
 ·obtain ⟨k,b,x,rfl,hox,hx,hb,h2,hob⟩:=outE_yes hrs hc0
  have hpk:=pclose_ok hw hx h2
  have hrd:pcloseR w k=(0,w.setW k (closeW x 1)):=by unfold pcloseR;rw [hox];rfl
  rw [hob];refine Hd.wOut pkk hb ?_;refine Hd.region<|yv y_mv<|callE rfl fk124 (close_ct _ b x 1 (by omega)) sq ?_;intro _;refine fk [(6,_)] K3 ?_;refine sr fun _ K5=>?_
  refine yv y_mv<|yv y_as<|fk [(4,_)] K5 ?_;refine Hd.ret ?_;rw [hrd];exact Hd.ret1 rfl () (by rw [hc0];rfl) (fun q s=>world_put hrs hb hpk.1 hpk.2 q (Ent.sep enn q s))
 refine qv K3<|sr fun _ K6=>?_
 refine yv y_mv<|yv y_as<|fk [(4,_)] K6 ?_;refine Hd.ret ?_
 have e:=outE_no hc0
 rw [show pcloseR w n=(116,w) by unfold pcloseR;rw [e]];exact Hd.ret1 rfl () (by unfold outE;rw [e];rfl) (Ent.sep (.ex i (.pure ⟨hw,hrs⟩ enn)))
theorem wshut_ct (L:List SP) (wb:Nat) (w:WA) (fd:Int):Ct Tryz.prog 57 #[.pointer (some ⟨wb,0,none⟩),.int .i64 fd] (WorldP wb w::L) (fun _:Unit=>.int .i64 (shutR w fd).1) (fun _:Unit=>WorldP wb (shutR w fd).2::L):=by
 refine Ct.o2 Tryz.func57 ?_;intro E
 show Hd E 44 _ _ _ _
 refine Hd.world .here (fun i hw hrs=>?_);refine sr fun _ K1=>?_
 refine yv y_as<|fk [(0,_),(1,_)] K1 ?_;refine sr fun _ K2=>?_
 refine yv y_mv<|yv y_mv<|callE rfl fk112 (find_ct _ wb w i hw hrs fd) sq ?_;intro _;refine yv y_mv<|yv y_ex<|yv y_ex<|yv y_ex<|Hd.alloc zr182 (fun b5=>?_);refine Hd.storeA (us:=plc (w.at fd)) (by rw [plc_len];exact sz182) rfl rfl rfl (plc_one _) pkk (by rw [plc_len];rfl) ?_;refine yv (y_to (v':=ptr (wfb i (w.at fd))) y_as (by rfl)) ?_;refine yv (y_to (v':=.int .i64 (fdErr (w.at fd))) y_as (by rfl)) ?_;refine fk [(5,_),(6,_),(7,_)] K2 ?_;refine Hd.seq fun _ K3=>?_
 refine Hd.block<|sr fun _ K4=>?_
 refine yv y_mv<|yv (y_neq rfl rfl) ?_;refine yv y_as<|fk [(5,_),(6,_),(7,_),(15,_)] K4 ?_;refine qz ?_ ?_<;>intro hc0<;>try simp only [hyZ] at hc0
 ·refine sr fun _ K5=>?_
  refine yv y_mv<|yv y_as<|fk [(4,_)] K5 ?_;refine Hd.ret<|Hd.inBret<|Hd.thenRet ?_
  have hno:w.at fd=none:=by
   cases h:w.at fd with
   | none=>rfl
   | some p=>rw [h] at hc0;exact absurd rfl hc0
  rw [show shutR w fd=(110,w) by unfold shutR;rw [hno]];exact Hd.ret1 rfl () (by rw [hno];rfl) (Ent.sep (.ex i (.pure ⟨hw,hrs⟩ enn)))
 obtain ⟨m0,k,hnk⟩:∃ m k,w.at fd=some (m,k):=by
  cases h:w.at fd with
  | none=>rw [h] at hc0;exact absurd hc0 (by decide)
  | some p=>exact ⟨p.1,p.2,rfl⟩
 obtain ⟨hf0,hf1,hk,hn,x,hx,_,_⟩:=hw.at_lt hnk
 obtain ⟨b,hb⟩:=rs_at hrs hx
 have hwf:=hw.wf x (List.mem_of_getElem? hx)
 have hrd:shutR w fd=if (x.e k).rd=false∨(x.e k).wr=false then (111,w) else (0,w.setW m0 (shutW x k)):=by unfold shutR;rw [hnk];dsimp only;rw [hx]
 rw [hnk,wfb_eq hb];refine Hd.wOut pkk hb ?_;refine Hd.wire .here k hk (fun i2 hi=>?_);refine Hd.seq fun _ K6=>?_
 refine Hd.quiet mixed kq ?_;refine Hq.yv y_mv ?_;refine Hq.yv (y_f 2 3 Tryz.underlying182 sz3) ?_;refine Hq.yv (y_l1 ag3 rfl) ?_;refine Hq.yv y_np ?_;refine Hq.yv (y_f 0 196 Tryz.underlying198 sz196) ?_;refine Hq.yv (y_idxA Tryz.underlying196 sz195 rfl rfl (by omega)) ?_;refine Hq.yv (y_f 2 193 Tryz.underlying195 sz193) ?_;refine Hq.yv (y_load1 ag193 rfl (Rd.pt1 pkk (by exact enc_at 2 hk (by omega) (by omega) rfl))) ?_;refine Hq.yv (y_to (v':=.bool (!(x.e k).rd)) (y_eql_pointer Tryz.underlying193 rfl rfl) (by (show Value.bool (Option.isNone _)=_;rw [ptr_no,hi.rd k hk]))) ?_;refine Hq.yv y_mv ?_;apply Hq.org 10 29 39 [(5,_),(6,_)] rfl ⟨rfl,rfl,trivial⟩
 ·intro hg4_29
  try simp only [hyZ] at hg4_29
  simp only [List.take];refine Hq.ng rfl rfl rfl ?_;refine Hq.ng rfl rfl rfl ?_;refine Hq.ng rfl rfl rfl ?_;refine Hq.ng rfl rfl rfl ?_;refine Hq.ng rfl rfl rfl ?_;refine Hq.ng rfl rfl rfl ?_;refine Hq.ng rfl rfl rfl ?_;refine Hq.ng rfl rfl rfl ?_;refine Hq.ng rfl rfl rfl ?_;refine Hq.yv (y_pickT rfl rfl) ?_;exact Hq.mend sbq
 ·intro hg4_29
  try simp only [hyZ] at hg4_29
  simp only [List.take];refine Hq.yg rfl rfl y_mv ?_;refine Hq.yg rfl rfl (y_f 2 3 Tryz.underlying182 sz3) ?_;refine Hq.yg rfl rfl (y_l1 ag3 rfl) ?_;refine Hq.yg rfl rfl y_np ?_;refine Hq.yg rfl rfl (y_f 0 196 Tryz.underlying198 sz196) ?_;refine Hq.yg rfl rfl (y_idxA Tryz.underlying196 sz195 rfl rfl (by omega)) ?_;refine Hq.yg rfl rfl (y_f 3 4 Tryz.underlying195 sz4) ?_;refine Hq.yg rfl rfl (y_load1 ag4 rfl (Rd.pt1 pkk (by exact enc_at 3 hk (by omega) (by omega) rfl))) ?_;refine Hq.yg rfl rfl (y_not rfl) ?_;refine Hq.yv (y_pickF rfl rfl) ?_;exact Hq.mend sbq
 simp only [List.drop];refine Hq.yv y_as ?_;refine Hq.nil ?_;refine sk [(5,_),(6,_),(19,_)] K6 ?_;refine qz ?_ ?_<;>intro hc1<;>try simp only [hyZ] at hc1
 ·refine sr fun _ K7=>?_
  refine yv y_as<|fk [(4,_)] K7 ?_;refine Hd.ret<|Hd.inBret<|Hd.thenRet ?_;rw [hrd,if_pos hc1];exact Hd.ret1 rfl () rfl (fun q s=>world_back hw hrs hb hi hk q (Ent.sep enn q s))
 rw [if_neg (by rw [hc1.1,hc1.2];simp)] at hrd;refine Hd.skip<|Hd.inB<|Hd.toK K3 ?_;refine Hd.seq fun _ K8=>?_
 refine Hd.heap (WireP b x::pt b5 (plc (some (m0,k))) 182::WoR wb m0 w i L) (fun q s=>wire_fold hi hk q (Ent.sep enn q s)) ?_;refine Hd.region<|yv y_mv<|yv (y_f 2 3 Tryz.underlying182 sz3)<|yv (y_l1 ag3 rfl)<|callE rfl fk122 (shut_ct _ b x k hk) sq ?_;intro _;refine fk [] K8 ?_;refine sr fun _ K9=>?_
 refine yv y_as<|fk [(4,_)] K9 ?_;refine Hd.ret ?_;rw [hrd];exact Hd.ret1 rfl () rfl (fun q s=>world_fold' hw hrs hb (smW_shut hwf) q (Ent.sep enn q s))
def optW:Option (Nat×WireA)→SP
 | none=>pu True
 | some p=>WireP p.1 p.2
theorem map_optW (rs:List (Nat×WireA)):(rs.map some).map optW=rs.map fun p=>WireP p.1 p.2:=by rw [List.map_map];rfl
theorem wires_bag {rs:List (Nat×WireA)} {L:List SP} {h:PH} (s:sep (Wires rs::L) h):sep (Bag optW (rs.map some)::L) h:=by
 obtain ⟨h1,h2,d,s1,s2,⟨x⟩,y⟩:=s
 exact ⟨h1,h2,d,s1,s2,⟨by rw [map_optW];exact x⟩,y⟩
theorem bag_wires {rs:List (Nat×WireA)} {L:List SP} {h:PH} (s:sep (Bag optW (rs.map some)::L) h):sep (Wires rs::L) h:=by
 obtain ⟨h1,h2,d,s1,s2,⟨x⟩,y⟩:=s
 exact ⟨h1,h2,d,s1,s2,⟨by rw [←map_optW];exact x⟩,y⟩
theorem bag_take {os:List (Option (Nat×WireA))} {j b:Nat} {x:WireA} {L:List SP} {h:PH} (hj:os[j]?=some (some (b,x))) (s:sep (Bag optW os::L) h):sep (WireP b x::Bag optW (os.set j none)::L) h:=by
 have h1:=bag_out hj s
 have hl:=(List.getElem?_eq_some_iff.1 hj).1
 have h2:sep (optW none::Bag optW (os.take j)::Bag optW (os.drop (j + 1))::WireP b x::L) h:=Ent.sep (show Ent (WireP b x::Bag optW (os.take j)::Bag optW (os.drop (j + 1))::L) (pu True::Bag optW (os.take j)::Bag optW (os.drop (j + 1))::WireP b x::L) from .pure trivial enn) h h1
 exact Ent.sep enn h (bag_in hl h2)
theorem bag_give {os:List (Option (Nat×WireA))} {j b:Nat} {x:WireA} {L:List SP} {h:PH} (hj:os[j]?=some none) (s:sep (WireP b x::Bag optW os::L) h):sep (Bag optW (os.set j (some (b,x)))::L) h:=by
 have hl:=(List.getElem?_eq_some_iff.1 hj).1
 have h1:sep (Bag optW os::WireP b x::L) h:=Ent.sep enn h s
 have h2:=bag_out hj h1
 have h3:sep (optW (some (b,x))::Bag optW (os.take j)::Bag optW (os.drop (j + 1))::L) h:=Ent.sep (show Ent (pu True::Bag optW (os.take j)::Bag optW (os.drop (j + 1))::WireP b x::L) (WireP b x::Bag optW (os.take j)::Bag optW (os.drop (j + 1))::L) from enn) h h2
 exact bag_in hl h3
def clo1 (rs:List (Nat×WireA)) (n:Nat):List (Nat×WireA):=match rs[n]? with
 | some p=>rs.set n (p.1,closeW p.2 0)
 | none=>rs
def closeL (rs:List (Nat×WireA)) (l:List Nat):List (Nat×WireA):=l.foldl clo1 rs
theorem closeL_snoc (rs:List (Nat×WireA)) (l:List Nat) (n:Nat):closeL rs (l++[n])=clo1 (closeL rs l) n:=by unfold closeL;rw [List.foldl_append];rfl
theorem clo1_fst (rs:List (Nat×WireA)) (n:Nat):(clo1 rs n).map Prod.fst=rs.map Prod.fst:=by
 unfold clo1
 split
 ·rename_i p hp
  rw [List.map_set];apply List.ext_getElem?;intro j
  by_cases e:n=j
  ·subst e
   rw [List.getElem?_set_self (by rw [List.length_map];exact (List.getElem?_eq_some_iff.1 hp).1),List.getElem?_map,hp];rfl
  ·rw [List.getElem?_set_ne e]
 ·rfl
theorem closeL_fst:∀ (l:List Nat) (rs:List (Nat×WireA)),(closeL rs l).map Prod.fst=rs.map Prod.fst
 | [],_=>rfl
 | n::t,rs=>by
  show (closeL (clo1 rs n) t).map Prod.fst=_
  rw [closeL_fst t,clo1_fst]
theorem clo1_snd (rs:List (Nat×WireA)) (n:Nat):(clo1 rs n).map Prod.snd=match (rs.map Prod.snd)[n]? with | some y=>(rs.map Prod.snd).set n (closeW y 0) | none=>rs.map Prod.snd:=by
 unfold clo1;rw [List.getElem?_map]
 cases h:rs[n]? with
 | none=>rfl
 | some p=>show (rs.set n _).map Prod.snd=_;rw [List.map_set];rfl
theorem closeL_snd:∀ (l:List Nat) (rs:List (Nat×WireA)),(closeL rs l).map Prod.snd=closeAll (rs.map Prod.snd) l
 | [],_=>rfl
 | n::t,rs=>by
  show (closeL (clo1 rs n) t).map Prod.snd=closeAll _ t
  rw [closeL_snd t,clo1_snd]
  try rfl
theorem closeL_len (l:List Nat) (rs:List (Nat×WireA)):(closeL rs l).length=rs.length:=by
 have:=congrArg List.length (closeL_fst l rs)
 rwa [List.length_map,List.length_map] at this
theorem closeAll_set:∀ (l:List Nat) (ws:List WireA) {m:Nat} {X:WireA},m ∉ l→closeAll (ws.set m X) l=(closeAll ws l).set m X
 | [],_,_,_,_=>rfl
 | n::t,ws,m,X,h=>by
  have hne:m≠n:=fun e=>h (e ▸ List.mem_cons_self)
  have ht:m ∉ t:=fun e=>h (List.mem_cons_of_mem _ e)
  show closeAll (match (ws.set m X)[n]? with | some y=>(ws.set m X).set n (closeW y 0) | none=>ws.set m X) t=(closeAll (match ws[n]? with | some y=>ws.set n (closeW y 0) | none=>ws) t).set m X
  rw [List.getElem?_set_ne hne]
  cases h2:ws[n]? with
  | none=>exact closeAll_set t ws ht
  | some y =>
   show closeAll ((ws.set m X).set n (closeW y 0)) t=(closeAll (ws.set n (closeW y 0)) t).set m X
   rw [List.set_comm _ _ hne,closeAll_set t _ ht]
theorem world_all {wb:Nat} {w w':WA} {i:WoI} {rs':List (Nat×WireA)} {t:Int→Option (Nat×Nat)} {L:List SP} (hok:WOk w') (hf:rs'.map Prod.fst=i.rs.map Prod.fst) (hws:rs'.map Prod.snd=w'.ws) (hat:w'.at=t) (hr:w'={ w with ws:=w'.ws }) :
  ∀ h,sep (Wires rs'::WoH wb t w i.rs.length i::own 189 1 i.wa i.rs.length i.wc (pws i.rs)::SigP i.sb w.hd w.ct::L) h→sep (WorldP wb w'::L) h:=by
 intro h s
 have hl:rs'.length=i.rs.length:=by have:=congrArg List.length hf;rwa [List.length_map,List.length_map] at this
 have hp:pws rs'=pws i.rs:=by
  have:∀ l:List (Nat×WireA),pws l=(l.map Prod.fst).map fun b=>ptr (some b):=fun l=>by unfold pws;rw [List.map_map];rfl
  rw [this,this,hf]
 have hsg:SigP i.sb w.hd w.ct=SigP i.sb w'.hd w'.ct:=by rw [hr]
 refine Ent.sep (.ex { i with rs:=rs' } (.pure ⟨hok,hws⟩ ?_)) h s;exact .eq pkk (pt_eq (show fdC t++woT w i.rs.length i=fdC w'.at++woT w' rs'.length { i with rs:=rs' } by rw [hat,hl,hr])) (.eq pkk (own_eq3 hl.symm rfl hp.symm) (.pick pkk (.eq pkk hsg enn)))
abbrev WoS (wb:Nat) (t:Int→Option (Nat×Nat)) (w:WA) (i:WoI) (L:List SP):List SP:=WoH wb t w i.rs.length i::own 189 1 i.wa i.rs.length i.wc (pws i.rs)::SigP i.sb w.hd w.ct::L
theorem wclose_ct (L:List SP) (wb:Nat) (w:WA) (fd:Int):Ct Tryz.prog 59 #[.pointer (some ⟨wb,0,none⟩),.int .i64 fd] (WorldP wb w::L) (fun _:Unit=>.int .i64 (closeF w fd).1) (fun _:Unit=>WorldP wb (closeF w fd).2::L):=by
 refine Ct.o2 Tryz.func59 ?_;intro E
 show Hd E 51 _ _ _ _
 refine Hd.world .here (fun i hw hrs=>?_);refine sr fun _ K1=>?_
 refine yv y_as<|fk [(0,_),(1,_)] K1 ?_;refine sr fun _ K2=>?_
 refine yv y_mv<|yv y_mv<|callE rfl fk112 (find_ct _ wb w i hw hrs fd) sq ?_;intro _;refine yv y_mv<|yv y_ex<|yv y_ex<|yv y_ex<|Hd.alloc zr182 (fun b5=>?_);refine Hd.storeA (us:=plc (w.at fd)) (by rw [plc_len];exact sz182) rfl rfl rfl (plc_one _) pkk (by rw [plc_len];rfl) ?_;refine yv (y_to (v':=ptr (wfb i (w.at fd))) y_as (by rfl)) ?_;refine yv (y_to (v':=.int .i64 (fdErr (w.at fd))) y_as (by rfl)) ?_;refine fk [(0,_),(1,_),(5,_),(6,_),(7,_)] K2 ?_;refine Hd.seq fun _ K3=>?_
 refine sr fun _ K4=>?_
 refine yv y_mv<|yv (y_neq rfl rfl) ?_;refine fk [(0,_),(1,_),(5,_),(6,_),(7,_),(18,_)] K4 ?_;refine qz ?_ ?_<;>intro hc0<;>try simp only [hyZ] at hc0
 ·refine sr fun _ K5=>?_
  refine yv y_mv<|yv y_as<|fk [(4,_)] K5 ?_;refine Hd.ret<|Hd.thenRet ?_
  have hno:w.at fd=none:=by
   cases h:w.at fd with
   | none=>rfl
   | some p=>rw [h] at hc0;exact absurd rfl hc0
  rw [show closeF w fd=(110,w) by unfold closeF;rw [hno]];exact Hd.ret1 rfl () (by rw [hno];rfl) (Ent.sep (.ex i (.pure ⟨hw,hrs⟩ enn)))
 obtain ⟨m0,k,hnk⟩:∃ m k,w.at fd=some (m,k):=by
  cases h:w.at fd with
  | none=>rw [h] at hc0;exact absurd hc0 (by decide)
  | some p=>exact ⟨p.1,p.2,rfl⟩
 obtain ⟨hf0,hf1,hk,hn,x,hx,_,_⟩:=hw.at_lt hnk
 obtain ⟨b,hb⟩:=rs_at hrs hx
 have hm0:=hw.ns m0 x hx
 have hcl:=closeF_ok hw fd
 have hrd:closeF w fd=(0,{ w with ws:=closeAll (w.ws.set m0 ((closeW x k).wts [])) x.wt }):=by unfold closeF;rw [hnk];dsimp only;rw [hx]
 have hml:m0 < i.rs.length:=(List.getElem?_eq_some_iff.1 hb).1
 have hwl:=wt_le hw hx
 rw [hnk,wfb_eq hb]
 obtain ⟨f,hf⟩:∃ f:Nat,fd=(f:Int):=⟨fd.toNat,by omega⟩
 subst hf
 have hf96:f < 96:=by omega
 refine qv K3<|sr fun _ K6=>?_
 refine yv y_mv<|yv y_mv<|yv (y_build (cs:=(plc none).toArray) (vs:=[]) rfl kq) ?_;refine yv y_np<|yv (y_f 0 183 Tryz.underlying186 sz183)<|yv (y_idxA Tryz.underlying183 sz182 rfl rfl (by omega)) ?_;refine Hd.store (us:=plc none) sz182 rfl rfl rfl (plc_one _) pkk (by rw [List.length_append,fdC_len,plc_len];omega) ?_;refine Hd.nil ?_;rw [show 0 + 0 + f * 3=f * 3 by omega,show (plc none).length=3 from rfl,fdC_set hf96];refine Hd.heap (WireP b x::Bag optW ((i.rs.map some).set m0 none)::pt b5 (plc (some (m0,k))) 182::WoS wb (setT w.at f none) w i L) (fun q s=>bag_take (by rw [List.getElem?_map,hb];rfl) (wires_bag (Ent.sep enn q s))) ?_;refine sk [(0,_),(5,_),(6,_)] K6 ?_;refine sr fun _ K7=>?_
 refine yv y_mv<|yv (y_f 2 3 Tryz.underlying182 sz3)<|yv (y_l1 ag3 rfl)<|callE rfl fk124 (close_ct _ b x k hk) sq ?_;intro _;refine fk [(0,_),(6,_)] K7 ?_;refine Hd.seq fun _ K8=>?_
 refine Hd.seq fun _ K9=>?_
 refine Hd.wire .here k hk (fun i2 hi=>?_);refine Hd.region<|yv y_mv<|yv y_np<|yv (y_f 16 94 Tryz.underlying198 sz94)<|yv (y_to (v':=.slice i2.wa x.wt.length i2.wc) (y_l1 ag94 rfl) (by rfl)) ?_;refine yv (y_len Tryz.underlying94 rfl) ?_;refine yv y_mv<|fk [(0,_),(6,_),(33,_),(34,_),(35,_)] K9 ?_;refine Hd.block<|Hd.loopK (ι:=Nat) [(0,_),(6,_),(33,_),(34,_)] (fun j=>[(35,.int .i64 (j:Int))]) (fun j=>pu (j≤x.wt.length)::Bag optW (((closeL i.rs (x.wt.take j)).map some).set m0 none)::WireH b (closeW x k) i2::RgO (i2.p k) (closeW x k).cap ((closeW x k).e k).b::RgO (i2.p (1 - k)) (closeW x k).cap ((closeW x k).e (1 - k)).b::own 3 1 i2.wa x.wt.length i2.wc (nats x.wt)::pt b5 (plc (some (m0,k))) 182::WoS wb (setT w.at f none) w i L) (fun j=>x.wt.length - j) 0 sbq sbq (Ent.sep (.pure (Nat.zero_le _) (.eq pkk (show Bag optW ((i.rs.map some).set m0 none)=Bag optW (((closeL i.rs (x.wt.take 0)).map some).set m0 none) from rfl) (.pick pkk (.pick pkk (.pick pkk (.eq pkk (show own 3 1 i2.wa (closeW x k).wt.length i2.wc (nats (closeW x k).wt)=own 3 1 i2.wa x.wt.length i2.wc (nats x.wt) from rfl) enn))))))) ?_
 intro j
 try dsimp only
 refine Hd.pure (fun hp0=>?_)
 try dsimp only at hp0
 refine sr fun _ K10=>?_
 refine yv (y_lss rfl rfl) ?_;refine fk [(0,_),(6,_),(33,_),(34,_),(35,_),(36,_)] K10 ?_;refine Hd.seq fun _ K11=>?_
 refine qz ?_ ?_<;>intro hc1<;>try simp only [hyZ] at hc1
 ·have hj:j < x.wt.length:=by omega
  have hgj:=nats_at hj
  obtain ⟨n,hn⟩:∃ n,n=x.wt.getD j 0:=⟨_,rfl⟩
  have hnj:x.wt[j]?=some n:=by rw [hn,List.getD_eq_getElem?_getD,List.getElem?_eq_getElem hj];rfl
  have hnm:n∈x.wt:=List.mem_of_getElem? hnj
  obtain ⟨y0,hy0,_⟩:=hw.wm n (List.mem_flatMap.2 ⟨x,List.mem_of_getElem? hx,hnm⟩)
  obtain ⟨bn,hbn⟩:=rs_at hrs hy0
  have hnl:n < i.rs.length:=(List.getElem?_eq_some_iff.1 hbn).1
  have hnm0:n≠m0:=fun e=>hm0 (e ▸ hnm)
  obtain ⟨yn,hyn⟩:∃ yn,(closeL i.rs (x.wt.take j))[n]?=some (bn,yn):=by
   have h1:(closeL i.rs (x.wt.take j))[n]?=some ((closeL i.rs (x.wt.take j))[n]'(by rw [closeL_len];exact hnl)):=List.getElem?_eq_getElem _
   have h2:((closeL i.rs (x.wt.take j)).map Prod.fst)[n]?=some bn:=by rw [closeL_fst,List.getElem?_map,hbn];rfl
   rw [List.getElem?_map,h1] at h2;exact ⟨_,by rw [h1];exact congrArg some (Prod.ext (Option.some.inj h2) rfl)⟩
  have htk:closeL i.rs (x.wt.take (j + 1))=(closeL i.rs (x.wt.take j)).set n (bn,closeW yn 0):=by
   rw [List.take_add_one,hnj]
   show closeL i.rs (x.wt.take j++[n])=_
   rw [closeL_snoc];unfold clo1;rw [hyn]
  rw [←hn] at hgj;refine qv K11<|Hd.seq fun _ K12=>?_
  refine Hd.block<|sr fun _ K13=>?_
  refine yv (y_idxR Tryz.underlying94 sz3 rfl rfl (by omega) (by exact RdS.own pkk)) ?_;refine yv (y_loadR1 ag3 rfl (RdS.own (ad:=i2.wa) (us:=nats x.wt) pkk) hgj) ?_;refine yv y_as<|fk [(0,_),(6,_),(9,_),(33,_),(34,_),(35,_)] K13 ?_;refine Hd.region<|yv y_mv<|yv y_np<|yv (y_f 288 184 Tryz.underlying186 sz184)<|yv (y_load1 ag184 rfl (Rd.pt1 pkk (by exact woT_at (j:=0) (by omega) rfl))) ?_;refine yv y_mv<|yv (y_idxR Tryz.underlying184 sz189 rfl rfl (by omega) (by exact RdS.own pkk)) ?_;refine yv (y_loadR1 ag189 rfl (by exact RdS.own pkk) (by exact pws_at hbn)) ?_;refine Hd.heap (WireP bn yn::Bag optW ((((closeL i.rs (x.wt.take j)).map some).set m0 none).set n none)::WireH b (closeW x k) i2::RgO (i2.p k) (closeW x k).cap ((closeW x k).e k).b::RgO (i2.p (1 - k)) (closeW x k).cap ((closeW x k).e (1 - k)).b::own 3 1 i2.wa x.wt.length i2.wc (nats x.wt)::pt b5 (plc (some (m0,k))) 182::WoS wb (setT w.at f none) w i L) (fun q s=>bag_take (by rw [List.getElem?_set_ne (Ne.symm hnm0),List.getElem?_map,hyn];rfl) (Ent.sep enn q s)) ?_
  refine callE rfl fk124 (close_ct _ bn yn 0 (by omega)) sq ?_;intro _
  refine Hd.heap (Bag optW (((closeL i.rs (x.wt.take (j + 1))).map some).set m0 none)::WireH b (closeW x k) i2::RgO (i2.p k) (closeW x k).cap ((closeW x k).e k).b::RgO (i2.p (1 - k)) (closeW x k).cap ((closeW x k).e (1 - k)).b::own 3 1 i2.wa x.wt.length i2.wc (nats x.wt)::pt b5 (plc (some (m0,k))) 182::WoS wb (setT w.at f none) w i L) (fun q s=>by
   have h1:=bag_give (j:=n) (b:=bn) (x:=closeW yn 0) (by rw [List.getElem?_set_self (by simp [closeL_len];exact hnl)]) s
   rw [List.set_set,List.set_comm _ _ (Ne.symm hnm0),show (List.map some (closeL i.rs (x.wt.take j))).set n (some (bn,closeW yn 0))=(closeL i.rs (x.wt.take (j + 1))).map some by rw [htk,List.map_set]] at h1
   exact h1) ?_
  refine Hd.nil<|slots [(0,_),(6,_),(33,_),(34,_),(35,_)] sbq ?_;refine Hd.inB<|Hd.toK K12 ?_;refine Hd.region<|yv (y_addn rfl rfl (by simp only [InK];omega)) ?_;refine yv y_mv<|Hd.nil<|slots [(0,_),(6,_),(33,_),(34,_),(35,_)] sbq ?_;refine thenN ?_;exact Hd.again (j + 1) (by omega) sbq (Ent.sep (.pure (by omega) enn))
 obtain rfl:j=x.wt.length:=by omega
 rw [List.take_length];refine Hd.exit<|Hd.thenExit<|Hd.thenExit<|Hd.inBexit<|Hd.toK K8 ?_;refine sr fun _ K14=>?_
 refine yv y_mv<|yv y_np<|yv (y_f 16 94 Tryz.underlying198 sz94)<|Hd.store1 sz94 rfl rfl rfl pkk (by simp;done) ?_
 try simp only [hyS]
 refine Hd.nil ?_;rw [show (encW (closeW x k) i2).set (0 + 16) (.slice none 0 0)=encW ((closeW x k).wts []) { i2 with wa:=none,wc:=0 } from rfl];refine Hd.heap (WireP b ((closeW x k).wts [])::Bag optW (((closeL i.rs x.wt).map some).set m0 none)::WoS wb (setT w.at f none) w i L) (fun q s=>wire_fold (x:=(closeW x k).wts []) (i:={ i2 with wa:=none,wc:=0 }) (k:=k) ⟨hi.rd⟩ hk q (Ent.sep (show Ent _ (pt b (encW ((closeW x k).wts []) { i2 with wa:=none,wc:=0 }) 198::RgO (i2.p k) (closeW x k).cap ((closeW x k).e k).b::RgO (i2.p (1 - k)) (closeW x k).cap ((closeW x k).e (1 - k)).b::own 3 1 none 0 0 []::Bag optW (((closeL i.rs x.wt).map some).set m0 none)::WoS wb (setT w.at f none) w i L) from .pick pkk (.pick pkk (.pick pkk (.ownNil enn)))) q s)) ?_;refine sk [] K14 ?_;refine sr fun _ K15=>?_
 refine yv y_as<|fk [(4,_)] K15 ?_;refine Hd.ret ?_
 have hws:((closeL i.rs x.wt).set m0 (b,(closeW x k).wts [])).map Prod.snd=closeAll (w.ws.set m0 ((closeW x k).wts [])) x.wt:=by
  rw [List.map_set,closeL_snd,hrs,closeAll_set _ _ hm0]
 have hfs:((closeL i.rs x.wt).set m0 (b,(closeW x k).wts [])).map Prod.fst=i.rs.map Prod.fst:=by
  rw [List.map_set,closeL_fst];apply List.ext_getElem?;intro j
  by_cases e:m0=j
  ·subst e
   rw [List.getElem?_set_self (by rw [List.length_map];exact hml),List.getElem?_map,hb];rfl
  ·rw [List.getElem?_set_ne e]
 rw [hrd] at hcl ⊢
 exact Hd.ret1 rfl () rfl (fun q s=>world_all hcl.1 hfs hws hcl.2.1 rfl q (bag_wires (by
  have h1:=bag_give (j:=m0) (b:=b) (x:=(closeW x k).wts []) (by rw [List.getElem?_set_self (by simp [closeL_len];exact hml)]) s
  rw [List.set_set,show (List.map some (closeL i.rs x.wt)).set m0 (some (b,(closeW x k).wts []))=((closeL i.rs x.wt).set m0 (b,(closeW x k).wts [])).map some by rw [List.map_set]] at h1
  exact h1)))
theorem free_itR (wb bx:Nat) (t:Int→Option (Nat×Nat)):RX.ItR Tryz.prog 197 [.pointer (some ⟨bx,0,none⟩)] encF (fun ys=>ys=frees t) (fun ys=>ys <+: frees t) wb 0 (fdC t)
  [pt bx [.pointer (some ⟨wb,0,none⟩)] 37] [pt bx [.pointer (some ⟨wb,0,none⟩)] 37]:=by
 intro l J X hy hRd;refine Ct.of (vs:=[.func (.yield l) #[] #[],.pointer (some ⟨bx,0,none⟩)]) Tryz.func197 rfl rfl [(0,.func (.yield l) #[] #[]),(1,.pointer (some ⟨bx,0,none⟩))] ⟨rfl,rfl,trivial⟩ ?_;intro E
 show Hd E 23 _ _ _ _
 refine Hd.heap (pt bx [.pointer (some ⟨wb,0,none⟩)] 37::J []) (fun k h=>by have:=sep_app h;exact this) ?_;refine sr fun _ K1=>?_
 refine yv (y_l1 ag37 rfl)<|yv y_np<|yv (y_f 0 183 Tryz.underlying186 sz183)<|yv (y_loadn (us:=fdC t) ag183 rfl (hRd.mono (fun k s=>by obtain ⟨_,_,_,_,b,_,y⟩:=s;exact y.up b)) (by rw [fdC_len];exact sz183)) ?_;refine yv y_mv<|fk [(0,_),(8,_),(9,_)] K1 ?_;refine Hd.block<|Hd.loopK (ι:=Nat) [(0,_),(8,_)] (fun i=>[(9,.int .i64 (i:Int))]) (fun i=>pu (i≤96)::pt bx [.pointer (some ⟨wb,0,none⟩)] 37::J ((List.range i).filter fun fd:Nat=>(t (fd:Int)).isNone)) (fun i=>96 - i) 0 sbq sbq (Ent.sep (.pure (by omega) enn)) ?_;intro i
 try dsimp only
 refine Hd.pure (fun hp0=>?_)
 try dsimp only at hp0
 refine sr fun _ K2=>?_
 refine yv (y_lss rfl rfl) ?_;refine fk [(0,_),(8,_),(9,_),(10,_)] K2 ?_;refine Hd.seq fun _ K3=>?_
 refine qz ?_ ?_<;>intro hc0<;>try simp only [hyZ] at hc0
 ·have hi:i < 96:=by omega
  have hsf:=range_succ_filter (fun fd:Nat=>(t (fd:Int)).isNone) i
  refine qv K3<|Hd.seq fun _ K4=>?_
  refine Hd.block<|sr fun _ K5=>?_
  refine yv y_mv<|yv (y_indexn (us:=plc (t (i:Int))) Tryz.underlying183 ag182 sz182 rfl rfl hi (fdC_drop hi)) ?_;refine Hd.alloc zr182 (fun b4=>?_);refine yv y_as<|Hd.storeA (us:=plc (t (i:Int))) (by rw [plc_len];exact sz182) rfl rfl rfl (plc_one _) pkk (by rw [plc_len];rfl) ?_;refine fk [(0,_),(3,_),(4,_),(8,_),(9,_)] K5 ?_;refine sr fun _ K6=>?_
  refine yv (y_f 0 4 Tryz.underlying182 sz4)<|yv (y_load1 ag4 rfl (Rd.pt1 pkk (by exact plc0 _))) ?_;refine yv (y_not rfl)<|yv y_mv<|Hd.part (gd:=16) rfl (fun hg3_16=>?_) (fun hg3_16=>?_)
  ·try simp only [hyZ] at hg3_16
   have hfr:(t (i:Int)).isNone=true:=by cases h:t (i:Int)<;>simp [h] at hg3_16 ⊢
   rw [if_pos hfr] at hsf
   have hpr:((List.range i).filter fun fd:Nat=>(t (fd:Int)).isNone)++[i] <+: frees t:=by rw [←hsf];exact range_prefix _ hi
   refine y2 y_mv<|y2 y_mv<|Hd.unguard rfl rfl ?_;refine Hd.yield (pre:=(List.range i).filter fun fd:Nat=>(t (fd:Int)).isNone) (c:=i) (M:=[pt bx [.pointer (some ⟨wb,0,none⟩)] 37]) hy rfl rfl hpr (fun k' h=>sep_app (show sep ([pt bx [.pointer (some ⟨wb,0,none⟩)] 37]++J ((List.range i).filter fun fd:Nat=>(t (fd:Int)).isNone)) k' from Ent.sep (show Ent _ (pt bx [.pointer (some ⟨wb,0,none⟩)] 37::J ((List.range i).filter fun fd:Nat=>(t (fd:Int)).isNone)) from enn) k' h)) ?_;intro yb;refine y2 (y_not rfl)<|yv (y_pickT rfl rfl) ?_;refine fk [(0,_),(8,_),(9,_),(21,_)] K6 ?_;refine qz ?_ ?_<;>intro hc1<;>try simp only [hyZ] at hc1
   ·subst hc1
    simp only [cond_false];refine Hd.ret<|Hd.inBret<|Hd.thenRet<|Hd.thenRet<|Hd.inBret ?_;exact Hd.ret0 rfl (((List.range i).filter fun fd:Nat=>(t (fd:Int)).isNone)++[i],false) rfl (fun k' h=>Ent.sep (.pure hpr .same) k' h)
   subst hc1;simp only [cond_true];refine Hd.heap (pt bx [.pointer (some ⟨wb,0,none⟩)] 37::J (((List.range i).filter fun fd:Nat=>(t (fd:Int)).isNone)++[i])) (fun k' h=>sep_app h) ?_;rw [←hsf];refine Hd.skip<|Hd.inB<|Hd.toK K4 ?_;refine Hd.region<|yv (y_addn rfl rfl (by simp only [InK];omega)) ?_;refine yv y_mv<|Hd.nil<|slots [(0,_),(8,_),(9,_)] sbq ?_;refine thenN ?_;exact Hd.again (i + 1) (by omega) sbq (Ent.sep (.pure (by omega) enn))
  try simp only [hyZ] at hg3_16
  have hfr:(t (i:Int)).isNone=false:=by cases h:t (i:Int)<;>simp [h] at hg3_16 ⊢
  rw [if_neg (by rw [hfr];simp)] at hsf;refine n1<|n1<|n1<|n1<|yv (y_pickF rfl rfl) ?_;refine fk [(0,_),(8,_),(9,_),(21,_)] K6 ?_;refine Hd.condF rfl ?_;refine Hd.skip<|Hd.inB<|Hd.toK K4 ?_;refine Hd.region<|yv (y_addn rfl rfl (by simp only [InK];omega)) ?_;refine yv y_mv<|Hd.nil<|slots [(0,_),(8,_),(9,_)] sbq ?_;refine thenN ?_;rw [←hsf];exact Hd.again (i + 1) (by omega) sbq (Ent.sep (.pure (by omega) enn))
 refine Hd.exit<|Hd.thenExit<|Hd.thenExit<|Hd.inBexit ?_
 obtain rfl:i=96:=by omega
 exact Hd.end0 rfl (frees t,true) rfl (fun k' h=>Ent.sep (.pure rfl .same) k' (sep_app (M:=[pt bx [.pointer (some ⟨wb,0,none⟩)] 37]) (N:=J (frees t)) (Ent.sep enn k' h)))
theorem acc_yes {w:WA} (h:WOk w) {fd:Int} {m k a f:Nat} {x:WireA} {t fs:List Nat} (hm:w.at fd=some (m,k)) (hx:w.ws[m]?=some x) (hbl:x.bl≠0) (hwt:x.wt=a::t) (hfs:frees w.at=f::fs) :
  ∃ y,(w.setW m (x.wts t)).ws[a]?=some y∧accR w fd=(((f:Int),(a:Int),0),(w.setW m (x.wts t)).setW a (giveW y f))∧WOk ((w.setW m (x.wts t)).setW a (giveW y f))∧((w.setW m (x.wts t)).setW a (giveW y f)).at=setT w.at (f:Int) (some (a,0)):=by
 have hwf:=h.wf x (List.mem_of_getElem? hx)
 have hs:SbW x (x.wts t):=sbW_wts hwf (by rw [hwt];exact List.sublist_cons_self _ _)
 have hsub:=flatMap_set_sub (f:=WireA.wt) (x':=x.wts t) hx hs.wt
 have hm0:m∈(w.setW m (x.wts t)).ws.flatMap WireA.wt→((x.wts t).e 0).what=0:=fun e=>by
  obtain ⟨z,hz,hz0⟩:=h.wm m (hsub.subset e)
  rw [hx] at hz;obtain rfl:=Option.some.inj hz;exact hz0
 have hat:=h.setS_at hx hs hm0 (fun _ _ e=>e)
 have hok:=h.setS hx hs hm0
 obtain ⟨y0,hy0,hy00⟩:=h.wm a (List.mem_flatMap.2 ⟨x,List.mem_of_getElem? hx,by rw [hwt];exact List.mem_cons_self⟩)
 have ham:a≠m:=fun e=>h.ns m x hx (by rw [hwt,←e];exact List.mem_cons_self)
 have hy:(w.setW m (x.wts t)).ws[a]?=some y0:=by rw [setW_ne ham];exact hy0
 have hR:accR w fd=(((f:Int),(a:Int),0),(w.setW m (x.wts t)).setW a (giveW y0 f)):=by
  unfold accR;rw [hm];dsimp only;rw [hx];dsimp only;rw [if_neg hbl,hwt];dsimp only;rw [hfs];dsimp only;rw [hy]
 have hamw:a ∉ (w.setW m (x.wts t)).ws.flatMap WireA.wt:=by
  have hp2:=flatMap_set_app (f:=WireA.wt) (bs:=[a]++t) (l:=(w.setW m (x.wts [])).ws) (n:=m) (x:=x.wts []) (x':=x) (setW_self hx) (by rw [hwt];rfl)
  have hp3:=flatMap_set_app (f:=WireA.wt) (bs:=t) (l:=(w.setW m (x.wts [])).ws) (n:=m) (x:=x.wts []) (x':=x.wts t) (setW_self hx) rfl
  have e1:(w.setW m (x.wts [])).ws.set m x=w.ws:=by
   show (w.ws.set m _).set m x=w.ws
   rw [List.set_set]
   obtain ⟨hl,e⟩:=List.getElem?_eq_some_iff.1 hx
   rw [←e,List.set_getElem_self]
  have e2:(w.setW m (x.wts [])).ws.set m (x.wts t)=(w.setW m (x.wts t)).ws:=by
   show (w.ws.set m _).set m _=w.ws.set m _
   rw [List.set_set]
  rw [e1] at hp2;rw [e2] at hp3
  have hn:=hp2.nodup_iff.1 h.wn
  intro hm
  have:=hp3.mem_iff.1 hm
  rw [List.append_assoc] at hn;exact (List.nodup_cons.1 hn).1 this
 have hff:=frees_mem.1 (show f∈frees w.at by rw [hfs];exact List.mem_cons_self)
 have hg:=hok.give (f:=f) hy (by rw [hy00];decide) hamw hff.1 (by rw [hat];exact hff.2)
 exact ⟨y0,hy,hR,hg.1,by rw [hg.2,hat]⟩
theorem sep_trans {A B C:List SP} (f:∀ q,sep A q→sep B q) (g:∀ q,sep B q→sep C q):∀ q,sep A q→sep C q:=fun q s=>g q (f q s)
theorem wire_wts {b k:Nat} {x:WireA} {i:WI} {t:List Nat} {wa:Option Addr} {wc:Nat} {L:List SP} (hi:WIOk x i) (hk:k < 2):∀ h,sep (pt b (encW (x.wts t) { i with wa:=wa,wc:=wc }) 198::RgO (i.p k) x.cap (x.e k).b::RgO (i.p (1 - k)) x.cap (x.e (1 - k)).b::own 3 1 wa t.length wc (nats t)::L) h→sep (WireP b (x.wts t)::L) h:=fun h s =>
 wire_fold (x:=x.wts t) (i:={ i with wa:=wa,wc:=wc }) (k:=k) ⟨hi.rd⟩ hk h s
theorem wire_give {b f:Nat} {y:WireA} {i:WI} {L:List SP} (hi:WIOk y i):∀ h,sep (pt b (encW (giveW y f) i) 198::RgO (i.p 0) y.cap (y.e 0).b::RgO (i.p (1 - 0)) y.cap (y.e (1 - 0)).b::own 3 1 i.wa y.wt.length i.wc (nats y.wt)::L) h→sep (WireP b (giveW y f)::L) h:=fun h s =>
 wire_fold (x:=giveW y f) (i:=i) (k:=0) ⟨fun j hj=>by
  rcases (show j=0∨j=1 by omega) with rfl | rfl
  ·rw [give0];exact hi.rd 0 hj
  ·rw [give1];exact hi.rd 1 hj⟩ (by omega) h s
theorem set_fst {rs:List (Nat×WireA)} {n b:Nat} {x x':WireA} (h:rs[n]?=some (b,x)):(rs.set n (b,x')).map Prod.fst=rs.map Prod.fst:=by
 rw [List.map_set];apply List.ext_getElem?;intro j
 by_cases e:n=j
 ·subst e
  rw [List.getElem?_set_self (by rw [List.length_map];exact (List.getElem?_eq_some_iff.1 h).1),List.getElem?_map,h];rfl
 ·rw [List.getElem?_set_ne e]
abbrev AcH (b2 b4 b5 b6 b7 b8 wb b m k:Nat) (w:WA) (i:WoI) (x:WireA) (L:List SP):List SP:=WireP b x::pt b2 [.pointer (some ⟨wb,0,none⟩)] 37::pt b4 [.int .i64 0] 3::pt b5 [.int .i64 0] 3::pt b6 [.int .i64 (fdErr (some (m,k)))] 34::pt b7 (plc (some (m,k))) 182::pt b8 [ptr (some b)] 189::WoR wb m w i L
theorem waccept_ct (L:List SP) (wb:Nat) (w:WA) (fd:Int):Ct Tryz.prog 52 #[.pointer (some ⟨wb,0,none⟩),.int .i64 fd] (WorldP wb w::L) (fun _:Unit=>.tuple #[.int .i64 (accR w fd).1.1,.int .i64 (accR w fd).1.2.1,.int .i64 (accR w fd).1.2.2]) (fun _:Unit=>WorldP wb (accR w fd).2::L):=by
 refine Ct.o2M Tryz.func52 ?_;intro E
 show Hd E 79 _ _ _ _
 refine Hd.world .here (fun i hw hrs=>?_);refine sr fun _ K1=>?_
 refine Hd.box rfl rfl (fun b2=>?_);refine Hd.alloc zr3 (fun b4=>?_);refine Hd.alloc zr3 (fun b5=>?_);refine Hd.alloc zr34 (fun b6=>?_);refine fk [(1,_),(2,_),(4,_),(5,_),(6,_)] K1 ?_;refine sr fun _ K2=>?_
 refine yv (y_l1 ag37 rfl)<|yv y_mv<|callE rfl fk112 (find_ct _ wb w i hw hrs fd) sq ?_;intro _;refine yv y_mv<|yv (y_to (v':=.agg (plc (w.at fd)).toArray) y_ex (by rfl)) ?_;refine yv (y_to (v':=ptr (wfb i (w.at fd))) y_ex (by rfl)) ?_;refine yv (y_to (v':=.int .i64 (fdErr (w.at fd))) y_ex (by rfl)) ?_;refine Hd.alloc zr182 (fun b7=>?_);refine Hd.alloc zr189 (fun b8=>?_);refine Hd.storeA (us:=plc (w.at fd)) (by rw [plc_len];exact sz182) rfl rfl rfl (plc_one _) pkk (by rw [plc_len];rfl) ?_;refine Hd.store1 sz189 rfl rfl rfl pkk (by decide) ?_
 try simp only [hyS]
 refine Hd.store1 sz34 rfl rfl rfl pkk (by decide) ?_
 try simp only [hyS]
 refine fk [(2,_),(4,_),(5,_),(6,_),(8,_)] K2 ?_;refine Hd.seq fun _ K3=>?_
 refine Hd.block<|sr fun _ K4=>?_
 refine yv (y_l1 ag34 rfl)<|yv (y_neq rfl rfl) ?_;refine yv y_as<|fk [(2,_),(4,_),(5,_),(6,_),(8,_),(18,_)] K4 ?_;refine qz ?_ ?_<;>intro hc0<;>try simp only [hyZ] at hc0
 ·have hno:w.at fd=none:=by
   cases h:w.at fd with
   | none=>rfl
   | some p=>rw [h] at hc0;exact absurd rfl hc0
  refine Hd.seq fun _ K5=>?_
  refine Hd.drawsH ([pt b6 [.int .i64 (fdErr (w.at fd))] 34]) (fun j=>!([3].contains j)) mixed ?_;simp only [List.length,Nat.zero_add,Nat.reduceAdd];refine tH 0 rfl (y_l1 ag34 rfl)<|qo 1 ?_;refine Hd.store1 sz3 rfl rfl rfl pkk (by decide) ?_
  try simp only [hyS]
  refine qk<|qo 2 ?_;refine Hd.store1 sz3 rfl rfl rfl pkk (by decide) ?_
  try simp only [hyS]
  refine qk<|qo 3 ?_;refine Hd.store1 sz34 rfl rfl rfl pkk (by simp;done) ?_
  try simp only [hyS]
  refine qn<|endH kq ?_;refine sk [(4,_),(5,_),(6,_)] K5 ?_;refine Hd.ret<|Hd.inBret<|Hd.thenRet ?_;rw [show accR w fd=((0,0,110),w) by unfold accR;rw [hno]];rw [hno];exact Hd.retM (fun a fr=>Lv.endC3 fr rfl () ag3 ag3 ag34 rfl rfl rfl (Rd.pt1 pkk rfl) (Rd.pt1 pkk rfl) (Rd.pt1 pkk rfl) rfl (Ent.sep (.ex i (.pure ⟨hw,hrs⟩ enn))))
 obtain ⟨m,k,hnk⟩:∃ m k,w.at fd=some (m,k):=by
  cases h:w.at fd with
  | none=>rw [h] at hc0;exact absurd hc0 (by decide)
  | some p=>exact ⟨p.1,p.2,rfl⟩
 obtain ⟨hf0,hf1,hk,hn,x,hx,_,_⟩:=hw.at_lt hnk
 obtain ⟨b,hb⟩:=rs_at hrs hx
 have hwf:=hw.wf x (List.mem_of_getElem? hx)
 have hml:m < i.rs.length:=(List.getElem?_eq_some_iff.1 hb).1
 rw [hnk,wfb_eq hb];refine Hd.wOut pkk hb ?_;refine Hd.wire .here 0 (by omega) (fun i2 hi=>?_);refine sr fun _ K6=>?_
 refine yv (y_l1 ag189 rfl)<|yv y_np<|yv (y_f 15 3 Tryz.underlying198 sz3)<|yv (y_l1 ag3 rfl)<|yv (y_eql rfl rfl) ?_;refine yv y_as<|fk [(2,_),(4,_),(5,_),(6,_),(8,_),(22,_)] K6 ?_;refine qz ?_ ?_<;>intro hc1<;>try simp only [hyZ] at hc1
 ·refine sr fun _ K7=>?_
  refine Hd.store1 sz3 rfl rfl rfl pkk (by decide) ?_
  try simp only [hyS]
  refine Hd.store1 sz3 rfl rfl rfl pkk (by decide) ?_
  try simp only [hyS]
  refine Hd.store1 sz34 rfl rfl rfl pkk (by simp;done) ?_
  try simp only [hyS]
  refine fk [(4,_),(5,_),(6,_)] K7 ?_;refine Hd.ret<|Hd.inBret<|Hd.thenRet ?_;rw [show accR w fd=((0,0,111),w) by unfold accR;rw [hnk];dsimp only;rw [hx];exact if_pos hc1];exact Hd.retM (fun a fr=>Lv.endC3 fr rfl () ag3 ag3 ag34 rfl rfl rfl (Rd.pt1 pkk rfl) (Rd.pt1 pkk rfl) (Rd.pt1 pkk rfl) rfl (fun q s=>world_back (k:=0) hw hrs hb hi (by omega) q (Ent.sep enn q s)))
 refine sr fun _ K8=>?_
 refine yv (y_l1 ag189 rfl)<|yv y_np<|yv (y_f 16 94 Tryz.underlying198 sz94)<|yv (y_l1 ag94 rfl)<|yv (y_len Tryz.underlying94 rfl) ?_;refine yv (y_eql rfl rfl) ?_;refine yv y_as<|fk [(2,_),(4,_),(5,_),(6,_),(8,_),(28,_)] K8 ?_;refine qz ?_ ?_<;>intro hc2<;>try simp only [hyZ] at hc2
 ·refine sr fun _ K9=>?_
  refine Hd.store1 sz3 rfl rfl rfl pkk (by decide) ?_
  try simp only [hyS]
  refine Hd.store1 sz3 rfl rfl rfl pkk (by decide) ?_
  try simp only [hyS]
  refine Hd.store1 sz34 rfl rfl rfl pkk (by simp;done) ?_
  try simp only [hyS]
  refine fk [(4,_),(5,_),(6,_)] K9 ?_;refine Hd.ret<|Hd.inBret<|Hd.thenRet ?_
  have hnil:x.wt=[]:=List.eq_nil_of_length_eq_zero (by omega)
  rw [show accR w fd=((0,0,113),w) by unfold accR;rw [hnk];dsimp only;rw [hx];dsimp only;rw [if_neg hc1,hnil]];exact Hd.retM (fun a fr=>Lv.endC3 fr rfl () ag3 ag3 ag34 rfl rfl rfl (Rd.pt1 pkk rfl) (Rd.pt1 pkk rfl) (Rd.pt1 pkk rfl) rfl (fun q s=>world_back (k:=0) hw hrs hb hi (by omega) q (Ent.sep enn q s)))
 obtain ⟨a,t,hwt⟩:∃ a t,x.wt=a::t:=by
  cases h:x.wt with
  | nil=>rw [h] at hc2;exact absurd rfl hc2
  | cons a t=>exact ⟨a,t,rfl⟩
 refine Hd.skip<|Hd.inB<|Hd.toK K3 ?_;refine Hd.seq fun _ K10=>?_
 refine Hd.seq fun _ K11=>?_
 refine Hd.heap (AcH b2 b4 b5 b6 b7 b8 wb b m k w i x L) (fun q s=>wire_fold (k:=0) hi (by omega) q (Ent.sep enn q s)) ?_;refine Hd.region<|yv (y_l1 ag37 rfl)<|callE rfl fk116 (free_ct _ wb) sq ?_;intro bx;refine fk [(2,_),(4,_),(5,_),(6,_),(8,_),(36,_)] K11 ?_;refine Hd.block<|Hd.rangeR (enc:=encF) (S:=fun ys=>ys=frees w.at) (Sp:=fun ys=>ys <+: frees w.at)
  (fun pre=>pu (pre=[])::AcH b2 b4 b5 b6 b7 b8 wb b m k w i x L) (fun j _=>[pu (j=none),pt b4 [.int .i64 (accR w fd).1.1] 3,pt b5 [.int .i64 (accR w fd).1.2.1] 3,pt b6 [.int .i64 (accR w fd).1.2.2] 34,WorldP wb (accR w fd).2]++L)
  rfl kq (fun _=>rfl) rfl (free_itR wb bx w.at) (Rd.pt pkk (fun j v e=>by rw [Nat.zero_add,List.getElem?_append_left (List.getElem?_eq_some_iff.1 e).1];exact e)) (by refine Ent.sep ?_;refine Ent.pure rfl ?_;exact Ent.swap (L:=[_])) ?_ ?_ ?_
 ·intro E l' R pre f N hR hG
  unfold Rnd;simp only [List.cons_append,List.nil_append,pz,encF];refine Hd.region<|yv y_as<|Hd.nil<|slots [(2,_),(4,_),(5,_),(6,_),(8,_),(9,_)] sbq ?_;refine thenN<|Hd.begin hR pkk ?_;refine Hd.block<|Hd.seq fun _ K12=>?_
  refine Hd.pull (A:=pu (pre=[])) pkk ?_;refine Hd.pure (fun hpn=>?_);subst hpn
  obtain ⟨fs,hfs0⟩:=hG
  have hfs:frees w.at=f::fs:=hfs0.symm
  have hf96:f < 96:=(frees_mem.1 (show f∈frees w.at by rw [hfs];exact List.mem_cons_self)).1
  obtain ⟨y,hy,hAR,hok,hat⟩:=acc_yes hw hnk hx hc1 hwt hfs
  have ham:a≠m:=fun e=>hw.ns m x hx (by rw [hwt,←e];exact List.mem_cons_self)
  have hyw:w.ws[a]?=some y:=by rw [setW_ne ham] at hy;exact hy
  obtain ⟨ba,hba⟩:=rs_at hrs hyw
  have hal:a < i.rs.length:=(List.getElem?_eq_some_iff.1 hba).1
  have hra:(i.rs.set m (b,x.wts t))[a]?=some (ba,y):=by rw [List.getElem?_set_ne (Ne.symm ham)];exact hba
  have hwl:0 < x.wt.length:=by rw [hwt];exact Nat.succ_pos _
  have hlt:x.wt.length - 1=t.length:=by rw [hwt];rfl
  have hw0:(nats x.wt)[0 * 1]?=some (.int .i64 (a:Int)):=by rw [hwt];rfl
  refine Hd.wire pkk 0 (by omega) (fun i3 hi3=>?_);refine Hd.region<|yv (y_l1 ag189 rfl)<|yv y_np<|yv (y_f 16 94 Tryz.underlying198 sz94)<|yv (y_l1 ag94 rfl)<|yv (y_idxR Tryz.underlying94 sz3 rfl rfl (by exact (show (0:Nat) < _ by omega)) (by exact RdS.own pkk)) ?_;refine yv (y_loadR1 ag3 rfl (RdS.own (ad:=i3.wa) (us:=nats x.wt) pkk) hw0) ?_;refine Hd.store1 sz3 rfl rfl rfl pkk (by decide) ?_
  try simp only [hyS]
  refine fk [(2,_),(4,_),(5,_),(6,_),(8,_),(9,_)] K12 ?_;refine Hd.seq fun _ K13=>?_
  refine Hd.tail 8 mixed kq ?_;simp only [List.take,List.drop];refine Ht.yv (y_l1 ag189 rfl) ?_;refine Ht.yv (y_l1 ag189 rfl) ?_;refine Ht.yv y_np ?_;refine Ht.yv (y_f 16 94 Tryz.underlying198 sz94) ?_;refine Ht.yv (y_l1 ag94 rfl) ?_;refine Ht.yv (y_slo_oxx Tryz.underlying94 sz3 rfl rfl (by omega) (by omega)) ?_;refine Ht.yv y_np ?_;refine Ht.yv (y_f 16 94 Tryz.underlying198 sz94) ?_;refine Ht.nil ?_;refine Hd.store1 sz94 rfl rfl rfl pkk (by simp;done) ?_
  try simp only [hyS]
  refine Hd.nil ?_;simp only [show Int.toNat 1=1 from rfl];refine Hd.ownDrop (e:=3) (ad:=i3.wa) (m:=x.wt.length) (cap:=i3.wc) pkk 1 (nats [a]) (nats t) (by omega) (by rw [hwt];rfl) rfl ?_;rw [hlt,show (encW x i3).set (0 + 16) (.slice (cutA i3.wa 1 1 i3.wc) t.length (i3.wc - 1))=encW (x.wts t) { i3 with wa:=cutA i3.wa 1 1 i3.wc,wc:=i3.wc - 1 } from rfl];refine Hd.heap (WireP b (x.wts t)::_) (fun q s=>wire_wts (k:=0) hi3 (by omega) q (by exact Ent.sep enn q s)) ?_;refine Hd.heap (Wires (i.rs.set m (b,x.wts t))::_) (fun q s=>ws_in hml (by exact Ent.sep enn q s)) ?_;refine sk [(2,_),(4,_),(5,_),(6,_),(9,_)] K13 ?_;refine Hd.seq fun _ K14=>?_
  refine Hd.quiet mixed kq ?_;refine Hq.yv (y_l1 ag37 rfl) ?_;refine Hq.yv y_np ?_;refine Hq.yv (y_f 288 184 Tryz.underlying186 sz184) ?_;refine Hq.yv (y_load1 ag184 rfl (Rd.pt1 pkk (by exact woT_at (j:=0) (by omega) rfl))) ?_;refine Hq.yv (y_l1 ag3 rfl) ?_;refine Hq.yv (y_idxR Tryz.underlying184 sz189 rfl rfl (by omega) (by exact RdS.own pkk)) ?_;refine Hq.yv (y_loadR1 ag189 rfl (by exact RdS.own pkk) (by exact pws_at hba)) ?_;refine Hq.yv y_as ?_;refine Hq.nil ?_;refine sk [(2,_),(4,_),(5,_),(6,_),(9,_),(10,_)] K14 ?_;refine Hd.seq fun _ K15=>?_
  refine Hd.wOut pkk hra ?_;refine Hd.wire .here 0 (by omega) (fun i4 hi4=>?_);refine Hd.drawsH ([]) (fun j=>!(([1000]:List Nat).contains j)) mixed ?_;simp only [List.length,Nat.zero_add,Nat.reduceAdd];refine tH 0 rfl y_mv<|tH 1 rfl y_mv<|tH 2 rfl y_mv<|tH 3 rfl y_np<|tH 4 rfl (y_f 0 196 Tryz.underlying198 sz196)<|tH 5 rfl (y_idxA Tryz.underlying196 sz195 rfl rfl (by decide)) ?_;refine tH 6 rfl (y_f 0 3 Tryz.underlying195 sz3)<|tH 8 rfl y_np<|tH 9 rfl (y_f 0 196 Tryz.underlying198 sz196)<|qo 7 ?_;refine Hd.store1 sz3 rfl rfl rfl pkk (by simp;done) ?_
  try simp only [hyS]
  refine qk<|tH 10 rfl (y_idxA Tryz.underlying196 sz195 rfl rfl (by decide)) ?_;refine tH 11 rfl (y_f 1 3 Tryz.underlying195 sz3)<|qo 12 ?_;refine Hd.store1 sz3 rfl rfl rfl pkk (by simp;done) ?_
  try simp only [hyS]
  refine qk<|endH kq ?_;refine Hd.heap (WireP ba (giveW y f)::_) (fun q s=>wire_give hi4 q (by exact Ent.sep (.eq pkk (pt_eq (by rfl)) enn) q s)) ?_;refine Hd.heap (Wires ((i.rs.set m (b,x.wts t)).set a (ba,giveW y f))::_) (fun q s=>ws_in (by rw [List.length_set];exact hal) (by exact Ent.sep enn q s)) ?_;refine sk [(2,_),(4,_),(5,_),(6,_),(9,_)] K15 ?_;refine Hd.seq fun _ K16=>?_
  refine Hd.tail 7 mixed kq ?_;simp only [List.take,List.drop];refine Ht.yv (y_l1 ag37 rfl) ?_;refine Ht.yv y_mv ?_;refine Ht.yv (y_l1 ag3 rfl) ?_;refine Ht.yv (y_build (vs:=[(0,_),(1,_),(2,_)]) rfl (by exact bd52_73 ..)) ?_;refine Ht.yv y_np ?_;refine Ht.yv (y_f 0 183 Tryz.underlying186 sz183) ?_;refine Ht.yv (y_idxA Tryz.underlying183 sz182 rfl rfl (by omega)) ?_;refine Ht.nil ?_;refine Hd.store (us:=plc (some (a,0))) sz182 rfl rfl rfl (plc_one _) pkk (by rw [List.length_append,fdC_len,plc_len];omega) ?_;refine Hd.nil ?_;rw [show 0 + 0 + f * 3=f * 3 by omega,show (plc (some (a,0))).length=3 from rfl,fdC_set hf96];refine sk [(4,_),(5,_),(6,_),(9,_)] K16 ?_;refine Hd.seq fun _ K17=>?_
  refine Hd.drawsH ([pt b5 [.int .i64 (a:Int)] 3]) (fun j=>!([3].contains j)) mixed ?_;simp only [List.length,Nat.zero_add,Nat.reduceAdd];refine tH 0 rfl y_mv<|tH 1 rfl (y_l1 ag3 rfl)<|qo 2 ?_;refine Hd.store1 sz3 rfl rfl rfl pkk (by decide) ?_
  try simp only [hyS]
  refine qk<|qo 3 ?_;refine Hd.store1 sz3 rfl rfl rfl pkk (by simp;done) ?_
  try simp only [hyS]
  refine qn<|qo 4 ?_;refine Hd.store1 sz34 rfl rfl rfl pkk (by simp;done) ?_
  try simp only [hyS]
  refine qk<|endH kq ?_;refine sk [(4,_),(5,_),(6,_)] K17 ?_;refine Hd.ret<|Hd.inBret<|Hd.reR ?_;simp only [List.cons_append,List.nil_append];rw [hAR]
  have hfs2:((i.rs.set m (b,x.wts t)).set a (ba,giveW y f)).map Prod.fst=i.rs.map Prod.fst:=by rw [set_fst hra,set_fst hb]
  have hws2:((i.rs.set m (b,x.wts t)).set a (ba,giveW y f)).map Prod.snd=((w.setW m (x.wts t)).setW a (giveW y f)).ws:=by
   rw [List.map_set,List.map_set,hrs];rfl
  dsimp only;refine sep_trans (Ent.sep (.pick pkk (.eq pkk (pt_eq (by rfl)) enn))) (sep_trans (world_all (w:=w) (wb:=wb) hok hfs2 hws2 hat rfl) (Ent.sep ?_));exact .pick pkk (.pure (by trivial) enn)
 ·intro r0 ys hys
  obtain rfl:ys=frees w.at:=hys
  simp only [List.cons_append,List.nil_append];refine Hd.pure (fun hfn=>?_)
  try simp only [List.cons_append,List.nil_append]
  refine Hd.inB<|Hd.toK K10 ?_;refine sr fun _ K18=>?_
  refine Hd.store1 sz3 rfl rfl rfl pkk (by decide) ?_
  try simp only [hyS]
  refine Hd.store1 sz3 rfl rfl rfl pkk (by decide) ?_
  try simp only [hyS]
  refine Hd.store1 sz34 rfl rfl rfl pkk (by simp;done) ?_
  try simp only [hyS]
  refine fk [(4,_),(5,_),(6,_)] K18 ?_;refine Hd.ret ?_;rw [show accR w fd=((0,0,112),w) by unfold accR;rw [hnk];dsimp only;rw [hx];dsimp only;rw [if_neg hc1,hwt];dsimp only;rw [hfn]];exact Hd.retM (fun a fr=>Lv.mark pkk (Lv.endC3 fr rfl () ag3 ag3 ag34 rfl rfl rfl (Rd.pt1 pkk rfl) (Rd.pt1 pkk rfl) (Rd.pt1 pkk rfl) rfl (fun q s=>world_same hw hrs hb q (Ent.sep enn q s))))
 rintro r0_0 (_ | id0) pre0 hG0
 ·simp only [List.cons_append,List.nil_append]
  refine Hd.pure (fun _=>?_)
  try simp only [List.cons_append,List.nil_append]
  refine Hd.ret<|Hd.inBret<|Hd.thenRet ?_;exact Hd.retM (fun a fr=>Lv.mark pkk (Lv.endC3 fr rfl () ag3 ag3 ag34 rfl rfl rfl (Rd.pt1 pkk rfl) (Rd.pt1 pkk rfl) (Rd.pt1 pkk rfl) rfl sq))
 exact Hd.absurd (by simp)
end Wo
end Go.Proofs.YtmpemhbfgbochaaGreatDoor
