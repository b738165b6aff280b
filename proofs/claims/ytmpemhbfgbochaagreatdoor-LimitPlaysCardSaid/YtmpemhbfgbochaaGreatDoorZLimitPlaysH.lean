/-
  Limits: rates, and what gives buckets rates.
-/
import Derived.Test.YtmpemhbfgbochaaGreatDoorZLimitPlaysG
set_option linter.unusedSimpArgs false
set_option linter.unusedVariables false
set_option linter.unnecessarySimpa false
set_option maxRecDepth 8000
set_option maxHeartbeats 2000000
open Go.RX.Hd (yv y2 n1 fk sk sr tH callE heldK qo qk qn qt qz qv endH thenN slots)
namespace Go.Proofs.YtmpemhbfgbochaaGreatDoor
open Go.RX Fx
namespace Lm
open Bu Wo
def rz (r:RtA):Bool:=decide (r.many=0) && (decide (r.every=0) && decide (r.burst=0))
theorem rz_eq (r:RtA):allEq (encRt r) [.int .i64 0,.int .u64 0,.int .i64 0]=rz r:=by
 unfold rz;simp [allEq,eqv]
abbrev encR2 (r:Nat→RtA):List Value:=encRt (r 0)++encRt (r 1)
theorem r2_at {r:Nat→RtA} {k:Nat} (hk:k < 2):((encR2 r).drop (k * 3)).take 3=encRt (r k):=by
 rcases (show k=0∨k=1 by omega) with rfl | rfl<;>rfl
def mayR (r:RtA):Bool:=rz r || !rtBad r
def mayB (r:Nat→RtA):Bool:=mayR (r 0) && mayR (r 1)
theorem mayB_at {r:Nat→RtA} (h:mayB r=true) {k:Nat} (hk:k < 2) (hz:rz (r k)=false):RtOk (r k):=by
 unfold mayB at h;rw [Bool.and_eq_true] at h
 have hm:mayR (r k)=true:=by rcases (show k=0∨k=1 by omega) with rfl | rfl;exact h.1;exact h.2
 unfold mayR at hm;rw [hz,Bool.false_or,Bool.not_eq_true'] at hm;exact rt_ok hm
theorem may_ct (L:List SP) (r:Nat→RtA):Ct Tryz.prog 173 #[.agg (encR2 r).toArray] (L) (fun _:Unit=>.bool (mayB r)) (fun _:Unit=>L):=by
 refine Ct.o1 Tryz.func173 ?_;intro E
 show Hd E 18 _ _ _ _
 refine sr fun _ K1=>?_
 refine Hd.box (us:=encR2 r) rfl rfl (fun b1=>?_);refine yv y_as<|fk [(1,_)] K1 ?_;refine Hd.seq fun _ K2=>?_
 refine sr fun _ K3=>?_
 refine yv (y_loadn (us:=encR2 r) ag248 rfl (Rd.pt pkk (fun j v e=>by rw [Nat.zero_add];exact e)) (by exact sz248)) ?_;refine yv y_mv<|fk [(5,_),(6,_)] K3 ?_;refine Hd.block<|Hd.loopK (ι:=Nat) [(5,_)] (fun k=>[(6,.int .i64 (k:Int))]) (fun k=>pu (k≤2∧∀ j,j < k→mayR (r j)=true)::pt b1 (encR2 r) 248::L) (fun k=>2 - k) 0 sbq sbq (Ent.sep (.pure ⟨Nat.zero_le _,fun j hj=>absurd hj (Nat.not_lt_zero j)⟩ enn)) ?_;intro k
 try dsimp only
 refine Hd.pure (fun hp0=>?_)
 try dsimp only at hp0
 refine sr fun _ K4=>?_
 refine yv (y_lss rfl rfl) ?_;refine fk [(5,_),(6,_),(7,_)] K4 ?_;refine Hd.seq fun _ K5=>?_
 refine qz ?_ ?_<;>intro hc0<;>try simp only [hyZ] at hc0
 ·obtain ⟨_,hj⟩:=hp0
  have hk:k < 2:=by omega
  refine qv K5<|Hd.seq fun _ K6=>?_
  refine Hd.block<|sr fun _ K7=>?_
  refine yv (y_indexn (us:=encRt (r k)) Tryz.underlying248 ag76 sz76 rfl rfl (by omega) (r2_at hk)) ?_;refine Hd.alloc zr76 (fun b4=>?_);refine Hd.storeA (us:=encRt (r k)) sz76 rfl rfl rfl (by simp [Value.oneCell']) pkk (by exact rfl) ?_;refine fk [(4,_),(5,_),(6,_)] K7 ?_;refine sr fun _ K8=>?_
  refine yv (y_loadn (us:=encRt (r k)) ag76 rfl (Rd.pt pkk (fun j v e=>by rw [Nat.zero_add];exact e)) (by exact sz76)) ?_;refine yv (y_build (vs:=[]) rfl (by exact bd173_10 ..)) ?_;refine yv (y_to (v':=.bool (!rz (r k))) (y_neq_agg rfl rfl eqt76 rfl ⟨rfl,rfl⟩) (by rw [←rz_eq])) ?_;refine yv y_mv ?_;apply Hd.andg 4 12 16 [(5,_),(6,_)] rfl sbq
  ·intro hg4_12
   try simp only [hyZ] at hg4_12
   simp only [List.take];refine y2 (y_loadn (us:=[_,_,_]) ag76 rfl (Rd.pt pkk (by (first | (intro j v e;rcases j with _|_|_|_|_|_|_|_|_|_|_|_|j<;>first | exact e | exact absurd e (by simp))))) (by exact sz76)) ?_;refine Hd.unguard rfl rfl ?_;refine callE rfl fk223 (check_ct _ (r k)) sq ?_;intro _;refine y2 (y_neq rfl rfl) ?_;refine yv (y_pickT rfl rfl) ?_;exact Hd.mn
  ·intro hg4_12
   try simp only [hyZ] at hg4_12
   simp only [List.take];refine n1<|n1<|n1<|yv (y_pickF rfl rfl) ?_;exact Hd.mn
  simp only [List.drop];refine fk [(5,_),(6,_),(16,_)] K8 ?_;refine qz ?_ ?_<;>intro hc1<;>try simp only [hyZ] at hc1
  ·have hbad:mayR (r k)=false:=by
    unfold mayR;rw [hc1.1,Bool.false_or]
    have:=hc1.2
    split at this
    ·rename_i h;rw [h];rfl
    ·exact absurd rfl this
   have hB:mayB r=false:=by
    unfold mayB
    rcases (show k=0∨k=1 by omega) with rfl | rfl
    ·rw [hbad];rfl
    ·rw [hbad,Bool.and_false]
   refine sr fun _ K9=>?_
   refine yv y_as<|fk [(2,_)] K9 ?_;refine Hd.ret<|Hd.inBret<|Hd.thenRet<|Hd.thenRet<|Hd.inBret<|Hd.thenRet ?_;exact Hd.ret1 rfl () (by rw [hB];rfl) sq
  have hgood:mayR (r k)=true:=by
   unfold mayR
   rcases hc1 with h | h
   ·rw [h];rfl
   ·split at h
    ·exact absurd h (by decide)
    ·rename_i h2;rw [Bool.not_eq_true] at h2;rw [h2,Bool.not_false,Bool.or_true]
  refine Hd.skip<|Hd.inB<|Hd.toK K6 ?_;refine Hd.region<|yv (y_addn rfl rfl (by simp only [InK];omega)) ?_;refine yv y_mv<|Hd.nil<|slots [(5,_),(6,_)] sbq ?_;refine thenN ?_;exact Hd.again (k + 1) (by omega) sbq (Ent.sep (.pure ⟨by omega,fun j hj2=>by by_cases e:j=k;subst e;exact hgood;exact hj j (by omega)⟩ enn))
 refine Hd.exit<|Hd.thenExit<|Hd.thenExit<|Hd.inBexit<|Hd.toK K2 ?_;refine sr fun _ K10=>?_
 refine yv y_as<|fk [(2,_)] K10 ?_;refine Hd.ret ?_
 have hB:mayB r=true:=by unfold mayB;rw [hp0.2 0 (by omega),hp0.2 1 (by omega)];rfl
 exact Hd.ret1 rfl () (by rw [hB];rfl) sq
def gvX (s:Nat→Option Nat) (x:Nat→BkA) (now:Int) (r:Nat→RtA):Nat→BkA:=fun k=>if rz (r k)=true then x k else if (s k).isSome=true then setK (x k) now (r k) else newK (r k) now
theorem gv_ok {s:Nat→Option Nat} {x:Nat→BkA} (h:∀ k,BkOk (x k)) {now:Int} (hn:InK .u64 now) {r:Nat→RtA} (hr:mayB r=true) {k:Nat} (hk:k < 2):BkOk (gvX s x now r k):=by
 unfold gvX
 split
 ·exact h k
 ·rename_i hz
  have ho:=mayB_at hr hk (by simpa using hz)
  split
  ·exact set_ok (h k) hn ho
  ·exact new_ok ho hn
abbrev gvK (s:Nat→Option Nat) (x:Nat→BkA) (now:Int) (r:Nat→RtA) (k:Nat):Nat→BkA:=fun j=>if j < k then gvX s x now r j else x j
def upS (s:Nat→Option Nat) (k:Nat) (v:Option Nat):Nat→Option Nat:=fun j=>if j=k then v else s j
theorem upS_at (s:Nat→Option Nat) (k:Nat) (v:Option Nat):upS s k v k=v:=if_pos rfl
theorem upS_ne (s:Nat→Option Nat) {k j:Nat} (v:Option Nat) (h:j≠k):upS s k v j=s j:=if_neg h
abbrev gvC (A B:List Value) (s:Nat→Option Nat):List Value:=A++(pN (s 0)::pN (s 1)::B)
theorem gvC_at {A B:List Value} {s:Nat→Option Nat} {k:Nat} (hk:k < 2):(gvC A B s)[A.length + k * 1]?=some (pN (s k)):=by
 rcases (show k=0∨k=1 by omega) with rfl | rfl
 ·rw [List.getElem?_append_right (by omega)];simp
 ·rw [List.getElem?_append_right (by omega)];simp
theorem gvC_set {A B:List Value} {s:Nat→Option Nat} {k:Nat} (hk:k < 2) (v:Option Nat):(gvC A B s).set (A.length + k * 1) (pN v)=gvC A B (upS s k v):=by
 rcases (show k=0∨k=1 by omega) with rfl | rfl
 ·rw [List.set_append_right _ _ (by omega)];simp [upS]
 ·rw [List.set_append_right _ _ (by omega)];simp [upS]
theorem gvC_len {A B:List Value} {s:Nat→Option Nat} {k:Nat} (hk:k < 2):A.length + k * 1 < (gvC A B s).length:=by simp;omega
structure GvI (s s2:Nat→Option Nat) (r:Nat→RtA) (k:Nat):Prop where
 old:∀ j,k≤j→s2 j=s j
 new:∀ j,j < k→(s2 j).isSome=!rz (r j)
theorem GvI.put {s s2:Nat→Option Nat} {r:Nat→RtA} {k:Nat} (h:GvI s s2 r k) {v:Option Nat} (hv:v.isSome=!rz (r k)):GvI s (upS s2 k v) r (k + 1) :=
 ⟨fun j hj=>by rw [upS_ne _ _ (by omega)];exact h.old j (by omega),fun j hj=>by
  by_cases e:j=k
  ·subst e;rw [upS_at];exact hv
  ·rw [upS_ne _ _ e];exact h.new j (by omega)⟩
theorem GvI.same {s s2:Nat→Option Nat} {r:Nat→RtA} {k:Nat} (h:GvI s s2 r k) (hv:(s2 k).isSome=!rz (r k)):GvI s s2 r (k + 1) :=
 ⟨fun j hj=>h.old j (by omega),fun j hj=>by
  by_cases e:j=k
  ·subst e;exact hv
  ·exact h.new j (by omega)⟩
theorem sl_k {s:Nat→Option Nat} {x:Nat→BkA} {k:Nat} (hk:k < 2) {L:List SP}:∀ h,sep (SlB (s 0) (x 0)::SlB (s 1) (x 1)::L) h→sep (SlB (s k) (x k)::SlB (s (1 - k)) (x (1 - k))::L) h:=fun h q=>by
 rcases (show k=0∨k=1 by omega) with rfl | rfl
 ·exact q
 ·exact Ent.sep enn h q
theorem sl_l {s:Nat→Option Nat} {x:Nat→BkA} {k:Nat} (hk:k < 2) {L:List SP}:∀ h,sep (SlB (s k) (x k)::SlB (s (1 - k)) (x (1 - k))::L) h→sep (SlB (s 0) (x 0)::SlB (s 1) (x 1)::L) h:=fun h q=>by
 rcases (show k=0∨k=1 by omega) with rfl | rfl
 ·exact q
 ·exact Ent.sep enn h q
theorem gvK_at (s:Nat→Option Nat) (x:Nat→BkA) (now:Int) (r:Nat→RtA) (k:Nat):gvK s x now r k k=x k:=if_neg (Nat.lt_irrefl k)
theorem gvK_new (s:Nat→Option Nat) (x:Nat→BkA) (now:Int) (r:Nat→RtA) (k:Nat):gvK s x now r (k + 1) k=gvX s x now r k:=if_pos (Nat.lt_succ_self k)
theorem gvK_ne (s:Nat→Option Nat) (x:Nat→BkA) (now:Int) (r:Nat→RtA) {k:Nat} (hk:k < 2):gvK s x now r (k + 1) (1 - k)=gvK s x now r k (1 - k):=by
 rcases (show k=0∨k=1 by omega) with rfl | rfl<;>rfl
theorem give_ct (L:List SP) (b:Nat) (A B:List Value) (e:TypeId) (s:Nat→Option Nat) (x:Nat→BkA) (h:∀ k,BkOk (x k)) (now:Int) (hn:InK .u64 now) (r:Nat→RtA) (hr:mayB r=true):Ct Tryz.prog 174 #[.int .u64 now,.pointer (some ⟨b,A.length,none⟩),.agg (encR2 r).toArray] (pt b (gvC A B s) e::SlB (s 0) (x 0)::SlB (s 1) (x 1)::L) (fun s2:Nat→Option Nat=>.tuple #[]) (fun s2:Nat→Option Nat=>pu (∀ j,j < 2→(s2 j).isSome=!rz (r j))::pt b (gvC A B s2) e::SlB (s2 0) (gvX s x now r 0)::SlB (s2 1) (gvX s x now r 1)::L):=by
 refine Ct.o3 Tryz.func174 ?_;intro E
 show Hd E 47 _ _ _ _
 refine sr fun _ K1=>?_
 refine Hd.box (us:=encR2 r) rfl rfl (fun b5=>?_);refine fk [(0,_),(1,_),(5,_)] K1 ?_;refine sr fun _ K2=>?_
 refine yv (y_loadn (us:=encR2 r) ag248 rfl (Rd.pt pkk (fun j v e=>by rw [Nat.zero_add];exact e)) (by exact sz248)) ?_;refine yv y_mv<|fk [(0,_),(1,_),(8,_),(9,_)] K2 ?_;refine Hd.block<|Hd.loopK (ι:=Nat×(Nat→Option Nat)) [(0,_),(1,_),(8,_)] (fun q_=>[(9,.int .i64 (q_.1:Int))]) (fun q_=>pu (q_.1≤2∧GvI s q_.2 r q_.1)::pt b (gvC A B q_.2) e::SlB (q_.2 0) (gvK s x now r q_.1 0)::SlB (q_.2 1) (gvK s x now r q_.1 1)::L) (fun q_=>2 - q_.1) (0,s) sbq sbq (fun q t=>Ent.sep (.pure ⟨Nat.zero_le _,⟨fun _ _=>rfl,fun j hj=>absurd hj (Nat.not_lt_zero j)⟩⟩ .same) q (show sep (pt b (gvC A B s) e::SlB (s 0) (x 0)::SlB (s 1) (x 1)::L) q from Ent.sep enn q t)) ?_;rintro ⟨k,s2⟩
 try dsimp only
 refine Hd.pure (fun hp0=>?_)
 try dsimp only at hp0
 refine sr fun _ K3=>?_
 refine yv (y_lss rfl rfl) ?_;refine fk [(0,_),(1,_),(8,_),(9,_),(10,_)] K3 ?_;refine Hd.seq fun _ K4=>?_
 refine qz ?_ ?_<;>intro hc0<;>try simp only [hyZ] at hc0
 ·obtain ⟨_,hG⟩:=hp0
  have hk:k < 2:=by omega
  have hsk:s2 k=s k:=hG.old k (Nat.le_refl k)
  have hgx:gvX s x now r k=if rz (r k)=true then x k else if (s k).isSome=true then setK (x k) now (r k) else newK (r k) now:=rfl
  refine qv K4<|Hd.cutK (ι:=Nat→Option Nat) [(0,_),(1,_),(8,_),(9,_)] (fun _=>[]) (fun s3=>pu (GvI s s3 r (k + 1))::pt b (gvC A B s3) e::SlB (s3 k) (gvX s x now r k)::SlB (s3 (1 - k)) (gvK s x now r k (1 - k))::L) ?_ ?_ ⟨rfl,rfl,rfl,rfl,trivial⟩
  have hxk:=gvK_at s x now r k
  have hk1:1 - k≠k:=by omega
  ·refine Hd.block ?_
   refine sr fun _ K5=>?_
   refine yv y_mv<|yv (y_indexn (us:=encRt (r k)) Tryz.underlying248 ag76 sz76 rfl rfl (by omega) (r2_at hk)) ?_;refine Hd.alloc zr76 (fun b7=>?_);refine yv y_as<|Hd.storeA (us:=encRt (r k)) sz76 rfl rfl rfl (by simp [Value.oneCell']) pkk (by exact rfl) ?_;refine fk [(0,_),(1,_),(6,_),(7,_),(8,_),(9,_)] K5 ?_;refine Hd.block<|Hd.seq fun _ K6=>?_
   refine Hd.heap (pt b7 (encRt (r k)) 76::pt b (gvC A B s2) e::SlB (s2 k) (x k)::SlB (s2 (1 - k)) (gvK s x now r k (1 - k))::L) (fun q t=>?_) ?_
   ·have t2:sep ([pt b7 (encRt (r k)) 76,pt b (gvC A B s2) e]++(SlB (s2 0) (gvK s x now r k 0)::SlB (s2 1) (gvK s x now r k 1)::L)) q:=Ent.sep enn q t
    rw [←hxk];exact sep_right (M:=[_,_]) (fun q t=>sl_k hk q t) t2
   refine Hd.region<|yv (y_loadn (us:=encRt (r k)) ag76 rfl (Rd.pt pkk (fun j v e=>by rw [Nat.zero_add];exact e)) (by exact sz76)) ?_;refine yv (y_build (vs:=[]) rfl (by exact bd174_25 ..)) ?_;refine yv (y_to (v':=.bool (rz (r k))) (y_eql_agg rfl rfl eqt76 rfl ⟨rfl,rfl⟩) (by rw [←rz_eq])) ?_;refine yv y_as<|fk [(0,_),(1,_),(6,_),(7,_),(8,_),(9,_),(23,_)] K6 ?_;refine qz ?_ ?_<;>intro hc1<;>try simp only [hyZ] at hc1
   ·refine Hd.region ?_
    refine yv y_mv<|yv y_mv<|yv y_np<|yv (y_idxA Tryz.underlying245 sz244 rfl rfl (by omega)) ?_;refine Hd.store1 sz244 rfl rfl rfl pkk (by exact gvC_len hk) ?_
    try simp only [hyS]
    refine Hd.nil ?_
    have hset0:(gvC A B s2).set (A.length + k * 1) (.pointer none)=gvC A B (upS s2 k none):=gvC_set hk none
    rw [hset0];refine slots [(0,_),(1,_),(8,_),(9,_)] sbq ?_;refine Hd.inB<|Hd.inB<|thenN ?_
    have hI:=hG.put (v:=none) (by rw [hc1];rfl)
    refine Hd.meet (upS s2 k none) sbq ?_;rw [upS_at,upS_ne _ _ hk1,slB_none];exact Ent.sep (.pure hI (.pick pkk (.pure trivial enn)))
   have hro:=mayB_at hr hk (by simpa using hc1)
   refine sr fun _ K7=>?_
   refine yv y_mv<|yv y_mv<|yv y_np<|yv (y_idxA Tryz.underlying245 sz244 rfl rfl (by omega)) ?_;refine yv (y_load1 ag244 rfl (Rd.pt1 pkk (by exact gvC_at hk))) ?_;refine yv (y_neq_pointer Tryz.underlying244 rfl rfl) ?_;refine yv y_as<|fk [(0,_),(1,_),(6,_),(7,_),(8,_),(9,_),(31,_)] K7 ?_;refine qz ?_ ?_<;>intro hc2<;>try simp only [hyZ] at hc2
   ·obtain ⟨p,hp⟩:∃ p,s2 k=some p:=by cases h2:s2 k with | none=>rw [h2] at hc2;simp at hc2 | some p=>exact ⟨p,rfl⟩
    have hI:=hG.same (by rw [hp,hc1];rfl)
    have hX:gvX s x now r k=setK (x k) now (r k):=by rw [hgx,if_neg (by rw [hc1];simp),if_pos (by rw [←hsk,hp];rfl)]
    rw [hp,slB_some];refine Hd.drawsH ([pt b (gvC A B s2) e,pt b7 (encRt (r k)) 76]) (fun _=>true) mixed ?_;simp only [List.length,Nat.zero_add,Nat.reduceAdd];refine tH 0 rfl y_mv<|tH 1 rfl y_mv<|tH 2 rfl y_np<|tH 3 rfl (y_idxA Tryz.underlying245 sz244 rfl rfl (by omega)) ?_;refine tH 4 rfl (y_to (v':=.pointer (some ⟨p,0,none⟩)) (y_load1 ag244 rfl (Rd.pt1 pkk (by exact gvC_at hk))) (by (rw [hp];rfl))) ?_;refine tH 5 rfl y_mv<|tH 6 rfl (y_loadn (us:=[_,_,_]) ag76 rfl (Rd.pt pkk (by (first | (intro j v e;rcases j with _|_|_|_|_|_|_|_|_|_|_|_|j<;>first | exact e | exact absurd e (by simp))))) (by exact sz76)) ?_;refine qo 7 ?_;refine callE rfl fk224 (bkset_ct _ p (x k) (h k) now hn (r k) hro) sq ?_;intro _;refine qk<|endH kq ?_;refine slots [(0,_),(1,_),(8,_),(9,_)] sbq ?_;refine Hd.inB<|Hd.inB<|thenN ?_
    refine Hd.meet s2 sbq ?_;rw [hp,slB_some,hX];exact Ent.sep (.pure hI enn)
   have hp:s2 k=none:=by cases h2:s2 k with | none=>rfl | some p=>rw [h2] at hc2;simp at hc2
   have hX:gvX s x now r k=newK (r k) now:=by rw [hgx,if_neg (by rw [hc1];simp),if_neg (by rw [←hsk,hp];simp)]
   refine Hd.drawsH ([pt b7 (encRt (r k)) 76]) (fun j=>!([10].contains j)) mixed ?_;simp only [List.length,Nat.zero_add,Nat.reduceAdd];refine tH 0 rfl y_mv<|tH 1 rfl y_mv<|tH 2 rfl (y_loadn (us:=[_,_,_]) ag76 rfl (Rd.pt pkk (by (first | (intro j v e;rcases j with _|_|_|_|_|_|_|_|_|_|_|_|j<;>first | exact e | exact absurd e (by simp))))) (by exact sz76)) ?_;refine tH 3 rfl y_mv<|Hd.eitherH 4 8 rfl rfl kq ?_ ?_
   ·refine callE rfl fk225 (bknew_ct _ (r k) hro now) sq ?_
    intro nb;refine qk<|tH 5 rfl y_mv<|tH 6 rfl (y_to (v':=.pointer (some ⟨nb,0,none⟩)) y_ex (by rfl)) ?_;refine Hd.eitherH 7 8 rfl rfl kq ?_ ?_
    ·refine yv y_ex ?_
     refine qk<|qo 8 ?_;refine yv y_np<|qk<|tH 9 rfl (y_idxA Tryz.underlying245 sz244 rfl rfl (by omega)) ?_;refine qo 10 ?_;refine Hd.store1 sz244 rfl rfl rfl pkk (by exact gvC_len hk) ?_
     try simp only [hyS]
     refine qn<|endH kq ?_
     have hI:=hG.put (v:=some nb) (by rw [hc1];rfl)
     have hset:(gvC A B s2).set (A.length + k * 1) (.pointer (some ⟨nb,0,none⟩))=gvC A B (upS s2 k (some nb)):=gvC_set hk (some nb)
     refine slots [(0,_),(1,_),(8,_),(9,_)] sbq ?_;refine Hd.inB<|Hd.inB<|thenN<|Hd.meet (upS s2 k (some nb)) sbq ?_;rw [upS_at,upS_ne _ _ hk1,slB_some,hX,←hset];exact Ent.sep (.pure hI enn)
    refine yv y_np<|qk<|tH 9 rfl (y_idxA Tryz.underlying245 sz244 rfl rfl (by omega)) ?_;refine Hd.eitherH 7 10 rfl rfl kq ?_ ?_
    ·refine yv y_ex ?_
     refine qk<|qo 10 ?_;refine Hd.store1 sz244 rfl rfl rfl pkk (by exact gvC_len hk) ?_
     try simp only [hyS]
     refine qn<|endH kq ?_
     have hI:=hG.put (v:=some nb) (by rw [hc1];rfl)
     have hset:(gvC A B s2).set (A.length + k * 1) (.pointer (some ⟨nb,0,none⟩))=gvC A B (upS s2 k (some nb)):=gvC_set hk (some nb)
     refine slots [(0,_),(1,_),(8,_),(9,_)] sbq ?_;refine Hd.inB<|Hd.inB<|thenN<|Hd.meet (upS s2 k (some nb)) sbq ?_;rw [upS_at,upS_ne _ _ hk1,slB_some,hX,←hset];exact Ent.sep (.pure hI enn)
    refine Hd.store1 sz244 rfl rfl rfl pkk (by exact gvC_len hk) ?_
    try simp only [hyS]
    refine qn<|qo 7 ?_;refine yv y_ex<|qk<|endH kq ?_
    have hI:=hG.put (v:=some nb) (by rw [hc1];rfl)
    have hset:(gvC A B s2).set (A.length + k * 1) (.pointer (some ⟨nb,0,none⟩))=gvC A B (upS s2 k (some nb)):=gvC_set hk (some nb)
    refine slots [(0,_),(1,_),(8,_),(9,_)] sbq ?_;refine Hd.inB<|Hd.inB<|thenN<|Hd.meet (upS s2 k (some nb)) sbq ?_;rw [upS_at,upS_ne _ _ hk1,slB_some,hX,←hset];exact Ent.sep (.pure hI enn)
   refine yv y_np<|qk<|qo 4 ?_;refine callE rfl fk225 (bknew_ct _ (r k) hro now) sq ?_;intro nb;refine qk<|tH 5 rfl y_mv<|tH 6 rfl (y_to (v':=.pointer (some ⟨nb,0,none⟩)) y_ex (by rfl)) ?_;refine tH 9 rfl (y_idxA Tryz.underlying245 sz244 rfl rfl (by omega)) ?_;refine Hd.eitherH 7 10 rfl rfl kq ?_ ?_
   ·refine yv y_ex ?_
    refine qk<|qo 10 ?_;refine Hd.store1 sz244 rfl rfl rfl pkk (by exact gvC_len hk) ?_
    try simp only [hyS]
    refine qn<|endH kq ?_
    have hI:=hG.put (v:=some nb) (by rw [hc1];rfl)
    have hset:(gvC A B s2).set (A.length + k * 1) (.pointer (some ⟨nb,0,none⟩))=gvC A B (upS s2 k (some nb)):=gvC_set hk (some nb)
    refine slots [(0,_),(1,_),(8,_),(9,_)] sbq ?_;refine Hd.inB<|Hd.inB<|thenN<|Hd.meet (upS s2 k (some nb)) sbq ?_;rw [upS_at,upS_ne _ _ hk1,slB_some,hX,←hset];exact Ent.sep (.pure hI enn)
   refine Hd.store1 sz244 rfl rfl rfl pkk (by exact gvC_len hk) ?_
   try simp only [hyS]
   refine qn<|qo 7 ?_;refine yv y_ex<|qk<|endH kq ?_
   have hI:=hG.put (v:=some nb) (by rw [hc1];rfl)
   have hset:(gvC A B s2).set (A.length + k * 1) (.pointer (some ⟨nb,0,none⟩))=gvC A B (upS s2 k (some nb)):=gvC_set hk (some nb)
   refine slots [(0,_),(1,_),(8,_),(9,_)] sbq ?_;refine Hd.inB<|Hd.inB<|thenN<|Hd.meet (upS s2 k (some nb)) sbq ?_;rw [upS_at,upS_ne _ _ hk1,slB_some,hX,←hset];exact Ent.sep (.pure hI enn)
  intro s3;refine Hd.pure (fun hI=>?_);refine Hd.region<|yv (y_addn rfl rfl (by simp only [InK];omega)) ?_;refine yv y_mv<|Hd.nil<|slots [(0,_),(1,_),(8,_),(9,_)] sbq ?_;refine thenN<|Hd.again (k + 1,s3) (by simp only;omega) sbq (fun q t=>?_)
  have t2:sep ([pt b (gvC A B s3) e]++(SlB (s3 k) (gvK s x now r (k + 1) k)::SlB (s3 (1 - k)) (gvK s x now r (k + 1) (1 - k))::L)) q:=by
   rw [gvK_new,gvK_ne _ _ _ _ hk];exact Ent.sep enn q t
  exact Ent.sep (.pure ⟨by show k + 1≤2;omega,hI⟩ .same) q (sep_right (M:=[_]) (fun q t=>sl_l hk q t) t2)
 refine Hd.exit<|Hd.thenExit<|Hd.thenExit<|Hd.inBexit ?_
 obtain ⟨_,hG⟩:=hp0
 obtain rfl:k=2:=by omega
 have f0:gvK s x now r 2 0=gvX s x now r 0:=if_pos (by decide)
 have f1:gvK s x now r 2 1=gvX s x now r 1:=if_pos (by decide)
 rw [f0,f1];exact Hd.end0 rfl s2 rfl (Ent.sep (.pure (fun j hj=>hG.new j hj) enn))
def dumK:BkA:=⟨⟨1,1,1⟩,1,0⟩
theorem dum_ok:BkOk dumK:=⟨⟨by decide,by decide,by decide,by decide,by decide,by decide⟩,by decide,by decide,by show InK .u64 0;simp [InK]⟩
abbrev noS:Nat→Option Nat:=fun _=>none
abbrev dmX:Nat→BkA:=fun _=>dumK
abbrev ngX (now:Int) (r:Nat→RtA):Nat→BkA:=gvX noS dmX now r
theorem slB_noS (k:Nat) (x:BkA):SlB (noS k) x=pu True:=rfl
theorem newg_bad (L:List SP) (r:Nat→RtA) (h:mayB r=false) (now:Int):Ct Tryz.prog 90 #[.int .u64 now,.agg (encRt (r 0)).toArray,.agg (encRt (r 1)).toArray] (L) (fun _:Unit=>.tuple #[.pointer none,.int .i64 80]) (fun _:Unit=>L):=by
 refine Ct.o3 Tryz.func90 ?_;intro E
 show Hd E 25 _ _ _ _
 refine sr fun _ K1=>?_
 refine Hd.box rfl rfl (fun b4=>?_);refine Hd.box rfl rfl (fun b5=>?_);refine yv y_as<|yv y_as<|fk [(0,_),(4,_),(5,_)] K1 ?_;refine sr fun _ K2=>?_
 refine yv (y_loadn (us:=[_,_,_]) ag76 rfl (Rd.pt pkk (by (first | (intro j v e;rcases j with _|_|_|_|_|_|_|_|_|_|_|_|j<;>first | exact e | exact absurd e (by simp))))) (by exact sz76)) ?_;refine yv (y_loadn (us:=[_,_,_]) ag76 rfl (Rd.pt pkk (by (first | (intro j v e;rcases j with _|_|_|_|_|_|_|_|_|_|_|_|j<;>first | exact e | exact absurd e (by simp))))) (by exact sz76)) ?_;refine yv (y_build (vs:=[(0,_),(1,_)]) rfl (by exact bd90_12 ..)) ?_;refine Hd.alloc zr248 (fun b8=>?_);refine Hd.storeA (us:=encR2 r) sz248 rfl rfl rfl (by simp [Value.oneCell']) pkk (by exact rfl) ?_;refine fk [(0,_),(8,_)] K2 ?_;refine Hd.seq fun _ K3=>?_
 refine sr fun _ K4=>?_
 refine yv (y_loadn (us:=encR2 r) ag248 rfl (Rd.pt pkk (fun j v e=>by rw [Nat.zero_add];exact e)) (by exact sz248)) ?_;refine callE rfl fk173 (may_ct _ r) sq ?_;intro _;rw [h];refine yv (y_not rfl)<|fk [(0,_),(8,_),(15,_)] K4 ?_;refine Hd.condT rfl ?_;refine sr fun _ K5=>?_
 refine yv y_as<|yv y_as<|fk [(6,_),(7,_)] K5 ?_;refine Hd.ret<|Hd.thenRet ?_;exact Hd.ret2 rfl () rfl rfl (by rfl) sq
theorem newg_ct (L:List SP) (r:Nat→RtA) (h:mayB r=true) (now:Int) (hn:InK .u64 now):Ct Tryz.prog 90 #[.int .u64 now,.agg (encRt (r 0)).toArray,.agg (encRt (r 1)).toArray] (L) (fun q_:Nat×(Nat→Option Nat)=>.tuple #[.pointer (some ⟨q_.1,0,none⟩),.int .i64 0]) (fun q_:Nat×(Nat→Option Nat)=>pu (∀ j,j < 2→(q_.2 j).isSome=!rz (r j))::GrH q_.1 ⟨q_.2,0⟩::SlB (q_.2 0) (ngX now r 0)::SlB (q_.2 1) (ngX now r 1)::L):=by
 refine Ct.o3 Tryz.func90 ?_;intro E
 show Hd E 25 _ _ _ _
 refine sr fun _ K1=>?_
 refine Hd.box rfl rfl (fun b4=>?_);refine Hd.box rfl rfl (fun b5=>?_);refine yv y_as<|yv y_as<|fk [(0,_),(4,_),(5,_)] K1 ?_;refine sr fun _ K2=>?_
 refine yv (y_loadn (us:=[_,_,_]) ag76 rfl (Rd.pt pkk (by (first | (intro j v e;rcases j with _|_|_|_|_|_|_|_|_|_|_|_|j<;>first | exact e | exact absurd e (by simp))))) (by exact sz76)) ?_;refine yv (y_loadn (us:=[_,_,_]) ag76 rfl (Rd.pt pkk (by (first | (intro j v e;rcases j with _|_|_|_|_|_|_|_|_|_|_|_|j<;>first | exact e | exact absurd e (by simp))))) (by exact sz76)) ?_;refine yv (y_build (vs:=[(0,_),(1,_)]) rfl (by exact bd90_12 ..)) ?_;refine Hd.alloc zr248 (fun b8=>?_);refine Hd.storeA (us:=encR2 r) sz248 rfl rfl rfl (by simp [Value.oneCell']) pkk (by exact rfl) ?_;refine fk [(0,_),(8,_)] K2 ?_;refine Hd.seq fun _ K3=>?_
 refine sr fun _ K4=>?_
 refine yv (y_loadn (us:=encR2 r) ag248 rfl (Rd.pt pkk (fun j v e=>by rw [Nat.zero_add];exact e)) (by exact sz248)) ?_;refine callE rfl fk173 (may_ct _ r) sq ?_;intro _;rw [h];refine yv (y_not rfl)<|fk [(0,_),(8,_),(15,_)] K4 ?_;refine Hd.condF rfl ?_;refine qv K3<|sr fun _ K5=>?_
 refine yv (y_build (vs:=[(2,_)]) rfl (by exact bd90_16 ..)) ?_;refine Hd.box rfl rfl (fun b17=>?_);refine yv y_as<|fk [(0,_),(8,_),(9,_)] K5 ?_;refine Hd.seq fun _ K6=>?_
 refine Hd.heap (pt b17 (gvC [] [.int .i64 0,.bool true] noS) 251::SlB (noS 0) (dmX 0)::SlB (noS 1) (dmX 1)::pt b8 (encR2 r) 248::L) (fun q s=>Ent.sep (.eq pkk (pt_eq (by rfl)) (by rw [slB_noS];exact .pure trivial (.pure trivial enn))) q s) ?_;refine Hd.drawsH ([pt b8 (encR2 r) 248]) (fun _=>true) mixed ?_;simp only [List.length,Nat.zero_add,Nat.reduceAdd];refine tH 0 rfl y_mv<|tH 1 rfl y_mv<|tH 2 rfl y_np<|tH 3 rfl (y_f 0 245 Tryz.underlying251 sz245)<|tH 4 rfl (y_loadn (us:=encR2 r) ag248 rfl (Rd.pt pkk (fun j v e=>by rw [Nat.zero_add];exact e)) (by exact sz248)) ?_;refine qo 5 ?_;refine callE rfl fk174 (give_ct _ b17 [] [.int .i64 0,.bool true] 251 noS dmX (fun _=>dum_ok) now hn r h) sq ?_;intro s2;refine qk<|endH kq ?_;refine Hd.pure (fun hs2=>?_);refine sk [(9,_)] K6 ?_;refine sr fun _ K7=>?_
 refine yv y_mv<|yv y_as<|yv y_as<|fk [(6,_),(7,_)] K7 ?_;refine Hd.ret ?_;exact Hd.ret2 rfl (b17,s2) rfl rfl rfl (Ent.sep (.pure hs2 (.eq pkk (pt_eq (by rfl)) enn)))
theorem lnew_ct (L:List SP) (b:Nat):Ct Tryz.prog 89 #[.pointer (some ⟨b,0,none⟩)] (L) (fun lb:Nat=>.tuple #[.pointer (some ⟨lb,0,none⟩),.int .i64 0]) (fun lb:Nat=>LmH lb ⟨b,noS,none⟩::L):=by
 refine Ct.o1 Tryz.func89 ?_;intro E
 show Hd E 9 _ _ _ _
 refine sr fun _ K1=>?_
 refine yv y_as<|yv y_as<|fk [(0,_)] K1 ?_;refine Hd.seq fun _ K2=>?_
 refine sr fun _ K3=>?_
 refine yv y_mv<|yv (y_eql_pointer Tryz.underlying33 rfl rfl) ?_;refine fk [(0,_),(5,_)] K3 ?_;refine Hd.condF rfl ?_;refine qv K2<|sr fun _ K4=>?_
 refine yv y_mv<|yv (y_build (vs:=[(0,_)]) rfl (by exact bd89_7 ..)) ?_;refine Hd.box rfl rfl (fun b8=>?_);refine yv y_as<|yv y_as<|fk [(2,_),(3,_)] K4 ?_;refine Hd.ret ?_;exact Hd.ret2 rfl b8 rfl rfl rfl (Ent.sep (.eq pkk (pt_eq (by rfl)) enn))
theorem lset_bad (L:List SP) (lb:Nat) (l:LmA) (r:Nat→RtA) (h:mayB r=false) (now:Int):Ct Tryz.prog 93 #[.pointer (some ⟨lb,0,none⟩),.int .u64 now,.agg (encRt (r 0)).toArray,.agg (encRt (r 1)).toArray] (LmH lb l::L) (fun _:Unit=>.int .i64 80) (fun _:Unit=>LmH lb l::L):=by
 refine Ct.o4 Tryz.func93 ?_;intro E
 show Hd E 26 _ _ _ _
 refine sr fun _ K1=>?_
 refine Hd.box rfl rfl (fun b6=>?_);refine Hd.box rfl rfl (fun b7=>?_);refine yv y_as<|fk [(0,_),(1,_),(6,_),(7,_)] K1 ?_;refine sr fun _ K2=>?_
 refine yv (y_loadn (us:=[_,_,_]) ag76 rfl (Rd.pt pkk (by (first | (intro j v e;rcases j with _|_|_|_|_|_|_|_|_|_|_|_|j<;>first | exact e | exact absurd e (by simp))))) (by exact sz76)) ?_;refine yv (y_loadn (us:=[_,_,_]) ag76 rfl (Rd.pt pkk (by (first | (intro j v e;rcases j with _|_|_|_|_|_|_|_|_|_|_|_|j<;>first | exact e | exact absurd e (by simp))))) (by exact sz76)) ?_;refine yv (y_build (vs:=[(0,_),(1,_)]) rfl (by exact bd93_12 ..)) ?_;refine Hd.alloc zr248 (fun b9=>?_);refine Hd.storeA (us:=encR2 r) sz248 rfl rfl rfl (by simp [Value.oneCell']) pkk (by exact rfl) ?_;refine fk [(0,_),(1,_),(9,_)] K2 ?_;refine Hd.seq fun _ K3=>?_
 refine Hd.block<|sr fun _ K4=>?_
 refine yv y_mv<|callE rfl fk179 (lnone_ct _ lb l) sq ?_;intro _;refine yv y_as<|fk [(0,_),(1,_),(9,_),(13,_)] K4 ?_;refine Hd.condF rfl ?_;refine sr fun _ K5=>?_
 refine yv (y_loadn (us:=encR2 r) ag248 rfl (Rd.pt pkk (fun j v e=>by rw [Nat.zero_add];exact e)) (by exact sz248)) ?_;refine callE rfl fk173 (may_ct _ r) sq ?_;intro _;rw [h];refine yv (y_not rfl)<|yv y_as<|fk [(0,_),(1,_),(9,_),(16,_)] K5 ?_;refine Hd.condT rfl ?_;refine sr fun _ K6=>?_
 refine yv y_as<|fk [(8,_)] K6 ?_;refine Hd.ret<|Hd.inBret<|Hd.thenRet ?_;exact Hd.ret1 rfl () (by rfl) sq
theorem lset_ct (L:List SP) (lb:Nat) (l:LmA) (x:Nat→BkA) (hx:∀ k,BkOk (x k)) (r:Nat→RtA) (h:mayB r=true) (now:Int) (hn:InK .u64 now):Ct Tryz.prog 93 #[.pointer (some ⟨lb,0,none⟩),.int .u64 now,.agg (encRt (r 0)).toArray,.agg (encRt (r 1)).toArray] (LmH lb l::SlB (l.b 0) (x 0)::SlB (l.b 1) (x 1)::L) (fun s2:Nat→Option Nat=>.int .i64 0) (fun s2:Nat→Option Nat=>pu (∀ j,j < 2→(s2 j).isSome=!rz (r j))::LmH lb { l with b:=s2 }::SlB (s2 0) (gvX l.b x now r 0)::SlB (s2 1) (gvX l.b x now r 1)::L):=by
 refine Ct.o4 Tryz.func93 ?_;intro E
 show Hd E 26 _ _ _ _
 refine sr fun _ K1=>?_
 refine Hd.box rfl rfl (fun b6=>?_);refine Hd.box rfl rfl (fun b7=>?_);refine yv y_as<|fk [(0,_),(1,_),(6,_),(7,_)] K1 ?_;refine sr fun _ K2=>?_
 refine yv (y_loadn (us:=[_,_,_]) ag76 rfl (Rd.pt pkk (by (first | (intro j v e;rcases j with _|_|_|_|_|_|_|_|_|_|_|_|j<;>first | exact e | exact absurd e (by simp))))) (by exact sz76)) ?_;refine yv (y_loadn (us:=[_,_,_]) ag76 rfl (Rd.pt pkk (by (first | (intro j v e;rcases j with _|_|_|_|_|_|_|_|_|_|_|_|j<;>first | exact e | exact absurd e (by simp))))) (by exact sz76)) ?_;refine yv (y_build (vs:=[(0,_),(1,_)]) rfl (by exact bd93_12 ..)) ?_;refine Hd.alloc zr248 (fun b9=>?_);refine Hd.storeA (us:=encR2 r) sz248 rfl rfl rfl (by simp [Value.oneCell']) pkk (by exact rfl) ?_;refine fk [(0,_),(1,_),(9,_)] K2 ?_;refine Hd.seq fun _ K3=>?_
 refine Hd.block<|sr fun _ K4=>?_
 refine yv y_mv<|callE rfl fk179 (lnone_ct _ lb l) sq ?_;intro _;refine yv y_as<|fk [(0,_),(1,_),(9,_),(13,_)] K4 ?_;refine Hd.condF rfl ?_;refine sr fun _ K5=>?_
 refine yv (y_loadn (us:=encR2 r) ag248 rfl (Rd.pt pkk (fun j v e=>by rw [Nat.zero_add];exact e)) (by exact sz248)) ?_;refine callE rfl fk173 (may_ct _ r) sq ?_;intro _;rw [h];refine yv (y_not rfl)<|yv y_as<|fk [(0,_),(1,_),(9,_),(16,_)] K5 ?_;refine Hd.condF rfl ?_;refine Hd.skip<|Hd.inB<|Hd.toK K3 ?_;refine Hd.seq fun _ K6=>?_
 refine Hd.heap (pt lb (gvC [.pointer (some ⟨l.buf,0,none⟩)] [pN l.g] l.b) 247::SlB (l.b 0) (x 0)::SlB (l.b 1) (x 1)::pt b9 (encR2 r) 248::L) (fun q s=>Ent.sep (.eq pkk (pt_eq (by rfl)) enn) q s) ?_;refine Hd.drawsH ([pt b9 (encR2 r) 248]) (fun _=>true) mixed ?_;simp only [List.length,Nat.zero_add,Nat.reduceAdd];refine tH 0 rfl y_mv<|tH 1 rfl y_mv<|tH 2 rfl y_np<|tH 3 rfl (y_f 1 245 Tryz.underlying247 sz245)<|tH 4 rfl (y_loadn (us:=encR2 r) ag248 rfl (Rd.pt pkk (fun j v e=>by rw [Nat.zero_add];exact e)) (by exact sz248)) ?_;refine qo 5 ?_;refine callE rfl fk174 (give_ct _ lb [.pointer (some ⟨l.buf,0,none⟩)] [pN l.g] 247 l.b x hx now hn r h) sq ?_;intro s2;refine qk<|endH kq ?_;refine Hd.pure (fun hs2=>?_);refine sk [] K6 ?_;refine sr fun _ K7=>?_
 refine yv y_as<|fk [(8,_)] K7 ?_;refine Hd.ret ?_;exact Hd.ret1 rfl s2 rfl (Ent.sep (.pure hs2 (.eq pkk (pt_eq (by rfl)) enn)))
theorem join_ct (L:List SP) (lb gb:Nat) (l:LmA) (hl:l.g=none) (G:GrA) (hm0:0≤G.many) (hm:G.many≤1000):Ct Tryz.prog 94 #[.pointer (some ⟨lb,0,none⟩),.pointer (some ⟨gb,0,none⟩)] (LmH lb l::GrH gb G::L) (fun _:Unit=>.int .i64 0) (fun _:Unit=>LmH lb { l with g:=some gb }::GrH gb { G with many:=G.many + 1 }::L):=by
 refine Ct.o2 Tryz.func94 ?_;intro E
 show Hd E 29 _ _ _ _
 obtain ⟨buf,s,g⟩:=l
 obtain rfl:g=none:=hl
 refine sr fun _ K1=>?_
 refine yv y_as<|fk [(0,_),(1,_)] K1 ?_;refine Hd.seq fun _ K2=>?_
 refine Hd.block<|sr fun _ K3=>?_
 refine yv y_mv<|callE rfl fk179 (lnone_ct _ lb ⟨buf,s,none⟩) sq ?_;intro _;refine yv y_as<|fk [(0,_),(1,_),(5,_)] K3 ?_;refine Hd.condF rfl ?_;refine sr fun _ K4=>?_
 refine yv y_mv<|callE rfl fk180 (gnone_ct _ gb G) sq ?_;intro _;refine yv y_mv<|y2 y_mv<|y2 y_np<|y2 (y_f 3 141 Tryz.underlying247 sz141)<|y2 (y_l1 ag141 rfl)<|y2 (y_neq_pointer Tryz.underlying141 rfl rfl) ?_;refine yv (y_pickF rfl rfl) ?_;refine yv y_as<|fk [(0,_),(1,_),(8,_)] K4 ?_;refine Hd.condF rfl ?_;refine Hd.skip<|Hd.inB<|Hd.toK K2 ?_;refine sr fun _ K5=>?_
 refine yv y_mv<|yv y_mv<|yv y_np<|yv (y_f 3 141 Tryz.underlying247 sz141)<|Hd.store1 sz141 rfl rfl rfl pkk (by simp;done) ?_
 try simp only [hyS]
 refine fk [(1,_)] K5 ?_;refine sr fun _ K6=>?_
 refine yv y_mv<|yv y_np<|yv (y_f 2 3 Tryz.underlying251 sz3)<|yv (y_l1 ag3 rfl)<|yv (y_addn rfl rfl (by simp only [InK];omega)) ?_;refine yv y_np<|yv (y_f 2 3 Tryz.underlying251 sz3)<|Hd.store1 sz3 rfl rfl rfl pkk (by simp;done) ?_
 try simp only [hyS]
 refine fk [] K6 ?_;refine sr fun _ K7=>?_
 refine yv y_as<|fk [(4,_)] K7 ?_;refine Hd.ret ?_;exact Hd.ret1 rfl () rfl (Ent.sep (.eq pkk (pt_eq (by rfl)) (.eq pkk (pt_eq (by rfl)) enn)))
theorem join_in (L:List SP) (lb gb p:Nat) (l:LmA) (hl:l.g=some p) (G:GrA):Ct Tryz.prog 94 #[.pointer (some ⟨lb,0,none⟩),.pointer (some ⟨gb,0,none⟩)] (LmH lb l::GrH gb G::L) (fun _:Unit=>.int .i64 270) (fun _:Unit=>LmH lb l::GrH gb G::L):=by
 refine Ct.o2 Tryz.func94 ?_;intro E
 show Hd E 29 _ _ _ _
 obtain ⟨buf,s,g⟩:=l
 obtain rfl:g=some p:=hl
 refine sr fun _ K1=>?_
 refine yv y_as<|fk [(0,_),(1,_)] K1 ?_;refine Hd.seq fun _ K2=>?_
 refine Hd.block<|sr fun _ K3=>?_
 refine yv y_mv<|callE rfl fk179 (lnone_ct _ lb ⟨buf,s,some p⟩) sq ?_;intro _;refine yv y_as<|fk [(0,_),(1,_),(5,_)] K3 ?_;refine Hd.condF rfl ?_;refine sr fun _ K4=>?_
 refine yv y_mv<|callE rfl fk180 (gnone_ct _ gb G) sq ?_;intro _;refine yv y_mv<|y2 y_mv<|y2 y_np<|y2 (y_f 3 141 Tryz.underlying247 sz141)<|y2 (y_l1 ag141 rfl)<|y2 (y_neq_pointer Tryz.underlying141 rfl rfl) ?_;refine yv (y_pickF rfl rfl) ?_;refine yv y_as<|fk [(0,_),(1,_),(8,_)] K4 ?_;refine Hd.condT rfl ?_;refine sr fun _ K5=>?_
 refine yv y_as<|fk [(4,_)] K5 ?_;refine Hd.ret<|Hd.inBret<|Hd.thenRet ?_;exact Hd.ret1 rfl () (by rfl) sq
theorem join_nil (L:List SP) (lb:Nat) (l:LmA):Ct Tryz.prog 94 #[.pointer (some ⟨lb,0,none⟩),.pointer none] (LmH lb l::L) (fun _:Unit=>.int .i64 270) (fun _:Unit=>LmH lb l::L):=by
 refine Ct.o2 Tryz.func94 ?_;intro E
 show Hd E 29 _ _ _ _
 refine sr fun _ K1=>?_
 refine yv y_as<|fk [(0,_),(1,_)] K1 ?_;refine Hd.seq fun _ K2=>?_
 refine Hd.block<|sr fun _ K3=>?_
 refine yv y_mv<|callE rfl fk179 (lnone_ct _ lb l) sq ?_;intro _;refine yv y_as<|fk [(0,_),(1,_),(5,_)] K3 ?_;refine Hd.condF rfl ?_;refine sr fun _ K4=>?_
 refine yv y_mv<|callE rfl fk180 (gnone_nil _) sq ?_;intro _;refine yv y_mv<|n1<|n1<|n1<|n1<|n1<|yv (y_pickT rfl rfl) ?_;refine yv y_as<|fk [(0,_),(1,_),(8,_)] K4 ?_;refine Hd.condT rfl ?_;refine sr fun _ K5=>?_
 refine yv y_as<|fk [(4,_)] K5 ?_;refine Hd.ret<|Hd.inBret<|Hd.thenRet ?_;exact Hd.ret1 rfl () (by rfl) sq
theorem quit_ct (L:List SP) (lb gb:Nat) (l:LmA) (hl:l.g=some gb) (G:GrA) (hm:-1000≤G.many):Ct Tryz.prog 95 #[.pointer (some ⟨lb,0,none⟩)] (LmH lb l::GrH gb G::L) (fun _:Unit=>.int .i64 0) (fun _:Unit=>LmH lb { l with g:=none }::GrH gb { G with many:=IntKind.i64.wrap (G.many - 1) }::L):=by
 refine Ct.o1 Tryz.func95 ?_;intro E
 show Hd E 25 _ _ _ _
 obtain ⟨buf,s,g⟩:=l
 obtain rfl:g=some gb:=hl
 refine sr fun _ K1=>?_
 refine yv y_as<|fk [(0,_)] K1 ?_;refine Hd.seq fun _ K2=>?_
 refine Hd.block<|sr fun _ K3=>?_
 refine yv y_mv<|callE rfl fk179 (lnone_ct _ lb ⟨buf,s,some gb⟩) sq ?_;intro _;refine yv y_as<|fk [(0,_),(3,_)] K3 ?_;refine Hd.condF rfl ?_;refine sr fun _ K4=>?_
 refine yv y_mv<|yv y_np<|yv (y_f 3 141 Tryz.underlying247 sz141)<|yv (y_l1 ag141 rfl)<|yv (y_eql_pointer Tryz.underlying141 rfl rfl) ?_;refine yv y_as<|fk [(0,_),(6,_)] K4 ?_;refine Hd.condF rfl ?_;refine Hd.skip<|Hd.inB<|Hd.toK K2 ?_;refine sr fun _ K5=>?_
 refine yv y_mv<|yv y_np<|yv (y_f 3 141 Tryz.underlying247 sz141)<|yv (y_l1 ag141 rfl)<|yv y_np<|yv (y_f 2 3 Tryz.underlying251 sz3)<|yv (y_l1 ag3 rfl)<|yv (y_to (v':=.int .i64 (IntKind.i64.wrap (G.many - 1))) (y_sub rfl rfl) (by rfl)) ?_;refine yv y_np<|yv (y_f 2 3 Tryz.underlying251 sz3)<|Hd.store1 sz3 rfl rfl rfl pkk (by simp;done) ?_
 try simp only [hyS]
 refine fk [(0,_)] K5 ?_;refine sr fun _ K6=>?_
 refine yv y_mv<|yv y_np<|yv (y_f 3 141 Tryz.underlying247 sz141)<|Hd.store1 sz141 rfl rfl rfl pkk (by simp;done) ?_
 try simp only [hyS]
 refine fk [] K6 ?_;refine sr fun _ K7=>?_
 refine yv y_as<|fk [(2,_)] K7 ?_;refine Hd.ret ?_;exact Hd.ret1 rfl () (by rfl) sq
theorem quit_no (L:List SP) (lb:Nat) (l:LmA) (hl:l.g=none):Ct Tryz.prog 95 #[.pointer (some ⟨lb,0,none⟩)] (LmH lb l::L) (fun _:Unit=>.int .i64 270) (fun _:Unit=>LmH lb l::L):=by
 refine Ct.o1 Tryz.func95 ?_;intro E
 show Hd E 25 _ _ _ _
 obtain ⟨buf,s,g⟩:=l
 obtain rfl:g=none:=hl
 refine sr fun _ K1=>?_
 refine yv y_as<|fk [(0,_)] K1 ?_;refine Hd.seq fun _ K2=>?_
 refine Hd.block<|sr fun _ K3=>?_
 refine yv y_mv<|callE rfl fk179 (lnone_ct _ lb ⟨buf,s,none⟩) sq ?_;intro _;refine yv y_as<|fk [(0,_),(3,_)] K3 ?_;refine Hd.condF rfl ?_;refine sr fun _ K4=>?_
 refine yv y_mv<|yv y_np<|yv (y_f 3 141 Tryz.underlying247 sz141)<|yv (y_l1 ag141 rfl)<|yv (y_eql_pointer Tryz.underlying141 rfl rfl) ?_;refine yv y_as<|fk [(0,_),(6,_)] K4 ?_;refine Hd.condT rfl ?_;refine sr fun _ K5=>?_
 refine yv y_as<|fk [(2,_)] K5 ?_;refine Hd.ret<|Hd.inBret<|Hd.thenRet ?_;exact Hd.ret1 rfl () (by rfl) sq
def hvS (s:Option Nat) (x:BkA):Int:=if s.isSome=true then x.have_ else 0
theorem haveO_ct (L:List SP) (p:Option Nat) (x:BkA) (h:BkOk x) (now:Int) (hn:InK .u64 now):Ct Tryz.prog 189 #[pN p,.int .u64 now] (SlB p x::L) (fun _:Unit=>.int .i64 (hvS p (come x now))) (fun _=>SlB p (come x now)::L):=by
 cases p with
 | none=>exact have_nil (SlB none x::L) now
 | some b=>exact have_ct L b x h now hn
theorem ghave_ct (L:List SP) (gb:Nat) (G:GrA) (y:Nat→BkA) (h:∀ k,BkOk (y k)) (now:Int) (hn:InK .u64 now):Ct Tryz.prog 106 #[.pointer (some ⟨gb,0,none⟩),.int .u64 now] (GrH gb G::SlB (G.b 0) (y 0)::SlB (G.b 1) (y 1)::L) (fun _:Unit=>.tuple #[.int .i64 (hvS (G.b 0) (cmA now y 0)),.int .i64 (hvS (G.b 1) (cmA now y 1))]) (fun _:Unit=>GrH gb G::SlB (G.b 0) (cmA now y 0)::SlB (G.b 1) (cmA now y 1)::L):=by
 refine Ct.o2 Tryz.func106 ?_;intro E
 show Hd E 22 _ _ _ _
 refine sr fun _ K1=>?_
 refine yv y_as<|yv y_as<|fk [(0,_),(1,_)] K1 ?_;refine Hd.seq fun _ K2=>?_
 refine sr fun _ K3=>?_
 refine yv y_mv<|callE rfl fk180 (gnone_ct _ gb G) sq ?_;intro _;refine fk [(0,_),(1,_),(7,_)] K3 ?_;refine Hd.condF rfl ?_;refine qv K2<|Hd.seq fun _ K4=>?_
 refine Hd.drawsH ([GrH gb G]) (fun _=>true) mixed ?_;simp only [List.length,Nat.zero_add,Nat.reduceAdd];refine tH 0 rfl y_mv<|tH 1 rfl y_np<|tH 2 rfl (y_f 0 245 Tryz.underlying251 sz245)<|tH 3 rfl (y_idxA Tryz.underlying245 sz244 rfl rfl (by decide)) ?_;refine tH 4 rfl (y_l1 ag244 rfl)<|tH 5 rfl y_mv<|tH 7 rfl y_mv<|tH 8 rfl y_np<|tH 9 rfl (y_f 0 245 Tryz.underlying251 sz245)<|tH 10 rfl (y_idxA Tryz.underlying245 sz244 rfl rfl (by decide)) ?_;refine tH 11 rfl (y_l1 ag244 rfl)<|tH 12 rfl y_mv<|qo 6 ?_;refine callE rfl fk189 (haveO_ct _ (G.b 0) (y 0) (h 0) now hn) sq ?_;intro _;rw [show come (y 0) now=cmA now y 0 from rfl];refine qk<|qo 13 ?_;refine callE rfl fk189 (haveO_ct _ (G.b 1) (y 1) (h 1) now hn) sq ?_;intro _;rw [show come (y 1) now=cmA now y 1 from rfl]
 refine qk<|tH 14 rfl y_as<|tH 15 rfl y_as<|endH kq ?_;refine sk [(4,_),(5,_)] K4 ?_;refine Hd.ret ?_;exact Hd.ret2 rfl () rfl rfl (by rfl) sq
theorem glen_ct (L:List SP) (gb:Nat) (G:GrA):Ct Tryz.prog 108 #[.pointer (some ⟨gb,0,none⟩)] (GrH gb G::L) (fun _:Unit=>.int .i64 G.many) (fun _:Unit=>GrH gb G::L):=by
 refine Ct.o1 Tryz.func108 ?_;intro E
 show Hd E 9 _ _ _ _
 refine sr fun _ K1=>?_
 refine yv y_as<|fk [(0,_)] K1 ?_;refine Hd.seq fun _ K2=>?_
 refine sr fun _ K3=>?_
 refine yv y_mv<|callE rfl fk180 (gnone_ct _ gb G) sq ?_;intro _;refine fk [(0,_),(4,_)] K3 ?_;refine Hd.condF rfl ?_;refine qv K2<|sr fun _ K4=>?_
 refine yv y_mv<|yv y_np<|yv (y_f 2 3 Tryz.underlying251 sz3)<|yv (y_l1 ag3 rfl)<|yv y_as<|fk [(2,_)] K4 ?_;refine Hd.ret ?_;exact Hd.ret1 rfl () (by rfl) sq
theorem lbuf_ct (L:List SP) (lb:Nat) (l:LmA):Ct Tryz.prog 101 #[.pointer (some ⟨lb,0,none⟩)] (LmH lb l::L) (fun _:Unit=>.pointer (some ⟨l.buf,0,none⟩)) (fun _:Unit=>LmH lb l::L):=by
 refine Ct.o1 Tryz.func101 ?_;intro E
 show Hd E 9 _ _ _ _
 refine sr fun _ K1=>?_
 refine yv y_as<|fk [(0,_)] K1 ?_;refine Hd.seq fun _ K2=>?_
 refine sr fun _ K3=>?_
 refine yv y_mv<|callE rfl fk179 (lnone_ct _ lb l) sq ?_;intro _;refine fk [(0,_),(4,_)] K3 ?_;refine Hd.condF rfl ?_;refine qv K2<|sr fun _ K4=>?_
 refine yv y_mv<|yv y_np<|yv (y_f 0 33 Tryz.underlying247 sz33)<|yv (y_l1 ag33 rfl)<|yv y_as<|fk [(2,_)] K4 ?_;refine Hd.ret ?_;exact Hd.ret1 rfl () (by rfl) sq
end Lm
end Go.Proofs.YtmpemhbfgbochaaGreatDoor
namespace Go.Proofs.YtmpemhbfgbochaaGreatDoor
open Go.RX
namespace Bu
open Wo
theorem land6 (v:BitVec 64):(v &&& 6#64).toNat≤6:=by rw [BitVec.toNat_and];exact Nat.and_le_right
abbrev Six (m:Int):Prop:=m=0∨m=2∨m=4∨m=6
theorem six_tab:∀ k:Nat,k < 7→bits .andNot .i64 (k:Int) 6=0→Six (k:Int):=by decide
theorem six_of {m:Int} (hm:InK .i64 m):bits .andNot .i64 m 6=0↔Six m:=by
 constructor
 ·intro h0
  have h:=h0
  rw [bits_andNot_zero] at h
  have e:bv m=bv m &&& bv 6:=by
   apply BitVec.eq_of_getLsbD_eq;intro i hi
   have:=congrArg (fun v=>BitVec.getLsbD v i) h
   simp only [BitVec.getLsbD_and,BitVec.getLsbD_not,hi,decide_true,Bool.true_and,BitVec.getLsbD_zero] at this;rw [BitVec.getLsbD_and]
   cases h1:(bv m).getLsbD i<;>cases h2:(bv 6).getLsbD i<;>simp_all
  have h1:(bv m).toNat≤6:=by rw [e];exact land6 _
  simp only [InK] at hm;unfold bv at h1;rw [BitVec.toNat_ofInt] at h1
  have h2:0≤m∧m < 7:=by omega
  have h3:((m.toNat:Nat):Int)=m:=Int.toNat_of_nonneg h2.1
  have:=six_tab m.toNat (by omega) (by rw [h3];exact h0)
  rwa [h3] at this
 ·rintro (rfl | rfl | rfl | rfl)<;>decide
theorem effS (f:Nat→SdA→SdA) (x:BfA) (m:Int) {k:Nat} (hk:k < 2):(effB f x (sidesA m)).s k=if hasA m k=true then f k (x.s k) else x.s k:=by
 show (if k∈sidesA m then f k (x.s k) else x.s k)=_
 by_cases h:hasA m k=true
 ·rw [if_pos h,if_pos ((sides_mem hk).2 h)]
 ·rw [if_neg h,if_neg (fun q=>h ((sides_mem hk).1 q))]
theorem sides6:sidesA 6=[0,1]:=by decide
theorem onM6 (x:BfA):onM x (sidesA 6)=(if (x.s 0).on=true then 2 else 0) + (if (x.s 1).on=true then 4 else 0):=by
 rw [sides6];unfold onM;simp only [List.foldl_cons,List.foldl_nil]
 generalize (x.s 0).on=a
 generalize (x.s 1).on=b
 cases a<;>cases b<;>decide
def wa0 (s:SdA):Bool:=(s.on && !s.ended) && (decide (s.high=0) || decide ((s.c.length:Int) < s.high))
def wa1 (s:SdA):Bool:=(s.on && !s.ended) && decide ((s.c.length:Int) > 0)
theorem wantsA_eq (x:BfA):wantsA x=(if wa0 (x.s 0)=true then 2 else 0) + (if wa1 (x.s 1)=true then 4 else 0):=by
 have h0:wantK x 0=(!(x.s 0).ended && (decide ((x.s 0).high=0) || decide (((x.s 0).c.length:Int) < (x.s 0).high))):=by unfold wantK;simp
 have h1:wantK x 1=(!(x.s 1).ended && decide (((x.s 1).c.length:Int) > 0)):=by unfold wantK;simp
 have e0:wa0 (x.s 0)=((x.s 0).on && wantK x 0):=by rw [h0];unfold wa0;rw [Bool.and_assoc]
 have e1:wa1 (x.s 1)=((x.s 1).on && wantK x 1):=by rw [h1];unfold wa1;rw [Bool.and_assoc]
 unfold wantsA;rw [onM6,e0,e1];unfold waM
 rw [show sidesA ((if (x.s 0).on=true then 2 else 0) + (if (x.s 1).on=true then 4 else 0))=(if (x.s 0).on=true then [0] else [])++(if (x.s 1).on=true then [1] else []) by
  generalize (x.s 0).on=a
  generalize (x.s 1).on=b
  cases a<;>cases b<;>decide]
 generalize (x.s 0).on=a
 generalize (x.s 1).on=b
 cases a<;>cases b<;>simp only [if_true,if_false,Bool.false_eq_true,List.nil_append,List.append_nil,List.cons_append,List.foldl_cons,List.foldl_nil,Bool.true_and,Bool.false_and]
 all_goals
  generalize wantK x 0=p
  generalize wantK x 1=q
  cases p<;>cases q<;>decide
theorem wants_six (x:BfA):Six (wantsA x):=by
 rw [wantsA_eq]
 generalize wa0 (x.s 0)=a
 generalize wa1 (x.s 1)=b
 cases a<;>cases b<;>decide
theorem and_ge (f c:Int) (hc:(bv c).toNat≤4):0≤bits .and .i64 f c:=by
 unfold bits;rw [wrap_i64]
 have:(BitVec.ofInt IntKind.i64.bits f &&& BitVec.ofInt IntKind.i64.bits c).toNat≤4:=by
  rw [BitVec.toNat_and];exact Nat.le_trans Nat.and_le_right hc
 dsimp only;omega
theorem and_pos {f c:Int} (hc:(bv c).toNat≤4):bits .and .i64 f c > 0↔bits .and .i64 f c≠0:=by
 have:=and_ge f c hc
 omega
theorem and2 (f:Int) {w:Int} (hw:Six w):bits .and .i64 (bits .and .i64 f w) 2≠0↔hasA w 0=true∧bits .and .i64 f 2 > 0:=by
 rw [and_pos (by decide)];simp only [ne_eq,bits_and_zero,bv_and,BitVec.and_assoc]
 rcases hw with rfl | rfl | rfl | rfl
 ·rw [show bv 0 &&& bv 2=0#64 by decide,show hasA 0 0=false by decide];simp
 ·rw [show bv 2 &&& bv 2=bv 2 by decide,show hasA 2 0=true by decide];simp
 ·rw [show bv 4 &&& bv 2=0#64 by decide,show hasA 4 0=false by decide];simp
 ·rw [show bv 6 &&& bv 2=bv 2 by decide,show hasA 6 0=true by decide];simp
theorem and4 (f:Int) {w:Int} (hw:Six w):bits .and .i64 (bits .and .i64 f w) 4≠0↔hasA w 1=true∧bits .and .i64 f 4 > 0:=by
 rw [and_pos (by decide)];simp only [ne_eq,bits_and_zero,bv_and,BitVec.and_assoc]
 rcases hw with rfl | rfl | rfl | rfl
 ·rw [show bv 0 &&& bv 4=0#64 by decide,show hasA 0 1=false by decide];simp
 ·rw [show bv 2 &&& bv 4=0#64 by decide,show hasA 2 1=false by decide];simp
 ·rw [show bv 4 &&& bv 4=bv 4 by decide,show hasA 4 1=true by decide];simp
 ·rw [show bv 6 &&& bv 4=bv 4 by decide,show hasA 6 1=true by decide];simp
theorem set0_yes {now:Int} {s:SdA} (h:s.on=true) (h2:s.after > 0):setA 0 now s={ s with at_:=dl now s.after }:=by
 show { s with at_:=atV s 0 now }=_
 have:atV s 0 now=dl now s.after:=by unfold atV;rw [if_pos (by rw [h];simp;omega)]
 rw [this]
theorem set0_no {now:Int} {s:SdA} (ha:InK .u64 s.after) (h:s.on=false∨s.after≤0):setA 0 now s={ s with at_:=NV }:=by
 show { s with at_:=atV s 0 now }=_
 simp only [InK] at ha
 have:atV s 0 now=NV:=by
  unfold atV;rw [if_neg];intro q;simp only [Bool.and_eq_true,decide_eq_true_eq] at q
  rcases h with h | h
  ·rw [h] at q;exact absurd q.1.1 (by decide)
  ·exact q.1.2 (by omega)
 rw [this]
theorem set1_yes {now:Int} {s:SdA} (h:s.on=true) (h2:s.after > 0) (h3:(s.c.length:Int) > 0):setA 1 now s={ s with at_:=dl now s.after }:=by
 show { s with at_:=atV s 1 now }=_
 have:atV s 1 now=dl now s.after:=by unfold atV;rw [if_pos (by rw [h,decide_eq_true h3];simp;omega)]
 rw [this]
theorem set1_no {now:Int} {s:SdA} (ha:InK .u64 s.after) (h:(s.on=false∨s.after≤0)∨(s.c.length:Int)≤0):setA 1 now s={ s with at_:=NV }:=by
 show { s with at_:=atV s 1 now }=_
 simp only [InK] at ha
 have:atV s 1 now=NV:=by
  unfold atV;rw [if_neg];intro q;simp only [Bool.and_eq_true,Bool.or_eq_true,decide_eq_true_eq] at q
  have h3:(s.c.length:Int) > 0:=by
   rcases q.2 with g | g
   ·exact absurd g (by decide)
   ·exact g
  rcases h with (h | h) | h
  ·rw [h] at q;exact absurd q.1.1 (by decide)
  ·exact q.1.2 (by omega)
  ·omega
 rw [this]
theorem readR_le (w:WA) (fd n:Int):(readR w fd n).1.1.length≤n.toNat:=by
 unfold readR
 repeat' split
 all_goals first
  | (simp;done)
  | (rw [List.length_take];omega)
theorem readR_end (w:WA) (fd n:Int):(readR w fd n).1.2.1=true→(readR w fd n).1.2.2=0:=by
 unfold readR
 repeat' split
 all_goals first
  | (intro h;rfl)
  | (intro h;cases h)
theorem writeR_ge (w:WA) (fd:Int) (bs:List UInt8):0≤(writeR w fd bs).1.1:=by
 unfold writeR
 repeat' split
 all_goals first
  | (dsimp only;omega)
  | (dsimp only;exact Int.natCast_nonneg _)
end Bu
end Go.Proofs.YtmpemhbfgbochaaGreatDoor
namespace Go.Proofs.YtmpemhbfgbochaaGreatDoor
open Go.RX Fx
namespace Bu
open Wo
theorem wrap_u64 (x:Int):IntKind.u64.wrap x=x % 18446744073709551616:=by simp [IntKind.wrap,IntKind.bits,IntKind.signed]
abbrev encRb (fd:Int) (a0:Option Addr) (c0:Nat) (s:SdA) (a1:Option Addr) (c1:Nat) (t:SdA):List Value:=[.int .i64 fd,.slice a0 s.c.length c0,.bool s.on,.bool s.ended,.int .i64 s.low,.int .i64 s.high,.int .u64 s.after,.int .u64 s.at_,.slice a1 t.c.length c1,.bool t.on,.bool t.ended,.int .i64 t.low,.int .i64 t.high,.int .u64 t.after,.int .u64 t.at_]
abbrev RbH (b:Nat) (fd:Int) (a0:Option Addr) (c0:Nat) (s:SdA) (a1:Option Addr) (c1:Nat) (t:SdA):SP:=pt b (encRb fd a0 c0 s a1 c1 t) 71
abbrev OwB (a:Option Addr) (c:Nat) (l:List UInt8):SP:=own 5 1 a l.length c (bsl l)
structure RbI where
 a0:Option Addr
 c0:Nat
 a1:Option Addr
 c1:Nat
abbrev RbL (b:Nat) (x:BfA) (i:RbI) (L:List SP):List SP:=RbH b x.fd i.a0 i.c0 (x.s 0) i.a1 i.c1 (x.s 1)::OwB i.a0 i.c0 (x.s 0).c::OwB i.a1 i.c1 (x.s 1).c::L
def RbP (b:Nat) (x:BfA):SP:=RX.ex fun i:RbI=>RbL b x i []
theorem Hd.rb {E:World} {n:Nat} {ds:List Deferred} {st:List (Nat×Value)} {L L':List SP} {K:Act→World→Prop} {b:Nat} {x:BfA} (p:Pick L (RbP b x) L') (h:∀ i:RbI,Hd E n ds st (RbL b x i L') K):Hd E n ds st L K :=
 Hd.exs (f:=fun i:RbI=>RbL b x i []) p h
theorem rb_put {b:Nat} {fd:Int} {a0 a1:Option Addr} {c0 c1:Nat} {s t:SdA} {x':BfA} {L:List SP} (h0:x'.s 0=s) (h1:x'.s 1=t) (hf:x'.fd=fd):∀ k,sep (RbH b fd a0 c0 s a1 c1 t::OwB a0 c0 s.c::OwB a1 c1 t.c::L) k→sep (RbP b x'::L) k:=fun k h=>by
 subst h0;subst h1;subst hf;exact Ent.sep (.ex (⟨a0,c0,a1,c1⟩:RbI) (show Ent _ ([RbH b x'.fd a0 c0 (x'.s 0) a1 c1 (x'.s 1),OwB a0 c0 (x'.s 0).c,OwB a1 c1 (x'.s 1).c]++L) from enn)) k h
theorem rb_fold {b:Nat} {x:BfA} {i:RbI} {L:List SP}:∀ k,sep (RbL b x i L) k→sep (RbP b x::L) k:=rb_put rfl rfl rfl
theorem rdl_ct (L:List SP) (now after:Int) (hn:InK .u64 now) (ha:InK .u64 after):Ct Tryz.prog 154 #[.int .u64 now,.int .u64 after] (L) (fun _:Unit=>.int .u64 (dl now after)) (fun _:Unit=>L):=by
 refine Ct.o2 Tryz.func154 ?_;intro E
 show Hd E 15 _ _ _ _
 simp only [InK] at hn ha;refine sr fun _ K1=>?_
 refine yv y_as<|fk [(0,_),(1,_)] K1 ?_;refine Hd.seq fun _ K2=>?_
 refine sr fun _ K3=>?_
 refine yv y_mv<|yv (y_eql rfl rfl) ?_;refine fk [(0,_),(1,_),(7,_)] K3 ?_;refine qz ?_ ?_<;>intro hc0<;>try simp only [hyZ] at hc0
 ·refine sr fun _ K4=>?_
  refine yv y_as<|fk [(4,_)] K4 ?_;refine Hd.ret<|Hd.thenRet ?_;rw [show dl now after=18446744073709551615 by unfold dl;split<;>omega];exact Hd.ret1 rfl () rfl sq
 refine qv K2<|sr fun _ K5=>?_
 refine yv y_mv<|yv y_mv<|yv (y_add rfl rfl) ?_;refine yv y_as<|fk [(0,_),(5,_)] K5 ?_;refine Hd.seq fun _ K6=>?_
 refine sr fun _ K7=>?_
 refine yv y_mv<|yv y_mv<|yv (y_lss rfl rfl) ?_;refine fk [(5,_),(13,_)] K7 ?_;refine qz ?_ ?_<;>intro hc1<;>try simp only [hyZ] at hc1
 ·refine sr fun _ K8=>?_
  refine yv y_as<|fk [(4,_)] K8 ?_;refine Hd.ret<|Hd.thenRet ?_;rw [wrap_u64] at hc1;rw [show dl now after=18446744073709551615 by unfold dl;split<;>omega];exact Hd.ret1 rfl () rfl sq
 refine qv K6<|sr fun _ K9=>?_
 refine yv y_mv<|yv y_as<|fk [(4,_)] K9 ?_;refine Hd.ret ?_;rw [wrap_u64] at hc1;rw [show dl now after=IntKind.u64.wrap (now + after) by rw [wrap_u64];unfold dl;split<;>omega];exact Hd.ret1 rfl () rfl sq
theorem rsetIn_ct (L:List SP) (b:Nat) (fd:Int) (a0:Option Addr) (c0:Nat) (s:SdA) (a1:Option Addr) (c1:Nat) (t:SdA) (now:Int) (hn:InK .u64 now) (ha:InK .u64 s.after):Ct Tryz.prog 69 #[.pointer (some ⟨b,0,none⟩),.int .u64 now] (RbH b fd a0 c0 s a1 c1 t::L) (fun _:Unit=>.tuple #[]) (fun _:Unit=>RbH b fd a0 c0 (setA 0 now s) a1 c1 t::L):=by
 refine Ct.o2 Tryz.func69 ?_;intro E
 show Hd E 32 _ _ _ _
 refine sr fun _ K1=>?_
 refine yv y_mv<|yv y_np<|yv (y_f 1 69 Tryz.underlying71 sz69)<|yv (y_f 6 29 Tryz.underlying69 sz29)<|Hd.store1 sz29 rfl rfl rfl pkk (by simp;done) ?_
 try simp only [hyS]
 refine fk [(0,_),(1,_)] K1 ?_;refine sr fun _ K2=>?_
 refine yv y_mv<|yv y_np<|yv (y_f 1 69 Tryz.underlying71 sz69)<|yv (y_f 1 4 Tryz.underlying69 sz4)<|yv (y_l1 ag4 rfl)<|yv y_mv ?_;apply Hd.andg 7 13 20 [(0,_),(1,_)] rfl sbq
 ·intro hg1_13
  try simp only [hyZ] at hg1_13
  simp only [List.take];refine y2 y_mv<|y2 y_np<|y2 (y_f 1 69 Tryz.underlying71 sz69)<|y2 (y_f 5 29 Tryz.underlying69 sz29)<|y2 (y_l1 ag29 rfl)<|y2 (y_gtr rfl rfl) ?_;refine yv (y_pickT rfl rfl) ?_;exact Hd.mn
 ·intro hg1_13
  try simp only [hyZ] at hg1_13
  simp only [List.take];refine n1<|n1<|n1<|n1<|n1<|n1<|yv (y_pickF rfl rfl) ?_;exact Hd.mn
 simp only [List.drop];refine fk [(0,_),(1,_),(20,_)] K2 ?_;refine qz ?_ ?_<;>intro hc0<;>try simp only [hyZ] at hc0
 ·refine Hd.region ?_
  refine yv y_mv<|yv y_mv<|yv y_mv<|yv y_np<|yv (y_f 1 69 Tryz.underlying71 sz69)<|yv (y_f 5 29 Tryz.underlying69 sz29)<|yv (y_l1 ag29 rfl)<|callE rfl fk154 (rdl_ct _ now s.after hn ha) sq ?_;intro _;refine yv y_np<|yv (y_f 1 69 Tryz.underlying71 sz69)<|yv (y_f 6 29 Tryz.underlying69 sz29)<|Hd.store1 sz29 rfl rfl rfl pkk (by simp;done) ?_
  try simp only [hyS]
  refine Hd.nil<|slots [] sbq ?_;rw [set0_yes hc0.1 hc0.2];exact Hd.end0 rfl () rfl (Ent.sep (.eq pkk (pt_eq (by rfl)) enn))
 refine Hd.skip ?_;rw [set0_no ha hc0];exact Hd.end0 rfl () rfl (Ent.sep (.eq pkk (pt_eq (by rfl)) enn))
theorem rsetOut_ct (L:List SP) (b:Nat) (fd:Int) (a0:Option Addr) (c0:Nat) (s:SdA) (a1:Option Addr) (c1:Nat) (t:SdA) (now:Int) (hn:InK .u64 now) (ha:InK .u64 t.after):Ct Tryz.prog 70 #[.pointer (some ⟨b,0,none⟩),.int .u64 now] (RbH b fd a0 c0 s a1 c1 t::L) (fun _:Unit=>.tuple #[]) (fun _:Unit=>RbH b fd a0 c0 s a1 c1 (setA 1 now t)::L):=by
 refine Ct.o2 Tryz.func70 ?_;intro E
 show Hd E 41 _ _ _ _
 refine sr fun _ K1=>?_
 refine yv y_mv<|yv y_np<|yv (y_f 8 69 Tryz.underlying71 sz69)<|yv (y_f 6 29 Tryz.underlying69 sz29)<|Hd.store1 sz29 rfl rfl rfl pkk (by simp;done) ?_
 try simp only [hyS]
 refine fk [(0,_),(1,_)] K1 ?_;refine sr fun _ K2=>?_
 refine yv y_mv<|yv y_np<|yv (y_f 8 69 Tryz.underlying71 sz69)<|yv (y_f 1 4 Tryz.underlying69 sz4)<|yv (y_l1 ag4 rfl)<|yv y_mv ?_;apply Hd.andg 7 13 20 [(0,_),(1,_)] rfl sbq
 ·intro hg1_13
  try simp only [hyZ] at hg1_13
  simp only [List.take];refine y2 y_mv<|y2 y_np<|y2 (y_f 8 69 Tryz.underlying71 sz69)<|y2 (y_f 5 29 Tryz.underlying69 sz29)<|y2 (y_l1 ag29 rfl)<|y2 (y_gtr rfl rfl) ?_;refine yv (y_pickT rfl rfl) ?_;exact Hd.mn
 ·intro hg1_13
  try simp only [hyZ] at hg1_13
  simp only [List.take];refine n1<|n1<|n1<|n1<|n1<|n1<|yv (y_pickF rfl rfl) ?_;exact Hd.mn
 simp only [List.drop];refine yv y_mv ?_;apply Hd.andg 8 21 29 [(0,_),(1,_)] rfl sbq
 ·intro hg1_21
  try simp only [hyZ] at hg1_21
  simp only [List.take];refine y2 y_mv<|y2 y_np<|y2 (y_f 8 69 Tryz.underlying71 sz69)<|y2 (y_f 0 30 Tryz.underlying69 sz30)<|y2 (y_l1 ag30 rfl)<|y2 (y_len Tryz.underlying30 rfl) ?_;refine y2 (y_gtr rfl rfl) ?_;refine yv (y_pickT rfl rfl) ?_;exact Hd.mn
 ·intro hg1_21
  try simp only [hyZ] at hg1_21
  simp only [List.take];refine n1<|n1<|n1<|n1<|n1<|n1<|n1<|yv (y_pickF rfl rfl) ?_;exact Hd.mn
 simp only [List.drop];refine fk [(0,_),(1,_),(29,_)] K2 ?_;refine qz ?_ ?_<;>intro hc0<;>try simp only [hyZ] at hc0
 ·refine Hd.region ?_
  refine yv y_mv<|yv y_mv<|yv y_mv<|yv y_np<|yv (y_f 8 69 Tryz.underlying71 sz69)<|yv (y_f 5 29 Tryz.underlying69 sz29)<|yv (y_l1 ag29 rfl)<|callE rfl fk154 (rdl_ct _ now t.after hn ha) sq ?_;intro _;refine yv y_np<|yv (y_f 8 69 Tryz.underlying71 sz69)<|yv (y_f 6 29 Tryz.underlying69 sz29)<|Hd.store1 sz29 rfl rfl rfl pkk (by simp;done) ?_
  try simp only [hyS]
  refine Hd.nil<|slots [] sbq ?_;rw [set1_yes hc0.1.1 hc0.1.2 hc0.2];exact Hd.end0 rfl () rfl (Ent.sep (.eq pkk (pt_eq (by rfl)) enn))
 refine Hd.skip ?_;rw [set1_no ha hc0];exact Hd.end0 rfl () rfl (Ent.sep (.eq pkk (pt_eq (by rfl)) enn))
theorem hasW {m:Int} (h:Six m) {k:Nat} (hk:k < 2):decide (Int.tmod (IntKind.i64.wrap (m.tdiv (flagA k))) 2=1)=hasA m k:=by
 rcases h with rfl | rfl | rfl | rfl<;>rcases (show k=0∨k=1 by omega) with rfl | rfl<;>decide
theorem rhas26_ct (L:List SP) (m bit:Int) (h:Six m) (k:Nat) (hk:k < 2) (hb:bit=flagA k):Ct Tryz.prog 68 #[.int .i64 m,.int .i64 bit] (L) (fun _:Unit=>.bool (hasA m k)) (fun _:Unit=>L):=by
 refine Ct.o2 Tryz.func68 ?_;intro E
 show Hd E 10 _ _ _ _
 have h1:1≤bit∧bit≤4:=by rw [hb];unfold flagA;split<;>omega
 have hm:0≤m∧m≤6:=by rcases h with h | h | h | h<;>omega
 refine sr fun _ K1=>?_
 refine yv y_as<|fk [(0,_),(1,_)] K1 ?_;refine sr fun _ K2=>?_
 refine yv y_mv<|yv y_mv<|yv (y_quo rfl rfl (by omega)) ?_;refine yv (y_rem rfl rfl (by omega)) ?_;refine yv (y_eql rfl rfl) ?_;refine yv y_as<|fk [(4,_)] K2 ?_;refine Hd.ret ?_;exact Hd.ret1 rfl () (by rw [hb,←hasW h hk];rfl) sq
theorem rsides_ct (L:List SP) (m:Int) (hm:InK .i64 m):Ct Tryz.prog 67 #[.int .i64 m] (L) (fun _:Unit=>.bool (decide (bits .andNot .i64 m 6=0))) (fun _:Unit=>L):=by
 refine Ct.o1 Tryz.func67 ?_;intro E
 show Hd E 17 _ _ _ _
 refine sr fun _ K1=>?_
 refine yv y_as<|fk [(0,_)] K1 ?_;refine sr fun _ K2=>?_
 refine yv y_mv<|yv (y_eql rfl rfl) ?_;refine yv y_mv ?_;apply Hd.org 3 5 8 [(0,_)] rfl sbq
 ·intro hg1_5
  try simp only [hyZ] at hg1_5
  simp only [List.take];refine n1<|n1<|yv (y_pickT rfl rfl) ?_;exact Hd.mn
 ·intro hg1_5
  try simp only [hyZ] at hg1_5
  simp only [List.take];refine y2 y_mv<|y2 (y_eql rfl rfl) ?_;refine yv (y_pickF rfl rfl) ?_;exact Hd.mn
 simp only [List.drop];refine yv y_mv ?_;apply Hd.org 3 9 12 [(0,_)] rfl sbq
 ·intro hg1_9
  try simp only [hyZ] at hg1_9
  simp only [List.take];refine n1<|n1<|yv (y_pickT rfl rfl) ?_;exact Hd.mn
 ·intro hg1_9
  try simp only [hyZ] at hg1_9
  simp only [List.take];refine y2 y_mv<|y2 (y_eql rfl rfl) ?_;refine yv (y_pickF rfl rfl) ?_;exact Hd.mn
 simp only [List.drop];refine yv y_mv ?_;apply Hd.org 3 13 16 [] rfl sbq
 ·intro hg1_13
  try simp only [hyZ] at hg1_13
  simp only [List.take];refine n1<|n1<|yv (y_pickT rfl rfl) ?_;exact Hd.mn
 ·intro hg1_13
  try simp only [hyZ] at hg1_13
  simp only [List.take];refine y2 y_mv<|y2 (y_eql rfl rfl) ?_;refine yv (y_pickF rfl rfl) ?_;exact Hd.mn
 simp only [List.drop];refine yv y_as<|fk [(2,_)] K2 ?_;refine Hd.ret ?_;rw [show decide (bits .andNot .i64 m 6=0)=decide (Six m) from decide_eq_decide.2 (six_of hm)];exact Hd.ret1 rfl () (by simp [Six,Bool.or_assoc];rfl) sq
theorem no2 {a b:Bool} (h:a=false∨b=true):¬ (a=true∧b=false):=by cases a<;>cases b<;>simp_all
theorem en_fd (x:BfA) (now m:Int):(enB x now m).fd=x.fd:=by unfold enB;split<;>rfl
theorem en_s {x:BfA} {now m:Int} (hz:bits .andNot .i64 m 6=0) {k:Nat} (hk:k < 2):(enB x now m).s k=if hasA m k=true∧(x.s k).on=false then setA k now { x.s k with on:=true } else x.s k:=by
 rw [show enB x now m=effB (onF now) x (sidesA m) from if_pos hz,effS _ _ _ hk];unfold onF
 cases hasA m k<;>cases (x.s k).on<;>rfl
theorem renable_ct (L:List SP) (b:Nat) (x:BfA) (ht:TmOk x) (now m:Int) (hn:InK .u64 now) (hm:InK .i64 m):Ct Tryz.prog 13 #[.pointer (some ⟨b,0,none⟩),.int .u64 now,.int .i64 m] (RbP b x::L) (fun _:Unit=>.int .i64 (enE m)) (fun _:Unit=>RbP b (enB x now m)::L):=by
 refine Ct.o3 Tryz.func13 ?_;intro E
 show Hd E 46 _ _ _ _
 refine Hd.rb .here (fun i=>?_);refine sr fun _ K1=>?_
 refine yv y_as<|fk [(0,_),(1,_),(2,_)] K1 ?_;refine sr fun _ K2=>?_
 refine yv y_mv<|callE rfl fk67 (rsides_ct _ m hm) sq ?_;intro _;refine yv y_as<|fk [(0,_),(1,_),(2,_),(7,_)] K2 ?_;refine Hd.seq fun _ K3=>?_
 refine sr fun _ K4=>?_
 refine yv y_mv<|yv (y_not rfl)<|fk [(0,_),(1,_),(2,_),(11,_)] K4 ?_;refine qz ?_ ?_<;>intro hc0<;>try simp only [hyZ] at hc0
 ·have hz:¬ bits .andNot .i64 m 6=0:=by simpa using hc0
  refine sr fun _ K5=>?_
  refine yv y_as<|fk [(6,_)] K5 ?_;refine Hd.ret<|Hd.thenRet ?_;rw [show enE m=2 from if_neg hz,show enB x now m=x from if_neg hz];exact Hd.ret1 rfl () rfl rb_fold
 have hz:bits .andNot .i64 m 6=0:=by simpa using hc0
 have h6:=(six_of hm).1 hz
 refine qv K3<|Hd.seq fun _ K6=>?_
 refine sr fun _ K7=>?_
 refine yv y_mv<|callE rfl fk68 (rhas26_ct _ m 2 h6 0 (by decide) rfl) sq ?_;intro _;refine yv y_mv ?_;apply Hd.andg 7 14 21 [(0,_),(1,_),(2,_)] rfl sbq
 ·intro hg4_14
  try simp only [hyZ] at hg4_14
  simp only [List.take];refine y2 y_mv<|y2 y_np<|y2 (y_f 1 69 Tryz.underlying71 sz69)<|y2 (y_f 1 4 Tryz.underlying69 sz4)<|y2 (y_l1 ag4 rfl)<|y2 (y_not rfl)<|yv (y_pickT rfl rfl) ?_;exact Hd.mn
 ·intro hg4_14
  try simp only [hyZ] at hg4_14
  simp only [List.take];refine n1<|n1<|n1<|n1<|n1<|n1<|yv (y_pickF rfl rfl) ?_;exact Hd.mn
 simp only [List.drop];refine fk [(0,_),(1,_),(2,_),(21,_)] K7 ?_;refine qz ?_ ?_<;>intro hc1<;>try simp only [hyZ] at hc1
 ·have e0:=(en_s (x:=x) (now:=now) hz (show 0 < 2 by decide)).trans (if_pos hc1)
  refine sr fun _ K8=>?_
  refine yv y_mv<|yv y_np<|yv (y_f 1 69 Tryz.underlying71 sz69)<|yv (y_f 1 4 Tryz.underlying69 sz4)<|Hd.store1 sz4 rfl rfl rfl pkk (by simp;done) ?_
  try simp only [hyS]
  refine fk [(0,_),(1,_),(2,_)] K8 ?_;refine Hd.region<|yv y_mv<|yv y_mv<|callE rfl fk69 (rsetIn_ct _ b x.fd i.a0 i.c0 { x.s 0 with on:=true } i.a1 i.c1 (x.s 1) now hn (ht 0 (by decide)).1) sq ?_;intro _;refine fk [(0,_),(1,_),(2,_)] K6 ?_;refine Hd.seq fun _ K9=>?_
  refine sr fun _ K10=>?_
  refine yv y_mv<|callE rfl fk68 (rhas26_ct _ m 4 h6 1 (by decide) rfl) sq ?_;intro _;refine yv y_mv ?_;apply Hd.andg 7 31 38 [(0,_),(1,_)] rfl sbq
  ·intro hg7_31
   try simp only [hyZ] at hg7_31
   simp only [List.take];refine y2 y_mv<|y2 y_np<|y2 (y_f 8 69 Tryz.underlying71 sz69)<|y2 (y_f 1 4 Tryz.underlying69 sz4)<|y2 (y_l1 ag4 rfl)<|y2 (y_not rfl)<|yv (y_pickT rfl rfl) ?_;exact Hd.mn
  ·intro hg7_31
   try simp only [hyZ] at hg7_31
   simp only [List.take];refine n1<|n1<|n1<|n1<|n1<|n1<|yv (y_pickF rfl rfl) ?_;exact Hd.mn
  simp only [List.drop];refine fk [(0,_),(1,_),(38,_)] K10 ?_;refine qz ?_ ?_<;>intro hc2<;>try simp only [hyZ] at hc2
  ·have e1:=(en_s (x:=x) (now:=now) hz (show 1 < 2 by decide)).trans (if_pos hc2)
   refine sr fun _ K11=>?_
   refine yv y_mv<|yv y_np<|yv (y_f 8 69 Tryz.underlying71 sz69)<|yv (y_f 1 4 Tryz.underlying69 sz4)<|Hd.store1 sz4 rfl rfl rfl pkk (by simp;done) ?_
   try simp only [hyS]
   refine fk [(0,_),(1,_)] K11 ?_;refine Hd.region<|yv y_mv<|yv y_mv<|callE rfl fk70 (rsetOut_ct _ b x.fd i.a0 i.c0 (setA 0 now { x.s 0 with on:=true }) i.a1 i.c1 { x.s 1 with on:=true } now hn (ht 1 (by decide)).1) sq ?_;intro _;refine fk [] K9 ?_;refine sr fun _ K12=>?_
   refine yv y_as<|fk [(6,_)] K12 ?_;refine Hd.ret ?_;rw [show enE m=0 from if_pos hz];exact Hd.ret1 rfl () rfl (fun q s=>rb_put (fd:=x.fd) (a0:=i.a0) (c0:=i.c0) (a1:=i.a1) (c1:=i.c1) e0 e1 (en_fd _ _ _) q (Ent.sep enn q s))
  have e1:=(en_s (x:=x) (now:=now) hz (show 1 < 2 by decide)).trans (if_neg (no2 hc2))
  refine qv K9<|sr fun _ K13=>?_
  refine yv y_as<|fk [(6,_)] K13 ?_;refine Hd.ret ?_;rw [show enE m=0 from if_pos hz];exact Hd.ret1 rfl () rfl (fun q s=>rb_put (fd:=x.fd) (a0:=i.a0) (c0:=i.c0) (a1:=i.a1) (c1:=i.c1) e0 e1 (en_fd _ _ _) q (Ent.sep enn q s))
 have e0:=(en_s (x:=x) (now:=now) hz (show 0 < 2 by decide)).trans (if_neg (no2 hc1))
 refine qv K6<|Hd.seq fun _ K14=>?_
 refine sr fun _ K15=>?_
 refine yv y_mv<|callE rfl fk68 (rhas26_ct _ m 4 h6 1 (by decide) rfl) sq ?_;intro _;refine yv y_mv ?_;apply Hd.andg 7 31 38 [(0,_),(1,_)] rfl sbq
 ·intro hg7_31
  try simp only [hyZ] at hg7_31
  simp only [List.take];refine y2 y_mv<|y2 y_np<|y2 (y_f 8 69 Tryz.underlying71 sz69)<|y2 (y_f 1 4 Tryz.underlying69 sz4)<|y2 (y_l1 ag4 rfl)<|y2 (y_not rfl)<|yv (y_pickT rfl rfl) ?_;exact Hd.mn
 ·intro hg7_31
  try simp only [hyZ] at hg7_31
  simp only [List.take];refine n1<|n1<|n1<|n1<|n1<|n1<|yv (y_pickF rfl rfl) ?_;exact Hd.mn
 simp only [List.drop];refine fk [(0,_),(1,_),(38,_)] K15 ?_;refine qz ?_ ?_<;>intro hc2<;>try simp only [hyZ] at hc2
 ·have e1:=(en_s (x:=x) (now:=now) hz (show 1 < 2 by decide)).trans (if_pos hc2)
  refine sr fun _ K16=>?_
  refine yv y_mv<|yv y_np<|yv (y_f 8 69 Tryz.underlying71 sz69)<|yv (y_f 1 4 Tryz.underlying69 sz4)<|Hd.store1 sz4 rfl rfl rfl pkk (by simp;done) ?_
  try simp only [hyS]
  refine fk [(0,_),(1,_)] K16 ?_;refine Hd.region<|yv y_mv<|yv y_mv<|callE rfl fk70 (rsetOut_ct _ b x.fd i.a0 i.c0 (x.s 0) i.a1 i.c1 { x.s 1 with on:=true } now hn (ht 1 (by decide)).1) sq ?_;intro _;refine fk [] K14 ?_;refine sr fun _ K17=>?_
  refine yv y_as<|fk [(6,_)] K17 ?_;refine Hd.ret ?_;rw [show enE m=0 from if_pos hz];exact Hd.ret1 rfl () rfl (fun q s=>rb_put (fd:=x.fd) (a0:=i.a0) (c0:=i.c0) (a1:=i.a1) (c1:=i.c1) e0 e1 (en_fd _ _ _) q (Ent.sep enn q s))
 have e1:=(en_s (x:=x) (now:=now) hz (show 1 < 2 by decide)).trans (if_neg (no2 hc2))
 refine qv K14<|sr fun _ K18=>?_
 refine yv y_as<|fk [(6,_)] K18 ?_;refine Hd.ret ?_;rw [show enE m=0 from if_pos hz];exact Hd.ret1 rfl () rfl (fun q s=>rb_put (fd:=x.fd) (a0:=i.a0) (c0:=i.c0) (a1:=i.a1) (c1:=i.c1) e0 e1 (en_fd _ _ _) q (Ent.sep enn q s))
theorem rnew26_ct (L:List SP) (fd:Int):Ct Tryz.prog 11 #[.int .i64 fd] (L) (fun b:Nat=>.pointer (some ⟨b,0,none⟩)) (fun b:Nat=>RbP b (newB fd)::L):=by
 refine Ct.o1 Tryz.func11 ?_;intro E
 show Hd E 8 _ _ _ _
 refine sr fun _ K1=>?_
 refine yv y_as<|fk [(0,_)] K1 ?_;refine sr fun _ K2=>?_
 refine yv y_mv<|yv (y_build (vs:=[(6,_)]) rfl (by exact bd11_4 ..)) ?_;refine yv (y_build (vs:=[(1,_),(6,_)]) rfl (by exact bd11_5 ..)) ?_;refine yv (y_build (vs:=[(0,_),(1,_),(2,_)]) rfl (by exact bd11_6 ..)) ?_;refine Hd.box rfl rfl (fun b7=>?_);refine yv y_as<|fk [(2,_)] K2 ?_;refine Hd.ret ?_;exact Hd.ret1 rfl b7 rfl (fun q s=>rb_put (x':=newB fd) (fd:=fd) (a0:=none) (c0:=0) (a1:=none) (c1:=0) (s:=s0 false) (t:=s0 true) rfl rfl rfl q (Ent.sep (.eq pkk (pt_eq (by rfl)) (.ownNil (.ownNil enn))) q s))
theorem addA_app {l bs:List UInt8} (h:bs.length≤1048576 - l.length):addA l bs=l++bs:=if_pos h
theorem rbwrite_ct (L:List SP) (b:Nat) (x:BfA) (ht:TmOk x) (hcl:(x.s 1).c.length≤1048576) (now:Int) (hn:InK .u64 now) (ad:Option Addr) (c:Nat) (bs:List UInt8) (hD:RdS L 1 ad bs.length (bsl bs)) (hmc:bs.length≤c) (hm:bs.length≤70368744177664):Ct Tryz.prog 21 #[.pointer (some ⟨b,0,none⟩),.int .u64 now,.slice ad bs.length c] (RbP b x::L) (fun _:Unit=>.int .i64 (wrE x bs)) (fun _:Unit=>RbP b (wrB x now bs)::L):=by
 refine Ct.o3 Tryz.func21 ?_;intro E
 show Hd E 41 _ _ _ _
 refine Hd.rb .here (fun i=>?_);refine sr fun _ K1=>?_
 refine yv y_as<|fk [(0,_),(1,_),(2,_)] K1 ?_;refine Hd.seq fun _ K2=>?_
 refine sr fun _ K3=>?_
 refine yv y_mv<|yv y_np<|yv (y_f 8 69 Tryz.underlying71 sz69)<|yv (y_f 0 30 Tryz.underlying69 sz30)<|yv (y_l1 ag30 rfl)<|yv (y_len Tryz.underlying30 rfl) ?_;refine yv y_mv<|yv (y_len Tryz.underlying30 rfl) ?_;refine yv (y_addn rfl rfl (by simp only [InK];omega)) ?_;refine yv (y_gtr rfl rfl) ?_;refine fk [(0,_),(1,_),(2,_),(17,_)] K3 ?_;refine qz ?_ ?_<;>intro hc0<;>try simp only [hyZ] at hc0
 ·have ha:addE (x.s 1).c bs=70:=by unfold addE;rw [if_neg (by omega)]
  refine sr fun _ K4=>?_
  refine yv y_as<|fk [(6,_)] K4 ?_;refine Hd.ret<|Hd.thenRet ?_;rw [show wrE x bs=70 from ha,show wrB x now bs=x by unfold wrB;rw [if_pos (by rw [ha];decide)]];exact Hd.ret1 rfl () rfl rb_fold
 have hle:bs.length≤1048576 - (x.s 1).c.length:=by omega
 have ha:addE (x.s 1).c bs=0:=if_pos hle
 have hap:=addA_app hle
 have hw0:wrE x bs=0:=ha
 refine qv K2<|sr fun _ K5=>?_
 refine yv y_as<|fk [(0,_),(1,_),(2,_),(7,_)] K5 ?_;refine Hd.seq fun _ K6=>?_
 refine Hd.ownNil 5 1 none ?_;refine Hd.region<|yv y_mv<|yv y_mv<|yv y_np<|yv (y_f 8 69 Tryz.underlying71 sz69)<|yv (y_f 0 30 Tryz.underlying69 sz30)<|yv (y_l1 ag30 rfl)<|Hd.append Tryz.underlying30 ty5 rfl rfl rfl pkk (by first | exact RdS.rd (Rd.pt pkk (fun j v e=>by simpa using e)) rfl | (exact RdS.own pkk)) (by simp [Value.oneCell'];done) (by simp only [maxLen];omega) (by omega) (fun ad24 cap24=>?_);refine yv y_as<|fk [(0,_),(1,_),(2,_),(7,_)] K6 ?_;refine sr fun _ K7=>?_
 refine yv y_mv<|yv y_mv<|yv y_mv<|Hd.append Tryz.underlying30 ty5 rfl rfl rfl pkk (by exact RdS.mono hD sq) (by simp [Value.oneCell'];done) (by simp only [maxLen];omega) (by omega) (fun ad28 cap28=>?_);refine yv y_np<|yv (y_f 8 69 Tryz.underlying71 sz69)<|yv (y_f 0 30 Tryz.underlying69 sz30)<|Hd.store1 sz30 rfl rfl rfl pkk (by simp;done) ?_
 try simp only [hyS]
 refine Hd.nil<|Hd.heap (RbH b x.fd i.a0 i.c0 (x.s 0) ad28 cap28 { x.s 1 with c:=(x.s 1).c++bs }::OwB i.a0 i.c0 (x.s 0).c::OwB ad28 cap28 ((x.s 1).c++bs)::L) (fun q s=>Ent.sep (.eq pkk (pt_eq (by simp only [encRb,List.length_append,Nat.zero_add])) (.pick pkk (.eq pkk (own_eq3 (by rw [List.length_append,Nat.zero_add]) rfl (by unfold bsl;simp)) enn))) q s) ?_;refine sk [(0,_),(1,_)] K7 ?_;refine Hd.seq fun _ K8=>?_
 refine sr fun _ K9=>?_
 refine yv y_mv<|yv y_np<|yv (y_f 8 69 Tryz.underlying71 sz69)<|yv (y_f 6 29 Tryz.underlying69 sz29)<|yv (y_l1 ag29 rfl)<|yv (y_eql rfl rfl) ?_;refine fk [(0,_),(1,_),(37,_)] K9 ?_;refine qz ?_ ?_<;>intro hc1<;>try simp only [hyZ] at hc1
 ·refine Hd.region ?_
  refine yv y_mv<|yv y_mv<|callE rfl fk70 (rsetOut_ct _ b x.fd i.a0 i.c0 (x.s 0) ad28 cap28 { x.s 1 with c:=(x.s 1).c++bs } now hn (ht 1 (by decide)).1) sq ?_;intro _;refine fk [] K8 ?_;refine sr fun _ K10=>?_
  refine yv y_as<|fk [(6,_)] K10 ?_;refine Hd.ret ?_;rw [hw0,show wrB x now bs=x.up 1 fun s=>setA 1 now { s with c:=addA s.c bs } by unfold wrB;rw [if_neg (by rw [ha];decide),if_pos hc1]];exact Hd.ret1 rfl () rfl (fun q s=>rb_put (fd:=x.fd) (x':=x.up 1 fun s=>setA 1 now { s with c:=addA s.c bs }) (a0:=i.a0) (c0:=i.c0) (a1:=ad28) (c1:=cap28) (s:=x.s 0) (t:=setA 1 now { x.s 1 with c:=(x.s 1).c++bs }) rfl (by show setA 1 now { x.s 1 with c:=addA (x.s 1).c bs }=_;rw [hap]) rfl q (Ent.sep enn q s))
 refine qv K8<|sr fun _ K11=>?_
 refine yv y_as<|fk [(6,_)] K11 ?_;refine Hd.ret ?_;rw [hw0,show wrB x now bs=x.up 1 fun s=>{ s with c:=addA s.c bs } by unfold wrB;rw [if_neg (by rw [ha];decide),if_neg hc1]];exact Hd.ret1 rfl () rfl (fun q s=>rb_put (fd:=x.fd) (x':=x.up 1 fun s=>{ s with c:=addA s.c bs }) (a0:=i.a0) (c0:=i.c0) (a1:=ad28) (c1:=cap28) (s:=x.s 0) (t:={ x.s 1 with c:=(x.s 1).c++bs }) rfl (by show { x.s 1 with c:=addA (x.s 1).c bs }=_;rw [hap]) rfl q (Ent.sep enn q s))
theorem rbread_ct (L:List SP) (b:Nat) (x:BfA) (n:Int):Ct Tryz.prog 23 #[.pointer (some ⟨b,0,none⟩),.int .i64 n] (RbP b x::L) (fun q_:Option Addr×Nat=>.slice q_.1 (readA x n).length q_.2) (fun q_:Option Addr×Nat=>own 5 1 q_.1 (readA x n).length (readA x n).length (bsl (readA x n))::RbP b (readB x n)::L):=by
 refine Ct.o2 Tryz.func23 ?_;intro E
 show Hd E 35 _ _ _ _
 refine Hd.rb .here (fun i=>?_);refine Hd.ownCap (e:=5) (ad:=i.a0) (m:=(x.s 0).c.length) (cap:=i.c0) pkk (fun hcap=>?_);refine sr fun _ K1=>?_
 refine yv y_as<|fk [(0,_),(1,_)] K1 ?_;refine Hd.seq fun _ K2=>?_
 refine sr fun _ K3=>?_
 refine yv y_mv<|yv (y_lss rfl rfl) ?_;refine fk [(0,_),(1,_),(7,_)] K3 ?_;refine qz ?_ ?_<;>intro hc0<;>try simp only [hyZ] at hc0
 ·refine sr fun _ K4=>?_
  refine yv y_as<|fk [(4,_)] K4 ?_;refine Hd.ret<|Hd.thenRet ?_;rw [show readA x n=[] by unfold readA;rw [if_pos hc0],show readB x n=x by unfold readB;rw [if_pos hc0]];exact Hd.ret1 rfl (none,0) rfl (fun q s=>Ent.sep (.ownNil .same) q (rb_fold q s))
 obtain ⟨kn,hkn⟩:∃ q,q=min n.toNat (x.s 0).c.length:=⟨_,rfl⟩
 have hkl:kn≤(x.s 0).c.length:=by omega
 have hkc:kn≤i.c0:=by omega
 have htk:(x.s 0).c.take n.toNat=(x.s 0).c.take kn:=by
  rw [hkn]
  rcases Nat.le_total n.toNat (x.s 0).c.length with h | h
  ·rw [Nat.min_eq_left h]
  ·rw [Nat.min_eq_right h,List.take_length,List.take_of_length_le h]
 have hdk:(x.s 0).c.drop n.toNat=(x.s 0).c.drop kn:=by
  rw [hkn]
  rcases Nat.le_total n.toNat (x.s 0).c.length with h | h
  ·rw [Nat.min_eq_left h]
  ·rw [Nat.min_eq_right h,List.drop_length,List.drop_of_length_le h]
 have htl:((x.s 0).c.take kn).length=kn:=by rw [List.length_take];omega
 have hA:readA x n=(x.s 0).c.take kn:=by unfold readA;rw [if_neg (by omega),htk]
 have hB:readB x n=x.up 0 fun s=>{ s with c:=s.c.drop n.toNat }:=if_neg (by omega)
 refine qv K2<|sr fun _ K5=>?_
 refine yv y_mv<|yv y_mv<|yv y_np<|yv (y_f 1 69 Tryz.underlying71 sz69)<|yv (y_f 0 30 Tryz.underlying69 sz30)<|yv (y_l1 ag30 rfl)<|yv (y_len Tryz.underlying30 rfl) ?_;refine yv (y_to (v':=.int .i64 (kn:Int)) (y_min rfl rfl) (by (congr 1;omega))) ?_;refine yv y_as<|fk [(0,_),(1,_)] K5 ?_;refine sr fun _ K6=>?_
 refine yv y_mv<|yv y_np<|yv (y_f 1 69 Tryz.underlying71 sz69)<|yv (y_f 0 30 Tryz.underlying69 sz30)<|yv (y_l1 ag30 rfl)<|yv y_mv<|yv (y_slo_xoxN Tryz.underlying30 sz5 rfl rfl (by omega)) ?_;refine yv y_as<|fk [(0,_),(1,_),(5,_)] K6 ?_;refine sr fun _ K7=>?_
 refine yv y_mv<|yv y_mv<|yv y_np<|yv (y_f 1 69 Tryz.underlying71 sz69)<|yv (y_f 0 30 Tryz.underlying69 sz30)<|yv (y_l1 ag30 rfl)<|yv y_mv<|yv (y_slo_oxxN Tryz.underlying30 sz5 rfl rfl (by omega)) ?_;refine yv y_np<|yv (y_f 1 69 Tryz.underlying71 sz69)<|yv (y_f 0 30 Tryz.underlying69 sz30)<|Hd.store1 sz30 rfl rfl rfl pkk (by simp;done) ?_
 try simp only [hyS]
 refine Hd.nil<|Hd.ownSplit (e:=5) (ad:=i.a0) (m:=(x.s 0).c.length) (cap:=i.c0) (us:=bsl (x.s 0).c) pkk kn (bsl ((x.s 0).c.take kn)) (bsl ((x.s 0).c.drop kn)) hkl (by unfold bsl;rw [←List.map_append,List.take_append_drop]) (by unfold bsl;rw [List.length_map,htl,Nat.mul_one]) ?_;refine Hd.heap (RbP b (x.up 0 fun s=>{ s with c:=s.c.drop n.toNat })::own 5 1 i.a0 kn kn (bsl ((x.s 0).c.take kn))::L) (fun q s=>rb_put (fd:=x.fd) (x':=x.up 0 fun s=>{ s with c:=s.c.drop n.toNat }) (a0:=cutA i.a0 1 kn i.c0) (c0:=i.c0 - kn) (a1:=i.a1) (c1:=i.c1) (s:={ x.s 0 with c:=(x.s 0).c.drop kn }) (t:=x.s 1) (by show { x.s 0 with c:=(x.s 0).c.drop n.toNat }=_;rw [hdk]) rfl rfl q (Ent.sep (.eq pkk (pt_eq (by simp only [encRb,List.length_drop])) (.eq pkk (own_eq3 (by rw [List.length_drop]) rfl rfl) enn)) q s)) ?_;refine sk [(5,_)] K7 ?_;refine sr fun _ K8=>?_
 refine yv y_mv<|yv y_as<|fk [(4,_)] K8 ?_;refine Hd.ret ?_;rw [hA,htl,hB];exact Hd.ret1 rfl (i.a0,i.c0) rfl sq
theorem andor {a b:Bool} {p q:Prop} [Decidable p] [Decidable q] (h:(a=false∨b=true)∨¬ p∧¬ q):((a && !b) && (decide p || decide q))=false:=by
 rcases h with (h | h) | ⟨h1,h2⟩
 ·rw [h];rfl
 ·rw [h];cases a<;>rfl
 ·rw [decide_eq_false h1,decide_eq_false h2];exact Bool.and_false _
theorem andn {a b:Bool} {p:Prop} [Decidable p] (h:(a=false∨b=true)∨¬ p):((a && !b) && decide p)=false:=by
 rcases h with (h | h) | h
 ·rw [h];rfl
 ·rw [h];cases a<;>rfl
 ·rw [decide_eq_false h];exact Bool.and_false _
theorem rwants26_ct (L:List SP) (b:Nat) (x:BfA):Ct Tryz.prog 31 #[.pointer (some ⟨b,0,none⟩)] (RbP b x::L) (fun _:Unit=>.int .i64 (wantsA x)) (fun _:Unit=>RbP b x::L):=by
 refine Ct.o1 Tryz.func31 ?_;intro E
 show Hd E 66 _ _ _ _
 refine Hd.rb .here (fun i=>?_);refine sr fun _ K1=>?_
 refine yv y_as<|fk [(0,_)] K1 ?_;refine sr fun _ K2=>?_
 refine yv y_as<|fk [(0,_),(3,_)] K2 ?_;refine Hd.seq fun _ K3=>?_
 refine Hd.seq fun _ K4=>?_
 refine Hd.quiet mixed kq ?_;refine Hq.yv y_mv ?_;refine Hq.yv y_np ?_;refine Hq.yv (y_f 1 69 Tryz.underlying71 sz69) ?_;refine Hq.yv (y_f 1 4 Tryz.underlying69 sz4) ?_;refine Hq.yv (y_l1 ag4 rfl) ?_;refine Hq.yv y_mv ?_;apply Hq.andg 7 9 16 [(0,_),(3,_)] rfl ⟨rfl,rfl,trivial⟩
 ·intro hg2_9
  try simp only [hyZ] at hg2_9
  simp only [List.take];refine Hq.yg rfl rfl y_mv ?_;refine Hq.yg rfl rfl y_np ?_;refine Hq.yg rfl rfl (y_f 1 69 Tryz.underlying71 sz69) ?_;refine Hq.yg rfl rfl (y_f 2 4 Tryz.underlying69 sz4) ?_;refine Hq.yg rfl rfl (y_l1 ag4 rfl) ?_;refine Hq.yg rfl rfl (y_not rfl) ?_;refine Hq.yv (y_pickT rfl rfl) ?_;exact Hq.mend sbq
 ·intro hg2_9
  try simp only [hyZ] at hg2_9
  simp only [List.take];refine Hq.ng rfl rfl rfl ?_;refine Hq.ng rfl rfl rfl ?_;refine Hq.ng rfl rfl rfl ?_;refine Hq.ng rfl rfl rfl ?_;refine Hq.ng rfl rfl rfl ?_;refine Hq.ng rfl rfl rfl ?_;refine Hq.yv (y_pickF rfl rfl) ?_;exact Hq.mend sbq
 simp only [List.drop];refine Hq.yv y_mv ?_;apply Hq.andg (q:=(decide ((x.s 0).high=0) || decide (((x.s 0).c.length:Int) < (x.s 0).high))) 21 17 38 [(0,_),(3,_)] rfl ⟨rfl,rfl,trivial⟩
 ·intro hg2_17
  try simp only [hyZ] at hg2_17
  simp only [List.take];refine Hq.yg rfl rfl y_mv ?_;refine Hq.yg rfl rfl y_np ?_;refine Hq.yg rfl rfl (y_f 1 69 Tryz.underlying71 sz69) ?_;refine Hq.yg rfl rfl (y_f 4 3 Tryz.underlying69 sz3) ?_;refine Hq.yg rfl rfl (y_l1 ag3 rfl) ?_;refine Hq.yg rfl rfl (y_eql rfl rfl) ?_;refine Hq.yg rfl rfl y_mv ?_;apply Hq.org 13 24 37 [(0,_),(3,_),(17,_)] rfl ⟨rfl,rfl,rfl,trivial⟩
  ·intro hg2_24
   try simp only [hyZ] at hg2_24
   simp only [List.take];refine Hq.ng rfl rfl rfl ?_;refine Hq.ng rfl rfl rfl ?_;refine Hq.ng rfl rfl rfl ?_;refine Hq.ng rfl rfl rfl ?_;refine Hq.ng rfl rfl rfl ?_;refine Hq.ng rfl rfl rfl ?_;refine Hq.ng rfl rfl rfl ?_;refine Hq.ng rfl rfl rfl ?_;refine Hq.ng rfl rfl rfl ?_;refine Hq.ng rfl rfl rfl ?_;refine Hq.ng rfl rfl rfl ?_;refine Hq.ng rfl rfl rfl ?_;refine Hq.yg rfl rfl (y_pickT rfl rfl) ?_;exact Hq.mend sbq
  ·intro hg2_24
   try simp only [hyZ] at hg2_24
   simp only [List.take];refine Hq.yg rfl rfl y_mv ?_;refine Hq.yg rfl rfl y_np ?_;refine Hq.yg rfl rfl (y_f 1 69 Tryz.underlying71 sz69) ?_;refine Hq.yg rfl rfl (y_f 0 30 Tryz.underlying69 sz30) ?_;refine Hq.yg rfl rfl (y_l1 ag30 rfl) ?_;refine Hq.yg rfl rfl (y_len Tryz.underlying30 rfl) ?_;refine Hq.yg rfl rfl y_mv ?_;refine Hq.yg rfl rfl y_np ?_;refine Hq.yg rfl rfl (y_f 1 69 Tryz.underlying71 sz69) ?_;refine Hq.yg rfl rfl (y_f 4 3 Tryz.underlying69 sz3) ?_;refine Hq.yg rfl rfl (y_l1 ag3 rfl) ?_;refine Hq.yg rfl rfl (y_lss rfl rfl) ?_;refine Hq.yg rfl rfl (y_pickF rfl rfl) ?_;exact Hq.mend sbq
  simp only [List.drop];refine Hq.yv (y_pickT rfl rfl) ?_;exact Hq.mend sbq
 ·intro hg2_17
  try simp only [hyZ] at hg2_17
  simp only [List.take];refine Hq.ng rfl rfl rfl ?_;refine Hq.ng rfl rfl rfl ?_;refine Hq.ng rfl rfl rfl ?_;refine Hq.ng rfl rfl rfl ?_;refine Hq.ng rfl rfl rfl ?_;refine Hq.ng rfl rfl rfl ?_;refine Hq.ng rfl rfl rfl ?_;refine Hq.ng rfl rfl rfl ?_;refine Hq.ng rfl rfl rfl ?_;refine Hq.ng rfl rfl rfl ?_;refine Hq.ng rfl rfl rfl ?_;refine Hq.ng rfl rfl rfl ?_;refine Hq.ng rfl rfl rfl ?_;refine Hq.ng rfl rfl rfl ?_;refine Hq.ng rfl rfl rfl ?_;refine Hq.ng rfl rfl rfl ?_;refine Hq.ng rfl rfl rfl ?_;refine Hq.ng rfl rfl rfl ?_;refine Hq.ng rfl rfl rfl ?_;refine Hq.ng rfl rfl rfl ?_;refine Hq.yv (y_pickF rfl rfl) ?_;exact Hq.mend sbq
 simp only [List.drop];refine Hq.nil ?_;refine sk [(0,_),(3,_),(38,_)] K4 ?_;refine qz ?_ ?_<;>intro hc0<;>try simp only [hyZ] at hc0
 ·have w0:wa0 (x.s 0)=true:=by unfold wa0;simpa using hc0
  refine Hd.region<|yv y_mv<|yv (y_addn rfl rfl (by simp only [InK];omega)) ?_;refine yv y_as<|fk [(0,_),(3,_)] K3 ?_;refine Hd.seq fun _ K5=>?_
  refine sr fun _ K6=>?_
  refine yv y_mv<|yv y_np<|yv (y_f 8 69 Tryz.underlying71 sz69)<|yv (y_f 1 4 Tryz.underlying69 sz4)<|yv (y_l1 ag4 rfl)<|yv y_mv ?_;apply Hd.andg 7 46 53 [(0,_),(3,_)] rfl sbq
  ·intro hg4_46
   try simp only [hyZ] at hg4_46
   simp only [List.take];refine y2 y_mv<|y2 y_np<|y2 (y_f 8 69 Tryz.underlying71 sz69)<|y2 (y_f 2 4 Tryz.underlying69 sz4)<|y2 (y_l1 ag4 rfl)<|y2 (y_not rfl)<|yv (y_pickT rfl rfl) ?_;exact Hd.mn
  ·intro hg4_46
   try simp only [hyZ] at hg4_46
   simp only [List.take];refine n1<|n1<|n1<|n1<|n1<|n1<|yv (y_pickF rfl rfl) ?_;exact Hd.mn
  simp only [List.drop];refine yv y_mv ?_;apply Hd.andg 8 54 62 [(3,_)] rfl sbq
  ·intro hg4_54
   try simp only [hyZ] at hg4_54
   simp only [List.take];refine y2 y_mv<|y2 y_np<|y2 (y_f 8 69 Tryz.underlying71 sz69)<|y2 (y_f 0 30 Tryz.underlying69 sz30)<|y2 (y_l1 ag30 rfl)<|y2 (y_len Tryz.underlying30 rfl) ?_;refine y2 (y_gtr rfl rfl) ?_;refine yv (y_pickT rfl rfl) ?_;exact Hd.mn
  ·intro hg4_54
   try simp only [hyZ] at hg4_54
   simp only [List.take];refine n1<|n1<|n1<|n1<|n1<|n1<|n1<|yv (y_pickF rfl rfl) ?_;exact Hd.mn
  simp only [List.drop];refine fk [(3,_),(62,_)] K6 ?_;refine qz ?_ ?_<;>intro hc1<;>try simp only [hyZ] at hc1
  ·have w1:wa1 (x.s 1)=true:=by unfold wa1;simpa using hc1
   refine Hd.region<|yv y_mv<|yv (y_addn rfl rfl (by simp only [InK];omega)) ?_;refine yv y_as<|fk [(3,_)] K5 ?_;refine sr fun _ K7=>?_
   refine yv y_mv<|yv y_as<|fk [(2,_)] K7 ?_;refine Hd.ret ?_;exact Hd.ret1 rfl () (by rw [wantsA_eq,w0,w1];rfl) rb_fold
  have w1:wa1 (x.s 1)=false:=andn (hc1.imp id (fun h=>by omega))
  refine qv K5<|sr fun _ K8=>?_
  refine yv y_mv<|yv y_as<|fk [(2,_)] K8 ?_;refine Hd.ret ?_;exact Hd.ret1 rfl () (by rw [wantsA_eq,w0,w1];rfl) rb_fold
 have w0:wa0 (x.s 0)=false:=andor (hc0.imp id (fun h=>⟨by omega,by omega⟩))
 refine qv K3<|Hd.seq fun _ K9=>?_
 refine sr fun _ K10=>?_
 refine yv y_mv<|yv y_np<|yv (y_f 8 69 Tryz.underlying71 sz69)<|yv (y_f 1 4 Tryz.underlying69 sz4)<|yv (y_l1 ag4 rfl)<|yv y_mv ?_;apply Hd.andg 7 46 53 [(0,_),(3,_)] rfl sbq
 ·intro hg4_46
  try simp only [hyZ] at hg4_46
  simp only [List.take];refine y2 y_mv<|y2 y_np<|y2 (y_f 8 69 Tryz.underlying71 sz69)<|y2 (y_f 2 4 Tryz.underlying69 sz4)<|y2 (y_l1 ag4 rfl)<|y2 (y_not rfl)<|yv (y_pickT rfl rfl) ?_;exact Hd.mn
 ·intro hg4_46
  try simp only [hyZ] at hg4_46
  simp only [List.take];refine n1<|n1<|n1<|n1<|n1<|n1<|yv (y_pickF rfl rfl) ?_;exact Hd.mn
 simp only [List.drop];refine yv y_mv ?_;apply Hd.andg 8 54 62 [(3,_)] rfl sbq
 ·intro hg4_54
  try simp only [hyZ] at hg4_54
  simp only [List.take];refine y2 y_mv<|y2 y_np<|y2 (y_f 8 69 Tryz.underlying71 sz69)<|y2 (y_f 0 30 Tryz.underlying69 sz30)<|y2 (y_l1 ag30 rfl)<|y2 (y_len Tryz.underlying30 rfl) ?_;refine y2 (y_gtr rfl rfl) ?_;refine yv (y_pickT rfl rfl) ?_;exact Hd.mn
 ·intro hg4_54
  try simp only [hyZ] at hg4_54
  simp only [List.take];refine n1<|n1<|n1<|n1<|n1<|n1<|n1<|yv (y_pickF rfl rfl) ?_;exact Hd.mn
 simp only [List.drop];refine fk [(3,_),(62,_)] K10 ?_;refine qz ?_ ?_<;>intro hc1<;>try simp only [hyZ] at hc1
 ·have w1:wa1 (x.s 1)=true:=by unfold wa1;simpa using hc1
  refine Hd.region<|yv y_mv<|yv (y_addn rfl rfl (by simp only [InK];omega)) ?_;refine yv y_as<|fk [(3,_)] K9 ?_;refine sr fun _ K11=>?_
  refine yv y_mv<|yv y_as<|fk [(2,_)] K11 ?_;refine Hd.ret ?_;exact Hd.ret1 rfl () (by rw [wantsA_eq,w0,w1];rfl) rb_fold
 have w1:wa1 (x.s 1)=false:=andn (hc1.imp id (fun h=>by omega))
 refine qv K9<|sr fun _ K12=>?_
 refine yv y_mv<|yv y_as<|fk [(2,_)] K12 ?_;refine Hd.ret ?_;exact Hd.ret1 rfl () (by rw [wantsA_eq,w0,w1];rfl) rb_fold
abbrev ToQ (bt:Nat) (t:ToA):SP:=pt bt (encT t) 62
theorem eoN (a:Bool) (b:Int) (h:¬ (a=true∨b≠0)):a=false∧b=0:=by
 cases a
 ·exact ⟨rfl,Decidable.byContradiction fun g=>h (.inr g)⟩
 ·exact absurd (.inl rfl) h
theorem rread26_ct (L:List SP) (b rb bt:Nat) (x:BfA) (w:WA) (hw:WOk w) (ht:TmOk x) (hcl:(x.s 0).c.length≤1048576) (hh:InK .i64 (x.s 0).high) (now most:Int) (hn:InK .u64 now) (hm:InK .i64 most):Ct Tryz.prog 76 #[.pointer (some ⟨b,0,none⟩),.pointer (some ⟨rb,0,none⟩),.int .u64 now,.int .i64 most,.pointer (some ⟨bt,0,none⟩)] (RbP b x::Rf.RwP rb w::ToQ bt noT::L) (fun _:Unit=>.tuple #[]) (fun _:Unit=>RbP b (readS ⟨x,w,noT⟩ now most).x::Rf.RwP rb (readS ⟨x,w,noT⟩ now most).w::ToQ bt (readS ⟨x,w,noT⟩ now most).t::L):=by
 refine Ct.o5 Tryz.func76 ?_;intro E
 show Hd E 143 _ _ _ _
 simp only [InK] at hh hm;refine Hd.rb .here (fun i=>?_);refine Hd.ownCap (e:=5) (ad:=i.a0) (m:=(x.s 0).c.length) (cap:=i.c0) pkk (fun hcap=>?_)
 have hS:¬ rdN (x.s 0) most < 1→readS ⟨x,w,noT⟩ now most=rdP ⟨x,w,noT⟩ now (readR w x.fd (rdN (x.s 0) most)):=fun h=>if_neg h
 have hle:=readR_le w x.fd (rdN (x.s 0) most)
 have hend:=readR_end w x.fd (rdN (x.s 0) most)
 obtain ⟨N,hN⟩:∃ N,rdN (x.s 0) most=N:=⟨_,rfl⟩
 have hN0:=hN
 unfold rdN at hN0;rw [hN] at hS hle hend
 obtain ⟨⟨⟨bs,eo,ec⟩,w'⟩,hrr⟩:∃ rr,readR w x.fd N=rr:=⟨_,rfl⟩
 rw [hrr] at hS hle hend;dsimp only at hle hend;refine sr fun _ K1=>?_
 refine yv y_mv<|yv y_mv<|yv y_np<|yv (y_f 1 69 Tryz.underlying71 sz69)<|yv (y_f 0 30 Tryz.underlying69 sz30)<|yv (y_l1 ag30 rfl)<|yv (y_len Tryz.underlying30 rfl) ?_;refine yv (y_subn rfl rfl (by simp only [InK];omega)) ?_;refine yv (y_min rfl rfl) ?_;refine yv (y_min rfl rfl) ?_;refine yv y_as<|fk [(0,_),(1,_),(2,_),(4,_),(10,_)] K1 ?_;refine Hd.cutK (ι:=Unit) [(0,_),(1,_),(2,_),(4,_)] (fun _=>[(10,.int .i64 N)]) (fun _=>RbL b x i (Rf.RwP rb w::ToQ bt noT::L)) ?_ ?_ ⟨rfl,rfl,rfl,rfl,trivial⟩
 ·refine sr fun _ K2=>?_
  refine yv y_mv<|yv y_np<|yv (y_f 1 69 Tryz.underlying71 sz69)<|yv (y_f 4 3 Tryz.underlying69 sz3)<|yv (y_l1 ag3 rfl)<|yv (y_gtr rfl rfl) ?_;refine fk [(0,_),(1,_),(2,_),(4,_),(10,_),(30,_)] K2 ?_;refine qz ?_ ?_<;>intro hc0<;>try simp only [hyZ] at hc0
  ·refine Hd.quiet mixed kq ?_
   refine Hq.yv y_mv ?_;refine Hq.yv y_mv ?_;refine Hq.yv y_np ?_;refine Hq.yv (y_f 1 69 Tryz.underlying71 sz69) ?_;refine Hq.yv (y_f 4 3 Tryz.underlying69 sz3) ?_;refine Hq.yv (y_l1 ag3 rfl) ?_;refine Hq.yv y_mv ?_;refine Hq.yv y_np ?_;refine Hq.yv (y_f 1 69 Tryz.underlying71 sz69) ?_;refine Hq.yv (y_f 0 30 Tryz.underlying69 sz30) ?_;refine Hq.yv (y_l1 ag30 rfl) ?_;refine Hq.yv (y_len Tryz.underlying30 rfl) ?_;refine Hq.yv (y_subn rfl rfl (by simp only [InK];omega)) ?_;refine Hq.yv (y_min rfl rfl) ?_;refine Hq.yv y_as ?_;refine Hq.nil ?_;refine slots [(0,_),(1,_),(2,_),(4,_),(10,_)] sbq ?_;refine thenN ?_;rw [if_pos hc0] at hN0;exact Hd.meet () ⟨congrArg (fun z=>some (Value.int .i64 z)) (by omega),by repeat (first | exact trivial | refine ⟨rfl,?_⟩)⟩ sq
  refine Hd.skip<|thenN ?_;rw [if_neg (by omega)] at hN0;exact Hd.meet () ⟨congrArg (fun z=>some (Value.int .i64 z)) (by omega),by repeat (first | exact trivial | refine ⟨rfl,?_⟩)⟩ sq
 intro _;refine Hd.seq fun _ K3=>?_
 refine sr fun _ K4=>?_
 refine yv y_mv<|yv (y_lss rfl rfl) ?_;refine fk [(0,_),(1,_),(2,_),(4,_),(10,_),(46,_)] K4 ?_;refine qz ?_ ?_<;>intro hc1<;>try simp only [hyZ] at hc1
 ·refine Hd.ret ?_
  refine Hd.thenRet ?_;rw [show readS ⟨x,w,noT⟩ now most=⟨x,w,noT⟩ from if_pos (by rw [hN];exact hc1)];exact Hd.ret0 rfl () rfl (fun q s=>rb_fold q (Ent.sep enn q s))
 have hbl:bs.length≤1048576 - (x.s 0).c.length:=by
  split at hN0<;>omega
 have hap:=addA_app hbl
 refine qv K3<|sr fun _ K5=>?_
 refine yv y_mv<|yv y_mv<|yv y_np<|yv (y_f 0 3 Tryz.underlying71 sz3)<|yv (y_l1 ag3 rfl)<|yv y_mv<|callE rfl fk55 (Rf.rRead_ct _ rb w hw x.fd N) sq ?_;rintro ⟨ad,c⟩;rw [hrr];dsimp only;refine yv y_mv<|yv y_ex<|yv y_ex<|yv y_ex<|yv y_as<|yv y_as<|yv y_as<|fk [(0,_),(2,_),(4,_),(11,_),(12,_),(13,_)] K5 ?_;refine Hd.seq fun _ K6=>?_
 refine sr fun _ K7=>?_
 refine yv y_mv<|yv (y_eql rfl rfl) ?_;refine fk [(0,_),(2,_),(4,_),(11,_),(12,_),(13,_),(59,_)] K7 ?_;refine qz ?_ ?_<;>intro hc2<;>try simp only [hyZ] at hc2
 ·refine Hd.ret ?_
  refine Hd.thenRet ?_
  have heo:eo=false:=by
   cases eo
   ·rfl
   ·have:=hend rfl;omega
  rw [show readS ⟨x,w,noT⟩ now most=⟨x,w',noT⟩ from (hS (by omega)).trans<|(if_neg (by rw [heo];simp)).trans (if_pos hc2)];exact Hd.ret0 rfl () rfl (fun q s=>rb_fold q (Ent.sep enn q s))
 refine qv K6<|Hd.seq fun _ K8=>?_
 refine sr fun _ K9=>?_
 refine yv y_mv<|yv y_mv ?_;apply Hd.org 3 61 64 [(0,_),(2,_),(4,_),(11,_),(12,_),(13,_)] rfl sbq
 ·intro hg6_61
  try simp only [hyZ] at hg6_61
  simp only [List.take];refine n1<|n1<|yv (y_pickT rfl rfl) ?_;exact Hd.mn
 ·intro hg6_61
  try simp only [hyZ] at hg6_61
  simp only [List.take];refine y2 y_mv<|y2 (y_neq rfl rfl) ?_;refine yv (y_pickF rfl rfl) ?_;exact Hd.mn
 simp only [List.drop];refine fk [(0,_),(2,_),(4,_),(11,_),(12,_),(13,_),(64,_)] K9 ?_;refine qz ?_ ?_<;>intro hc3<;>try simp only [hyZ] at hc3
 ·refine sr fun _ K10=>?_
  refine yv y_mv<|yv y_np<|yv (y_f 1 69 Tryz.underlying71 sz69)<|yv (y_f 1 4 Tryz.underlying69 sz4)<|Hd.store1 sz4 rfl rfl rfl pkk (by simp;done) ?_
  try simp only [hyS]
  refine fk [(0,_),(4,_),(12,_),(13,_)] K10 ?_;refine sr fun _ K11=>?_
  refine yv y_mv<|yv y_np<|yv (y_f 1 69 Tryz.underlying71 sz69)<|yv (y_f 2 4 Tryz.underlying69 sz4)<|Hd.store1 sz4 rfl rfl rfl pkk (by simp;done) ?_
  try simp only [hyS]
  refine fk [(0,_),(4,_),(12,_),(13,_)] K11 ?_;refine sr fun _ K12=>?_
  refine yv y_mv<|yv y_np<|yv (y_f 1 69 Tryz.underlying71 sz69)<|yv (y_f 6 29 Tryz.underlying69 sz29)<|Hd.store1 sz29 rfl rfl rfl pkk (by simp;done) ?_
  try simp only [hyS]
  refine fk [(4,_),(12,_),(13,_)] K12 ?_;refine sr fun _ K13=>?_
  refine yv y_mv<|yv y_mv<|yv y_np<|yv (y_f 2 3 Tryz.underlying62 sz3)<|yv (y_l1 ag3 rfl)<|yv (y_add rfl rfl) ?_;refine yv y_np<|yv (y_f 2 3 Tryz.underlying62 sz3)<|Hd.store1 sz3 rfl rfl rfl pkk (by decide) ?_
  try simp only [hyS]
  refine fk [(4,_),(12,_),(13,_)] K13 ?_;refine Hd.seq fun _ K14=>?_
  refine sr fun _ K15=>?_
  refine yv y_mv<|fk [(4,_),(13,_),(85,_)] K15 ?_;refine qz ?_ ?_<;>intro hc4<;>try simp only [hyZ] at hc4
  ·refine Hd.region ?_
   refine yv y_mv<|yv y_mv<|yv y_np<|yv (y_f 2 3 Tryz.underlying62 sz3)<|yv (y_l1 ag3 rfl)<|yv (y_add rfl rfl) ?_;refine yv y_np<|yv (y_f 2 3 Tryz.underlying62 sz3)<|Hd.store1 sz3 rfl rfl rfl pkk (by decide) ?_
   try simp only [hyS]
   refine fk [] K14 ?_;refine Hd.ret<|Hd.thenRet ?_;rw [show readS ⟨x,w,noT⟩ now most=⟨x.up 0 fun s=>stopF s,w',stopT noT 17 0⟩ from (hS (by omega)).trans (if_pos hc4)];exact Hd.ret0 rfl () rfl (fun q s=>rb_put (fd:=x.fd) (a0:=i.a0) (c0:=i.c0) (a1:=i.a1) (c1:=i.c1) (x':=x.up 0 fun s=>stopF s) (s:=stopF (x.s 0)) (t:=x.s 1) rfl rfl rfl q (Ent.sep (.pick pkk (.pick pkk (.pick pkk (.pick pkk (.eq pkk (pt_eq (by rfl)) enn))))) q s))
  refine sr fun _ K16=>?_
  refine yv y_mv<|yv y_mv<|yv y_np<|yv (y_f 2 3 Tryz.underlying62 sz3)<|yv (y_l1 ag3 rfl)<|yv (y_add rfl rfl) ?_;refine yv y_np<|yv (y_f 2 3 Tryz.underlying62 sz3)<|Hd.store1 sz3 rfl rfl rfl pkk (by decide) ?_
  try simp only [hyS]
  refine fk [(4,_),(13,_)] K16 ?_;refine Hd.region<|yv y_mv<|yv y_mv<|yv y_np<|yv (y_f 3 3 Tryz.underlying62 sz3)<|Hd.store1 sz3 rfl rfl rfl pkk (by decide) ?_
  try simp only [hyS]
  refine fk [] K14 ?_;refine Hd.ret<|Hd.thenRet ?_
  have hec:ec≠0:=by
   rcases hc3 with g | g
   ·rw [hc4] at g;exact absurd g (by decide)
   ·exact g
  rw [show readS ⟨x,w,noT⟩ now most=⟨x.up 0 fun s=>stopF s,w',stopT noT 33 ec⟩ from (hS (by omega)).trans<|(if_neg (by rw [hc4];simp)).trans ((if_neg hc2).trans (if_pos hec))];exact Hd.ret0 rfl () rfl (fun q s=>rb_put (fd:=x.fd) (a0:=i.a0) (c0:=i.c0) (a1:=i.a1) (c1:=i.c1) (x':=x.up 0 fun s=>stopF s) (s:=stopF (x.s 0)) (t:=x.s 1) rfl rfl rfl q (Ent.sep (.pick pkk (.pick pkk (.pick pkk (.pick pkk (.eq pkk (pt_eq (by rfl)) enn))))) q s))
 have hc3':=eoN eo ec (by simpa using hc3)
 refine qv K8<|sr fun _ K17=>?_
 refine yv y_as<|fk [(0,_),(2,_),(4,_),(11,_),(14,_)] K17 ?_;refine Hd.seq fun _ K18=>?_
 refine Hd.ownNil 5 1 none ?_;refine Hd.region<|yv y_mv<|yv y_mv<|yv y_np<|yv (y_f 1 69 Tryz.underlying71 sz69)<|yv (y_f 0 30 Tryz.underlying69 sz30)<|yv (y_l1 ag30 rfl)<|Hd.append Tryz.underlying30 ty5 rfl rfl rfl pkk (by first | exact RdS.rd (Rd.pt pkk (fun j v e=>by simpa using e)) rfl | (exact RdS.own pkk)) (by simp [Value.oneCell'];done) (by simp only [maxLen];omega) (by omega) (fun ad112 cap112=>?_);refine yv y_as<|fk [(0,_),(2,_),(4,_),(11,_),(14,_)] K18 ?_;refine sr fun _ K19=>?_
 refine yv y_mv<|yv y_mv<|yv y_mv<|Hd.append Tryz.underlying30 ty5 rfl rfl rfl pkk (by first | exact RdS.rd (Rd.pt pkk (fun j v e=>by simpa using e)) rfl | (exact RdS.own pkk)) (by simp [Value.oneCell'];done) (by simp only [maxLen];omega) (by omega) (fun ad116 cap116=>?_);refine yv y_np<|yv (y_f 1 69 Tryz.underlying71 sz69)<|yv (y_f 0 30 Tryz.underlying69 sz30)<|Hd.store1 sz30 rfl rfl rfl pkk (by simp;done) ?_
 try simp only [hyS]
 refine Hd.nil<|Hd.heap (RbH b x.fd ad116 cap116 { x.s 0 with c:=(x.s 0).c++bs } i.a1 i.c1 (x.s 1)::OwB ad116 cap116 ((x.s 0).c++bs)::OwB i.a1 i.c1 (x.s 1).c::Rf.RwP rb w'::ToQ bt noT::L) (fun q s=>Ent.sep (.eq pkk (pt_eq (by simp only [encRb,List.length_append,Nat.zero_add])) (.eq pkk (own_eq3 (by rw [List.length_append,Nat.zero_add]) rfl (by unfold bsl;simp)) enn)) q s) ?_;refine sk [(0,_),(2,_),(4,_),(11,_)] K19 ?_;refine sr fun _ K20=>?_
 refine yv y_mv<|yv y_mv<|yv (y_len Tryz.underlying30 rfl) ?_;refine yv y_np<|yv (y_f 4 3 Tryz.underlying62 sz3)<|Hd.store1 sz3 rfl rfl rfl pkk (by decide) ?_
 try simp only [hyS]
 refine fk [(0,_),(2,_),(4,_)] K20 ?_;refine Hd.seq fun _ K21=>?_
 refine Hd.drawsH ([RbH b x.fd ad116 cap116 { x.s 0 with c:=(x.s 0).c++bs } i.a1 i.c1 (x.s 1)]) (fun j=>!(([1000]:List Nat).contains j)) mixed ?_;simp only [List.length,Nat.zero_add,Nat.reduceAdd];refine tH 0 rfl y_mv<|tH 1 rfl y_mv<|tH 2 rfl y_np<|tH 3 rfl (y_f 1 69 Tryz.underlying71 sz69)<|tH 4 rfl (y_f 0 30 Tryz.underlying69 sz30)<|tH 5 rfl (y_l1 ag30 rfl)<|tH 6 rfl (y_len Tryz.underlying30 rfl) ?_;refine tH 7 rfl y_mv<|tH 8 rfl y_np<|tH 9 rfl (y_f 1 69 Tryz.underlying71 sz69)<|tH 10 rfl (y_f 3 3 Tryz.underlying69 sz3)<|tH 11 rfl (y_l1 ag3 rfl)<|tH 12 rfl (y_geq rfl rfl) ?_;refine tH 13 rfl y_np<|tH 14 rfl (y_f 0 4 Tryz.underlying62 sz4)<|qo 15 ?_;refine Hd.store1 sz4 rfl rfl rfl pkk (by simp;done) ?_
 try simp only [hyS]
 refine qk<|endH kq ?_;refine sk [(0,_),(2,_)] K21 ?_;refine Hd.region<|yv y_mv<|yv y_mv<|callE rfl fk69 (rsetIn_ct _ b x.fd ad116 cap116 { x.s 0 with c:=(x.s 0).c++bs } i.a1 i.c1 (x.s 1) now hn (ht 0 (by decide)).1) sq ?_;intro _;refine Hd.nil<|slots [] sbq ?_;rw [show readS ⟨x,w,noT⟩ now most=⟨x.up 0 (getF now bs),w',{ noT with i:=(bs.length:Int),r:=decide (((addA (x.s 0).c bs).length:Int) ≥ (x.s 0).low) }⟩ from (hS (by omega)).trans<|(if_neg (by rw [hc3'.1];simp)).trans ((if_neg hc2).trans (if_neg (fun g=>g hc3'.2))),hap];exact Hd.end0 rfl () rfl (fun q s=>rb_put (fd:=x.fd) (a0:=ad116) (c0:=cap116) (a1:=i.a1) (c1:=i.c1) (x':=x.up 0 (getF now bs)) (s:=setA 0 now { x.s 0 with c:=(x.s 0).c++bs }) (t:=x.s 1) (by show setA 0 now { x.s 0 with c:=addA (x.s 0).c bs }=_;rw [hap]) rfl rfl q (Ent.sep (.pick pkk (.pick pkk (.pick pkk (.pick pkk (.eq pkk (pt_eq (by rfl)) enn))))) q s))
def Ev3 (t:ToA):Prop:=t.ev=0∨t.ev=17∨t.ev=33
theorem off_take {s:SdA} {much N:Int} (h:N=min much (min 4096 (s.c.length:Int))) (h1:¬ N < 1):offA s much=s.c.take N.toNat∧(s.c.take N.toNat).length=N.toNat:=by
 have hl:(s.c.take N.toNat).length=N.toNat:=by rw [List.length_take];omega
 refine ⟨?_,hl⟩;unfold offA Bc.cpy;rw [if_neg (by omega),show (0:Int).toNat=0 from rfl,List.drop_zero];apply List.ext_getElem?;intro i;rw [List.getElem?_take,List.getElem?_take]
 split<;>split
 ·rfl
 ·exact List.getElem?_eq_none (by omega)
 ·exact (List.getElem?_eq_none (by omega)).symm
 ·rfl
theorem off_none {s:SdA} {much N:Int} (h:N=min much (min 4096 (s.c.length:Int))) (h1:N < 1):(offA s much).length=0:=by
 unfold offA Bc.cpy
 split
 ·rfl
 ·rw [show (0:Int).toNat=0 from rfl,List.drop_zero,List.length_take];omega
theorem rd_take {L L':List SP} {e m cap kn:Nat} {ad:Option Addr} {l:List UInt8} (p:Pick L (RX.own e 1 ad m cap (bsl l)) L') (hk:kn≤m):RdS L 1 ad kn (bsl (l.take kn)):=by
 have:=(RdS.own p).head hk
 rwa [Nat.mul_one,bsl_take] at this
theorem ev_yes {n:Int} (h:n=0∨n=17∨n=33) (hc:(n + 2) / 32 % 2=0):bits .or .i64 n 34=n + 2 + 32:=by
 rcases h with rfl | rfl | rfl<;>revert hc<;>decide
theorem ev_no {n:Int} (h:n=0∨n=17∨n=33) (hc:¬ (n + 2) / 32 % 2=0):bits .or .i64 n 34=n + 2:=by
 rcases h with rfl | rfl | rfl<;>revert hc<;>decide
theorem rwrite26_ct (L:List SP) (b rb bt:Nat) (x:BfA) (w:WA) (t:ToA) (te:Ev3 t) (hw:WOk w) (ht:TmOk x) (hcl:(x.s 1).c.length≤1048576) (now much:Int) (hn:InK .u64 now) (hm:InK .i64 much):Ct Tryz.prog 77 #[.pointer (some ⟨b,0,none⟩),.pointer (some ⟨rb,0,none⟩),.int .u64 now,.int .i64 much,.pointer (some ⟨bt,0,none⟩)] (RbP b x::Rf.RwP rb w::ToQ bt t::L) (fun _:Unit=>.tuple #[]) (fun _:Unit=>RbP b (writeS ⟨x,w,t⟩ now much).x::Rf.RwP rb (writeS ⟨x,w,t⟩ now much).w::ToQ bt (writeS ⟨x,w,t⟩ now much).t::L):=by
 refine Ct.o5 Tryz.func77 ?_;intro E
 show Hd E 121 _ _ _ _
 simp only [InK] at hm;refine Hd.rb .here (fun i=>?_);refine Hd.ownCap (e:=5) (ad:=i.a1) (m:=(x.s 1).c.length) (cap:=i.c1) pkk (fun hcap=>?_)
 obtain ⟨N,hN⟩:∃ N,N=min much (min 4096 ((x.s 1).c.length:Int)):=⟨_,rfl⟩
 have hte:t.ev=0∨t.ev=17∨t.ev=33:=te
 refine sr fun _ K1=>?_
 refine yv y_mv<|yv y_mv<|yv y_np<|yv (y_f 8 69 Tryz.underlying71 sz69)<|yv (y_f 0 30 Tryz.underlying69 sz30)<|yv (y_l1 ag30 rfl)<|yv (y_len Tryz.underlying30 rfl) ?_;refine yv (y_min rfl rfl) ?_;refine yv (y_to (v':=.int .i64 N) (y_min rfl rfl) (by (rw [hN]))) ?_;refine yv y_as<|fk [(0,_),(1,_),(2,_),(4,_),(10,_)] K1 ?_;refine Hd.seq fun _ K2=>?_
 refine sr fun _ K3=>?_
 refine yv y_mv<|yv (y_lss rfl rfl) ?_;refine fk [(0,_),(1,_),(2,_),(4,_),(10,_),(23,_)] K3 ?_;refine qz ?_ ?_<;>intro hc0<;>try simp only [hyZ] at hc0
 ·refine Hd.ret ?_
  refine Hd.thenRet ?_;rw [show writeS ⟨x,w,t⟩ now much=⟨x,w,t⟩ from if_pos (off_none hN hc0)];exact Hd.ret0 rfl () rfl rb_fold
 obtain ⟨hof,hol⟩:=off_take hN (by omega)
 obtain ⟨kn,hkn⟩:∃ k:Nat,N=(k:Int):=⟨N.toNat,by omega⟩
 have hkl:kn≤(x.s 1).c.length:=by omega
 rw [hkn,Int.toNat_natCast] at hof hol
 have hS:writeS ⟨x,w,t⟩ now much=wrP ⟨x,w,t⟩ now (writeR w x.fd ((x.s 1).c.take kn)):=by
  rw [←hof];exact if_neg (by rw [hof,hol];omega)
 have hle:=writeR_le w x.fd ((x.s 1).c.take kn)
 have hge:=writeR_ge w x.fd ((x.s 1).c.take kn)
 obtain ⟨⟨⟨m,ec⟩,w'⟩,hrr⟩:∃ rr,writeR w x.fd ((x.s 1).c.take kn)=rr:=⟨_,rfl⟩
 rw [hrr] at hS hle hge;dsimp only at hle hge;rw [hol] at hle
 obtain ⟨mn,hmn⟩:∃ k:Nat,m=(k:Int):=⟨m.toNat,by omega⟩
 subst hmn;rw [hkn];refine qv K2<|Hd.seq fun _ K4=>?_
 refine Hd.drawsH ([RbH b x.fd i.a0 i.c0 (x.s 0) i.a1 i.c1 (x.s 1)]) (fun _=>true) mixed ?_;simp only [List.length,Nat.zero_add,Nat.reduceAdd];refine tH 0 rfl y_mv<|tH 1 rfl y_mv<|tH 2 rfl y_np<|tH 3 rfl (y_f 0 3 Tryz.underlying71 sz3)<|tH 4 rfl (y_l1 ag3 rfl)<|tH 5 rfl y_mv<|tH 6 rfl y_np<|tH 7 rfl (y_f 8 69 Tryz.underlying71 sz69)<|tH 8 rfl (y_f 0 30 Tryz.underlying69 sz30)<|tH 9 rfl (y_l1 ag30 rfl)<|tH 10 rfl y_mv<|tH 11 rfl (y_slo_xoxN Tryz.underlying30 sz5 rfl rfl (by omega)) ?_;refine qo 12 ?_;refine callE rfl fk56 (Rf.rWrite_ct _ rb w hw x.fd i.a1 kn i.c1 ((x.s 1).c.take kn) hol ?hA (by omega) (by omega)) sq ?_
 case hA=>exact rd_take (ad:=i.a1) pkk hkl
 intro _;rw [hrr];dsimp only;refine qk<|tH 13 rfl y_mv<|tH 14 rfl y_ex<|tH 15 rfl y_ex<|tH 16 rfl y_as<|tH 17 rfl y_as<|endH kq ?_;refine sk [(0,_),(2,_),(4,_),(11,_),(12,_)] K4 ?_;refine Hd.seq fun _ K5=>?_
 refine sr fun _ K6=>?_
 refine yv y_mv<|yv (y_eql rfl rfl) ?_;refine fk [(0,_),(2,_),(4,_),(11,_),(12,_),(41,_)] K6 ?_;refine qz ?_ ?_<;>intro hc1<;>try simp only [hyZ] at hc1
 ·refine Hd.ret ?_
  refine Hd.thenRet ?_;rw [show writeS ⟨x,w,t⟩ now much=⟨x,w',t⟩ from hS.trans<|(if_neg (by show ¬ ec=0;omega)).trans (if_pos hc1)];exact Hd.ret0 rfl () rfl (fun q s=>rb_fold q (Ent.sep enn q s))
 refine qv K5<|Hd.seq fun _ K7=>?_
 refine sr fun _ K8=>?_
 refine yv y_mv<|yv (y_neq rfl rfl) ?_;refine fk [(0,_),(2,_),(4,_),(11,_),(12,_),(43,_)] K8 ?_;refine qz ?_ ?_<;>intro hc2<;>try simp only [hyZ] at hc2
 ·refine sr fun _ K9=>?_
  refine yv y_mv<|yv y_np<|yv (y_f 8 69 Tryz.underlying71 sz69)<|yv (y_f 1 4 Tryz.underlying69 sz4)<|Hd.store1 sz4 rfl rfl rfl pkk (by simp;done) ?_
  try simp only [hyS]
  refine fk [(0,_),(4,_),(12,_)] K9 ?_;refine sr fun _ K10=>?_
  refine yv y_mv<|yv y_np<|yv (y_f 8 69 Tryz.underlying71 sz69)<|yv (y_f 2 4 Tryz.underlying69 sz4)<|Hd.store1 sz4 rfl rfl rfl pkk (by simp;done) ?_
  try simp only [hyS]
  refine fk [(0,_),(4,_),(12,_)] K10 ?_;refine sr fun _ K11=>?_
  refine yv y_mv<|yv y_np<|yv (y_f 8 69 Tryz.underlying71 sz69)<|yv (y_f 6 29 Tryz.underlying69 sz29)<|Hd.store1 sz29 rfl rfl rfl pkk (by simp;done) ?_
  try simp only [hyS]
  refine fk [(4,_),(12,_)] K11 ?_;refine sr fun _ K12=>?_
  refine yv y_mv<|yv y_mv<|yv y_np<|yv (y_f 2 3 Tryz.underlying62 sz3)<|yv (y_l1 ag3 rfl)<|yv (y_addn rfl rfl (by simp only [InK];omega)) ?_;refine yv y_np<|yv (y_f 2 3 Tryz.underlying62 sz3)<|Hd.store1 sz3 rfl rfl rfl pkk (by simp;done) ?_
  try simp only [hyS]
  refine fk [(4,_),(12,_)] K12 ?_;refine Hd.seq fun _ K13=>?_
  refine sr fun _ K14=>?_
  refine yv y_mv<|yv y_np<|yv (y_f 2 3 Tryz.underlying62 sz3)<|yv (y_l1 ag3 rfl)<|yv (y_quon rfl rfl (by omega) (by omega) (by simp only [InK];omega)) ?_;refine yv (y_remn rfl rfl (by omega) (by omega)) ?_;refine yv (y_eql rfl rfl) ?_;refine fk [(4,_),(12,_),(70,_)] K14 ?_;refine qz ?_ ?_<;>intro hc3<;>try simp only [hyZ] at hc3
  ·have hE:=ev_yes hte hc3
   refine Hd.region<|yv y_mv<|yv y_mv<|yv y_np<|yv (y_f 2 3 Tryz.underlying62 sz3)<|yv (y_l1 ag3 rfl)<|yv (y_addn rfl rfl (by simp only [InK];omega)) ?_;refine yv y_np<|yv (y_f 2 3 Tryz.underlying62 sz3)<|Hd.store1 sz3 rfl rfl rfl pkk (by simp;done) ?_
   try simp only [hyS]
   refine fk [(4,_),(12,_)] K13 ?_;refine Hd.seq fun _ K15=>?_
   refine sr fun _ K16=>?_
   refine yv y_mv<|yv y_np<|yv (y_f 3 3 Tryz.underlying62 sz3)<|yv (y_l1 ag3 rfl)<|yv (y_eql rfl rfl) ?_;refine fk [(4,_),(12,_),(83,_)] K16 ?_;refine qz ?_ ?_<;>intro hc4<;>try simp only [hyZ] at hc4
   ·have hF:stopE t ec=ec:=if_pos hc4
    refine Hd.region<|yv y_mv<|yv y_mv<|yv y_np<|yv (y_f 3 3 Tryz.underlying62 sz3)<|Hd.store1 sz3 rfl rfl rfl pkk (by simp;done) ?_
    try simp only [hyS]
    refine fk [] K15 ?_;refine Hd.ret<|Hd.thenRet ?_;rw [show writeS ⟨x,w,t⟩ now much=⟨x.up 1 fun s=>stopF s,w',stopT t 34 ec⟩ from hS.trans<|(if_neg (by exact hc2)).trans (if_neg (by exact hc1))];exact Hd.ret0 rfl () rfl (fun q s=>rb_put (fd:=x.fd) (a0:=i.a0) (c0:=i.c0) (a1:=i.a1) (c1:=i.c1) (x':=x.up 1 fun s=>stopF s) (s:=x.s 0) (t:=stopF (x.s 1)) rfl rfl rfl q (Ent.sep (.pick pkk (.pick pkk (.pick pkk (.pick pkk (.eq pkk (pt_eq (by show _=[Value.bool t.r,.bool t.w,.int .i64 (bits .or .i64 t.ev 34),.int .i64 (stopE t ec),.int .i64 t.i,.int .i64 t.o];rw [hE,hF];rfl)) enn))))) q s))
   have hF:stopE t ec=t.e:=if_neg hc4
   refine qv K15<|Hd.ret<|Hd.thenRet ?_;rw [show writeS ⟨x,w,t⟩ now much=⟨x.up 1 fun s=>stopF s,w',stopT t 34 ec⟩ from hS.trans<|(if_neg (by exact hc2)).trans (if_neg (by exact hc1))];exact Hd.ret0 rfl () rfl (fun q s=>rb_put (fd:=x.fd) (a0:=i.a0) (c0:=i.c0) (a1:=i.a1) (c1:=i.c1) (x':=x.up 1 fun s=>stopF s) (s:=x.s 0) (t:=stopF (x.s 1)) rfl rfl rfl q (Ent.sep (.pick pkk (.pick pkk (.pick pkk (.pick pkk (.eq pkk (pt_eq (by show _=[Value.bool t.r,.bool t.w,.int .i64 (bits .or .i64 t.ev 34),.int .i64 (stopE t ec),.int .i64 t.i,.int .i64 t.o];rw [hE,hF];done)) enn))))) q s))
  have hE:=ev_no hte hc3
  refine qv K13<|Hd.seq fun _ K17=>?_
  refine sr fun _ K18=>?_
  refine yv y_mv<|yv y_np<|yv (y_f 3 3 Tryz.underlying62 sz3)<|yv (y_l1 ag3 rfl)<|yv (y_eql rfl rfl) ?_;refine fk [(4,_),(12,_),(83,_)] K18 ?_;refine qz ?_ ?_<;>intro hc4<;>try simp only [hyZ] at hc4
  ·have hF:stopE t ec=ec:=if_pos hc4
   refine Hd.region<|yv y_mv<|yv y_mv<|yv y_np<|yv (y_f 3 3 Tryz.underlying62 sz3)<|Hd.store1 sz3 rfl rfl rfl pkk (by simp;done) ?_
   try simp only [hyS]
   refine fk [] K17 ?_;refine Hd.ret<|Hd.thenRet ?_;rw [show writeS ⟨x,w,t⟩ now much=⟨x.up 1 fun s=>stopF s,w',stopT t 34 ec⟩ from hS.trans<|(if_neg (by exact hc2)).trans (if_neg (by exact hc1))];exact Hd.ret0 rfl () rfl (fun q s=>rb_put (fd:=x.fd) (a0:=i.a0) (c0:=i.c0) (a1:=i.a1) (c1:=i.c1) (x':=x.up 1 fun s=>stopF s) (s:=x.s 0) (t:=stopF (x.s 1)) rfl rfl rfl q (Ent.sep (.pick pkk (.pick pkk (.pick pkk (.pick pkk (.eq pkk (pt_eq (by show _=[Value.bool t.r,.bool t.w,.int .i64 (bits .or .i64 t.ev 34),.int .i64 (stopE t ec),.int .i64 t.i,.int .i64 t.o];rw [hE,hF];rfl)) enn))))) q s))
  have hF:stopE t ec=t.e:=if_neg hc4
  refine qv K17<|Hd.ret<|Hd.thenRet ?_;rw [show writeS ⟨x,w,t⟩ now much=⟨x.up 1 fun s=>stopF s,w',stopT t 34 ec⟩ from hS.trans<|(if_neg (by exact hc2)).trans (if_neg (by exact hc1))];exact Hd.ret0 rfl () rfl (fun q s=>rb_put (fd:=x.fd) (a0:=i.a0) (c0:=i.c0) (a1:=i.a1) (c1:=i.c1) (x':=x.up 1 fun s=>stopF s) (s:=x.s 0) (t:=stopF (x.s 1)) rfl rfl rfl q (Ent.sep (.pick pkk (.pick pkk (.pick pkk (.pick pkk (.eq pkk (pt_eq (by show _=[Value.bool t.r,.bool t.w,.int .i64 (bits .or .i64 t.ev 34),.int .i64 (stopE t ec),.int .i64 t.i,.int .i64 t.o];rw [hE,hF];done)) enn))))) q s))
 refine qv K7<|sr fun _ K19=>?_
 refine yv y_mv<|yv y_mv<|yv y_np<|yv (y_f 8 69 Tryz.underlying71 sz69)<|yv (y_f 0 30 Tryz.underlying69 sz30)<|yv (y_l1 ag30 rfl)<|yv y_mv<|yv (y_slo_oxxN Tryz.underlying30 sz5 rfl rfl (by omega)) ?_;refine yv y_np<|yv (y_f 8 69 Tryz.underlying71 sz69)<|yv (y_f 0 30 Tryz.underlying69 sz30)<|Hd.store1 sz30 rfl rfl rfl pkk (by simp;done) ?_
 try simp only [hyS]
 refine Hd.nil<|Hd.ownSplit (e:=5) (ad:=i.a1) (m:=(x.s 1).c.length) (cap:=i.c1) (us:=bsl (x.s 1).c) pkk mn (bsl ((x.s 1).c.take mn)) (bsl ((x.s 1).c.drop mn)) (by omega) (by unfold bsl;rw [←List.map_append,List.take_append_drop]) (by unfold bsl;rw [List.length_map,List.length_take];omega) ?_;refine Hd.heap (RbH b x.fd i.a0 i.c0 (x.s 0) (cutA i.a1 1 mn i.c1) (i.c1 - mn) { x.s 1 with c:=(x.s 1).c.drop mn }::OwB i.a0 i.c0 (x.s 0).c::OwB (cutA i.a1 1 mn i.c1) (i.c1 - mn) ((x.s 1).c.drop mn)::Rf.RwP rb w'::ToQ bt t::L) (fun q s=>Ent.sep (.eq pkk (pt_eq (by simp only [encRb,List.length_drop])) (.pick pkk (.eq pkk (own_eq3 (by rw [List.length_drop]) rfl rfl) enn))) q s) ?_;refine sk [(0,_),(2,_),(4,_),(11,_)] K19 ?_;refine sr fun _ K20=>?_
 refine yv y_mv<|yv y_mv<|yv y_np<|yv (y_f 5 3 Tryz.underlying62 sz3)<|Hd.store1 sz3 rfl rfl rfl pkk (by simp;done) ?_
 try simp only [hyS]
 refine fk [(0,_),(2,_),(4,_)] K20 ?_;refine Hd.seq fun _ K21=>?_
 refine Hd.drawsH ([RbH b x.fd i.a0 i.c0 (x.s 0) (cutA i.a1 1 mn i.c1) (i.c1 - mn) { x.s 1 with c:=(x.s 1).c.drop mn }]) (fun j=>!(([1000]:List Nat).contains j)) mixed ?_;simp only [List.length,Nat.zero_add,Nat.reduceAdd];refine tH 0 rfl y_mv<|tH 1 rfl y_mv<|tH 2 rfl y_np<|tH 3 rfl (y_f 8 69 Tryz.underlying71 sz69)<|tH 4 rfl (y_f 0 30 Tryz.underlying69 sz30)<|tH 5 rfl (y_l1 ag30 rfl)<|tH 6 rfl (y_len Tryz.underlying30 rfl) ?_;refine tH 7 rfl y_mv<|tH 8 rfl y_np<|tH 9 rfl (y_f 8 69 Tryz.underlying71 sz69)<|tH 10 rfl (y_f 3 3 Tryz.underlying69 sz3)<|tH 11 rfl (y_l1 ag3 rfl)<|tH 12 rfl (y_leq rfl rfl) ?_;refine tH 13 rfl y_np<|tH 14 rfl (y_f 1 4 Tryz.underlying62 sz4)<|qo 15 ?_;refine Hd.store1 sz4 rfl rfl rfl pkk (by simp;done) ?_
 try simp only [hyS]
 refine qk<|endH kq ?_;refine sk [(0,_),(2,_)] K21 ?_;refine Hd.region<|yv y_mv<|yv y_mv<|callE rfl fk70 (rsetOut_ct _ b x.fd i.a0 i.c0 (x.s 0) (cutA i.a1 1 mn i.c1) (i.c1 - mn) { x.s 1 with c:=(x.s 1).c.drop mn } now hn (ht 1 (by decide)).1) sq ?_;intro _;refine Hd.nil<|slots [] sbq ?_;rw [show writeS ⟨x,w,t⟩ now much=⟨x.up 1 (putF now (mn:Int)),w',{ t with o:=(mn:Int),w:=decide (((((x.s 1).c.drop mn).length:Nat):Int)≤(x.s 1).low) }⟩ from hS.trans (if_pos hc2)];exact Hd.end0 rfl () rfl (fun q s=>rb_put (fd:=x.fd) (a0:=i.a0) (c0:=i.c0) (a1:=cutA i.a1 1 mn i.c1) (c1:=i.c1 - mn) (x':=x.up 1 (putF now (mn:Int))) (s:=x.s 0) (t:=setA 1 now { x.s 1 with c:=(x.s 1).c.drop mn }) rfl rfl rfl q (Ent.sep (.pick pkk (.pick pkk (.pick pkk (.pick pkk (.eq pkk (pt_eq (by rfl)) enn))))) q s))
end Bu
end Go.Proofs.YtmpemhbfgbochaaGreatDoor
namespace Go.Proofs.YtmpemhbfgbochaaGreatDoor
open Go.RX Fx
namespace Wo
theorem read_ok {w:WA} (h:WOk w) (fd n:Int):WOk (readR w fd n).2:=by
 unfold readR
 split
 ·exact h
 ·split
  ·exact h
  ·rename_i m k hk _ x hx
   split
   ·exact h
   ·split
    ·exact h
    ·split
     ·exact h
     ·split
      ·rename_i hr _ _ _
       exact h.setW hx (smW_take (h.wf x (List.mem_of_getElem? hx)) (h.at_lt hk).2.2.1 (by simpa using hr))
      ·split
       ·exact h
       ·exact h
end Wo
namespace Bu
open Wo
theorem stepR_s1 (x:BfA) (w:WA) (now flags most:Int):(stepR x w now flags most).x.s 1=x.s 1:=by
 unfold stepR readS rdP
 repeat' split
 all_goals rfl
theorem rdP_ev (x:BfA) (w:WA) (now:Int) (r:(List UInt8×Bool×Int)×WA):Ev3 (rdP ⟨x,w,noT⟩ now r).t:=by
 unfold rdP Ev3
 split
 ·right;left
  dsimp only
  decide
 ·split
  ·left;rfl
  ·split
   ·right;right
    dsimp only
    decide
   ·left;rfl
theorem stepR_ev (x:BfA) (w:WA) (now flags most:Int):Ev3 (stepR x w now flags most).t:=by
 unfold stepR readS
 split
 ·split
  ·exact Or.inl rfl
  ·exact rdP_ev _ _ _ _
 ·exact Or.inl rfl
theorem stepR_ok {w:WA} (h:WOk w) (x:BfA) (now flags most:Int):WOk (stepR x w now flags most).w:=by
 have:=read_ok h x.fd (rdN (x.s 0) most)
 unfold stepR readS rdP
 repeat' split
 all_goals first
  | exact h
  | exact this
theorem rstep26_ct (L:List SP) (b rb:Nat) (x:BfA) (w:WA) (hw:WOk w) (ht:TmOk x) (hh:InK .i64 (x.s 0).high) (hcl:∀ k,k < 2→(x.s k).c.length≤1048576) (now flags most much:Int) (hn:InK .u64 now) (hm:InK .i64 most) (hmu:InK .i64 much):Ct Tryz.prog 26 #[.pointer (some ⟨b,0,none⟩),.pointer (some ⟨rb,0,none⟩),.int .u64 now,.int .i64 flags,.int .i64 most,.int .i64 much] (RbP b x::Rf.RwP rb w::L) (fun _:Unit=>.agg (encT (stepS x w now flags most much).t).toArray) (fun _:Unit=>RbP b (stepS x w now flags most much).x::Rf.RwP rb (stepS x w now flags most much).w::L):=by
 refine Ct.o6 Tryz.func26 ?_;intro E
 show Hd E 42 _ _ _ _
 refine sr fun _ K1=>?_
 refine Hd.alloc zr62 (fun b12=>?_);refine fk [(0,_),(1,_),(2,_),(3,_),(4,_),(5,_),(12,_)] K1 ?_;refine sr fun _ K2=>?_
 refine Hd.alloc zr62 (fun b13=>?_);refine fk [(0,_),(1,_),(2,_),(3,_),(4,_),(5,_),(12,_),(13,_)] K2 ?_;refine sr fun _ K3=>?_
 refine yv y_mv<|callE rfl fk31 (rwants26_ct _ b x) sq ?_;intro _;refine yv y_as<|fk [(0,_),(1,_),(2,_),(3,_),(4,_),(5,_),(12,_),(13,_),(14,_)] K3 ?_;refine Hd.heap (ToQ b13 noT::pt b12 (encT noT) 62::RbP b x::Rf.RwP rb w::L) (fun q s=>Ent.sep (.eq pkk (pt_eq (by rfl)) (.eq pkk (pt_eq (by rfl)) enn)) q s) ?_;refine Hd.cutK (ι:=Unit) [(0,_),(1,_),(2,_),(3,_),(5,_),(12,_),(13,_),(14,_)] (fun _=>[]) (fun _=>RbP b (stepR x w now flags most).x::Rf.RwP rb (stepR x w now flags most).w::ToQ b13 (stepR x w now flags most).t::pt b12 (encT noT) 62::L) ?_ ?_ ⟨rfl,rfl,rfl,rfl,rfl,rfl,rfl,rfl,trivial⟩
 ·refine sr fun _ K4=>?_
  refine yv y_mv<|callE rfl fk68 (rhas26_ct _ (wantsA x) 2 (wants_six x) 0 (by decide) rfl) sq ?_;intro _;refine yv y_mv ?_;apply Hd.andg 4 19 23 [(0,_),(1,_),(2,_),(3,_),(4,_),(5,_),(12,_),(13,_),(14,_)] rfl sbq
  ·intro hg3_19
   try simp only [hyZ] at hg3_19
   simp only [List.take];refine y2 y_mv<|y2 (y_and rfl rfl) ?_;refine y2 (y_gtr rfl rfl) ?_;refine yv (y_pickT rfl rfl) ?_;exact Hd.mn
  ·intro hg3_19
   try simp only [hyZ] at hg3_19
   simp only [List.take];refine n1<|n1<|n1<|yv (y_pickF rfl rfl) ?_;exact Hd.mn
  simp only [List.drop];refine fk [(0,_),(1,_),(2,_),(3,_),(4,_),(5,_),(12,_),(13,_),(14,_),(23,_)] K4 ?_;refine qz ?_ ?_<;>intro hc0<;>try simp only [hyZ] at hc0
  ·refine Hd.region ?_
   refine yv y_mv<|yv y_mv<|yv y_mv<|yv y_mv<|callE rfl fk76 (rread26_ct _ b rb b13 x w hw ht (hcl 0 (by decide)) hh now most hn hm) sq ?_;intro _;refine Hd.nil<|slots [(0,_),(1,_),(2,_),(3,_),(5,_),(12,_),(13,_),(14,_)] sbq ?_;refine thenN ?_;rw [show stepR x w now flags most=readS ⟨x,w,noT⟩ now most from if_pos ((and2 flags (wants_six x)).2 hc0)];exact Hd.meet () sbq sq
  refine Hd.skip<|thenN ?_
  rw [show stepR x w now flags most=⟨x,w,noT⟩ from if_neg (fun h=>by
   have:=(and2 flags (wants_six x)).1 h
   rcases hc0 with g | g
   ·rw [g] at this;exact absurd this.1 (by decide)
   ·have:=this.2;omega)]
  exact Hd.meet () sbq sq
 intro _;refine Hd.cutK (ι:=Unit) [(12,_),(13,_)] (fun _=>[]) (fun _=>RbP b (stepS x w now flags most much).x::Rf.RwP rb (stepS x w now flags most much).w::ToQ b13 (stepS x w now flags most much).t::pt b12 (encT noT) 62::L) ?_ ?_ ⟨rfl,rfl,trivial⟩
 ·refine sr fun _ K5=>?_
  refine yv y_mv<|callE rfl fk68 (rhas26_ct _ (wantsA x) 4 (wants_six x) 1 (by decide) rfl) sq ?_;intro _;refine yv y_mv ?_;apply Hd.andg 4 31 35 [(0,_),(1,_),(2,_),(5,_),(12,_),(13,_)] rfl sbq
  ·intro hg5_31
   try simp only [hyZ] at hg5_31
   simp only [List.take];refine y2 y_mv<|y2 (y_and rfl rfl) ?_;refine y2 (y_gtr rfl rfl) ?_;refine yv (y_pickT rfl rfl) ?_;exact Hd.mn
  ·intro hg5_31
   try simp only [hyZ] at hg5_31
   simp only [List.take];refine n1<|n1<|n1<|yv (y_pickF rfl rfl) ?_;exact Hd.mn
  simp only [List.drop];refine fk [(0,_),(1,_),(2,_),(5,_),(12,_),(13,_),(35,_)] K5 ?_;refine qz ?_ ?_<;>intro hc1<;>try simp only [hyZ] at hc1
  ·refine Hd.region ?_
   refine yv y_mv<|yv y_mv<|yv y_mv<|yv y_mv<|callE rfl fk77 (rwrite26_ct _ b rb b13 (stepR x w now flags most).x (stepR x w now flags most).w (stepR x w now flags most).t (stepR_ev x w now flags most) (stepR_ok hw x now flags most) (tm_stepR ht hn w flags most) (by rw [stepR_s1];exact hcl 1 (by decide)) now much hn hmu) sq ?_;intro _;refine Hd.nil<|slots [(12,_),(13,_)] sbq ?_;refine thenN ?_;rw [show stepS x w now flags most much=writeS (stepR x w now flags most) now much from if_pos ((and4 flags (wants_six x)).2 hc1)];exact Hd.meet () sbq sq
  refine Hd.skip<|thenN ?_
  rw [show stepS x w now flags most much=stepR x w now flags most from if_neg (fun h=>by
   have:=(and4 flags (wants_six x)).1 h
   rcases hc1 with g | g
   ·rw [g] at this;exact absurd this.1 (by decide)
   ·have:=this.2;omega)]
  exact Hd.meet () sbq sq
 intro _;refine sr fun _ K6=>?_
 refine yv (y_loadn (us:=encT (stepS x w now flags most much).t) ag62 rfl (Rd.pt pkk (fun j v e=>by rw [Nat.zero_add];exact e)) (by exact sz62)) ?_;refine Hd.storeA (us:=encT (stepS x w now flags most much).t) sz62 rfl rfl rfl (by simp [Value.oneCell']) pkk (by exact rfl) ?_;refine fk [(12,_)] K6 ?_;refine Hd.ret ?_;exact Hd.retC rfl () ag62 rfl (Rd.pt (us:=encT (stepS x w now flags most much).t) pkk (fun j v e=>by rw [Nat.zero_add];exact e)) (by exact sz62) rfl sq
end Bu
end Go.Proofs.YtmpemhbfgbochaaGreatDoor
namespace Go.Proofs.YtmpemhbfgbochaaGreatDoor
open Go.RX Fx
namespace Lm
open Wo
open Bu
abbrev encSl (i:Bool) (x:BkA):List Value:=[.bool i,.int .i64 x.r.many,.int .i64 x.r.burst,.int .u64 x.r.every,.int .i64 x.have_,.int .u64 x.clk]
abbrev SlP (b:Nat) (i:Bool) (x:BkA):SP:=pt b (encSl i x) 178
theorem come_have {x:BkA} (h:BkOk x) {now:Int} (hn:InK .u64 now) (hc:¬ now≤x.clk):min x.r.burst (x.have_ + min (per x now) (fil x + 1) * x.r.many)=if per x now ≥ x.r.burst - x.have_ then x.r.burst else min x.r.burst (x.have_ + per x now * x.r.many):=by
 have hp:=(per_b h hn hc).1
 have hm:=h.r.m1
 have h0:=h.h0
 have h1:=h.h1
 have e2:fil x * x.r.many≤x.r.burst - x.have_:=Int.ediv_mul_le _ (by omega)
 have e4:x.r.burst - x.have_ < fil x * x.r.many + x.r.many:=by
  have:=Int.lt_ediv_add_one_mul_self (x.r.burst - x.have_) (show 0 < x.r.many by omega)
  rwa [Int.add_mul,Int.one_mul] at this
 have e5:(fil x + 1) * x.r.many=fil x * x.r.many + x.r.many:=by rw [Int.add_mul,Int.one_mul]
 have e6:per x now≤per x now * x.r.many:=by
  have:=Int.mul_le_mul_of_nonneg_left hm hp
  rwa [Int.mul_one] at this
 rcases Int.le_total (per x now) (fil x + 1) with ht | ht
 ·rw [Int.min_eq_left ht]
  split<;>omega
 ·rw [Int.min_eq_right ht,e5]
  have e7:(fil x + 1) * x.r.many≤per x now * x.r.many:=Int.mul_le_mul_of_nonneg_right ht (by omega)
  rw [e5] at e7
  split<;>omega
theorem per_small {x:BkA} (h:BkOk x) {now:Int} (hp:0≤per x now) (hl:per x now≤2147483647):0≤per x now * x.r.many∧per x now * x.r.many≤4611686014132420609:=by
 have hm:=h.r.m1
 have hm2:=h.r.m2
 refine ⟨Int.mul_nonneg hp (by omega),?_⟩
 have:=Int.mul_le_mul hl hm2 (by omega) (by omega)
 omega
theorem qcomes_ct (L:List SP) (b:Nat) (i:Bool) (x:BkA) (h:BkOk x) (now:Int) (hn:InK .u64 now):Ct Tryz.prog 190 #[.pointer (some ⟨b,1,none⟩),.int .u64 now] (SlP b i x::L) (fun _:Unit=>.tuple #[]) (fun _:Unit=>SlP b i (come x now)::L):=by
 refine Ct.o2 Tryz.func190 ?_;intro E
 show Hd E 77 _ _ _ _
 have hn':=hn
 have hk:=h.clk
 have he1:=h.r.e1
 have he2:=h.r.e2
 have hm1:=h.r.m1
 have hm2:=h.r.m2
 have hb1:=h.r.b1
 have hb2:=h.r.b2
 have hh0:=h.h0
 have hh1:=h.h1
 simp only [InK] at hn' hk;refine Hd.seq fun _ K1=>?_
 refine sr fun _ K2=>?_
 refine yv y_mv<|yv y_mv<|yv y_np<|yv (y_f 4 29 Tryz.underlying176 sz29)<|yv (y_l1 ag29 rfl)<|yv (y_leq rfl rfl) ?_;refine fk [(0,_),(1,_),(11,_)] K2 ?_;refine qz ?_ ?_<;>intro hc0<;>try simp only [hyZ] at hc0
 ·refine Hd.ret ?_
  refine Hd.thenRet ?_;rw [show come x now=x from if_pos hc0];exact Hd.ret0 rfl () rfl sq
 obtain ⟨p1,p2,p3,p4⟩:=per_b h hn (by omega)
 have p1':0≤(now - x.clk) / x.r.every:=p1
 have p2':(now - x.clk) / x.r.every≤now - x.clk:=p2
 have hch:=come_have h hn (by omega)
 refine qv K1<|Hd.seq fun _ K3=>?_
 refine Hd.quiet mixed kq ?_;refine Hq.yv y_mv ?_;refine Hq.yv y_mv ?_;refine Hq.yv y_np ?_;refine Hq.yv (y_f 4 29 Tryz.underlying176 sz29) ?_;refine Hq.yv (y_l1 ag29 rfl) ?_;refine Hq.yv (y_subn rfl rfl (by simp only [InK];omega)) ?_;refine Hq.yv y_mv ?_;refine Hq.yv y_np ?_;refine Hq.yv (y_f 2 29 Tryz.underlying176 sz29) ?_;refine Hq.yv (y_l1 ag29 rfl) ?_;refine Hq.yv (y_to (v':=.int .u64 (per x now)) (y_quon rfl rfl (by omega) (by omega) (by simp only [InK];omega)) (by rfl)) ?_;refine Hq.yv y_as ?_;refine Hq.nil ?_;refine sk [(0,_),(4,_)] K3 ?_;refine Hd.seq fun _ K4=>?_
 refine Hd.tail 14 mixed kq ?_;simp only [List.take,List.drop];refine Ht.yv y_mv ?_;refine Ht.yv y_mv ?_;refine Ht.yv y_np ?_;refine Ht.yv (y_f 4 29 Tryz.underlying176 sz29) ?_;refine Ht.yv (y_l1 ag29 rfl) ?_;refine Ht.yv y_mv ?_;refine Ht.yv y_mv ?_;refine Ht.yv y_np ?_;refine Ht.yv (y_f 2 29 Tryz.underlying176 sz29) ?_;refine Ht.yv (y_l1 ag29 rfl) ?_;refine Ht.yv (y_muln rfl rfl (by simp only [InK];omega)) ?_;refine Ht.yv (y_addn rfl rfl (by simp only [InK];omega)) ?_;refine Ht.yv y_np ?_;refine Ht.yv (y_f 4 29 Tryz.underlying176 sz29) ?_;refine Ht.nil ?_;refine Hd.store1 sz29 rfl rfl rfl pkk (by simp;done) ?_
 try simp only [hyS]
 refine fk [(0,_),(4,_)] K4 ?_;refine Hd.seq fun _ K5=>?_
 refine Hd.quiet mixed kq ?_;refine Hq.yv y_mv ?_;refine Hq.yv y_np ?_;refine Hq.yv (y_f 1 2 Tryz.underlying176 sz2) ?_;refine Hq.yv (y_l1 ag2 rfl) ?_;refine Hq.yv y_mv ?_;refine Hq.yv y_np ?_;refine Hq.yv (y_f 3 2 Tryz.underlying176 sz2) ?_;refine Hq.yv (y_l1 ag2 rfl) ?_;refine Hq.yv (y_subn rfl rfl (by simp only [InK];omega)) ?_;refine Hq.yv y_as ?_;refine Hq.nil ?_;refine sk [(0,_),(4,_),(5,_)] K5 ?_;refine Hd.seq fun _ K6=>?_
 refine sr fun _ K7=>?_
 refine yv y_mv<|yv y_mv<|yv (y_convn rfl Tryz.underlying2 Tryz.underlying29 (by simp only [InK];omega)) ?_;refine yv (y_geq rfl rfl) ?_;refine fk [(0,_),(4,_),(49,_)] K7 ?_;refine qz ?_ ?_<;>intro hc1<;>try simp only [hyZ] at hc1
 ·rw [if_pos (by omega)] at hch
  refine sr fun _ K8=>?_
  refine yv y_mv<|yv y_mv<|yv y_np<|yv (y_f 1 2 Tryz.underlying176 sz2)<|yv (y_l1 ag2 rfl)<|yv y_np<|yv (y_f 3 2 Tryz.underlying176 sz2)<|Hd.store1 sz2 rfl rfl rfl pkk (by simp;done) ?_
  try simp only [hyS]
  refine fk [] K8 ?_;refine Hd.ret<|Hd.thenRet ?_;rw [show come x now={ x with have_:=x.r.burst,clk:=x.clk + per x now * x.r.every } by unfold come;rw [if_neg (by omega),hch]];exact Hd.ret0 rfl () rfl sq
 rw [if_neg (by omega)] at hch
 obtain ⟨q1,q2⟩:=per_small h p1 (by omega)
 refine qv K6<|Hd.tail 20 mixed kq ?_;simp only [List.take,List.drop];refine Ht.yv y_mv ?_;refine Ht.yv y_mv ?_;refine Ht.yv y_np ?_;refine Ht.yv (y_f 1 2 Tryz.underlying176 sz2) ?_;refine Ht.yv (y_l1 ag2 rfl) ?_;refine Ht.yv y_mv ?_;refine Ht.yv y_np ?_;refine Ht.yv (y_f 3 2 Tryz.underlying176 sz2) ?_;refine Ht.yv (y_l1 ag2 rfl) ?_;refine Ht.yv y_mv ?_;refine Ht.yv (y_convn rfl Tryz.underlying29 Tryz.underlying2 (by simp only [InK];omega)) ?_;refine Ht.yv y_mv ?_;refine Ht.yv y_np ?_;refine Ht.yv (y_f 0 2 Tryz.underlying176 sz2) ?_;refine Ht.yv (y_l1 ag2 rfl) ?_;refine Ht.yv (y_muln rfl rfl (by simp only [InK];omega)) ?_;refine Ht.yv (y_addn rfl rfl (by simp only [InK];omega)) ?_;refine Ht.yv (y_min rfl rfl) ?_;refine Ht.yv y_np ?_;refine Ht.yv (y_f 3 2 Tryz.underlying176 sz2) ?_;refine Ht.nil ?_;refine Hd.store1 sz2 rfl rfl rfl pkk (by simp;done) ?_
 try simp only [hyS]
 refine Hd.nil<|slots [] sbq ?_;rw [show come x now={ x with have_:=min x.r.burst (x.have_ + per x now * x.r.many),clk:=x.clk + per x now * x.r.every } by unfold come;rw [if_neg (by omega),hch]];exact Hd.end0 rfl () rfl sq
theorem qtake_ct (L:List SP) (b:Nat) (i:Bool) (x:BkA) (h:BkOk x) (now n:Int) (hn:InK .u64 now) (hnn:InK .i64 n):Ct Tryz.prog 228 #[.pointer (some ⟨b,1,none⟩),.int .u64 now,.int .i64 n] (SlP b i x::L) (fun _:Unit=>.int .i64 (takV x now n)) (fun _:Unit=>SlP b i (tak x now n)::L):=by
 refine Ct.o3 Tryz.func228 ?_;intro E
 show Hd E 39 _ _ _ _
 have hc:=come_ok h hn
 have h0:=hc.h0
 have h1:=hc.h1
 have h2:=hc.r.b2
 simp only [InK] at hnn;refine sr fun _ K1=>?_
 refine yv y_as<|fk [(0,_),(1,_),(2,_)] K1 ?_;refine sr fun _ K2=>?_
 refine yv y_mv<|yv y_mv<|callE rfl fk190 (qcomes_ct _ b i x h now hn) sq ?_;intro _;refine fk [(0,_),(2,_)] K2 ?_;refine Hd.seq fun _ K3=>?_
 refine sr fun _ K4=>?_
 refine yv y_mv<|yv (y_lss rfl rfl) ?_;refine yv y_mv ?_;apply Hd.org 6 12 18 [(0,_),(2,_)] rfl sbq
 ·intro hg2_12
  try simp only [hyZ] at hg2_12
  simp only [List.take];refine n1<|n1<|n1<|n1<|n1<|yv (y_pickT rfl rfl) ?_;exact Hd.mn
 ·intro hg2_12
  try simp only [hyZ] at hg2_12
  simp only [List.take];refine y2 y_mv<|y2 y_np<|y2 (y_f 3 2 Tryz.underlying176 sz2)<|y2 (y_l1 ag2 rfl)<|y2 (y_lss rfl rfl) ?_;refine yv (y_pickF rfl rfl) ?_;exact Hd.mn
 simp only [List.drop];refine fk [(0,_),(2,_),(18,_)] K4 ?_;refine qz ?_ ?_<;>intro hc0<;>try simp only [hyZ] at hc0
 ·refine sr fun _ K5=>?_
  refine yv y_as<|fk [(6,_)] K5 ?_;refine Hd.ret<|Hd.thenRet ?_;rw [show takV x now n=0 from if_pos (by omega),show tak x now n=come x now from if_pos (by omega)];exact Hd.ret1 rfl () rfl sq
 refine qv K3<|Hd.seq fun _ K6=>?_
 refine sr fun _ K7=>?_
 refine yv y_mv<|yv y_mv<|yv y_np<|yv (y_f 3 2 Tryz.underlying176 sz2)<|yv (y_l1 ag2 rfl)<|yv (y_gtr rfl rfl) ?_;refine fk [(0,_),(2,_),(24,_)] K7 ?_;refine qz ?_ ?_<;>intro hc1<;>try simp only [hyZ] at hc1
 ·refine Hd.region ?_
  refine yv y_mv<|yv y_np<|yv (y_f 3 2 Tryz.underlying176 sz2)<|yv (y_l1 ag2 rfl)<|yv y_as<|fk [(0,_),(2,_)] K6 ?_;refine sr fun _ K8=>?_
  refine yv y_mv<|yv y_mv<|yv y_np<|yv (y_f 3 2 Tryz.underlying176 sz2)<|yv (y_l1 ag2 rfl)<|yv y_mv<|yv (y_subn rfl rfl (by simp only [InK];omega)) ?_;refine yv y_np<|yv (y_f 3 2 Tryz.underlying176 sz2)<|Hd.store1 sz2 rfl rfl rfl pkk (by simp;done) ?_
  try simp only [hyS]
  refine fk [(2,_)] K8 ?_;refine sr fun _ K9=>?_
  refine yv y_mv<|yv y_as<|fk [(6,_)] K9 ?_;refine Hd.ret ?_;rw [show takV x now n=(come x now).have_ by unfold takV;rw [if_neg (by omega)];omega,show tak x now n={ come x now with have_:=(come x now).have_ - (come x now).have_ } by unfold tak;rw [if_neg (by omega),show min n (come x now).have_=(come x now).have_ by omega]];exact Hd.ret1 rfl () rfl sq
 refine qv K6<|sr fun _ K10=>?_
 refine yv y_mv<|yv y_mv<|yv y_np<|yv (y_f 3 2 Tryz.underlying176 sz2)<|yv (y_l1 ag2 rfl)<|yv y_mv<|yv (y_subn rfl rfl (by simp only [InK];omega)) ?_;refine yv y_np<|yv (y_f 3 2 Tryz.underlying176 sz2)<|Hd.store1 sz2 rfl rfl rfl pkk (by simp;done) ?_
 try simp only [hyS]
 refine fk [(2,_)] K10 ?_;refine sr fun _ K11=>?_
 refine yv y_mv<|yv y_as<|fk [(6,_)] K11 ?_;refine Hd.ret ?_;rw [show takV x now n=n by unfold takV;rw [if_neg (by omega)];omega,show tak x now n={ come x now with have_:=(come x now).have_ - n } by unfold tak;rw [if_neg (by omega),show min n (come x now).have_=n by omega]];exact Hd.ret1 rfl () rfl sq
theorem qmay_ct (L:List SP) (r:RtA):Ct Tryz.prog 226 #[.int .i64 r.many,.int .u64 r.every,.int .i64 r.burst] (L) (fun _:Unit=>.bool (!rtBad r)) (fun _:Unit=>L):=by
 refine Ct.o3 Tryz.func226 ?_;intro E
 show Hd E 30 _ _ _ _
 refine sr fun _ K1=>?_
 refine yv y_as<|fk [(0,_),(1,_),(2,_)] K1 ?_;refine sr fun _ K2=>?_
 refine yv y_mv<|yv (y_geq rfl rfl) ?_;refine yv y_mv ?_;apply Hd.andg 3 9 12 [(0,_),(1,_),(2,_)] rfl sbq
 ·intro hg1_9
  try simp only [hyZ] at hg1_9
  simp only [List.take];refine y2 y_mv<|y2 (y_leq rfl rfl) ?_;refine yv (y_pickT rfl rfl) ?_;exact Hd.mn
 ·intro hg1_9
  try simp only [hyZ] at hg1_9
  simp only [List.take];refine n1<|n1<|yv (y_pickF rfl rfl) ?_;exact Hd.mn
 simp only [List.drop];refine yv y_mv ?_;apply Hd.andg 3 13 16 [(0,_),(1,_),(2,_)] rfl sbq
 ·intro hg1_13
  try simp only [hyZ] at hg1_13
  simp only [List.take];refine y2 y_mv<|y2 (y_geq rfl rfl) ?_;refine yv (y_pickT rfl rfl) ?_;exact Hd.mn
 ·intro hg1_13
  try simp only [hyZ] at hg1_13
  simp only [List.take];refine n1<|n1<|yv (y_pickF rfl rfl) ?_;exact Hd.mn
 simp only [List.drop];refine yv y_mv ?_;apply Hd.andg 3 17 20 [(0,_),(2,_)] rfl sbq
 ·intro hg1_17
  try simp only [hyZ] at hg1_17
  simp only [List.take];refine y2 y_mv<|y2 (y_leq rfl rfl) ?_;refine yv (y_pickT rfl rfl) ?_;exact Hd.mn
 ·intro hg1_17
  try simp only [hyZ] at hg1_17
  simp only [List.take];refine n1<|n1<|yv (y_pickF rfl rfl) ?_;exact Hd.mn
 simp only [List.drop];refine yv y_mv ?_;apply Hd.andg 4 21 25 [(2,_)] rfl sbq
 ·intro hg1_21
  try simp only [hyZ] at hg1_21
  simp only [List.take];refine y2 y_mv<|y2 y_mv<|y2 (y_geq rfl rfl) ?_;refine yv (y_pickT rfl rfl) ?_;exact Hd.mn
 ·intro hg1_21
  try simp only [hyZ] at hg1_21
  simp only [List.take];refine n1<|n1<|n1<|yv (y_pickF rfl rfl) ?_;exact Hd.mn
 simp only [List.drop];refine yv y_mv ?_;apply Hd.andg 3 26 29 [] rfl sbq
 ·intro hg1_26
  try simp only [hyZ] at hg1_26
  simp only [List.take];refine y2 y_mv<|y2 (y_leq rfl rfl) ?_;refine yv (y_pickT rfl rfl) ?_;exact Hd.mn
 ·intro hg1_26
  try simp only [hyZ] at hg1_26
  simp only [List.take];refine n1<|n1<|yv (y_pickF rfl rfl) ?_;exact Hd.mn
 simp only [List.drop];refine yv y_as<|fk [(6,_)] K2 ?_;refine Hd.ret ?_;exact Hd.ret1 rfl () (congrArg (fun z=>some (Value.bool z)) (by rw [Bool.eq_iff_iff];unfold rtBad;simp only [Bool.not_eq_true',Bool.and_eq_true,Bool.or_eq_false_iff,decide_eq_true_eq,decide_eq_false_iff_not];omega)) sq
abbrev encQb (x:BkA):List Value:=[.int .i64 x.r.many,.int .i64 x.r.burst,.int .u64 x.r.every,.int .i64 x.have_,.int .u64 x.clk]
theorem qnew_ct (L:List SP) (r:RtA) (h:RtOk r) (now:Int):Ct Tryz.prog 178 #[.int .i64 r.many,.int .u64 r.every,.int .i64 r.burst,.int .u64 now] (L) (fun _:Unit=>.tuple #[.agg (encQb (newK r now)).toArray,.int .i64 0]) (fun _:Unit=>L):=by
 refine Ct.o4 Tryz.func178 ?_;intro E
 show Hd E 24 _ _ _ _
 refine sr fun _ K1=>?_
 refine Hd.alloc zr176 (fun b8=>?_);refine yv y_as<|fk [(0,_),(1,_),(2,_),(3,_),(8,_)] K1 ?_;refine sr fun _ K2=>?_
 refine yv y_mv<|yv y_mv<|yv y_mv<|callE rfl fk226 (qmay_ct _ r) sq ?_;intro _;rw [rt_bad h];refine yv y_as<|fk [(0,_),(1,_),(2,_),(3,_),(8,_),(10,_)] K2 ?_;refine Hd.seq fun _ K3=>?_
 refine sr fun _ K4=>?_
 refine yv y_mv<|yv (y_not rfl)<|fk [(0,_),(1,_),(2,_),(3,_),(8,_),(16,_)] K4 ?_;refine Hd.condF rfl ?_;refine qv K3<|sr fun _ K5=>?_
 refine yv y_mv<|yv y_mv<|yv y_mv<|yv y_mv<|yv y_mv<|yv (y_build (vs:=[(0,_),(1,_),(2,_),(3,_),(4,_)]) rfl (by exact bd178_23 ..)) ?_;refine Hd.storeA (us:=encQb (newK r now)) sz176 rfl rfl rfl (by simp [Value.oneCell']) pkk (by exact rfl) ?_;refine yv y_as<|fk [(8,_),(9,_)] K5 ?_;refine Hd.ret ?_;exact Hd.retCT rfl () ag176 rfl rfl (Rd.pt (b:=b8) (us:=encQb (newK r now)) pkk (fun j v e=>by rw [Nat.zero_add];exact e)) (by exact sz176) rfl sq
theorem qset_ct (L:List SP) (b:Nat) (i:Bool) (x:BkA) (h:BkOk x) (now:Int) (hn:InK .u64 now) (r:RtA) (hr:RtOk r):Ct Tryz.prog 177 #[.pointer (some ⟨b,1,none⟩),.int .u64 now,.int .i64 r.many,.int .u64 r.every,.int .i64 r.burst] (SlP b i x::L) (fun _:Unit=>.int .i64 0) (fun _:Unit=>SlP b i (setK x now r)::L):=by
 refine Ct.o5 Tryz.func177 ?_;intro E
 show Hd E 42 _ _ _ _
 refine sr fun _ K1=>?_
 refine yv y_as<|fk [(0,_),(1,_),(2,_),(3,_),(4,_)] K1 ?_;refine sr fun _ K2=>?_
 refine yv y_mv<|yv y_mv<|yv y_mv<|callE rfl fk226 (qmay_ct _ r) sq ?_;intro _;rw [rt_bad hr];refine yv y_as<|fk [(0,_),(1,_),(2,_),(3,_),(4,_),(11,_)] K2 ?_;refine Hd.seq fun _ K3=>?_
 refine sr fun _ K4=>?_
 refine yv y_mv<|yv (y_not rfl)<|fk [(0,_),(1,_),(2,_),(3,_),(4,_),(17,_)] K4 ?_;refine Hd.condF rfl ?_;refine qv K3<|sr fun _ K5=>?_
 refine yv y_mv<|yv y_mv<|callE rfl fk190 (qcomes_ct _ b i x h now hn) sq ?_;intro _;refine fk [(0,_),(2,_),(3,_),(4,_)] K5 ?_;refine sr fun _ K6=>?_
 refine yv y_mv<|yv y_mv<|yv y_np<|yv (y_f 0 2 Tryz.underlying176 sz2)<|Hd.store1 sz2 rfl rfl rfl pkk (by simp;done) ?_
 try simp only [hyS]
 refine fk [(0,_),(3,_),(4,_)] K6 ?_;refine sr fun _ K7=>?_
 refine yv y_mv<|yv y_mv<|yv y_np<|yv (y_f 2 29 Tryz.underlying176 sz29)<|Hd.store1 sz29 rfl rfl rfl pkk (by simp;done) ?_
 try simp only [hyS]
 refine fk [(0,_),(4,_)] K7 ?_;refine sr fun _ K8=>?_
 refine yv y_mv<|yv y_mv<|yv y_np<|yv (y_f 1 2 Tryz.underlying176 sz2)<|Hd.store1 sz2 rfl rfl rfl pkk (by simp;done) ?_
 try simp only [hyS]
 refine fk [(0,_),(4,_)] K8 ?_;refine sr fun _ K9=>?_
 refine yv y_mv<|yv y_mv<|yv y_np<|yv (y_f 3 2 Tryz.underlying176 sz2)<|yv (y_l1 ag2 rfl)<|yv y_mv<|yv (y_min rfl rfl) ?_;refine yv y_np<|yv (y_f 3 2 Tryz.underlying176 sz2)<|Hd.store1 sz2 rfl rfl rfl pkk (by simp;done) ?_
 try simp only [hyS]
 refine fk [] K9 ?_;refine sr fun _ K10=>?_
 refine yv y_as<|fk [(10,_)] K10 ?_;refine Hd.ret ?_;exact Hd.ret1 rfl () rfl (Ent.sep (.eq pkk (pt_eq (by rfl)) enn))
theorem tms_eq {x:BkA} (h:BkOk x) {t:Int} (h0:0≤t):tms x t=if t % x.r.many≠0 then t / x.r.many + 1 else t / x.r.many:=by
 have hm:=h.r.m1
 unfold tms
 have e1:=Int.mul_ediv_add_emod t x.r.many
 have e2:=Int.emod_nonneg t (show x.r.many≠0 by omega)
 have e3:=Int.emod_lt_of_pos t (show 0 < x.r.many by omega)
 obtain ⟨q,hq⟩:∃ q,t / x.r.many=q:=⟨_,rfl⟩
 obtain ⟨s,hs⟩:∃ s,t % x.r.many=s:=⟨_,rfl⟩
 rw [hq,hs] at e1;rw [hs] at e2 e3;rw [hq,hs]
 split
 ·rw [show t + x.r.many - 1=(s - 1) + x.r.many * (q + 1) by rw [Int.mul_add,Int.mul_one];omega,Int.add_mul_ediv_left _ _ (by omega),Int.ediv_eq_zero_of_lt (by omega) (by omega)];omega
 ·rw [show t + x.r.many - 1=(x.r.many - 1) + x.r.many * q by omega,Int.add_mul_ediv_left _ _ (by omega),Int.ediv_eq_zero_of_lt (by omega) (by omega)];omega
theorem qwhen_ct (L:List SP) (b:Nat) (i:Bool) (x:BkA) (h:BkOk x) (now n:Int) (hn:InK .u64 now) (hn0:0≤n) (hn1:n≤2147483647):Ct Tryz.prog 233 #[.pointer (some ⟨b,1,none⟩),.int .u64 now,.int .i64 n] (SlP b i x::L) (fun _:Unit=>.int .u64 (whn x now n)) (fun _:Unit=>SlP b i (come x now)::L):=by
 refine Ct.o3 Tryz.func233 ?_;intro E
 show Hd E 68 _ _ _ _
 have hn':=hn
 simp only [InK] at hn'
 have hc:=come_ok h hn
 have hd0:=hc.h0
 have hd1:=hc.h1
 have hd2:=hc.r.b2
 have hr:=come_r x now
 have hcr:(come x now).r.burst=x.r.burst:=by rw [hr]
 have hcm:(come x now).r.many=x.r.many:=by rw [hr]
 have hce:(come x now).r.every=x.r.every:=by rw [hr]
 have hck:=hc.clk
 simp only [InK] at hck
 have hm1:=h.r.m1
 have hm2:=h.r.m2
 refine sr fun _ K1=>?_
 refine yv y_as<|fk [(0,_),(1,_),(2,_)] K1 ?_;refine sr fun _ K2=>?_
 refine yv y_mv<|yv y_mv<|callE rfl fk190 (qcomes_ct _ b i x h now hn) sq ?_;intro _;refine fk [(0,_),(1,_),(2,_)] K2 ?_;refine Hd.seq fun _ K3=>?_
 refine sr fun _ K4=>?_
 refine yv y_mv<|yv y_np<|yv (y_f 3 2 Tryz.underlying176 sz2)<|yv (y_l1 ag2 rfl)<|yv y_mv<|yv (y_geq rfl rfl) ?_;refine fk [(0,_),(1,_),(2,_),(18,_)] K4 ?_;refine qz ?_ ?_<;>intro hc0<;>try simp only [hyZ] at hc0
 ·refine sr fun _ K5=>?_
  refine yv y_mv<|yv y_as<|fk [(6,_)] K5 ?_;refine Hd.ret<|Hd.thenRet ?_;rw [show whn x now n=now from if_pos (by omega)];exact Hd.ret1 rfl () rfl sq
 refine qv K3<|Hd.seq fun _ K6=>?_
 refine sr fun _ K7=>?_
 refine yv y_mv<|yv y_mv<|yv y_np<|yv (y_f 1 2 Tryz.underlying176 sz2)<|yv (y_l1 ag2 rfl)<|yv (y_gtr rfl rfl) ?_;refine fk [(0,_),(1,_),(2,_),(25,_)] K7 ?_;refine qz ?_ ?_<;>intro hc1<;>try simp only [hyZ] at hc1
 ·refine sr fun _ K8=>?_
  refine yv y_as<|fk [(6,_)] K8 ?_;refine Hd.ret<|Hd.thenRet ?_;rw [show whn x now n=18446744073709551615 by unfold whn;rw [if_neg (by omega),if_pos (by omega)]];exact Hd.ret1 rfl () rfl sq
 obtain ⟨t1,t2,t3,t4⟩:=tms_b hc (t:=n - (come x now).have_) (by omega) (by omega)
 have ht:tms (come x now) (n - (come x now).have_)=tms x (n - (come x now).have_):=by unfold tms;rw [hcm]
 have hq:=tms_eq hc (t:=n - (come x now).have_) (by omega)
 have hW:whn x now n=max now (dl (come x now).clk (tms (come x now) (n - (come x now).have_) * (come x now).r.every)):=by
  rw [ht,hce];exact (if_neg (by omega)).trans (if_neg (by omega))
 have d1:0≤(n - (come x now).have_) / (come x now).r.many:=Int.ediv_nonneg (by omega) (by omega)
 have d2:(n - (come x now).have_) / (come x now).r.many≤n - (come x now).have_:=Int.ediv_le_self _ (by omega)
 refine qv K6<|sr fun _ K9=>?_
 refine yv y_mv<|yv y_mv<|yv y_np<|yv (y_f 3 2 Tryz.underlying176 sz2)<|yv (y_l1 ag2 rfl)<|yv (y_subn rfl rfl (by simp only [InK];omega)) ?_;refine yv y_as<|fk [(0,_),(1,_),(7,_)] K9 ?_;refine sr fun _ K10=>?_
 refine yv y_mv<|yv y_mv<|yv y_np<|yv (y_f 0 2 Tryz.underlying176 sz2)<|yv (y_l1 ag2 rfl)<|yv (y_quon rfl rfl (by omega) (by omega) (by simp only [InK];omega)) ?_;refine yv (y_convn rfl Tryz.underlying2 Tryz.underlying29 (by simp only [InK];omega)) ?_;refine yv y_as<|fk [(0,_),(1,_),(7,_),(8,_)] K10 ?_;refine Hd.cutK (ι:=Unit) [(0,_),(1,_)] (fun _=>[(8,.int .u64 (tms (come x now) (n - (come x now).have_)))]) (fun _=>SlP b i (come x now)::L) ?_ ?_ ⟨rfl,rfl,trivial⟩
 ·refine sr fun _ K11=>?_
  refine yv y_mv<|yv y_mv<|yv y_np<|yv (y_f 0 2 Tryz.underlying176 sz2)<|yv (y_l1 ag2 rfl)<|yv (y_remn rfl rfl (by omega) (by omega)) ?_;refine yv (y_neq rfl rfl) ?_;refine fk [(0,_),(1,_),(8,_),(45,_)] K11 ?_;refine qz ?_ ?_<;>intro hc2<;>try simp only [hyZ] at hc2
  ·refine Hd.region ?_
   refine yv y_mv<|yv (y_addn rfl rfl (by simp only [InK];omega)) ?_;refine yv y_as<|Hd.nil<|slots [(0,_),(1,_),(8,_)] sbq ?_;refine thenN ?_;rw [if_pos hc2] at hq;exact Hd.meet () ⟨congrArg (fun z=>some (Value.int .u64 z)) hq.symm,by repeat (first | exact trivial | refine ⟨rfl,?_⟩)⟩ sq
  refine Hd.skip<|thenN ?_;rw [if_neg (fun h=>h hc2)] at hq;exact Hd.meet () ⟨congrArg (fun z=>some (Value.int .u64 z)) hq.symm,by repeat (first | exact trivial | refine ⟨rfl,?_⟩)⟩ sq
 intro _
 obtain ⟨m,hm⟩:∃ m,tms (come x now) (n - (come x now).have_) * (come x now).r.every=m:=⟨_,rfl⟩
 rw [hm] at hW t3 t4;refine Hd.seq fun _ K12=>?_
 refine Hd.quiet mixed kq ?_;refine Hq.yv y_mv ?_;refine Hq.yv y_np ?_;refine Hq.yv (y_f 4 29 Tryz.underlying176 sz29) ?_;refine Hq.yv (y_l1 ag29 rfl) ?_;refine Hq.yv y_mv ?_;refine Hq.yv y_mv ?_;refine Hq.yv y_np ?_;refine Hq.yv (y_f 2 29 Tryz.underlying176 sz29) ?_;refine Hq.yv (y_l1 ag29 rfl) ?_;refine Hq.yv (y_to (v':=.int .u64 m) (y_muln rfl rfl (by simp only [InK];omega)) (by (rw [hm]))) ?_;refine Hq.yv (y_add rfl rfl) ?_;refine Hq.yv y_as ?_;refine Hq.nil ?_;refine sk [(0,_),(1,_),(9,_)] K12 ?_;refine Hd.seq fun _ K13=>?_
 refine sr fun _ K14=>?_
 refine yv y_mv<|yv y_mv<|yv y_np<|yv (y_f 4 29 Tryz.underlying176 sz29)<|yv (y_l1 ag29 rfl)<|yv (y_lss rfl rfl) ?_;refine fk [(1,_),(9,_),(64,_)] K14 ?_;refine qz ?_ ?_<;>intro hc3<;>try simp only [hyZ] at hc3
 ·rw [wrap_u64] at hc3
  refine sr fun _ K15=>?_
  refine yv y_as<|fk [(6,_)] K15 ?_;refine Hd.ret<|Hd.thenRet ?_;rw [hW,show dl (come x now).clk m=18446744073709551615 by unfold dl;rw [if_pos (by omega)],show max now 18446744073709551615=18446744073709551615 by omega];exact Hd.ret1 rfl () rfl sq
 rw [wrap_u64] at hc3;refine qv K13<|sr fun _ K16=>?_
 refine yv y_mv<|yv y_mv<|yv (y_max rfl rfl) ?_;refine yv y_as<|fk [(6,_)] K16 ?_;refine Hd.ret ?_;rw [hW,show max now (dl (come x now).clk m)=max (IntKind.u64.wrap ((come x now).clk + m)) now by rw [wrap_u64];unfold dl;rw [if_neg (by omega)];omega];exact Hd.ret1 rfl () rfl sq
structure SlA where
 i:Bool
 b:BkA
abbrev z0:BkA:=⟨⟨0,0,0⟩,0,0⟩
abbrev noSl:SlA:=⟨false,z0⟩
abbrev encS (s:SlA):List Value:=encSl s.i s.b
abbrev SlQ (b:Nat) (s:SlA):SP:=SlP b s.i s.b
def SlOk (s:SlA):Prop:=(s.i=true→BkOk s.b)∧(s.i=false→s.b=z0)
theorem sl_no:SlOk noSl:=⟨fun h=>(by cases h),fun _=>rfl⟩
def cmS (now:Int) (s:SlA):SlA:=if s.i=true then ⟨s.i,come s.b now⟩ else s
def hvQ (s:SlA):Int:=if s.i=true then s.b.have_ else 4096
def lvQ (a b:SlA):Int:=max 0 (min 4096 (min (hvQ a) (hvQ b)))
def tkS (now n:Int) (s:SlA):SlA:=if s.i=true then ⟨s.i,tak s.b now n⟩ else s
def whS (now:Int) (s:SlA):Int:=if s.i=true then whn s.b now 1 else now
def gvS (now:Int) (r:RtA) (s:SlA):SlA:=if rz r=true then noSl else if s.i=true then ⟨s.i,setK s.b now r⟩ else ⟨true,newK r now⟩
theorem cmS_ok {now:Int} (hn:InK .u64 now) {s:SlA} (h:SlOk s):SlOk (cmS now s):=by
 unfold cmS
 split
 ·rename_i hi;exact ⟨fun _=>come_ok (h.1 hi) hn,fun g=>absurd (hi.symm.trans g) (by decide)⟩
 ·exact h
theorem tkS_ok {now n:Int} (hn:InK .u64 now) {s:SlA} (h:SlOk s):SlOk (tkS now n s):=by
 unfold tkS
 split
 ·rename_i hi;exact ⟨fun _=>tak_ok (h.1 hi) hn n,fun g=>absurd (hi.symm.trans g) (by decide)⟩
 ·exact h
theorem gvS_ok {now:Int} (hn:InK .u64 now) {r:RtA} (hr:mayR r=true) {s:SlA} (h:SlOk s):SlOk (gvS now r s):=by
 unfold gvS
 split
 ·exact sl_no
 ·rename_i hz
  have hb:RtOk r:=by
   unfold mayR at hr
   cases hzz:rz r
   ·rw [hzz] at hr;exact rt_ok (by simpa using hr)
   ·exact absurd hzz hz
  split
  ·rename_i hi;exact ⟨fun _=>set_ok (h.1 hi) hn hb,fun g=>absurd (hi.symm.trans g) (by decide)⟩
  ·exact ⟨fun _=>new_ok hb hn,fun g=>(by cases g)⟩
theorem sl_hi {s:SlA} (h:SlOk s):0≤hvQ s∧hvQ s≤2147483647:=by
 unfold hvQ
 split
 ·rename_i hi
  have:=h.1 hi
  have h0:=this.h0
  have h1:=this.h1
  have h2:=this.r.b2
  omega
 ·omega
abbrev e12 (s t:SlA):List Value:=[.bool s.i,.int .i64 s.b.r.many,.int .i64 s.b.r.burst,.int .u64 s.b.r.every,.int .i64 s.b.have_,.int .u64 s.b.clk,.bool t.i,.int .i64 t.b.r.many,.int .i64 t.b.r.burst,.int .u64 t.b.r.every,.int .i64 t.b.have_,.int .u64 t.b.clk]
abbrev Ow2 (ad:Option Addr) (c:Nat) (s t:SlA):SP:=own 178 6 ad 2 c (e12 s t)
theorem rt_of {r:RtA} (m:mayR r=true) (z:rz r=false):RtOk r:=by
 unfold mayR at m;rw [z] at m;exact rt_ok (by simpa using m)
theorem qhave_ct (L:List SP) (s:SlA):Ct Tryz.prog 232 #[.agg (encS s).toArray] (L) (fun _:Unit=>.int .i64 (hvQ s)) (fun _:Unit=>L):=by
 refine Ct.o1 Tryz.func232 ?_;intro E
 show Hd E 9 _ _ _ _
 refine sr fun _ K1=>?_
 refine Hd.box rfl rfl (fun b1=>?_);refine yv y_as<|fk [(1,_)] K1 ?_;refine Hd.seq fun _ K2=>?_
 refine sr fun _ K3=>?_
 refine yv (y_f 0 4 Tryz.underlying178 sz4)<|yv (y_l1 ag4 rfl)<|yv (y_not rfl)<|fk [(1,_),(5,_)] K3 ?_;refine qz ?_ ?_<;>intro hc0<;>try simp only [hyZ] at hc0
 ·refine sr fun _ K4=>?_
  refine yv y_as<|fk [(2,_)] K4 ?_;refine Hd.ret<|Hd.thenRet ?_;rw [show hvQ s=4096 by unfold hvQ;rw [if_neg (by rw [hc0];decide)]];exact Hd.ret1 rfl () rfl sq
 refine qv K2<|sr fun _ K5=>?_
 refine yv (y_f 1 176 Tryz.underlying178 sz176)<|yv (y_f 3 2 Tryz.underlying176 sz2)<|yv (y_l1 ag2 rfl)<|yv y_as<|fk [(2,_)] K5 ?_;refine Hd.ret ?_;rw [show hvQ s=s.b.have_ from if_pos hc0];exact Hd.ret1 rfl () rfl sq
theorem qleave_ct (L:List SP) (s t:SlA) (hs:SlOk s) (ht:SlOk t):Ct Tryz.prog 187 #[.agg (encS s).toArray,.agg (encS t).toArray] (L) (fun _:Unit=>.int .i64 (lvQ s t)) (fun _:Unit=>L):=by
 refine Ct.o2 Tryz.func187 ?_;intro E
 show Hd E 12 _ _ _ _
 have h1:=sl_hi hs
 have h2:=sl_hi ht
 refine sr fun _ K1=>?_
 refine Hd.box rfl rfl (fun b2=>?_);refine Hd.box rfl rfl (fun b3=>?_);refine yv y_as<|fk [(2,_),(3,_)] K1 ?_;refine Hd.seq fun _ K2=>?_
 refine Hd.quiet mixed kq ?_;refine Hq.yv (y_loadn (us:=[_,_,_,_,_,_]) ag178 rfl (Rd.pt pkk (by (first | (intro j v e;rcases j with _|_|_|_|_|_|_|_|_|_|_|_|j<;>first | exact e | exact absurd e (by simp))))) (by exact sz178)) ?_;refine Hq.call rfl fk232 ((qhave_ct _ s).swap sq sq) ?_;refine Hq.yv (y_loadn (us:=[_,_,_,_,_,_]) ag178 rfl (Rd.pt pkk (by (first | (intro j v e;rcases j with _|_|_|_|_|_|_|_|_|_|_|_|j<;>first | exact e | exact absurd e (by simp))))) (by exact sz178)) ?_;refine Hq.call rfl fk232 ((qhave_ct _ t).swap sq sq) ?_;refine Hq.yv (y_min rfl rfl) ?_;refine Hq.yv (y_min rfl rfl) ?_;refine Hq.yv (y_max rfl rfl) ?_;refine Hq.yv y_as ?_;refine Hq.nil ?_;refine sk [(4,_)] K2 ?_;refine Hd.ret ?_;exact Hd.ret1 rfl () rfl sq
theorem qtk_ct (L:List SP) (s:SlA) (h:SlOk s) (now n:Int) (hn:InK .u64 now) (hnn:InK .i64 n):Ct Tryz.prog 183 #[.agg (encS s).toArray,.int .u64 now,.int .i64 n] (L) (fun _:Unit=>.agg (encS (tkS now n s)).toArray) (fun _:Unit=>L):=by
 refine Ct.o3 Tryz.func183 ?_;intro E
 show Hd E 14 _ _ _ _
 refine sr fun _ K1=>?_
 refine Hd.box rfl rfl (fun b3=>?_);refine Hd.alloc zr178 (fun b6=>?_);refine fk [(1,_),(2,_),(3,_),(6,_)] K1 ?_;refine Hd.cutK (ι:=Unit) [(3,_),(6,_)] (fun _=>[]) (fun _=>SlQ b3 (tkS now n s)::pt b6 (encS noSl) 178::L) ?_ ?_ ⟨rfl,rfl,trivial⟩
 ·refine sr fun _ K2=>?_
  refine yv (y_f 0 4 Tryz.underlying178 sz4)<|yv (y_l1 ag4 rfl)<|fk [(1,_),(2,_),(3,_),(6,_),(8,_)] K2 ?_;refine qz ?_ ?_<;>intro hc0<;>try simp only [hyZ] at hc0
  ·refine Hd.region ?_
   refine yv (y_f 1 176 Tryz.underlying178 sz176)<|yv y_mv<|yv y_mv<|callE rfl fk228 (qtake_ct _ b3 s.i s.b (h.1 hc0) now n hn hnn) sq ?_;intro _;refine Hd.nil<|slots [(3,_),(6,_)] sbq ?_;refine thenN ?_;rw [show tkS now n s=⟨s.i,tak s.b now n⟩ from if_pos hc0];exact Hd.meet () sbq (Ent.sep (.pick pkk (.eq pkk (pt_eq (by rfl)) enn)))
  refine Hd.skip<|thenN ?_;rw [show tkS now n s=s from if_neg (by rw [hc0];decide)];exact Hd.meet () sbq (Ent.sep (.pick pkk (.eq pkk (pt_eq (by rfl)) enn)))
 intro _;refine sr fun _ K3=>?_
 refine yv (y_loadn (us:=encS (tkS now n s)) ag178 rfl (Rd.pt pkk (fun j v e=>by rw [Nat.zero_add];exact e)) (by exact sz178)) ?_;refine Hd.storeA (us:=encS (tkS now n s)) sz178 rfl rfl rfl (by simp [Value.oneCell']) pkk (by exact rfl) ?_;refine fk [(6,_)] K3 ?_;refine Hd.ret ?_;exact Hd.retC rfl () ag178 rfl (Rd.pt (us:=encS (tkS now n s)) pkk (fun j v e=>by rw [Nat.zero_add];exact e)) (by exact sz178) rfl sq
theorem qwn_ct (L:List SP) (s:SlA) (h:SlOk s) (now:Int) (hn:InK .u64 now):Ct Tryz.prog 188 #[.agg (encS s).toArray,.int .u64 now] (L) (fun _:Unit=>.int .u64 (whS now s)) (fun _:Unit=>L):=by
 refine Ct.o2 Tryz.func188 ?_;intro E
 show Hd E 12 _ _ _ _
 refine sr fun _ K1=>?_
 refine Hd.box rfl rfl (fun b2=>?_);refine yv y_as<|fk [(1,_),(2,_)] K1 ?_;refine Hd.seq fun _ K2=>?_
 refine sr fun _ K3=>?_
 refine yv (y_f 0 4 Tryz.underlying178 sz4)<|yv (y_l1 ag4 rfl)<|yv (y_not rfl)<|fk [(1,_),(2,_),(7,_)] K3 ?_;refine qz ?_ ?_<;>intro hc0<;>try simp only [hyZ] at hc0
 ·refine sr fun _ K4=>?_
  refine yv y_mv<|yv y_as<|fk [(4,_)] K4 ?_;refine Hd.ret<|Hd.thenRet ?_;rw [show whS now s=now from if_neg (by rw [hc0];decide)];exact Hd.ret1 rfl () rfl sq
 refine qv K2<|sr fun _ K5=>?_
 refine yv (y_f 1 176 Tryz.underlying178 sz176)<|yv y_mv<|callE rfl fk233 (qwhen_ct _ b2 s.i s.b (h.1 hc0) now 1 hn (by decide) (by decide)) sq ?_;intro _;refine yv y_as<|fk [(4,_)] K5 ?_;refine Hd.ret ?_;rw [show whS now s=whn s.b now 1 from if_pos hc0];exact Hd.ret1 rfl () rfl sq
theorem qnone_ct (L:List SP) (r:RtA):Ct Tryz.prog 176 #[.agg (encRt r).toArray] (L) (fun _:Unit=>.bool (rz r)) (fun _:Unit=>L):=by
 refine Ct.o1 Tryz.func176 ?_;intro E
 show Hd E 16 _ _ _ _
 refine sr fun _ K1=>?_
 refine Hd.box rfl rfl (fun b1=>?_);refine yv y_as<|fk [(1,_)] K1 ?_;refine sr fun _ K2=>?_
 refine yv (y_f 0 2 Tryz.underlying155 sz2)<|yv (y_l1 ag2 rfl)<|yv (y_eql rfl rfl) ?_;refine yv y_mv ?_;apply Hd.andg 4 6 10 [(1,_)] rfl sbq
 ·intro hg1_6
  try simp only [hyZ] at hg1_6
  simp only [List.take];refine y2 (y_f 1 29 Tryz.underlying155 sz29)<|y2 (y_l1 ag29 rfl)<|y2 (y_eql rfl rfl) ?_;refine yv (y_pickT rfl rfl) ?_;exact Hd.mn
 ·intro hg1_6
  try simp only [hyZ] at hg1_6
  simp only [List.take];refine n1<|n1<|n1<|yv (y_pickF rfl rfl) ?_;exact Hd.mn
 simp only [List.drop];refine yv y_mv ?_;apply Hd.andg 4 11 15 [] rfl sbq
 ·intro hg1_11
  try simp only [hyZ] at hg1_11
  simp only [List.take];refine y2 (y_f 2 2 Tryz.underlying155 sz2)<|y2 (y_l1 ag2 rfl)<|y2 (y_eql rfl rfl) ?_;refine yv (y_pickT rfl rfl) ?_;exact Hd.mn
 ·intro hg1_11
  try simp only [hyZ] at hg1_11
  simp only [List.take];refine n1<|n1<|n1<|yv (y_pickF rfl rfl) ?_;exact Hd.mn
 simp only [List.drop];refine yv y_as<|fk [(2,_)] K2 ?_;refine Hd.ret ?_;exact Hd.ret1 rfl () (congrArg (fun z=>some (Value.bool z)) (by unfold rz;rw [Bool.and_assoc])) sq
theorem qmayr_ct (L:List SP) (r:RtA):Ct Tryz.prog 175 #[.agg (encRt r).toArray] (L) (fun _:Unit=>.bool (mayR r)) (fun _:Unit=>L):=by
 refine Ct.o1 Tryz.func175 ?_;intro E
 show Hd E 14 _ _ _ _
 refine sr fun _ K1=>?_
 refine Hd.box rfl rfl (fun b1=>?_);refine yv y_as<|fk [(1,_)] K1 ?_;refine sr fun _ K2=>?_
 refine yv (y_loadn (us:=encRt r) ag155 rfl (Rd.pt pkk (fun j v e=>by rw [Nat.zero_add];exact e)) (by exact sz155)) ?_;refine callE rfl fk176 (qnone_ct _ r) sq ?_;intro _;refine yv y_mv ?_;apply Hd.org 8 5 13 [] rfl sbq
 ·intro hg1_5
  try simp only [hyZ] at hg1_5
  simp only [List.take];refine n1<|n1<|n1<|n1<|n1<|n1<|n1<|yv (y_pickT rfl rfl) ?_;exact Hd.mn
 ·intro hg1_5
  try simp only [hyZ] at hg1_5
  simp only [List.take];refine y2 (y_f 0 2 Tryz.underlying155 sz2)<|y2 (y_l1 ag2 rfl)<|y2 (y_f 1 29 Tryz.underlying155 sz29)<|y2 (y_l1 ag29 rfl)<|y2 (y_f 2 2 Tryz.underlying155 sz2)<|y2 (y_l1 ag2 rfl)<|Hd.unguard rfl rfl ?_;refine callE rfl fk226 (qmay_ct _ r) sq ?_;intro _;refine yv (y_pickF rfl rfl) ?_;exact Hd.mn
 simp only [List.drop];refine yv y_as<|fk [(2,_)] K2 ?_;refine Hd.ret ?_;exact Hd.ret1 rfl () rfl sq
end Lm
end Go.Proofs.YtmpemhbfgbochaaGreatDoor
