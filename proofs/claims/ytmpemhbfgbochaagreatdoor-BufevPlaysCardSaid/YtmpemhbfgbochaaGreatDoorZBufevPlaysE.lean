/-
  Chains: cut, Take, Drain.
-/
import Derived.Test.YtmpemhbfgbochaaGreatDoorZBufevPlaysD
set_option linter.unusedSimpArgs false
set_option linter.unusedVariables false
set_option linter.unnecessarySimpa false
set_option maxRecDepth 8000
set_option maxHeartbeats 2000000
open Go.RX.Hd (yv y2 n1 fk sk sr tH callE heldK qo qk qn qt qz qv endH thenN slots)
namespace Go.Proofs.YtmpemhbfgbochaaGreatDoor
open Go.RX Fx
namespace Bc
section
variable {E : World} {n : Nat} {ds : List Deferred} {st : List (Nat × Value)} {L L' L2 : List SP} {K : Act → World → Prop}
theorem Hd.rowsCap {rs:List Row} (p:Pick L (rows rs) L') (h:(∀ r∈rs,r.l.length≤r.cap)→Hd E n ds st L K):Hd E n ds st L K:=fun a w f s=>by
 refine h (fun r hr=>?_) a w f s
 obtain ⟨h1,s1,⟨x⟩⟩:=sep.one p s.2.2.2
 obtain ⟨L3,p3⟩:=pick_mem hr
 obtain ⟨h2,s2,x2⟩:=sep.one p3 x
 exact (own_le x2).1
theorem cutRow_sep {outs rest:List Row} {r0:Row} {j:Nat} (hj:j≤r0.l.length) (p1:Pick L (rows outs) L') (p2:Pick L' (rows (r0::rest)) L2) (k:PH) (s:sep L k) :
  sep (rows (outs++[⟨r0.ad,j,r0.l.take j⟩])::rows (⟨cutA r0.ad 1 j r0.cap,r0.cap - j,r0.l.drop j⟩::rest)::L2) k:=by
 have s1:sep (rows outs::rows (r0::rest)::L2) k:=Ent.imp' .here (fun _ x=>x) (fun k s=>p2.sep s) (p1.sep s)
 have s2:sep (rows outs::rows [⟨r0.ad,j,r0.l.take j⟩]::rows (⟨cutA r0.ad 1 j r0.cap,r0.cap - j,r0.l.drop j⟩::rest)::L2) k:=by
  refine Ent.imp' .here (fun _ x=>x) (fun k s=>?_) s1
  have s3:=rows_own ((fun s=>rows_split (a:=[r0]) (b:=rest) s) s) |> fun x=>x
  have s4:sep (own 5 1 r0.ad r0.l.length r0.cap (bsl (r0.l.take j)++bsl (r0.l.drop j))::rows rest::L2) k:=by
   rw [←List.map_append,List.take_append_drop];exact s3
  have s5:=own_split (l:=j) hj (by simp [hj]) s4
  have e1:own 5 1 r0.ad j j (bsl (r0.l.take j))=ow ⟨r0.ad,j,r0.l.take j⟩:=by simp [ow,Nat.min_eq_left hj]
  have e2:own 5 1 (cutA r0.ad 1 j r0.cap) (r0.l.length - j) (r0.cap - j) (bsl (r0.l.drop j))=ow ⟨cutA r0.ad 1 j r0.cap,r0.cap - j,r0.l.drop j⟩:=by simp [ow]
  rw [e1,e2] at s5;refine Ent.imp' .here (fun _ x=>x) (fun k s=>?_) (own_rows s5);exact rows_join (a:=[⟨cutA r0.ad 1 j r0.cap,r0.cap - j,r0.l.drop j⟩]) (own_rows s)
 exact rows_join s2
theorem ownDropP {e sz m cap:Nat} {ad:Option Addr} {us:List Value} (p:Pick L (own e sz ad m cap us) L') (l:Nat) (us1 us2:List Value) (hl:l≤m) (hu:us=us1++us2) (h1:us1.length=l * sz) (k:PH) (s:sep L k) :
  sep (own e sz (cutA ad sz l cap) (m - l) (cap - l) us2::L') k:=by subst hu;exact own_drop hl h1 (p.sep s)
theorem rows_tail {r0:Row} {rest:List Row} {k:PH} (h:rows (r0::rest) k):rows rest k:=by
 obtain ⟨⟨h1,h2,d,a,b,x,y⟩⟩:=h
 exact ⟨y.up b⟩
end
theorem joinNil {L:List SP} {k:PH} (s:sep L k):sep (rows []::L) k:=rows_nil s
theorem hdr_first {rs rs0:List Row} {r0:Row} (h:rs=r0::rs0):(rs.map hdr)[0 * 1]?=some (hdr r0):=by subst h;rfl
abbrev OwH (ad:Option Addr) (cap:Nat) (rs:List Row):SP:=own 30 1 ad rs.length cap (rs.map hdr)
def CutI (n:Int) (rs outs rest:List Row) (nn:Int):Prop:=flat outs++flat rest=flat rs∧Full outs∧Full rest∧(flat outs).length + nn.toNat=n.toNat∧(flat rs).length≤1048576∧rs.length≤1048576∧outs.length + rest.length≤rs.length + 1∧(0 < nn→outs.length + rest.length≤rs.length)
theorem cut_ct (L:List SP) (b o:Nat) (rs:List Row) (hg:Good rs) (n:Int) (hn:n≤9223372036854775807):Ct Tryz.prog 159 #[.pointer (some ⟨b,o,none⟩),.int .i64 n] (Ch b o rs::L) (fun q_:List Row×List Row×Option Addr×Nat=>.slice q_.2.2.1 q_.1.length q_.2.2.2) (fun q_:List Row×List Row×Option Addr×Nat=>pu (flat q_.1=(flat rs).take n.toNat∧flat q_.2.1=(flat rs).drop n.toNat∧Full q_.1∧Full q_.2.1)::OwH q_.2.2.1 q_.2.2.2 q_.1::rows q_.1::Ch b o q_.2.1::L):=by
 refine Ct.o2 Tryz.func159 ?_;intro E
 show Hd E 75 _ _ _ _
 obtain ⟨hfull,hlen⟩:=hg
 have hrl:=full_len hfull
 refine Hd.exs pkk ?_;rintro ⟨ha,hcp⟩;simp only [List.cons_append,List.nil_append];refine sr fun _ K1=>?_
 refine yv y_as<|fk [(0,_),(1,_)] K1 ?_;refine sr fun _ K2=>?_
 refine yv y_as<|fk [(0,_),(1,_),(5,_)] K2 ?_;refine Hd.seq fun _ K3=>?_
 refine Hd.block<|Hd.loopK (ι:=List Row×List Row×Option Addr×Nat×Option Addr×Nat×Int) [(0,_)] (fun q_=>[(1,.int .i64 q_.2.2.2.2.2.2),(5,.slice q_.2.2.1 q_.1.length q_.2.2.2.1)]) (fun q_=>pu (CutI n rs q_.1 q_.2.1 q_.2.2.2.2.2.2)::seg b o [.slice q_.2.2.2.2.1 q_.2.1.length q_.2.2.2.2.2.1,.int .i64 ((flat q_.2.1).length:Int)]::OwH q_.2.2.2.2.1 q_.2.2.2.2.2.1 q_.2.1::rows q_.2.1::OwH q_.2.2.1 q_.2.2.2.1 q_.1::rows q_.1::L) (fun q_=>q_.2.2.2.2.2.2.toNat) ([],rs,none,0,ha,hcp,n) sbq sbq (fun k s=>Ent.sep (.pure ⟨rfl,fun r hr=>by simp at hr,hfull,by simp [flat],hlen,by omega,by simp,by simp⟩ (.pick pkk (.pick pkk (.pick pkk (.ownNil (.pick pkk enn)))))) k (joinNil s)) ?_;rintro ⟨outs,rest,adO,capO,adH,capH,nn⟩
 try dsimp only
 refine Hd.pure (fun hp0=>?_)
 try dsimp only at hp0
 obtain ⟨hI1,hI2,hI3,hI4,hI5,hI6,hI7,hI8⟩:=hp0
 refine Hd.seq fun _ K4=>?_
 refine sr fun _ K5=>?_
 refine yv y_mv<|yv (y_gtr rfl rfl) ?_;refine yv y_mv ?_;apply Hd.andg 7 10 17 [(0,_),(1,_),(5,_)] rfl sbq
 ·intro hg2_10
  try simp only [hyZ] at hg2_10
  simp only [List.take];refine y2 y_mv<|y2 y_np<|y2 (y_f 0 114 Tryz.underlying116 sz114)<|y2 (y_load1 ag114 rfl (Rd.seg1 pkk (by rfl))) ?_;refine y2 (y_len Tryz.underlying114 rfl) ?_;refine y2 (y_gtr rfl rfl) ?_;refine yv (y_pickT rfl rfl) ?_;exact Hd.mn
 ·intro hg2_10
  try simp only [hyZ] at hg2_10
  simp only [List.take];refine n1<|n1<|n1<|n1<|n1<|n1<|yv (y_pickF rfl rfl) ?_;exact Hd.mn
 simp only [List.drop];refine fk [(0,_),(1,_),(5,_),(17,_)] K5 ?_;refine qz ?_ ?_<;>intro hc0<;>try simp only [hyZ] at hc0
 ·obtain ⟨hn0,hr0⟩:=hc0
  obtain ⟨r0,rest',hrest⟩:=List.exists_cons_of_ne_nil (show rest≠[] by intro e;subst e;simp at hr0)
  have hrl2:rest.length=rest'.length + 1:=by rw [hrest];rfl
  have hr0p:0 < r0.l.length:=hI3 r0 (by rw [hrest];simp)
  have hfr:(flat rest).length=r0.l.length + (flat rest').length:=by rw [hrest];simp [flat]
  have hfa:(flat outs).length + (flat rest).length=(flat rs).length:=by rw [←hI1,List.length_append]
  have hI8':=hI8 hn0
  refine Hd.rowsCap (rs:=rest) pkk (fun hcaps=>?_)
  have hcap0:r0.l.length≤r0.cap:=hcaps r0 (by rw [hrest];simp)
  refine qv K4<|Hd.block<|sr fun _ K6=>?_
  refine yv y_mv<|yv y_np<|yv (y_f 0 114 Tryz.underlying116 sz114)<|yv (y_load1 ag114 rfl (Rd.seg1 pkk (by rfl))) ?_;refine yv (y_idxR Tryz.underlying114 sz30 rfl rfl (by exact (show (0:Nat) < _ by omega)) (by exact RdS.own pkk)) ?_;refine yv (y_loadR1 ag30 rfl (by exact RdS.own pkk) (by exact hdr_first hrest)) ?_;refine yv y_as<|fk [(0,_),(1,_),(5,_),(6,_)] K6 ?_;refine sr fun _ K7=>?_
  refine yv y_mv<|yv y_mv<|yv (y_len Tryz.underlying30 rfl) ?_;refine yv (y_min rfl rfl) ?_;refine yv y_as<|Hd.nil<|Hd.name (b:=((min nn.toNat r0.l.length:Nat):Int)) 7 rfl (by omega) ?_;refine sk [(0,_),(1,_),(5,_),(6,_),(7,_)] K7 ?_;refine sr fun _ K8=>?_
  refine yv y_mv<|yv y_mv<|yv y_mv<|yv y_mv<|yv (y_slo_xooN Tryz.underlying30 sz5 rfl rfl rfl (by omega) (by omega)) ?_;refine Hd.bslice (vs:=[(0,_)]) rfl (by exact bs159_33 ..) (fun b33=>?_);refine Hd.append Tryz.underlying114 ty30 rfl rfl rfl pkk (by exact RdS.rd (Rd.pt pkk (fun j v e=>by simpa using e)) rfl) (by simp [Value.oneCell'];done) (by simp only [maxLen];omega) (by omega) (fun ad34 cap34=>?_);refine yv y_as<|fk [(0,_),(1,_),(5,_),(6,_),(7,_)] K8 ?_;refine Hd.seq fun _ K9=>?_
  refine sr fun _ K10=>?_
  refine yv y_mv<|yv y_mv<|yv (y_len Tryz.underlying30 rfl) ?_;refine yv (y_eql rfl rfl) ?_;refine fk [(0,_),(1,_),(5,_),(6,_),(7,_),(38,_)] K10 ?_;refine qz ?_ ?_<;>intro hc1<;>try simp only [hyZ] at hc1
  ·refine Hd.region ?_
   refine yv y_mv<|yv y_mv<|yv y_np<|yv (y_f 0 114 Tryz.underlying116 sz114)<|yv (y_load1 ag114 rfl (Rd.seg1 pkk (by rfl))) ?_;refine yv (y_slo_oxx Tryz.underlying114 sz30 rfl rfl (by omega) (by omega)) ?_;refine yv y_np<|yv (y_f 0 114 Tryz.underlying116 sz114)<|Hd.storeG1 sz114 rfl rfl rfl pkk (by simp;done) ?_
   try simp only [hyS]
   refine fk [(0,_),(1,_),(5,_),(7,_)] K9 ?_;refine sr fun _ K11=>?_
   refine yv y_mv<|yv y_mv<|yv (y_subn rfl rfl (by simp only [InK];omega)) ?_;refine yv y_as<|fk [(0,_),(1,_),(5,_),(7,_)] K11 ?_;refine Hd.region<|yv y_mv<|yv y_np<|yv (y_f 1 3 Tryz.underlying116 sz3)<|yv (y_load1 ag3 rfl (Rd.seg1 pkk (by rfl))) ?_;refine yv y_mv<|yv (y_subn rfl rfl (by simp only [InK];omega)) ?_;refine yv y_np<|yv (y_f 1 3 Tryz.underlying116 sz3)<|Hd.storeG1 sz3 rfl rfl rfl pkk (by simp;done) ?_
   try simp only [hyS]
   refine Hd.nil<|slots [(0,_),(1,_),(5,_)] sbq ?_;refine Hd.inB<|thenN ?_
   have hk:min nn.toNat r0.l.length=r0.l.length:=by omega
   refine Hd.name (b:=nn - (r0.l.length:Int)) 1 rfl (by omega) ?_;refine Hd.again (outs++[⟨r0.ad,r0.l.length,r0.l⟩],rest',ad34,cap34,cutA adH 1 1 capH,capH - 1,nn - (r0.l.length:Int)) (by simp only;omega) (by repeat (first | exact trivial | refine ⟨rfl,?_⟩ | refine ⟨by show some _=some _;simp,?_⟩)) ?_;intro k s;subst hrest
   have s2:=cutRow_sep (outs:=outs) (rest:=rest') (r0:=r0) (j:=r0.l.length) (Nat.le_refl _) pkk pkk k s
   have s3:=ownDropP (ad:=adH) pkk 1 [hdr r0] (rest'.map hdr) (by simp) (by rfl) rfl k s2
   dsimp only;refine Ent.sep (.pure ⟨?_,?_,?_,?_,hI5,hI6,?_,?_⟩ (.eq pkk (seg_eq ?_) (.eq pkk (own_eq ?_ ?_) (.imp (A:=rows (_::rest')) pkk (fun _ h=>rows_tail h) (.eq pkk (own_eq ?_ ?_) (.eq pkk ?_ enn)))))) k s3
   ·rw [hk,hfr];simp;omega
   ·simp
   ·simp
   ·simp
   ·rw [hk];simp
   ·rw [List.take_of_length_le (Nat.le_refl _)]
   ·rw [flat_app,flat_one,←hI1];simp [flat]
   ·exact full_app hI2 (full_one hr0p)
   ·exact fun r hr=>hI3 r (List.mem_cons_of_mem _ hr)
   ·rw [flat_app,flat_one,List.length_append];dsimp only;omega
   ·simp at *;omega
   ·intro h;simp at *;omega
  refine sr fun _ K12=>?_
  refine yv y_mv<|yv y_mv<|yv y_np<|yv (y_f 0 114 Tryz.underlying116 sz114)<|yv (y_load1 ag114 rfl (Rd.seg1 pkk (by rfl))) ?_;refine Hd.call rfl fk212 (clone2_ct _ _ _ _ _ hdr_one (RdS.own pkk) (by omega)) ?_;rintro ⟨ad52,cap52⟩;dsimp only;refine yv y_np<|yv (y_f 0 114 Tryz.underlying116 sz114)<|Hd.storeG1 sz114 rfl rfl rfl pkk (by simp;done) ?_
  try simp only [hyS]
  refine fk [(0,_),(1,_),(5,_),(6,_),(7,_)] K12 ?_;refine Hd.drawsH ([seg b o [.slice ad52 rest.length cap52,.int .i64 ((flat rest).length:Int)],own 30 1 ad52 rest.length cap52 (rest.map hdr)]) (fun j=>!([8].contains j)) mixed ?_;simp only [List.length,Nat.zero_add,Nat.reduceAdd];refine tH 0 rfl y_mv<|tH 1 rfl y_np<|tH 2 rfl (y_f 0 114 Tryz.underlying116 sz114)<|tH 3 rfl (y_load1 ag114 rfl (Rd.seg1 pkk (by rfl))) ?_;refine tH 4 rfl y_mv<|tH 5 rfl y_mv<|tH 6 rfl (y_slo_oxxN Tryz.underlying30 sz5 rfl rfl (by omega)) ?_;refine tH 7 rfl (y_idxR Tryz.underlying114 sz30 rfl rfl (by exact (show (0:Nat) < _ by omega)) (by exact RdS.own pkk)) ?_;refine qo 8 ?_;refine Hd.storeO1 sz30 rfl rfl rfl pkk (by simp;omega) ?_
  try simp only [hyS]
  refine qn<|endH kq ?_;refine sk [(0,_),(1,_),(5,_),(7,_)] K9 ?_;refine sr fun _ K13=>?_
  refine yv y_mv<|yv y_mv<|yv (y_subn rfl rfl (by simp only [InK];omega)) ?_;refine yv y_as<|fk [(0,_),(1,_),(5,_),(7,_)] K13 ?_;refine Hd.region<|yv y_mv<|yv y_np<|yv (y_f 1 3 Tryz.underlying116 sz3)<|yv (y_load1 ag3 rfl (Rd.seg1 pkk (by rfl))) ?_;refine yv y_mv<|yv (y_subn rfl rfl (by simp only [InK];omega)) ?_;refine yv y_np<|yv (y_f 1 3 Tryz.underlying116 sz3)<|Hd.storeG1 sz3 rfl rfl rfl pkk (by simp;done) ?_
  try simp only [hyS]
  refine Hd.nil<|slots [(0,_),(1,_),(5,_)] sbq ?_;refine Hd.inB<|thenN ?_
  have hk:min nn.toNat r0.l.length=nn.toNat:=by omega
  refine Hd.name (b:=0) 1 rfl (by omega) ?_;refine Hd.again (outs++[⟨r0.ad,nn.toNat,r0.l.take nn.toNat⟩],⟨cutA r0.ad 1 nn.toNat r0.cap,r0.cap - nn.toNat,r0.l.drop nn.toNat⟩::rest',ad34,cap34,ad52,cap52,0) (by simp only;omega) (by repeat (first | exact trivial | refine ⟨rfl,?_⟩ | refine ⟨by show some _=some _;simp,?_⟩)) ?_;intro k s;subst hrest
  have s2:=cutRow_sep (outs:=outs) (rest:=rest') (r0:=r0) (j:=nn.toNat) (by omega) pkk pkk k s
  dsimp only;refine Ent.sep (.pure ⟨?_,?_,?_,?_,hI5,hI6,?_,?_⟩ (.eq pkk (seg_eq ?_) (.eq pkk (own_eq (us:=List.set _ _ _) ?_ ?_) (.pick pkk (.eq pkk (own_eq ?_ ?_) (.pick pkk enn)))))) k s2
  ·rw [hk,hfr];simp [flat];omega
  ·simp
  ·rw [hk];simp
  ·simp
  ·rw [hk];simp;omega
  ·rw [flat_app,flat_one,←hI1];simp [flat];rw [←List.append_assoc,List.take_append_drop]
  ·exact full_app hI2 (full_one (by simp;omega))
  ·intro r hr
   rcases List.mem_cons.1 hr with rfl | hr
   ·simp;omega
   ·exact hI3 r (List.mem_cons_of_mem _ hr)
  ·rw [flat_app,flat_one,List.length_append];simp;omega
  ·simp at *;omega
  ·intro h;omega
 have hout:flat outs=(flat rs).take n.toNat∧flat rest=(flat rs).drop n.toNat:=by
  have hlo:(flat outs).length≤n.toNat:=by omega
  have hor:(flat outs).length=n.toNat∨flat rest=[]:=by
   by_cases h:nn.toNat=0
   ·left;omega
   ·right
    have:rest=[]:=by
     refine List.eq_nil_of_length_eq_zero ?_
     rcases Classical.em (rest.length=0) with h0 | h0
     ·exact h0
     ·exact absurd hc0 (by simp;omega)
    rw [this];rfl
  rw [←hI1]
  rcases hor with h | h
  ·rw [←h];simp
  ·rw [h,List.append_nil,List.take_of_length_le hlo,List.drop_of_length_le hlo];simp
 refine Hd.exit<|Hd.thenExit<|Hd.thenExit<|Hd.inBexit<|Hd.toK K3 ?_;refine sr fun _ K14=>?_
 refine yv y_mv<|yv y_as<|fk [(4,_)] K14 ?_;refine Hd.ret ?_;exact Hd.ret1 rfl (outs,rest,adO,capO) rfl (Ent.sep (.pure ⟨hout.1,hout.2,hI2,hI3⟩ (.pick pkk (.pick pkk (.ex (adH,capH) (.pick pkk (.pick pkk (.pick pkk enn))))))))
theorem take_ct (L:List SP) (b o:Nat) (rs:List Row) (hg:Good rs) (n:Int) (hn:n≤9223372036854775807):Ct Tryz.prog 73 #[.pointer (some ⟨b,o,none⟩),.int .i64 n] (Ch b o rs::L) (fun q_:List Row×Option Addr×Nat=>.slice q_.2.1 ((flat rs).take n.toNat).length q_.2.2) (fun q_:List Row×Option Addr×Nat=>pu (flat q_.1=(flat rs).drop n.toNat∧Full q_.1)::own 5 1 q_.2.1 ((flat rs).take n.toNat).length q_.2.2 (bsl ((flat rs).take n.toNat))::Ch b o q_.1::L):=by
 refine Ct.o2 Tryz.func73 ?_;intro E
 show Hd E 11 _ _ _ _
 refine sr fun _ K1=>?_
 refine yv y_as<|fk [(0,_),(1,_)] K1 ?_;refine Hd.seq fun _ K2=>?_
 refine sr fun _ K3=>?_
 refine yv y_mv<|yv (y_eql_pointer Tryz.underlying231 rfl rfl) ?_;refine fk [(0,_),(1,_),(6,_)] K3 ?_;refine Hd.condF rfl ?_;refine qv K2<|sr fun _ K4=>?_
 refine yv y_mv<|yv y_mv<|callE rfl fk159 (cut_ct _ b o rs hg n hn) sq ?_;rintro ⟨outs,rest,ad,cap⟩;dsimp only;refine Hd.pure (fun hcut=>?_)
 obtain ⟨ho,hr,hfo,hfr⟩:=hcut
 have hol:=full_len hfo
 have htl:(flat outs).length≤1048576:=by rw [ho,List.length_take];have:=hg.2;omega
 refine Hd.call rfl fk158 (concat_ct _ ad cap outs (RdS.own pkk) (fun r hr=>rows_rd pkk hr) (by omega) (by omega)) ?_;rintro ⟨a2,c2⟩;dsimp only;rw [ho];refine yv y_as<|fk [(4,_)] K4 ?_;refine Hd.ret ?_;exact Hd.ret1 rfl (rest,a2,c2) rfl (Ent.sep (.pure ⟨hr,hfr⟩ enn))
theorem lenC_ct (L:List SP) (b o:Nat) (rs:List Row):Ct Tryz.prog 78 #[.pointer (some ⟨b,o,none⟩)] (Ch b o rs::L) (fun _:Unit=>.int .i64 ((flat rs).length:Int)) (fun _:Unit=>Ch b o rs::L):=by
 refine Ct.o1 Tryz.func78 ?_;intro E
 show Hd E 9 _ _ _ _
 refine Hd.exs pkk ?_;rintro ⟨ha,hcp⟩;simp only [List.cons_append,List.nil_append];refine sr fun _ K1=>?_
 refine yv y_as<|fk [(0,_)] K1 ?_;refine Hd.seq fun _ K2=>?_
 refine sr fun _ K3=>?_
 refine yv y_mv<|yv (y_eql_pointer Tryz.underlying231 rfl rfl) ?_;refine fk [(0,_),(4,_)] K3 ?_;refine Hd.condF rfl ?_;refine qv K2<|sr fun _ K4=>?_
 refine yv y_mv<|yv y_np<|yv (y_f 1 3 Tryz.underlying116 sz3)<|yv (y_load1 ag3 rfl (Rd.seg1 pkk (by rfl))) ?_;refine yv y_as<|fk [(2,_)] K4 ?_;refine Hd.ret ?_;exact Hd.ret1 rfl () rfl (Ent.sep (.ex (ha,hcp) enn))
theorem drain_ct (L:List SP) (b o:Nat) (rs:List Row) (hg:Good rs) (n:Int) (hn:n≤9223372036854775807):Ct Tryz.prog 162 #[.pointer (some ⟨b,o,none⟩),.int .i64 n] (Ch b o rs::L) (fun rest:List Row=>.int .i64 (((flat rs).take n.toNat).length:Int)) (fun rest:List Row=>pu (flat rest=(flat rs).drop n.toNat∧Full rest)::Ch b o rest::L):=by
 refine Ct.o2 Tryz.func162 ?_;intro E
 show Hd E 17 _ _ _ _
 refine sr fun _ K1=>?_
 refine yv y_as<|fk [(0,_),(1,_)] K1 ?_;refine sr fun _ K2=>?_
 refine yv y_mv<|callE rfl fk78 (lenC_ct _ b o rs) sq ?_;intro _;refine yv y_as<|fk [(0,_),(1,_),(5,_)] K2 ?_;refine Hd.seq fun _ K3=>?_
 refine sr fun _ K4=>?_
 refine yv y_mv<|yv (y_neq_pointer Tryz.underlying231 rfl rfl) ?_;refine fk [(0,_),(1,_),(5,_),(9,_)] K4 ?_;refine Hd.condT rfl ?_;refine Hd.region<|yv y_mv<|yv y_mv<|callE rfl fk159 (cut_ct _ b o rs hg n hn) sq ?_;rintro ⟨outs,rest,ad,cap⟩;dsimp only;refine Hd.pure (fun hcut=>?_)
 obtain ⟨ho,hr,hfo,hfr⟩:=hcut
 have hl2:=hg.2
 have hl3:(flat rest).length=(flat rs).length - n.toNat:=by rw [hr,List.length_drop]
 refine fk [(0,_),(5,_)] K3 ?_;refine sr fun _ K5=>?_
 refine yv y_mv<|yv y_mv<|callE rfl fk78 (lenC_ct _ b o rest) sq ?_;intro _;refine yv (y_subn rfl rfl (by simp only [InK];omega)) ?_;refine yv y_as<|fk [(4,_)] K5 ?_;refine Hd.ret<|Hd.name (b:=(((flat rs).take n.toNat).length:Int)) 4 rfl (by rw [List.length_take];omega) ?_;exact Hd.ret1 rfl rest rfl (Ent.sep (.pure ⟨hr,hfr⟩ enn))
theorem chunks_ct (L:List SP) (p:Option Addr):Ct Tryz.prog 213 #[.pointer p] (L) (fun b:Nat=>.func (.func 235) #[] #[.pointer (some ⟨b,0,none⟩)]) (fun b:Nat=>pt b [.pointer p] 231::L):=by
 refine Ct.o1 Tryz.func213 ?_;intro E
 show Hd E 4 _ _ _ _
 refine sr fun _ K1=>?_
 refine Hd.box rfl rfl (fun b1=>?_);refine yv y_as<|fk [(1,_)] K1 ?_;refine sr fun _ K2=>?_
 refine yv (y_mkf (fv:=[]) (cv:=[_]) rfl rfl) ?_;refine yv y_as<|fk [(2,_)] K2 ?_;refine Hd.ret ?_;exact Hd.ret1 rfl b1 rfl sq
def ats:List Row→Nat→List (Nat×Row)
 | [],_=>[]
 | r::rs,a=>(a,r)::ats rs (a + r.l.length)
theorem ats_len:∀ (rs:List Row) (a:Nat),(ats rs a).length=rs.length
 | [],_=>rfl
 | r::rs,a=>by simp [ats,ats_len rs]
theorem ats_get:∀ (rs:List Row) (a i:Nat) (h:i < rs.length),(ats rs a)[i]?=some (a + (flat (rs.take i)).length,rs[i])
 | r::rs,a,0,_=>by simp [ats,flat]
 | r::rs,a,i + 1,h=>by
  have:=ats_get rs (a + r.l.length) i (by simpa using h)
  simp only [ats,List.getElem?_cons_succ,this,List.take_succ_cons,List.getElem_cons_succ];simp [flat,Nat.add_assoc]
theorem ats_take {rs:List Row} {i:Nat} (h:i < rs.length):(ats rs 0).take (i + 1)=(ats rs 0).take i++[((flat (rs.take i)).length,rs[i])]:=by
 rw [List.take_add_one,ats_get rs 0 i h];simp
abbrev encA (c:Nat×Row):List Value:=[.int .i64 (c.1:Int),hdr c.2]
def SpA (rs:List Row) (xs:List (Nat×Row)):Prop:=∃ i,i < rs.length∧xs=(ats rs 0).take (i + 1)
theorem spA_last {rs:List Row} {pre:List (Nat×Row)} {c:Nat×Row} (h:SpA rs (pre++[c])):∃ (i:Nat) (hi:i < rs.length),pre=(ats rs 0).take i∧c=((flat (rs.take i)).length,rs[i])∧pre.length=i:=by
 obtain ⟨i,hi,e⟩:=h
 rw [ats_take hi] at e
 have:=List.append_inj' e rfl
 refine ⟨i,hi,this.1,by simpa using this.2,?_⟩;rw [this.1,List.length_take,ats_len];omega
theorem chunks_it (bc b o:Nat) (rs:List Row) (ha:Option Addr) (hcp:Nat) (len:Int) (hm:(flat rs).length≤1048576) (hr:rs.length≤1048576):It Tryz.prog 235 [.pointer (some ⟨bc,0,none⟩)] encA
  (fun xs=>xs=ats rs 0) (SpA rs)
  (pt bc [.pointer (some ⟨b,o,none⟩)] 231::seg b o [.slice ha rs.length hcp,.int .i64 len]::OwH ha hcp rs::[]) (pt bc [.pointer (some ⟨b,o,none⟩)] 231::seg b o [.slice ha rs.length hcp,.int .i64 len]::OwH ha hcp rs::[]):=by
 intro l J X hy;refine Ct.of (vs:=[.func (.yield l) #[] #[],.pointer (some ⟨bc,0,none⟩)]) Tryz.func235 rfl rfl [(0,.func (.yield l) #[] #[]),(1,.pointer (some ⟨bc,0,none⟩))] ⟨rfl,rfl,trivial⟩ ?_;intro E
 show Hd E 27 _ _ _ _
 refine Hd.heap (pt bc [.pointer (some ⟨b,o,none⟩)] 231::seg b o [.slice ha rs.length hcp,.int .i64 len]::OwH ha hcp rs::J []) (fun k h=>sep_app h) ?_;refine Hd.seq fun _ K1=>?_
 refine sr fun _ K2=>?_
 refine yv (y_l1 ag231 rfl)<|yv (y_eql_pointer Tryz.underlying231 rfl rfl) ?_;refine fk [(0,_),(1,_),(7,_)] K2 ?_;refine Hd.condF rfl ?_;refine qv K1<|sr fun _ K3=>?_
 refine yv y_as<|fk [(0,_),(1,_),(3,_)] K3 ?_;refine sr fun _ K4=>?_
 refine yv (y_l1 ag231 rfl)<|yv y_np<|yv (y_f 0 114 Tryz.underlying116 sz114)<|yv (y_load1 ag114 rfl (Rd.seg1 pkk (by rfl))) ?_;refine yv (y_len Tryz.underlying114 rfl) ?_;refine yv y_mv<|fk [(0,_),(3,_),(11,_),(12,_),(13,_)] K4 ?_;refine Hd.block<|Hd.loopK (ι:=Nat) [(0,_),(11,_),(12,_)] (fun i=>[(3,.int .i64 ((flat (rs.take i)).length:Int)),(13,.int .i64 (i:Int))]) (fun i=>pu (i≤rs.length)::pt bc [.pointer (some ⟨b,o,none⟩)] 231::seg b o [.slice ha rs.length hcp,.int .i64 len]::OwH ha hcp rs::J ((ats rs 0).take i)) (fun i=>rs.length - i) 0 sbq sbq (Ent.sep (.pure (by omega) enn)) ?_;intro i
 try dsimp only
 refine Hd.pure (fun hp0=>?_)
 try dsimp only at hp0
 refine sr fun _ K5=>?_
 refine yv (y_lss rfl rfl) ?_;refine fk [(0,_),(3,_),(11,_),(12,_),(13,_),(14,_)] K5 ?_;refine Hd.seq fun _ K6=>?_
 refine qz ?_ ?_<;>intro hc1<;>try simp only [hyZ] at hc1
 ·have hi':i < rs.length:=by omega
  have e1:=flat_take_succ hi'
  have e2:=flat_take_le (rs:=rs) (i + 1)
  rw [e1,List.length_append] at e2;refine qv K6<|Hd.seq fun _ K7=>?_
  refine Hd.block<|sr fun _ K8=>?_
  refine yv (y_idxR Tryz.underlying114 sz30 rfl rfl (by omega) (by exact RdS.own pkk)) ?_;refine yv (y_loadR1 ag30 rfl (by exact RdS.own pkk) (by exact hdr_at hi')) ?_;refine yv y_as<|fk [(0,_),(3,_),(5,_),(11,_),(12,_),(13,_)] K8 ?_;refine Hd.seq fun _ K9=>?_
  refine sr fun _ K10=>?_
  refine yv y_mv<|yv y_mv<|yv y_mv<|Hd.yield (pre:=(ats rs 0).take i) (c:=((flat (rs.take i)).length,rs[i])) (M:=pt bc [.pointer (some ⟨b,o,none⟩)] 231::seg b o [.slice ha rs.length hcp,.int .i64 len]::OwH ha hcp rs::[]) hy rfl rfl ⟨i,hi',(ats_take hi').symm⟩ (fun k h=>sep_app (M:=[_,_,_]) h) ?_;intro yb;rw [←ats_take hi'];refine yv (y_not rfl)<|fk [(0,_),(3,_),(5,_),(11,_),(12,_),(13,_),(21,_)] K10 ?_;refine qz ?_ ?_<;>intro hc2<;>try simp only [hyZ] at hc2
  ·subst hc2
   simp only [cond_false];refine Hd.ret<|Hd.thenRet<|Hd.inBret<|Hd.thenRet<|Hd.thenRet<|Hd.inBret ?_;exact Hd.ret0 rfl ((ats rs 0).take (i + 1),false) rfl (fun k' h=>Ent.sep (.pure ⟨i,hi',rfl⟩ .same) k' h)
  subst hc2;simp only [cond_true];refine Hd.heap (pt bc [.pointer (some ⟨b,o,none⟩)] 231::seg b o [.slice ha rs.length hcp,.int .i64 len]::OwH ha hcp rs::J ((ats rs 0).take (i + 1))) (fun k h=>sep_app (N:=[_,_,_]) h) ?_;refine qv K9<|Hd.region<|yv y_mv<|yv y_mv<|yv (y_len Tryz.underlying30 rfl) ?_;refine yv (y_addn rfl rfl (by simp only [InK];omega)) ?_;refine yv y_as<|Hd.nil<|slots [(0,_),(3,_),(11,_),(12,_),(13,_)] sbq ?_;refine Hd.inB<|Hd.toK K7 ?_;refine Hd.region<|yv (y_addn rfl rfl (by simp only [InK];omega)) ?_;refine yv y_mv<|Hd.nil<|slots [(0,_),(3,_),(11,_),(12,_),(13,_)] sbq ?_;refine thenN ?_;exact Hd.again (i + 1) (by omega) (by repeat (first | exact trivial | refine ⟨rfl,?_⟩ | refine ⟨by (show some _=some _;rw [e1,List.length_append];rfl),?_⟩)) (Ent.sep (.pure (by omega) enn))
 refine Hd.exit<|Hd.thenExit<|Hd.thenExit<|Hd.inBexit ?_
 have hi:i=rs.length:=by omega
 subst hi
 have e0:(ats rs 0).take rs.length=ats rs 0:=List.take_of_length_le (by rw [ats_len];exact Nat.le_refl _)
 rw [e0];exact Hd.end0 rfl (ats rs 0,true) rfl (fun k' h=>Ent.sep (.pure rfl .same) k' (sep_app (M:=[_,_,_]) h))
theorem ent3 {L:List SP} {A B C:SP}:Ent (A::B::C::L) (L++[A,B,C]):=Ent.swap (L:=[A,B,C])
theorem own0 {L M:List SP} {e sz m:Nat} {ad:Option Addr} {us:List Value} (h1:m=0) (h2:us=[]) (q:Ent L M):Ent L (own e sz ad m 0 us::M):=by subst h1;subst h2;exact .ownNil q
def cpy (all:List UInt8) (f n:Int):List UInt8:=if f < 0∨n < 0 then [] else (all.drop f.toNat).take n.toNat
theorem take_drop_app (A R:List UInt8) (f n:Nat) (h:((A.drop f).take n).length≠n):((A++R).drop f).take n=(A.drop f).take n++(R.drop (f - A.length)).take (n - ((A.drop f).take n).length):=by
 have hl:(A.drop f).length < n:=by
  rw [List.length_take] at h
  rcases Nat.lt_or_ge (A.drop f).length n with h1 | h1
  ·exact h1
  ·exact absurd (Nat.min_eq_left h1) h
 rw [List.drop_append,List.take_append,List.take_of_length_le (Nat.le_of_lt hl)]
theorem take_full (A R:List UInt8) (f n:Nat) (h:((A.drop f).take n).length=n):((A++R).drop f).take n=(A.drop f).take n:=by
 have hl:n≤(A.drop f).length:=by rw [List.length_take] at h;omega
 rw [List.drop_append,List.take_append_of_le_length hl]
theorem flat_pre {rs:List Row} (i:Nat):flat rs=flat (rs.take i)++flat (rs.drop i):=by unfold flat;rw [←List.flatMap_append,List.take_append_drop]
theorem copy_ct (L:List SP) (b o:Nat) (rs:List Row) (hg:Good rs) (f n:Int) (hf:InK .i64 f) (hn:InK .i64 n):Ct Tryz.prog 161 #[.pointer (some ⟨b,o,none⟩),.int .i64 f,.int .i64 n] (Ch b o rs::L) (fun q_:Option Addr×Nat=>.slice q_.1 (cpy (flat rs) f n).length q_.2) (fun q_:Option Addr×Nat=>own 5 1 q_.1 (cpy (flat rs) f n).length q_.2 (bsl (cpy (flat rs) f n))::Ch b o rs::L):=by
 refine Ct.o3M Tryz.func161 ?_;intro E
 show Hd E 48 _ _ _ _
 obtain ⟨hfull,hlen⟩:=hg
 have hrl:=full_len hfull
 simp only [InK] at hf hn;refine sr fun _ K1=>?_
 refine Hd.box rfl rfl (fun b4=>?_);refine Hd.box rfl rfl (fun b5=>?_);refine yv y_as<|fk [(0,_),(4,_),(5,_)] K1 ?_;refine Hd.scope ?_;refine Hd.seq fun _ K2=>?_
 refine sr fun _ K3=>?_
 refine yv (y_l1 ag3 rfl)<|yv (y_lss rfl rfl) ?_;refine yv y_mv ?_;apply Hd.org 3 12 15 [(0,_),(4,_),(5,_)] rfl sbq
 ·intro hg1_12
  try simp only [hyZ] at hg1_12
  simp only [List.take];refine n1<|n1<|yv (y_pickT rfl rfl) ?_;exact Hd.mn
 ·intro hg1_12
  try simp only [hyZ] at hg1_12
  simp only [List.take];refine y2 (y_l1 ag3 rfl)<|y2 (y_lss rfl rfl) ?_;refine yv (y_pickF rfl rfl) ?_;exact Hd.mn
 simp only [List.drop];refine fk [(0,_),(4,_),(5,_),(15,_)] K3 ?_;refine qz ?_ ?_<;>intro hc0<;>try simp only [hyZ] at hc0
 ·refine sr fun _ K4=>?_
  refine yv y_as<|fk [(6,_)] K4 ?_;refine Hd.ret<|Hd.thenRet<|Hd.scRet ?_
  have e:cpy (flat rs) f n=[]:=by unfold cpy;rw [if_pos hc0]
  exact Hd.retM (fun a fr=>Lv.end1 fr rfl (none,0) (by rw [e];rfl) (by rw [e];exact Ent.sep (.ownNil enn)))
 obtain ⟨hf0,hn0⟩:0≤f∧0≤n:=by omega
 have e:cpy (flat rs) f n=((flat rs).drop f.toNat).take n.toNat:=by unfold cpy;rw [if_neg (by omega)]
 refine Hd.exs pkk ?_;rintro ⟨ha,hcp⟩;simp only [List.cons_append,List.nil_append];refine qv K2<|sr fun _ K5=>?_
 refine Hd.alloc zr30 (fun b7=>?_);refine fk [(0,_),(4,_),(5,_),(7,_)] K5 ?_;refine Hd.seq fun _ K6=>?_
 refine Hd.label ?_;refine Hd.toK K6 ?_;refine Hd.seq fun _ K7=>?_
 refine sr fun _ K8=>?_
 refine yv y_mv<|callE rfl fk213 (chunks_ct _ _) sq ?_;intro bc;refine fk [(4,_),(5,_),(7,_),(17,_)] K8 ?_;refine Hd.block<|Hd.rangeF (enc:=encA) (S:=fun xs=>xs=ats rs 0) (Sp:=SpA rs)
  (fun pre=>(RX.ex fun i:Option Addr×Nat=>[pt b7 [.slice i.1 (((flat (rs.take pre.length)).drop f.toNat).take n.toNat).length i.2] 30,own 5 1 i.1 (((flat (rs.take pre.length)).drop f.toNat).take n.toNat).length i.2 (bsl (((flat (rs.take pre.length)).drop f.toNat).take n.toNat))])::pt b4 [.int .i64 f] 3::pt b5 [.int .i64 n] 3::rows rs::L)
  (fun j pre=>[pu (j=some 0),RX.ex fun i:Option Addr×Nat=>[pt b7 [.slice i.1 (cpy (flat rs) f n).length i.2] 30,own 5 1 i.1 (cpy (flat rs) f n).length i.2 (bsl (cpy (flat rs) f n))]]++(rows rs::L))
  rfl kq (fun _=>rfl) rfl (chunks_it bc b o rs ha hcp _ hlen (by omega)) (Ent.sep (.ex (none,0) (.eq pkk (pt_eq (by simp [flat])) (own0 (by simp [flat]) (by simp [flat]) (.pick pkk (.pick pkk (.pick pkk ent3))))))) ?_ ?_ ?_
 ·intro E l' R pre c N hR hG
  obtain ⟨i,hi,hpre,rfl,hpl⟩:=spA_last hG
  unfold Rnd;simp only [List.cons_append,List.nil_append,pz,encA];refine sr fun _ K9=>?_
  refine yv y_as<|fk [(4,_),(5,_),(7,_),(8,_),(19,_)] K9 ?_;refine Hd.region<|yv y_as<|Hd.nil<|slots [(4,_),(5,_),(7,_),(8,_),(9,_)] sbq ?_;refine thenN<|Hd.begin hR pkk ?_;refine Hd.block<|Hd.seq fun _ K10=>?_
  refine Hd.seq fun _ K11=>?_
  rw [hpl]
  have e1:=flat_take_succ hi
  have e2:=flat_take_le (rs:=rs) (i + 1)
  rw [e1,List.length_append] at e2
  have hout:(((flat (rs.take i)).drop f.toNat).take n.toNat).length≤n.toNat:=by rw [List.length_take];omega
  have hout2:(((flat (rs.take i)).drop f.toNat).take n.toNat).length≤1048576:=by rw [List.length_take,List.length_drop];omega
  refine Hd.exs pkk ?_;rintro ⟨a4,c4⟩;simp only [List.cons_append,List.nil_append];refine Hd.rowsCap (rs:=rs) pkk (fun hcaps=>?_)
  have hcap0:=hcaps _ (List.getElem_mem hi)
  refine Hd.region<|yv (y_l1 ag30 rfl)<|yv (y_len Tryz.underlying30 rfl) ?_;refine yv (y_l1 ag3 rfl)<|yv (y_eql rfl rfl) ?_;refine fk [(4,_),(5,_),(7,_),(8,_),(9,_),(23,_)] K11 ?_;refine qz ?_ ?_<;>intro hc1<;>try simp only [hyZ] at hc1
  ·refine Hd.exit ?_
   refine Hd.thenExit<|Hd.inBexit' rfl ?_;refine Hd.reX ?_;simp only [List.cons_append,List.nil_append]
   have hc1':(((flat (rs.take i)).drop f.toNat).take n.toNat).length=n.toNat:=by omega
   have e3:cpy (flat rs) f n=((flat (rs.take i)).drop f.toNat).take n.toNat:=by rw [e,flat_pre i,take_full _ _ _ _ hc1']
   exact Ent.sep (.pick pkk (.pure (by trivial) (.ex (a4,c4) (.eq pkk (pt_eq (by rw [e3])) (.eq pkk (own_eq (by rw [e3]) (by rw [e3])) enn)))))
  have hc1':(((flat (rs.take i)).drop f.toNat).take n.toNat).length≠n.toNat:=by omega
  refine qv K10<|sr fun _ K12=>?_
  refine yv y_mv<|yv y_mv<|yv (y_len Tryz.underlying30 rfl) ?_;refine yv (y_addn rfl rfl (by simp only [InK];omega)) ?_;refine yv (y_l1 ag3 rfl)<|yv (y_gtr rfl rfl) ?_;refine fk [(4,_),(5,_),(7,_),(8,_),(9,_),(29,_)] K12 ?_;refine qz ?_ ?_<;>intro hc2<;>try simp only [hyZ] at hc2
  ·refine sr fun _ K13=>?_
   refine yv y_mv<|yv (y_l1 ag3 rfl)<|yv y_mv<|yv (y_subn rfl rfl (by simp only [InK];omega)) ?_;refine yv (y_max rfl rfl) ?_;refine Hd.name (b:=((f.toNat - (flat (rs.take i)).length:Nat):Int)) 34 rfl (by omega) ?_;refine yv (y_slo_oxxN Tryz.underlying30 sz5 rfl rfl (by omega)) ?_;refine yv y_as<|fk [(5,_),(7,_),(9,_)] K13 ?_;refine Hd.drawsH ([pt b7 [.slice a4 (((flat (rs.take i)).drop f.toNat).take n.toNat).length c4] 30,pt b5 [.int .i64 n] 3]) (fun j=>!([11].contains j)) mixed ?_;simp only [List.length,Nat.zero_add,Nat.reduceAdd];refine tH 0 rfl (y_l1 ag30 rfl)<|tH 1 rfl y_mv<|tH 2 rfl y_mv<|tH 3 rfl (y_len Tryz.underlying30 rfl) ?_;refine tH 4 rfl (y_l1 ag3 rfl)<|tH 5 rfl (y_l1 ag30 rfl)<|tH 6 rfl (y_len Tryz.underlying30 rfl) ?_;refine tH 7 rfl (y_subn rfl rfl (by simp only [InK];omega)) ?_
   refine tH 8 rfl (y_min rfl rfl) ?_;refine Hd.name (b:=((min (rs[i].l.length - (f.toNat - (flat (rs.take i)).length)) (n.toNat - (((flat (rs.take i)).drop f.toNat).take n.toNat).length):Nat):Int)) 44 rfl (by omega) ?_;refine tH 9 rfl (y_slo_xoxN Tryz.underlying30 sz5 rfl rfl (by omega)) ?_;refine qo 10 ?_;refine Hd.append Tryz.underlying30 ty5 rfl rfl rfl pkk (by exact RdS.head (RdS.tail (rows_rd pkk (List.getElem_mem hi)) (by omega) (by omega)) (by omega)) (by exact fun u hu=>B_one (l:=rs[i].l) u (List.mem_of_mem_drop (List.mem_of_mem_take hu))) (by simp only [maxLen];omega) (by omega) (fun ad46 cap46=>?_);refine qk<|qo 11 ?_;refine Hd.store1 sz30 rfl rfl rfl pkk (by simp;done) ?_
   try simp only [hyS]
   refine qn<|endH kq ?_;refine slots [(7,_)] sbq ?_;refine Hd.inB<|Hd.reN ?_;simp only [List.cons_append,List.nil_append]
   have e4:=take_drop_app (flat (rs.take i)) rs[i].l f.toNat n.toNat hc1'
   rw [←e1] at e4;refine Ent.sep (.pick pkk (.ex (ad46,cap46) (.eq pkk (pt_eq ?_) (.eq pkk (own_eq ?_ ?_) enn))))
   ·simp only [List.length_append,List.length_cons,List.length_nil,hpl,Nat.zero_add]
    rw [e4,List.length_append];simp only [List.length_take,List.length_drop]
    congr 2;omega
   ·simp only [List.length_append,List.length_cons,List.length_nil,hpl,Nat.zero_add]
    rw [e4,List.length_append];simp only [List.length_take,List.length_drop];omega
   ·simp only [List.length_append,List.length_cons,List.length_nil,hpl,Nat.zero_add]
    rw [e4];simp [List.map_take,List.map_drop];omega
  refine Hd.skip<|Hd.inB<|Hd.reN ?_;simp only [List.cons_append,List.nil_append]
  have e4:((flat (rs.take (i + 1))).drop f.toNat).take n.toNat=((flat (rs.take i)).drop f.toNat).take n.toNat:=by
   rw [e1,List.drop_append,List.drop_of_length_le (show rs[i].l.length≤f.toNat - (flat (rs.take i)).length by omega),List.append_nil]
  refine Ent.sep (.pick pkk (.ex (a4,c4) (.eq pkk (pt_eq ?_) (.eq pkk (own_eq ?_ ?_) enn))))
  all_goals simp only [List.length_append,List.length_cons,List.length_nil,hpl,Nat.zero_add,e4]
 ·intro r0 xs hxs
  have hxs':xs=ats rs 0:=hxs
  subst hxs';rw [ats_len,List.take_length,←e]
  try simp only [List.cons_append,List.nil_append]
  refine Hd.inB<|Hd.toK K7 ?_;refine Hd.seq fun _ K14=>?_
  refine Hd.exs pkk ?_;rintro ⟨a4,c4⟩;simp only [List.cons_append,List.nil_append];refine Hd.region<|yv (y_l1 ag30 rfl)<|yv y_as<|fk [(6,_)] K14 ?_;refine Hd.ret<|Hd.scRet ?_;exact Hd.retM (fun a fr=>Lv.mark pkk (Lv.end1 fr rfl (a4,c4) rfl (Ent.sep (.pick pkk (.ex (ha,hcp) enn)))))
 rintro r0_0 (_ | id0) pre0 hG0
 ·exact Hd.absurd (by simp)
 by_cases hid0:id0=0
 ·subst hid0
  simp only [List.cons_append,List.nil_append];refine Hd.pure (fun _=>?_)
  try simp only [List.cons_append,List.nil_append]
  refine Hd.exit<|Hd.inBexit<|Hd.toK K7 ?_;refine Hd.seq fun _ K15=>?_
  refine Hd.exs pkk ?_;rintro ⟨a4,c4⟩;simp only [List.cons_append,List.nil_append];refine Hd.region<|yv (y_l1 ag30 rfl)<|yv y_as<|fk [(6,_)] K15 ?_;refine Hd.ret<|Hd.scRet ?_;exact Hd.retM (fun a fr=>Lv.mark pkk (Lv.end1 fr rfl (a4,c4) rfl (Ent.sep (.pick pkk (.ex (ha,hcp) enn)))))
 ·exact Hd.absurd (by simpa using hid0)
def Mt (all w:List UInt8) (a:Nat):Prop:=(all.drop a).take w.length=w
instance (all w:List UInt8) (a:Nat):Decidable (Mt all w a):=by unfold Mt;infer_instance
section
variable {E : World} {n : Nat} {ds : List Deferred} {st : List (Nat × Value)} {L L' L2 : List SP} {K : Act → World → Prop}
theorem Hd.ptOwn {b:Nat} {cs:List Value} {e:TypeId} (m' sz':Nat) (p:Pick L (pt b cs e) L') (hl:cs.length=m' * sz') (hm:m'≤maxLen) (h:Hd E n ds st (own e sz' (some ⟨b,0,none⟩) m' m' cs::L') K):Hd E n ds st L K :=
 Hd.heap _ (fun k s=>sep_head (p.sep s) fun k x=>own_pt (sp:=[]) hl (Nat.le_refl _) hm (by simp) (by simpa using x)) h
theorem NeP.mono {P:Program} {M:List SP} {a1 a2:Addr} (h:NeP P L a1 a2) (hm:∀ k,sep M k→sep L k):NeP P M a1 a2:=fun E w s=>h E w (s.mp hm)
end
end Bc
end Go.Proofs.YtmpemhbfgbochaaGreatDoor
namespace Go.Proofs.YtmpemhbfgbochaaGreatDoor
open Go.RX Fx
namespace Bu
open Wo
theorem sep_pure {p:Prop} {L:List SP} {k:PH} (h:sep (pu p::L) k):p∧sep L k:=by
 obtain ⟨h1,h2,_,_,b,x,y⟩:=h
 exact ⟨x,y.up b⟩
theorem Ct.exs {P:Program} {f:FuncId} {vs:Array Value} {L:List SP} {ι κ:Type} {val:ι→Value} {post:ι→List SP} {X:κ→List SP} (h:∀ i,Ct P f vs (X i++L) val post):Ct P f vs (RX.ex X::L) val post:=fun E w s=>by
 obtain ⟨h1,h2,h3,h4⟩:=s
 obtain ⟨k1,k2,d,s1,s2,⟨i,x⟩,y⟩:=h4
 exact h i E w ⟨h1,h2,h3,sep_join d s1 s2 x y⟩
theorem Ct.pure {P:Program} {f:FuncId} {vs:Array Value} {L:List SP} {ι:Type} {val:ι→Value} {post:ι→List SP} {p:Prop} (h:p→Ct P f vs L val post):Ct P f vs (pu p::L) val post:=fun E w s=>by
 have:=sep_pure s.2.2.2
 exact h this.1 E w ⟨s.1,s.2.1,s.2.2.1,this.2⟩
theorem Ct.imp {P:Program} {f:FuncId} {vs:Array Value} {L L':List SP} {ι ι':Type} {val:ι→Value} {val':ι'→Value} {post:ι→List SP} {post':ι'→List SP} (h:Ct P f vs L val post) (hL:∀ k,sep L' k→sep L k)
  (hp:∀ i,∃ j,val i=val' j∧∀ k,sep (post i) k→sep (post' j) k):Ct P f vs L' val' post':=fun E w s =>
 Calls.mono (h E w (s.mp hL)) (fun e w' ⟨i,he,hs⟩=>by obtain ⟨j,hv,hj⟩:=hp i;exact ⟨j,by rw [he,hv],hs.mp hj⟩)
def ChB (b o:Nat) (l:List UInt8):SP:=RX.ex fun rs:List Bc.Row=>[pu (Bc.Good rs∧Bc.flat rs=l),Bc.Ch b o rs]
theorem Hd.chB {E:World} {n:Nat} {ds:List Deferred} {st:List (Nat×Value)} {L L':List SP} {K:Act→World→Prop} {b o:Nat} {l:List UInt8} (p:Pick L (ChB b o l) L') (h:l.length≤1048576→Hd E n ds st L K):Hd E n ds st L K:=fun a w f s=>by
 refine h ?_ a w f s
 obtain ⟨h1,s1,rs,x⟩:=sep.one p s.2.2.2
 have x2:=(sep_pure (p:=Bc.Good rs∧Bc.flat rs=l) x).1
 rw [←x2.2];exact x2.1.2
theorem chLen (L:List SP) (b o:Nat) (l:List UInt8):Ct Tryz.prog 78 #[.pointer (some ⟨b,o,none⟩)] (ChB b o l::L) (fun _:Unit=>.int .i64 (l.length:Int)) (fun _=>ChB b o l::L) :=
 Ct.exs fun rs=>Ct.pure fun h=>by
  obtain ⟨hg,rfl⟩:=h
  exact Ct.imp (Bc.lenC_ct L b o rs) (fun k s=>s) fun i=>⟨(),rfl,fun k s=>Ent.sep (.ex rs (.pure ⟨hg,rfl⟩ enn)) k s⟩
def addA (l bs:List UInt8):List UInt8:=if bs.length≤1048576 - l.length then l++bs else l
def addE (l bs:List UInt8):Int:=if bs.length≤1048576 - l.length then 0 else 70
theorem chAdd (L:List SP) (b o:Nat) (l:List UInt8) (ad:Option Addr) (m cap:Nat) (bs:List UInt8) (hl:bs.length=m) (hD:RdS L 1 ad m (bsl bs)) (hmc:m≤cap) (hm:m≤70368744177664):Ct Tryz.prog 72 #[.pointer (some ⟨b,o,none⟩),.slice ad m cap] (ChB b o l::L) (fun _:Unit=>.int .i64 (addE l bs)) (fun _=>ChB b o (addA l bs)::L) :=
 Ct.exs fun rs=>Ct.pure fun h=>by
  obtain ⟨hg,rfl⟩:=h
  subst hl
  exact Ct.imp (Bc.add_ct L b o rs hg ad bs.length cap bs hD hmc hm) (fun k s=>s) fun rs'=>⟨(),rfl,fun k s=>by
   obtain ⟨⟨h1,h2⟩,s⟩:=sep_pure s
   exact Ent.sep (.ex rs' (.pure ⟨h1,h2⟩ enn)) k s⟩
theorem chTake (L:List SP) (b o:Nat) (l:List UInt8) (n:Int) (hn:n≤9223372036854775807):Ct Tryz.prog 73 #[.pointer (some ⟨b,o,none⟩),.int .i64 n] (ChB b o l::L) (fun i:Option Addr×Nat=>.slice i.1 (l.take n.toNat).length i.2) (fun i=>own 5 1 i.1 (l.take n.toNat).length i.2 (bsl (l.take n.toNat))::ChB b o (l.drop n.toNat)::L) :=
 Ct.exs fun rs=>Ct.pure fun h=>by
  obtain ⟨hg,rfl⟩:=h
  exact Ct.imp (Bc.take_ct L b o rs hg n hn) (fun k s=>s) fun i=>⟨(i.2.1,i.2.2),rfl,fun k s=>by
   obtain ⟨⟨h1,h2⟩,s⟩:=sep_pure s
   have hg2:Bc.Good i.1:=⟨h2,by rw [h1,List.length_drop];have:=hg.2;omega⟩
   exact Ent.sep (.pick pkk (.ex i.1 (.pure ⟨hg2,h1⟩ enn))) k s⟩
theorem chDrain (L:List SP) (b o:Nat) (l:List UInt8) (n:Int) (hn:n≤9223372036854775807):Ct Tryz.prog 162 #[.pointer (some ⟨b,o,none⟩),.int .i64 n] (ChB b o l::L) (fun _:Unit=>.int .i64 ((l.take n.toNat).length:Int)) (fun _=>ChB b o (l.drop n.toNat)::L) :=
 Ct.exs fun rs=>Ct.pure fun h=>by
  obtain ⟨hg,rfl⟩:=h
  exact Ct.imp (Bc.drain_ct L b o rs hg n hn) (fun k s=>s) fun r=>⟨(),rfl,fun k s=>by
   obtain ⟨⟨h1,h2⟩,s⟩:=sep_pure s
   have hg2:Bc.Good r:=⟨h2,by rw [h1,List.length_drop];have:=hg.2;omega⟩
   exact Ent.sep (.ex r (.pure ⟨hg2,h1⟩ enn)) k s⟩
theorem chCopy (L:List SP) (b o:Nat) (l:List UInt8) (f n:Int) (hf:InK .i64 f) (hn:InK .i64 n):Ct Tryz.prog 161 #[.pointer (some ⟨b,o,none⟩),.int .i64 f,.int .i64 n] (ChB b o l::L) (fun i:Option Addr×Nat=>.slice i.1 (Bc.cpy l f n).length i.2) (fun i=>own 5 1 i.1 (Bc.cpy l f n).length i.2 (bsl (Bc.cpy l f n))::ChB b o l::L) :=
 Ct.exs fun rs=>Ct.pure fun h=>by
  obtain ⟨hg,rfl⟩:=h
  exact Ct.imp (Bc.copy_ct L b o rs hg f n hf hn) (fun k s=>s) fun i=>⟨i,rfl,fun k s=>Ent.sep (.pick pkk (.ex rs (.pure ⟨hg,rfl⟩ enn))) k s⟩
structure SdA where
 c:List UInt8
 on:Bool
 ended:Bool
 low:Int
 high:Int
 after:Int
 at_:Int
structure BfA where
 s:Nat→SdA
 fd:Int
abbrev encS (s:SdA):List Value:=[.bool s.on,.bool s.ended,.int .i64 s.low,.int .i64 s.high,.int .u64 s.after,.int .u64 s.at_]
abbrev SdL (b k:Nat) (s:SdA) (L:List SP):List SP:=ChB b (2 + k * 8 + 0) s.c::segK b (2 + k * 8) 2 (encS s)::L
abbrev BfH (b wb:Nat) (fd:Int):SP:=seg b 0 [.pointer (some ⟨wb,0,none⟩),.int .i64 fd]
abbrev BfK (b:Nat):SP:=kd b 18 121
abbrev BfL (b wb:Nat) (x:BfA) (k:Nat) (L:List SP):List SP:=BfK b::BfH b wb x.fd::SdL b k (x.s k) (SdL b (1 - k) (x.s (1 - k)) L)
def BufP (b wb:Nat) (x:BfA):SP:=RX.ex fun _:Unit=>BfL b wb x 0 []
theorem Hd.buf {E:World} {n:Nat} {ds:List Deferred} {st:List (Nat×Value)} {L L':List SP} {K:Act→World→Prop} {b wb:Nat} {x:BfA} (p:Pick L (BufP b wb x) L') (h:Hd E n ds st (BfL b wb x 0 L') K):Hd E n ds st L K :=
 Hd.exs (f:=fun _:Unit=>BfL b wb x 0 []) p fun _=>h
def flagA (k:Nat):Int:=if k=0 then 2 else 4
def hasA (mask:Int) (k:Nat):Bool:=decide (bits .and .i64 mask (flagA k)≠0)
def sidesA (mask:Int):List Nat:=[0,1].filter (hasA mask)
theorem flag_ct (L:List SP) (k:Nat):Ct Tryz.prog 79 #[.int .i64 (k:Int)] (L) (fun _:Unit=>.int .i64 (flagA k)) (fun _:Unit=>L):=by
 refine Ct.o1 Tryz.func79 ?_;intro E
 show Hd E 5 _ _ _ _
 refine sr fun _ K1=>?_
 refine yv y_as<|fk [(0,_)] K1 ?_;refine Hd.seq fun _ K2=>?_
 refine sr fun _ K3=>?_
 refine yv y_mv<|yv (y_eql rfl rfl) ?_;refine fk [(4,_)] K3 ?_;refine qz ?_ ?_<;>intro hc0<;>try simp only [hyZ] at hc0
 ·refine sr fun _ K4=>?_
  refine yv y_as<|fk [(2,_)] K4 ?_;refine Hd.ret<|Hd.thenRet ?_
  obtain rfl:k=0:=by omega
  exact Hd.ret1 rfl () rfl sq
 refine qv K2<|sr fun _ K5=>?_
 refine yv y_as<|fk [(2,_)] K5 ?_;refine Hd.ret ?_
 have:k≠0:=by omega
 exact Hd.ret1 rfl () (by unfold flagA;rw [if_neg this];rfl) sq
theorem bnone_ct (L:List SP) (b wb:Nat) (fd:Int):Ct Tryz.prog 71 #[.pointer (some ⟨b,0,none⟩)] (BfH b wb fd::L) (fun _:Unit=>.bool false) (fun _:Unit=>BfH b wb fd::L):=by
 refine Ct.o1 Tryz.func71 ?_;intro E
 show Hd E 12 _ _ _ _
 refine sr fun _ K1=>?_
 refine yv y_as<|fk [(0,_)] K1 ?_;refine sr fun _ K2=>?_
 refine yv y_mv<|yv (y_eql_pointer Tryz.underlying33 rfl rfl) ?_;refine yv y_mv<|y2 y_mv<|y2 y_np<|y2 (y_f 0 37 Tryz.underlying121 sz37)<|y2 (y_load1 ag37 rfl (Rd.seg1 pkk (by rfl))) ?_;refine y2 (y_eql_pointer Tryz.underlying37 rfl rfl) ?_;refine yv (y_pickF rfl rfl) ?_;refine yv y_as<|fk [(2,_)] K2 ?_;refine Hd.ret ?_;exact Hd.ret1 rfl () (by rfl) sq
theorem may_ct (L:List SP) (b wb:Nat) (fd:Int) (s:Int):Ct Tryz.prog 64 #[.pointer (some ⟨b,0,none⟩),.int .i64 s] (BfH b wb fd::L) (fun _:Unit=>.int .i64 (if bits .andNot .i64 s 6=0 then 0 else 2)) (fun _:Unit=>BfH b wb fd::L):=by
 refine Ct.o2 Tryz.func64 ?_;intro E
 show Hd E 12 _ _ _ _
 refine sr fun _ K1=>?_
 refine yv y_as<|fk [(0,_),(1,_)] K1 ?_;refine Hd.seq fun _ K2=>?_
 refine Hd.block<|sr fun _ K3=>?_
 refine yv y_mv<|callE rfl fk71 (bnone_ct _ b wb fd) sq ?_;intro _;refine yv y_as<|fk [(1,_),(5,_)] K3 ?_;refine Hd.condF rfl ?_;refine sr fun _ K4=>?_
 refine yv y_mv<|yv (y_andNot rfl rfl) ?_;refine yv (y_neq rfl rfl) ?_;refine yv y_as<|fk [(8,_)] K4 ?_;refine qz ?_ ?_<;>intro hc1<;>try simp only [hyZ] at hc1
 ·refine sr fun _ K5=>?_
  refine yv y_as<|fk [(4,_)] K5 ?_;refine Hd.ret<|Hd.inBret<|Hd.thenRet ?_;exact Hd.ret1 rfl () (by rw [if_neg hc1];rfl) sq
 refine Hd.skip<|Hd.inB<|Hd.toK K2 ?_;refine sr fun _ K6=>?_
 refine yv y_as<|fk [(4,_)] K6 ?_;refine Hd.ret ?_;exact Hd.ret1 rfl () (by rw [if_pos hc1];rfl) sq
theorem some_ct (L:List SP) (p:Option Addr) (mask:Int):Ct Tryz.prog 65 #[.pointer p,.int .i64 mask] (L) (fun q_:Nat×Nat=>.func (.func 152) #[] #[.pointer (some ⟨q_.2,0,none⟩),.pointer (some ⟨q_.1,0,none⟩)]) (fun q_:Nat×Nat=>pt q_.1 [.pointer p] 33::pt q_.2 [.int .i64 mask] 3::L):=by
 refine Ct.o2 Tryz.func65 ?_;intro E
 show Hd E 6 _ _ _ _
 refine sr fun _ K1=>?_
 refine Hd.box rfl rfl (fun b2=>?_);refine Hd.box rfl rfl (fun b3=>?_);refine yv y_as<|fk [(2,_),(3,_)] K1 ?_;refine sr fun _ K2=>?_
 refine yv (y_mkf (fv:=[]) (cv:=[_,_]) rfl rfl) ?_;refine yv y_as<|fk [(4,_)] K2 ?_;refine Hd.ret ?_;exact Hd.ret1 rfl (b2,b3) rfl sq
abbrev encK (b:Nat) (k:Nat):List Value:=[.int .i64 (k:Int),.pointer (some ⟨b,2 + k * 8,none⟩)]
theorem range_pre (f:Nat→Bool) {i:Nat} (h:i≤2):(List.range i).filter f <+: [0,1].filter f:=by
 have:=range_prefix f (m:=2) h
 exact this
theorem some_it (b bb bm:Nat) (mask:Int):RX.It Tryz.prog 152 [.pointer (some ⟨bm,0,none⟩),.pointer (some ⟨bb,0,none⟩)] (encK b) (fun ys=>ys=sidesA mask) (fun ys=>ys <+: sidesA mask)
  [pt bb [.pointer (some ⟨b,0,none⟩)] 33,pt bm [.int .i64 mask] 3] []:=by
 intro l J X hy;refine Ct.of (vs:=[.func (.yield l) #[] #[],.pointer (some ⟨bm,0,none⟩),.pointer (some ⟨bb,0,none⟩)]) Tryz.func152 rfl rfl [(0,.func (.yield l) #[] #[]),(1,.pointer (some ⟨bm,0,none⟩)),(2,.pointer (some ⟨bb,0,none⟩))] ⟨rfl,rfl,rfl,trivial⟩ ?_;intro E
 show Hd E 23 _ _ _ _
 refine Hd.heap (pt bb [.pointer (some ⟨b,0,none⟩)] 33::pt bm [.int .i64 mask] 3::J []) (fun k h=>by have:=sep_app h;exact this) ?_;refine Hd.scope ?_;refine Hd.seq fun _ K1=>?_
 refine Hd.label ?_;refine Hd.toK K1 ?_;refine sr fun _ K2=>?_
 refine yv y_mv<|fk [(0,_),(1,_),(2,_),(5,_)] K2 ?_;refine Hd.block<|Hd.loopK (ι:=Nat) [(0,_),(1,_),(2,_)] (fun i=>[(5,.int .i64 (i:Int))]) (fun i=>pu (i≤2)::pt bb [.pointer (some ⟨b,0,none⟩)] 33::pt bm [.int .i64 mask] 3::J ((List.range i).filter (hasA mask))) (fun i=>2 - i) 0 sbq sbq (Ent.sep (.pure (by omega) enn)) ?_;intro i
 try dsimp only
 refine Hd.pure (fun hp0=>?_)
 try dsimp only at hp0
 refine sr fun _ K3=>?_
 refine yv (y_lss rfl rfl) ?_;refine fk [(0,_),(1,_),(2,_),(5,_),(6,_)] K3 ?_;refine Hd.seq fun _ K4=>?_
 refine qz ?_ ?_<;>intro hc0<;>try simp only [hyZ] at hc0
 ·have hi:i < 2:=by omega
  have hsf:=range_succ_filter (hasA mask) i
  refine qv K4<|Hd.seq fun _ K5=>?_
  refine Hd.block<|sr fun _ K6=>?_
  refine yv y_mv<|yv y_as<|fk [(0,_),(1,_),(2,_),(4,_),(5,_)] K6 ?_;refine Hd.seq fun _ K7=>?_
  refine Hd.seq fun _ K8=>?_
  refine Hd.drawsH ([pt bm [.int .i64 mask] 3]) (fun _=>true) mixed ?_;simp only [List.length,Nat.zero_add,Nat.reduceAdd];refine tH 0 rfl (y_l1 ag3 rfl)<|tH 1 rfl y_mv<|qo 2 ?_;refine callE rfl fk79 (flag_ct _ i) sq ?_;intro _;refine qk<|tH 3 rfl (y_and rfl rfl) ?_;refine tH 4 rfl (y_eql rfl rfl) ?_;refine endH kq ?_;refine sk [(0,_),(1,_),(2,_),(4,_),(5,_),(12,_)] K8 ?_;refine qz ?_ ?_<;>intro hc1<;>try simp only [hyZ] at hc1
  ·rw [if_neg (by unfold hasA;rw [hc1];simp)] at hsf
   refine Hd.exit<|Hd.thenExit<|Hd.inBexit<|Hd.toK K5 ?_;refine Hd.region<|yv (y_addn rfl rfl (by simp only [InK];omega)) ?_;refine yv y_mv<|Hd.nil<|slots [(0,_),(1,_),(2,_),(5,_)] sbq ?_;refine thenN ?_;rw [←hsf];exact Hd.again (i + 1) (by omega) sbq (Ent.sep (.pure (by omega) enn))
  rw [if_pos (by unfold hasA;simpa using hc1)] at hsf
  have hpr:(List.range i).filter (hasA mask)++[i] <+: sidesA mask:=by rw [←hsf];exact range_pre _ (by omega)
  refine qv K7<|sr fun _ K9=>?_
  refine yv y_mv<|yv y_mv<|yv (y_l1 ag33 rfl)<|yv y_mv<|yv y_np<|yv (y_f 2 119 Tryz.underlying121 sz119)<|yv (y_idxA Tryz.underlying119 sz118 rfl rfl (by omega)) ?_;refine Hd.yield (pre:=(List.range i).filter (hasA mask)) (c:=i) (M:=[pt bb [.pointer (some ⟨b,0,none⟩)] 33,pt bm [.int .i64 mask] 3]) hy rfl rfl hpr (fun k' h=>sep_app (show sep ([pt bb [.pointer (some ⟨b,0,none⟩)] 33,pt bm [.int .i64 mask] 3]++J ((List.range i).filter (hasA mask))) k' from h)) ?_;intro yb;refine yv (y_not rfl)<|fk [(0,_),(1,_),(2,_),(5,_),(21,_)] K9 ?_;refine qz ?_ ?_<;>intro hc2<;>try simp only [hyZ] at hc2
  ·subst hc2
   simp only [cond_false];refine Hd.ret<|Hd.inBret<|Hd.thenRet<|Hd.thenRet<|Hd.inBret<|Hd.scRet ?_;exact Hd.ret0 rfl ((List.range i).filter (hasA mask)++[i],false) rfl (fun k' h=>Ent.sep (.pure hpr .same) k' (sep_right (fun k s=>Ent.sep Ent.nil k s) h))
  subst hc2;simp only [cond_true];refine Hd.heap (pt bb [.pointer (some ⟨b,0,none⟩)] 33::pt bm [.int .i64 mask] 3::J ((List.range i).filter (hasA mask)++[i])) (fun k' h=>sep_app h) ?_;rw [←hsf];refine Hd.skip<|Hd.inB<|Hd.toK K5 ?_;refine Hd.region<|yv (y_addn rfl rfl (by simp only [InK];omega)) ?_;refine yv y_mv<|Hd.nil<|slots [(0,_),(1,_),(2,_),(5,_)] sbq ?_;refine thenN ?_;exact Hd.again (i + 1) (by omega) sbq (Ent.sep (.pure (by omega) enn))
 refine Hd.exit<|Hd.thenExit<|Hd.thenExit<|Hd.inBexit<|Hd.scNorm ?_
 obtain rfl:i=2:=by omega
 exact Hd.end0 rfl (sidesA mask,true) rfl (fun k' h=>Ent.sep (.pure rfl .same) k' (sep_app (M:=[]) (N:=J (sidesA mask)) (Ent.sep enn k' h)))
abbrev NV:Int:=18446744073709551615
def dl (now after:Int):Int:=if 18446744073709551615 - now < after then 18446744073709551615 else now + after
theorem dl_ct (L:List SP) (now after:Int) (hn:InK .u64 now) (ha:InK .u64 after):Ct Tryz.prog 153 #[.int .u64 now,.int .u64 after] (L) (fun _:Unit=>.int .u64 (dl now after)) (fun _:Unit=>L):=by
 refine Ct.o2 Tryz.func153 ?_;intro E
 show Hd E 12 _ _ _ _
 simp only [InK] at hn ha;refine sr fun _ K1=>?_
 refine yv y_as<|fk [(0,_),(1,_)] K1 ?_;refine Hd.seq fun _ K2=>?_
 refine sr fun _ K3=>?_
 refine yv y_mv<|yv y_mv<|yv (y_subn rfl rfl (by simp only [InK];omega)) ?_;refine yv (y_gtr rfl rfl) ?_;refine fk [(0,_),(1,_),(8,_)] K3 ?_;refine qz ?_ ?_<;>intro hc0<;>try simp only [hyZ] at hc0
 ·refine sr fun _ K4=>?_
  refine yv y_as<|fk [(4,_)] K4 ?_;refine Hd.ret<|Hd.thenRet ?_;exact Hd.ret1 rfl () (by unfold dl;rw [if_pos (by omega)];rfl) sq
 refine qv K2<|sr fun _ K5=>?_
 refine yv y_mv<|yv y_mv<|yv (y_addn rfl rfl (by simp only [InK];omega)) ?_;refine yv y_as<|fk [(4,_)] K5 ?_;refine Hd.ret ?_;exact Hd.ret1 rfl () (by unfold dl;rw [if_neg (by omega)];rfl) sq
def BfA.up (x:BfA) (k:Nat) (f:SdA→SdA):BfA:={ x with s:=fun j=>if j=k then f (x.s j) else x.s j }
theorem bup_at (x:BfA) (k:Nat) (f:SdA→SdA):(x.up k f).s k=f (x.s k):=if_pos rfl
theorem bup_ne (x:BfA) {k j:Nat} (f:SdA→SdA) (h:j≠k):(x.up k f).s j=x.s j:=if_neg h
def atV (s:SdA) (k:Nat) (now:Int):Int:=if ((s.on && decide (s.after≠0)) && (decide ((k:Int)=0) || decide ((s.c.length:Int) > 0)))=true then dl now s.after else NV
abbrev setA (k:Nat) (now:Int) (s:SdA):SdA:={ s with at_:=atV s k now }
theorem set_ct (L:List SP) (b k:Nat) (hk:k < 2) (s:SdA) (now:Int) (hn:InK .u64 now) (ha:InK .u64 s.after):Ct Tryz.prog 66 #[.pointer (some ⟨b,0,none⟩),.int .i64 (k:Int),.int .u64 now] (SdL b k s L) (fun _:Unit=>.tuple #[]) (fun _:Unit=>SdL b k (setA k now s) L):=by
 refine Ct.o3 Tryz.func66 ?_;intro E
 show Hd E 46 _ _ _ _
 refine sr fun _ K1=>?_
 refine yv y_mv<|yv y_mv<|yv y_np<|yv (y_f 2 119 Tryz.underlying121 sz119)<|yv (y_idxA Tryz.underlying119 sz118 rfl rfl (by omega)) ?_;refine yv y_as<|fk [(1,_),(2,_),(6,_)] K1 ?_;refine sr fun _ K2=>?_
 refine yv y_mv<|yv y_np<|yv (y_f 7 29 Tryz.underlying118 sz29)<|Hd.storeK1 sz29 rfl rfl rfl pkk (by decide) (by simp;done) ?_
 try simp only [hyS]
 refine fk [(1,_),(2,_),(6,_)] K2 ?_;refine sr fun _ K3=>?_
 refine yv y_mv<|yv y_np<|yv (y_f 2 4 Tryz.underlying118 sz4)<|yv (y_load1 ag4 rfl (Rd.segK1 pkk (by decide) (by rfl))) ?_;refine yv y_mv ?_;apply Hd.andg 6 19 25 [(1,_),(2,_),(6,_)] rfl sbq
 ·intro hg2_19
  try simp only [hyZ] at hg2_19
  simp only [List.take];refine y2 y_mv<|y2 y_np<|y2 (y_f 6 29 Tryz.underlying118 sz29)<|y2 (y_load1 ag29 rfl (Rd.segK1 pkk (by decide) (by rfl))) ?_;refine y2 (y_neq rfl rfl) ?_;refine yv (y_pickT rfl rfl) ?_;exact Hd.mn
 ·intro hg2_19
  try simp only [hyZ] at hg2_19
  simp only [List.take];refine n1<|n1<|n1<|n1<|n1<|yv (y_pickF rfl rfl) ?_;exact Hd.mn
 simp only [List.drop];refine yv y_mv ?_;apply Hd.andg (q:=(decide ((k:Int)=0) || decide ((s.c.length:Int) > 0))) 10 26 36 [(2,_),(6,_)] rfl sbq
 ·intro hg2_26
  try simp only [hyZ] at hg2_26
  simp only [List.take];refine y2 y_mv<|y2 (y_eql rfl rfl) ?_;refine y2 y_mv ?_;apply Hd.org 6 29 35 [(2,_),(6,_),(26,_)] rfl sbq
  ·intro hg2_29
   try simp only [hyZ] at hg2_29
   simp only [List.take];refine n1<|n1<|n1<|n1<|n1<|y2 (y_pickT rfl rfl) ?_;exact Hd.mn
  ·intro hg2_29
   try simp only [hyZ] at hg2_29
   simp only [List.take];refine y2 y_mv<|y2 y_np<|y2 (y_f 0 116 Tryz.underlying118 sz116)<|Hd.unguard rfl rfl ?_;refine callE rfl fk78 (chLen _ b (2 + k * 8 + 0) s.c) sq ?_;intro _;refine y2 (y_gtr rfl rfl) ?_;refine y2 (y_pickF rfl rfl) ?_;exact Hd.mn
  simp only [List.drop];refine yv (y_pickT rfl rfl) ?_;exact Hd.mn
 ·intro hg2_26
  try simp only [hyZ] at hg2_26
  simp only [List.take];refine n1<|n1<|n1<|n1<|n1<|n1<|n1<|n1<|n1<|yv (y_pickF rfl rfl) ?_;exact Hd.mn
 simp only [List.drop];refine fk [(2,_),(6,_),(36,_)] K3 ?_;refine qz ?_ ?_<;>intro hc0<;>try simp only [hyZ] at hc0
 ·refine Hd.region ?_
  refine yv y_mv<|yv y_mv<|yv y_mv<|yv y_np<|yv (y_f 6 29 Tryz.underlying118 sz29)<|yv (y_load1 ag29 rfl (Rd.segK1 pkk (by decide) (by rfl))) ?_;refine callE rfl fk153 (dl_ct _ now s.after hn ha) sq ?_;intro _;refine yv y_np<|yv (y_f 7 29 Tryz.underlying118 sz29)<|Hd.storeK1 sz29 rfl rfl rfl pkk (by decide) (by simp;done) ?_
  try simp only [hyS]
  refine Hd.nil<|slots [] sbq ?_
  have hv:atV s k now=dl now s.after:=by unfold atV;rw [if_pos (by simpa [Bool.and_eq_true,Bool.or_eq_true] using hc0)]
  exact Hd.end0 rfl () rfl (Ent.sep (.pick pkk (.eq pkk (segK_eq (show [Value.bool s.on,.bool s.ended,.int .i64 s.low,.int .i64 s.high,.int .u64 s.after,.int .u64 (dl now s.after)]=encS (setA k now s) by rw [←hv])) enn)))
 refine Hd.skip ?_
 have hv:atV s k now=NV:=by
  unfold atV;rw [if_neg];intro h;simp only [Bool.and_eq_true,Bool.or_eq_true,decide_eq_true_eq] at h
  obtain ⟨⟨h1,h2⟩,h3⟩:=h
  rcases hc0 with (h | h) | h
  ·rw [h1] at h;cases h
  ·exact h2 h
  ·omega
 exact Hd.end0 rfl () rfl (Ent.sep (.pick pkk (.eq pkk (segK_eq (show [Value.bool s.on,.bool s.ended,.int .i64 s.low,.int .i64 s.high,.int .u64 s.after,.int .u64 18446744073709551615]=encS (setA k now s) by show _=[Value.bool s.on,.bool s.ended,.int .i64 s.low,.int .i64 s.high,.int .u64 s.after,Value.int .u64 (atV s k now)];rw [hv])) enn)))
def s0 (on:Bool):SdA:=⟨[],on,false,0,0,0,NV⟩
def newB (fd:Int):BfA:=⟨fun k=>s0 (decide (k=1)),fd⟩
theorem mkSd_sep {b o:Nat} {on:Bool} {vs:List Value} {L:List SP} {k:PH} (s:sep (seg b o ([.slice none 0 0,.int .i64 0]++(encS (s0 on)++vs))::L) k) :
  sep (ChB b (o + 0) []::segK b o 2 (encS (s0 on))::seg b (o + 8) vs::L) k:=by
 have s2:sep (seg b o [.slice none 0 0,.int .i64 0]::seg b (o + 2) (encS (s0 on)++vs)::L) k:=seg_split s
 have s3:sep (seg b o [.slice none 0 0,.int .i64 0]::seg b (o + 2) (encS (s0 on))::seg b (o + 8) vs::L) k:=Ent.imp' .here (fun _ x=>x) (fun _ s=>seg_split (us:=encS (s0 on)) s) s2
 have s5:=Bc.rows_nil s3
 exact Ent.sep (.ex [] (.pure ⟨⟨fun r h=>(by cases h),by decide⟩,rfl⟩ (.ex (none,0) (.pick (.there .here) (.ownNil (.pick .here (.eq .here rfl .same))))))) k s5
theorem Hd.mkBuf {E:World} {n:Nat} {ds:List Deferred} {st:List (Nat×Value)} {L L':List SP} {K:Act→World→Prop} {b wb:Nat} {fd:Int}
  (p:Pick L (pt b ([.pointer (some ⟨wb,0,none⟩),.int .i64 fd]++([.slice none 0 0,.int .i64 0]++(encS (s0 false)++([.slice none 0 0,.int .i64 0]++(encS (s0 true)++[]))))) 121) L') (h:Hd E n ds st (BufP b wb (newB fd)::L') K):Hd E n ds st L K:=by
 refine Hd.heap _ (fun k s=>?_) h
 have s1:sep (seg b 0 [.pointer (some ⟨wb,0,none⟩),.int .i64 fd]::seg b 2 ([.slice none 0 0,.int .i64 0]++(encS (s0 false)++([.slice none 0 0,.int .i64 0]++(encS (s0 true)++[]))))::kd b 18 121::L') k:=seg_split (pt_open (p.sep s))
 have s2:sep (seg b 0 [.pointer (some ⟨wb,0,none⟩),.int .i64 fd]::ChB b (2 + 0) []::segK b 2 2 (encS (s0 false))::seg b (2 + 8) ([.slice none 0 0,.int .i64 0]++(encS (s0 true)++[]))::kd b 18 121::L') k:=Ent.imp' .here (fun _ x=>x) (fun _ s=>mkSd_sep s) s1
 have s3:sep (seg b 0 [.pointer (some ⟨wb,0,none⟩),.int .i64 fd]::ChB b (2 + 0) []::segK b 2 2 (encS (s0 false))::ChB b (10 + 0) []::segK b 10 2 (encS (s0 true))::seg b (10 + 8) []::kd b 18 121::L') k :=
  Ent.imp' .here (fun _ x=>x) (fun _ s=>Ent.imp' .here (fun _ x=>x) (fun _ s=>Ent.imp' .here (fun _ x=>x) (fun _ s=>mkSd_sep s) s) s) s2
 exact Ent.sep (.ex () (.pick (.there (.there (.there (.there (.there (.there .here)))))) (.pick .here (.eq .here rfl (.eq .here rfl (.eq .here rfl (.eq .here rfl (.skip .same)))))))) k s3
theorem bnew_ct (L:List SP) (wb:Nat) (w:WA) (fd:Int) (h:(readyR w fd).op=true):Ct Tryz.prog 9 #[.pointer (some ⟨wb,0,none⟩),.int .i64 fd] (WorldP wb w::L) (fun b:Nat=>.tuple #[.pointer (some ⟨b,0,none⟩),.int .i64 0]) (fun b:Nat=>BufP b wb (newB fd)::WorldP wb w::L):=by
 refine Ct.o2 Tryz.func9 ?_;intro E
 show Hd E 36 _ _ _ _
 refine sr fun _ K1=>?_
 refine yv y_as<|yv y_as<|fk [(0,_),(1,_)] K1 ?_;refine Hd.seq fun _ K2=>?_
 refine Hd.block<|sr fun _ K3=>?_
 refine yv y_mv<|yv (y_eql_pointer Tryz.underlying37 rfl rfl) ?_;refine yv y_as<|fk [(0,_),(1,_),(7,_)] K3 ?_;refine Hd.condF rfl ?_;refine sr fun _ K4=>?_
 refine yv y_mv<|yv y_mv<|callE rfl fk62 (wready_ct _ wb w fd) sq ?_;intro _;refine yv (y_to (v':=.bool true) (y_fieldv1 (q:=0) (ft:=4) (cs:=encR (readyR w fd)) Tryz.underlying112 rfl ag4 rfl rfl) (by rw [h])) ?_;refine yv (y_not rfl)<|yv y_as<|fk [(0,_),(1,_),(10,_)] K4 ?_;refine Hd.condF rfl ?_;refine Hd.skip<|Hd.inB<|Hd.toK K2 ?_;refine sr fun _ K5=>?_
 refine yv y_mv<|yv y_mv<|yv (y_build (vs:=[(0,_),(1,_)]) rfl (by exact bd9_18 ..)) ?_;refine Hd.box rfl rfl (fun b19=>?_);refine yv y_as<|fk [(6,_)] K5 ?_;refine Hd.seq fun _ K6=>?_
 refine Hd.drawsH ([]) (fun j=>!(([1000]:List Nat).contains j)) mixed ?_;simp only [List.length,Nat.zero_add,Nat.reduceAdd];refine tH 0 rfl y_mv<|tH 1 rfl y_mv<|tH 2 rfl y_np<|tH 3 rfl (y_f 2 119 Tryz.underlying121 sz119)<|tH 4 rfl (y_idxA Tryz.underlying119 sz118 rfl rfl (by decide)) ?_;refine tH 5 rfl (y_f 7 29 Tryz.underlying118 sz29)<|tH 7 rfl y_np<|tH 8 rfl (y_f 2 119 Tryz.underlying121 sz119)<|qo 6 ?_;refine Hd.store1 sz29 rfl rfl rfl pkk (by simp;done) ?_
 try simp only [hyS]
 refine qk<|tH 9 rfl (y_idxA Tryz.underlying119 sz118 rfl rfl (by decide)) ?_;refine tH 10 rfl (y_f 7 29 Tryz.underlying118 sz29)<|qo 11 ?_;refine Hd.store1 sz29 rfl rfl rfl pkk (by simp;done) ?_
 try simp only [hyS]
 refine qk<|endH kq ?_;refine sk [(6,_)] K6 ?_;refine sr fun _ K7=>?_
 refine yv y_mv<|yv y_np<|yv (y_f 2 119 Tryz.underlying121 sz119)<|yv (y_idxA Tryz.underlying119 sz118 rfl rfl (by decide)) ?_;refine yv (y_f 2 4 Tryz.underlying118 sz4)<|Hd.store1 sz4 rfl rfl rfl pkk (by simp;done) ?_
 try simp only [hyS]
 refine fk [(6,_)] K7 ?_;refine sr fun _ K8=>?_
 refine yv y_mv<|yv y_as<|yv y_as<|fk [(4,_),(5,_)] K8 ?_;refine Hd.ret<|Hd.mkBuf (b:=b19) (wb:=wb) (fd:=fd) (by exact Pick.here) ?_;exact Hd.ret2 rfl b19 rfl rfl rfl sq
def TmOk (x:BfA):Prop:=∀ k,k < 2→InK .u64 (x.s k).after∧InK .u64 (x.s k).at_
theorem dl_in {now a:Int} (hn:InK .u64 now) (ha:InK .u64 a):InK .u64 (dl now a):=by
 simp only [InK] at *;unfold dl;split<;>omega
theorem atV_in {s:SdA} {k:Nat} {now:Int} (hn:InK .u64 now) (ha:InK .u64 s.after):InK .u64 (atV s k now):=by
 unfold atV;split
 ·exact dl_in hn ha
 ·simp [InK]
theorem TmOk.up {x:BfA} (h:TmOk x) {k:Nat} {f:SdA→SdA} (hf:∀ s,InK .u64 s.after→InK .u64 s.at_→InK .u64 (f s).after∧InK .u64 (f s).at_):TmOk (x.up k f):=fun j hj=>by
 by_cases e:j=k
 ·subst e;rw [bup_at];exact hf _ (h j hj).1 (h j hj).2
 ·rw [bup_ne _ _ e];exact h j hj
theorem tm_new (fd:Int):TmOk (newB fd):=fun k _=>⟨by show InK .u64 0;simp [InK],by show InK .u64 18446744073709551615;simp [InK]⟩
theorem buf_close {b wb:Nat} {x x':BfA} {L:List SP} (h0:x'.s 0=x.s 0) (h1:x'.s 1=x.s 1) (hf:x'.fd=x.fd):∀ h,sep (BfL b wb x 0 L) h→sep (BufP b wb x'::L) h:=fun h s=>by
 have s':sep (BfK b::BfH b wb x.fd::SdL b 0 (x.s 0) (SdL b 1 (x.s 1) L)) h:=s
 rw [←h0,←h1,←hf] at s';exact Ent.sep (.ex () (show Ent _ ([BfK b,BfH b wb x'.fd,ChB b (2 + 0 * 8 + 0) (x'.s 0).c,segK b (2 + 0 * 8) 2 (encS (x'.s 0)),ChB b (2 + 1 * 8 + 0) (x'.s 1).c,segK b (2 + 1 * 8) 2 (encS (x'.s 1))]++L) from enn)) h s'
theorem buf_put {b wb:Nat} {fd:Int} {s0 s1:SdA} {x':BfA} {L:List SP} (h0:x'.s 0=s0) (h1:x'.s 1=s1) (hf:x'.fd=fd):∀ h,sep (BfK b::BfH b wb fd::SdL b 0 s0 (SdL b 1 s1 L)) h→sep (BufP b wb x'::L) h:=by
 subst h0;subst h1;subst hf;exact buf_close rfl rfl rfl
theorem lens_ct (L:List SP) (b wb:Nat) (x:BfA):Ct Tryz.prog 29 #[.pointer (some ⟨b,0,none⟩)] (BufP b wb x::L) (fun _:Unit=>.tuple #[.int .i64 ((x.s 0).c.length:Int),.int .i64 ((x.s 1).c.length:Int)]) (fun _:Unit=>BufP b wb x::L):=by
 refine Ct.o1 Tryz.func29 ?_;intro E
 show Hd E 18 _ _ _ _
 refine Hd.buf .here ?_;refine sr fun _ K1=>?_
 refine yv y_as<|yv y_as<|fk [(0,_)] K1 ?_;refine Hd.seq fun _ K2=>?_
 refine sr fun _ K3=>?_
 refine yv y_mv<|callE rfl fk71 (bnone_ct _ b wb x.fd) sq ?_;intro _;refine fk [(0,_),(5,_)] K3 ?_;refine Hd.condF rfl ?_;refine qv K2<|Hd.seq fun _ K4=>?_
 refine Hd.drawsH ([]) (fun _=>true) mixed ?_;simp only [List.length,Nat.zero_add,Nat.reduceAdd];refine tH 0 rfl y_mv<|tH 1 rfl y_np<|tH 2 rfl (y_f 2 119 Tryz.underlying121 sz119)<|tH 3 rfl (y_idxA Tryz.underlying119 sz118 rfl rfl (by decide)) ?_;refine tH 4 rfl (y_f 0 116 Tryz.underlying118 sz116)<|tH 6 rfl y_mv<|tH 7 rfl y_np<|tH 8 rfl (y_f 2 119 Tryz.underlying121 sz119)<|tH 9 rfl (y_idxA Tryz.underlying119 sz118 rfl rfl (by decide)) ?_;refine tH 10 rfl (y_f 0 116 Tryz.underlying118 sz116)<|qo 5 ?_;refine callE rfl fk78 (chLen _ b (2 + 0 * 8 + 0) (x.s 0).c) sq ?_;intro _;refine qk<|qo 11 ?_;refine callE rfl fk78 (chLen _ b (2 + (1 - 0) * 8 + 0) (x.s (1 - 0)).c) sq ?_;intro _;refine qk<|tH 12 rfl y_as<|tH 13 rfl y_as<|endH kq ?_;refine sk [(2,_),(3,_)] K4 ?_
 refine Hd.ret ?_;exact Hd.ret2 rfl () rfl rfl rfl (fun q s=>buf_close rfl rfl rfl q (Ent.sep enn q s))
theorem deadline_ct (L:List SP) (b wb:Nat) (x:BfA):Ct Tryz.prog 34 #[.pointer (some ⟨b,0,none⟩)] (BufP b wb x::L) (fun _:Unit=>.int .u64 (min (x.s 0).at_ (x.s 1).at_)) (fun _:Unit=>BufP b wb x::L):=by
 refine Ct.o1 Tryz.func34 ?_;intro E
 show Hd E 18 _ _ _ _
 refine Hd.buf .here ?_;refine sr fun _ K1=>?_
 refine yv y_as<|fk [(0,_)] K1 ?_;refine Hd.seq fun _ K2=>?_
 refine sr fun _ K3=>?_
 refine yv y_mv<|callE rfl fk71 (bnone_ct _ b wb x.fd) sq ?_;intro _;refine fk [(0,_),(4,_)] K3 ?_;refine Hd.condF rfl ?_;refine qv K2<|Hd.seq fun _ K4=>?_
 refine Hd.quiet mixed kq ?_;refine Hq.yv y_mv ?_;refine Hq.yv y_np ?_;refine Hq.yv (y_f 2 119 Tryz.underlying121 sz119) ?_;refine Hq.yv (y_idxA Tryz.underlying119 sz118 rfl rfl (by decide)) ?_;refine Hq.yv (y_f 7 29 Tryz.underlying118 sz29) ?_;refine Hq.yv (y_load1 ag29 rfl (Rd.segK1 pkk (by decide) (by rfl))) ?_;refine Hq.yv y_mv ?_;refine Hq.yv y_np ?_;refine Hq.yv (y_f 2 119 Tryz.underlying121 sz119) ?_;refine Hq.yv (y_idxA Tryz.underlying119 sz118 rfl rfl (by decide)) ?_;refine Hq.yv (y_f 7 29 Tryz.underlying118 sz29) ?_;refine Hq.yv (y_load1 ag29 rfl (Rd.segK1 pkk (by decide) (by rfl))) ?_;refine Hq.yv (y_min rfl rfl) ?_;refine Hq.yv y_as ?_;refine Hq.nil ?_;refine sk [(2,_)] K4 ?_;refine Hd.ret ?_;exact Hd.ret1 rfl () rfl (fun q s=>buf_close rfl rfl rfl q (Ent.sep enn q s))
def readA (x:BfA) (n:Int):List UInt8:=if n < 1 then [] else (x.s 0).c.take n.toNat
def readB (x:BfA) (n:Int):BfA:=if n < 1 then x else x.up 0 fun s=>{ s with c:=s.c.drop n.toNat }
theorem bread_ct (L:List SP) (b wb:Nat) (x:BfA) (n:Int) (hn:n≤9223372036854775807):Ct Tryz.prog 22 #[.pointer (some ⟨b,0,none⟩),.int .i64 n] (BufP b wb x::L) (fun q_:Option Addr×Nat=>.slice q_.1 (readA x n).length q_.2) (fun q_:Option Addr×Nat=>own 5 1 q_.1 (readA x n).length q_.2 (bsl (readA x n))::BufP b wb (readB x n)::L):=by
 refine Ct.o2 Tryz.func22 ?_;intro E
 show Hd E 18 _ _ _ _
 refine Hd.buf .here ?_;refine sr fun _ K1=>?_
 refine yv y_as<|fk [(0,_),(1,_)] K1 ?_;refine Hd.seq fun _ K2=>?_
 refine sr fun _ K3=>?_
 refine yv y_mv<|callE rfl fk71 (bnone_ct _ b wb x.fd) sq ?_;intro _;refine yv y_mv<|y2 y_mv<|y2 (y_lss rfl rfl) ?_;refine yv (y_pickF rfl rfl) ?_;refine fk [(0,_),(1,_),(10,_)] K3 ?_;refine qz ?_ ?_<;>intro hc0<;>try simp only [hyZ] at hc0
 ·refine sr fun _ K4=>?_
  refine yv y_as<|fk [(4,_)] K4 ?_;refine Hd.ret<|Hd.thenRet ?_;rw [show readA x n=[] by unfold readA;rw [if_pos hc0],show readB x n=x by unfold readB;rw [if_pos hc0]];exact Hd.ret1 rfl (none,0) rfl (Ent.sep (.ownNil .same) |> fun h q s=>h q (buf_close rfl rfl rfl q (Ent.sep enn q s)))
 refine qv K2<|sr fun _ K5=>?_
 refine yv y_mv<|yv y_np<|yv (y_f 2 119 Tryz.underlying121 sz119)<|yv (y_idxA Tryz.underlying119 sz118 rfl rfl (by decide)) ?_;refine yv (y_f 0 116 Tryz.underlying118 sz116)<|yv y_mv<|callE rfl fk73 (chTake _ b (2 + 0 * 8 + 0) (x.s 0).c n hn) sq ?_;rintro ⟨ad,c⟩;dsimp only;refine yv y_as<|fk [(4,_)] K5 ?_;refine Hd.ret ?_;rw [show readA x n=(x.s 0).c.take n.toNat by unfold readA;rw [if_neg (by omega)],show readB x n=x.up 0 fun s=>{ s with c:=s.c.drop n.toNat } by unfold readB;rw [if_neg (by omega)]];exact Hd.ret1 rfl (ad,c) rfl (fun q s=>Ent.sep (show Ent (BufP b wb (x.up 0 fun s=>{ s with c:=s.c.drop n.toNat })::own 5 1 ad ((x.s 0).c.take n.toNat).length c (bsl ((x.s 0).c.take n.toNat))::L) _ from enn) q (buf_put (fd:=x.fd) (x':=x.up 0 fun s=>{ s with c:=s.c.drop n.toNat }) (s0:={ x.s 0 with c:=(x.s 0).c.drop n.toNat }) (s1:=x.s 1) rfl rfl rfl q (Ent.sep enn q s)))
def wrE (x:BfA) (bs:List UInt8):Int:=addE (x.s 1).c bs
def wrB (x:BfA) (now:Int) (bs:List UInt8):BfA:=if addE (x.s 1).c bs≠0 then x else if (x.s 1).at_=NV then x.up 1 fun s=>setA 1 now { s with c:=addA s.c bs } else x.up 1 fun s=>{ s with c:=addA s.c bs }
theorem bwrite_ct (L:List SP) (b wb:Nat) (x:BfA) (ht:TmOk x) (now:Int) (hn:InK .u64 now) (ad:Option Addr) (m cap:Nat) (bs:List UInt8) (hl:bs.length=m) (hD:RdS L 1 ad m (bsl bs)) (hmc:m≤cap) (hm:m≤70368744177664):Ct Tryz.prog 20 #[.pointer (some ⟨b,0,none⟩),.int .u64 now,.slice ad m cap] (BufP b wb x::L) (fun _:Unit=>.int .i64 (wrE x bs)) (fun _:Unit=>BufP b wb (wrB x now bs)::L):=by
 refine Ct.o3 Tryz.func20 ?_;intro E
 show Hd E 30 _ _ _ _
 refine Hd.buf .here ?_;refine sr fun _ K1=>?_
 refine yv y_as<|fk [(0,_),(1,_),(2,_)] K1 ?_;refine Hd.seq fun _ K2=>?_
 refine sr fun _ K3=>?_
 refine yv y_mv<|callE rfl fk71 (bnone_ct _ b wb x.fd) sq ?_;intro _;refine fk [(0,_),(1,_),(2,_),(9,_)] K3 ?_;refine Hd.condF rfl ?_;refine qv K2<|Hd.seq fun _ K4=>?_
 refine sr fun _ K5=>?_
 refine yv y_mv<|yv y_np<|yv (y_f 2 119 Tryz.underlying121 sz119)<|yv (y_idxA Tryz.underlying119 sz118 rfl rfl (by decide)) ?_;refine yv (y_f 0 116 Tryz.underlying118 sz116)<|yv y_mv<|callE rfl fk72 (chAdd _ b (2 + 1 * 8 + 0) (x.s 1).c ad m cap bs hl ?hA hmc hm) sq ?_
 case hA=>exact RdS.mono hD sq
 intro _;refine yv y_as<|fk [(0,_),(1,_),(7,_)] K5 ?_;refine sr fun _ K6=>?_
 refine yv y_mv<|yv (y_neq rfl rfl) ?_;refine fk [(0,_),(1,_),(7,_),(18,_)] K6 ?_;refine qz ?_ ?_<;>intro hc1<;>try simp only [hyZ] at hc1
 ·refine sr fun _ K7=>?_
  refine yv y_mv<|yv y_as<|fk [(6,_)] K7 ?_;refine Hd.ret<|Hd.thenRet ?_
  have hne:addA (x.s 1).c bs=(x.s 1).c:=by
   unfold addE at hc1;unfold addA
   split at hc1
   ·exact absurd rfl hc1
   ·rename_i h;rw [if_neg h]
  rw [hne,show wrB x now bs=x by unfold wrB;rw [if_pos hc1]];exact Hd.ret1 rfl () rfl (fun q s=>buf_close rfl rfl rfl q (Ent.sep enn q s))
 have hc1':¬ addE (x.s 1).c bs≠0:=by omega
 refine qv K4<|Hd.seq fun _ K8=>?_
 refine sr fun _ K9=>?_
 refine yv y_mv<|yv y_np<|yv (y_f 2 119 Tryz.underlying121 sz119)<|yv (y_idxA Tryz.underlying119 sz118 rfl rfl (by decide)) ?_;refine yv (y_f 7 29 Tryz.underlying118 sz29)<|yv (y_load1 ag29 rfl (Rd.segK1 pkk (by decide) (by rfl))) ?_;refine yv (y_eql rfl rfl) ?_;refine fk [(0,_),(1,_),(26,_)] K9 ?_;refine qz ?_ ?_<;>intro hc2<;>try simp only [hyZ] at hc2
 ·refine Hd.region ?_
  refine yv y_mv<|yv y_mv<|callE rfl fk66 (set_ct _ b 1 (by omega) { x.s 1 with c:=addA (x.s 1).c bs } now hn (ht 1 (by omega)).1) sq ?_;intro _;refine fk [] K8 ?_;refine sr fun _ K10=>?_
  refine yv y_as<|fk [(6,_)] K10 ?_;refine Hd.ret ?_;rw [show wrE x bs=0 from hc1,show wrB x now bs=x.up 1 fun s=>setA 1 now { s with c:=addA s.c bs } by unfold wrB;rw [if_neg hc1',if_pos hc2]];exact Hd.ret1 rfl () rfl (fun q s=>buf_put (fd:=x.fd) (x':=x.up 1 fun s=>setA 1 now { s with c:=addA s.c bs }) (s0:=x.s 0) (s1:=setA 1 now { x.s 1 with c:=addA (x.s 1).c bs }) rfl rfl rfl q (Ent.sep enn q s))
 refine qv K8<|sr fun _ K11=>?_
 refine yv y_as<|fk [(6,_)] K11 ?_;refine Hd.ret ?_;rw [show wrE x bs=0 from hc1,show wrB x now bs=x.up 1 fun s=>{ s with c:=addA s.c bs } by unfold wrB;rw [if_neg hc1',if_neg hc2]];exact Hd.ret1 rfl () rfl (fun q s=>buf_put (fd:=x.fd) (x':=x.up 1 fun s=>{ s with c:=addA s.c bs }) (s0:=x.s 0) (s1:={ x.s 1 with c:=addA (x.s 1).c bs }) rfl rfl rfl q (Ent.sep enn q s))
def tmB (x:BfA) (now r w:Int):BfA:=(x.up 0 fun s=>setA 0 now { s with after:=r }).up 1 fun s=>setA 1 now { s with after:=w }
theorem timeouts_ct (L:List SP) (b wb:Nat) (x:BfA) (now r w:Int) (hn:InK .u64 now) (hr:InK .u64 r) (hw:InK .u64 w):Ct Tryz.prog 18 #[.pointer (some ⟨b,0,none⟩),.int .u64 now,.int .u64 r,.int .u64 w] (BufP b wb x::L) (fun _:Unit=>.int .i64 0) (fun _:Unit=>BufP b wb (tmB x now r w)::L):=by
 refine Ct.o4 Tryz.func18 ?_;intro E
 show Hd E 29 _ _ _ _
 refine Hd.buf .here ?_;refine sr fun _ K1=>?_
 refine yv y_as<|fk [(0,_),(1,_),(2,_),(3,_)] K1 ?_;refine Hd.seq fun _ K2=>?_
 refine sr fun _ K3=>?_
 refine yv y_mv<|callE rfl fk71 (bnone_ct _ b wb x.fd) sq ?_;intro _;refine fk [(0,_),(1,_),(2,_),(3,_),(10,_)] K3 ?_;refine Hd.condF rfl ?_;refine qv K2<|Hd.seq fun _ K4=>?_
 refine Hd.drawsH ([]) (fun j=>!(([1000]:List Nat).contains j)) mixed ?_;simp only [List.length,Nat.zero_add,Nat.reduceAdd];refine tH 0 rfl y_mv<|tH 1 rfl y_mv<|tH 2 rfl y_mv<|tH 3 rfl y_mv<|tH 4 rfl y_np<|tH 5 rfl (y_f 2 119 Tryz.underlying121 sz119)<|tH 6 rfl (y_idxA Tryz.underlying119 sz118 rfl rfl (by decide)) ?_;refine tH 7 rfl (y_f 6 29 Tryz.underlying118 sz29)<|tH 9 rfl y_np<|tH 10 rfl (y_f 2 119 Tryz.underlying121 sz119)<|qo 8 ?_;refine Hd.storeK1 sz29 rfl rfl rfl pkk (by decide) (by simp;done) ?_
 try simp only [hyS]
 refine qk<|tH 11 rfl (y_idxA Tryz.underlying119 sz118 rfl rfl (by decide)) ?_;refine tH 12 rfl (y_f 6 29 Tryz.underlying118 sz29)<|qo 13 ?_;refine Hd.storeK1 sz29 rfl rfl rfl pkk (by decide) (by simp;done) ?_
 try simp only [hyS]
 refine qk<|endH kq ?_;refine sk [(0,_),(1,_)] K4 ?_;refine sr fun _ K5=>?_
 refine yv y_mv<|yv y_mv<|callE rfl fk66 (set_ct _ b 0 (by omega) { x.s 0 with after:=r } now hn hr) sq ?_;intro _;refine fk [(0,_),(1,_)] K5 ?_;refine sr fun _ K6=>?_
 refine yv y_mv<|yv y_mv<|callE rfl fk66 (set_ct _ b 1 (by omega) { x.s 1 with after:=w } now hn hw) sq ?_;intro _;refine fk [] K6 ?_;refine sr fun _ K7=>?_
 refine yv y_as<|fk [(8,_)] K7 ?_;refine Hd.ret ?_;exact Hd.ret1 rfl () rfl (fun q s=>buf_put (fd:=x.fd) (x':=tmB x now r w) (s0:=setA 0 now { x.s 0 with after:=r }) (s1:=setA 1 now { x.s 1 with after:=w }) rfl rfl rfl q (Ent.sep enn q s))
theorem sides_sub (mask:Int):∀ k∈sidesA mask,k < 2:=fun k hk=>by
 have:=(List.mem_filter.1 hk).1
 simp at this;omega
theorem sides_nd (mask:Int):(sidesA mask).Nodup:=by
 exact (show ([0,1]:List Nat).Nodup by decide).sublist List.filter_sublist
theorem sides_mem {mask:Int} {k:Nat} (hk:k < 2):k∈sidesA mask↔hasA mask k=true:=by
 unfold sidesA;rw [List.mem_filter];exact ⟨fun h=>h.2,fun h=>⟨by simp;omega,h⟩⟩
theorem pre_new {mask:Int} {pre:List Nat} {c:Nat} (h:pre++[c] <+: sidesA mask):c < 2∧c ∉ pre:=by
 refine ⟨sides_sub mask c (h.subset (by simp)),fun hc=>?_⟩
 have:=(sides_nd mask).sublist h.sublist
 rw [List.nodup_append] at this;exact this.2.2 c hc c (by simp) rfl
abbrev effB (f:Nat→SdA→SdA) (x:BfA) (ks:List Nat):BfA:={ x with s:=fun j=>if j∈ks then f j (x.s j) else x.s j }
theorem eff_nil (f:Nat→SdA→SdA) (x:BfA):effB f x []=x:=by
 obtain ⟨s,fd⟩:=x
 show (⟨fun j=>if j∈[] then _ else s j,fd⟩:BfA)=_
 simp
theorem eff_s {f:Nat→SdA→SdA} {x:BfA} {ks:List Nat} {k:Nat} (h:k ∉ ks):(effB f x ks).s k=x.s k:=if_neg h
theorem eff_snoc {f:Nat→SdA→SdA} {x:BfA} {ks:List Nat} {k:Nat} (h:k ∉ ks):(effB f x ks).up k (fun _=>f k (x.s k))=effB f x (ks++[k]):=by
 unfold BfA.up
 congr 1;funext j
 by_cases e:j=k
 ·subst e;simp
 ·simp [e]
theorem Hd.bufK {E:World} {n:Nat} {ds:List Deferred} {st:List (Nat×Value)} {L L':List SP} {K:Act→World→Prop} {b wb:Nat} {x:BfA} (p:Pick L (BufP b wb x) L') (k:Nat) (hk:k < 2) (h:Hd E n ds st (BfL b wb x k L') K):Hd E n ds st L K :=
 Hd.buf p (by
  rcases (show k=0∨k=1 by omega) with rfl | rfl
  ·exact h
  ·refine Hd.heap (BfL b wb x 1 L') (fun q s=>?_) h
   exact Ent.sep (show Ent (BfK b::BfH b wb x.fd::SdL b 0 (x.s 0) (SdL b 1 (x.s 1) L')) (BfK b::BfH b wb x.fd::SdL b 1 (x.s 1) (SdL b 0 (x.s 0) L')) from enn) q s)
theorem buf_putK {b wb k:Nat} {x:BfA} {s':SdA} {L:List SP} (hk:k < 2):∀ h,sep (BfL b wb (x.up k fun _=>s') k L) h→sep (BufP b wb (x.up k fun _=>s')::L) h:=fun h s=>by
 rcases (show k=0∨k=1 by omega) with rfl | rfl
 ·exact buf_put (fd:=x.fd) (x':=x.up 0 fun _=>s') (s0:=(x.up 0 fun _=>s').s 0) (s1:=(x.up 0 fun _=>s').s 1) rfl rfl rfl h s
 ·have s2:sep (BfK b::BfH b wb x.fd::SdL b 1 ((x.up 1 fun _=>s').s 1) (SdL b 0 ((x.up 1 fun _=>s').s 0) L)) h:=s
  exact buf_put (fd:=x.fd) (x':=x.up 1 fun _=>s') (s0:=(x.up 1 fun _=>s').s 0) (s1:=(x.up 1 fun _=>s').s 1) rfl rfl rfl h (Ent.sep enn h s2)
theorem bup_same (x:BfA) (k:Nat):x.up k (fun _=>x.s k)=x:=by
 obtain ⟨s,fd⟩:=x
 unfold BfA.up
 congr 1;funext j
 by_cases e:j=k
 ·subst e;simp
 ·simp [e]
theorem buf_backK {b wb k:Nat} {x:BfA} {L:List SP} (hk:k < 2):∀ h,sep (BfL b wb x k L) h→sep (BufP b wb x::L) h:=fun h s=>by
 have:=buf_putK (b:=b) (wb:=wb) (x:=x) (s':=x.s k) (L:=L) hk h
 rw [bup_same] at this;exact this s
theorem bfL_up {b wb k:Nat} {x:BfA} {s':SdA} {L:List SP} (hk:k < 2):BfL b wb (x.up k fun _=>s') k L=BfK b::BfH b wb x.fd::SdL b k s' (SdL b (1 - k) (x.s (1 - k)) L):=by
 unfold BfL;rw [bup_at,bup_ne _ _ (by omega)];rfl
theorem bfL_eff {b wb k:Nat} {x:BfA} {f:Nat→SdA→SdA} {ks:List Nat} {L:List SP} (hk:k ∉ ks):BfL b wb (effB f x ks) k L=BfK b::BfH b wb x.fd::SdL b k (x.s k) (SdL b (1 - k) ((effB f x ks).s (1 - k)) L):=by
 unfold BfL;rw [eff_s hk]
abbrev onF (now:Int) (k:Nat) (s:SdA):SdA:=if s.on=true then s else setA k now { s with on:=true }
def enB (x:BfA) (now sides:Int):BfA:=if bits .andNot .i64 sides 6=0 then effB (onF now) x (sidesA sides) else x
def enE (sides:Int):Int:=if bits .andNot .i64 sides 6=0 then 0 else 2
theorem enable_ct (L:List SP) (b wb:Nat) (x:BfA) (ht:TmOk x) (now sides:Int) (hn:InK .u64 now):Ct Tryz.prog 12 #[.pointer (some ⟨b,0,none⟩),.int .u64 now,.int .i64 sides] (BufP b wb x::L) (fun _:Unit=>.int .i64 (enE sides)) (fun _:Unit=>BufP b wb (enB x now sides)::L):=by
 refine Ct.o3M Tryz.func12 ?_;intro E
 show Hd E 33 _ _ _ _
 refine Hd.bufK .here 0 (by omega) ?_;refine sr fun _ K1=>?_
 refine Hd.box rfl rfl (fun b3=>?_);refine Hd.box rfl rfl (fun b4=>?_);refine yv y_as<|fk [(2,_),(3,_),(4,_)] K1 ?_;refine Hd.seq fun _ K2=>?_
 refine sr fun _ K3=>?_
 refine yv (y_l1 ag33 rfl)<|yv y_mv<|callE rfl fk64 (may_ct _ b wb x.fd sides) sq ?_;intro _;refine Hd.heap (BufP b wb x::pt b3 [.pointer (some ⟨b,0,none⟩)] 33::pt b4 [.int .u64 now] 29::L) (fun q s=>buf_close rfl rfl rfl q (Ent.sep enn q s)) ?_;rw [show (if bits .andNot .i64 sides 6=0 then (0:Int) else 2)=enE sides from rfl];refine yv y_as<|fk [(2,_),(3,_),(4,_),(7,_)] K3 ?_;refine sr fun _ K4=>?_
 refine yv y_mv<|yv (y_neq rfl rfl) ?_;refine fk [(2,_),(3,_),(4,_),(7,_),(14,_)] K4 ?_;refine qz ?_ ?_<;>intro hc0<;>try simp only [hyZ] at hc0
 ·refine sr fun _ K5=>?_
  refine yv y_mv<|yv y_as<|fk [(6,_)] K5 ?_;refine Hd.ret<|Hd.thenRet ?_
  have h:¬ bits .andNot .i64 sides 6=0:=fun h=>by unfold enE at hc0;rw [if_pos h] at hc0;exact hc0 rfl
  rw [show enB x now sides=x by unfold enB;rw [if_neg h]];exact Hd.retM (fun a fr=>Lv.end1 fr rfl () rfl sq)
 have hz:bits .andNot .i64 sides 6=0:=Decidable.byContradiction fun h=>by unfold enE at hc0;rw [if_neg h] at hc0;exact absurd hc0 (by decide)
 refine qv K2<|Hd.seq fun _ K6=>?_
 refine sr fun _ K7=>?_
 refine yv (y_l1 ag33 rfl)<|yv y_mv<|callE rfl fk65 (some_ct _ (some ⟨b,0,none⟩) sides) sq ?_;rintro ⟨bb,bm⟩;dsimp only;refine fk [(3,_),(4,_),(18,_)] K7 ?_;refine Hd.block<|Hd.rangeF (enc:=encK b) (S:=fun ys=>ys=sidesA sides) (Sp:=fun ys=>ys <+: sidesA sides)
  (fun pre=>BufP b wb (effB (onF now) x pre)::pt b3 [.pointer (some ⟨b,0,none⟩)] 33::pt b4 [.int .u64 now] 29::L) (fun _ _=>[pu False])
  rfl kq (fun _=>rfl) rfl (some_it b bb bm sides) (by rw [eff_nil];refine Ent.sep ?_;refine Ent.pick pkk ?_;refine Ent.pick pkk ?_;refine Ent.pick pkk ?_;exact Ent.swap (L:=[_,_])) ?_ ?_ ?_
 ·intro E l' R pre c N hR hG
  obtain ⟨hc,hcp⟩:=pre_new hG
  have hes:=eff_s (f:=onF now) (x:=x) hcp
  have hsn:=eff_snoc (f:=onF now) (x:=x) hcp
  unfold Rnd;simp only [List.cons_append,List.nil_append,pz,encK];refine sr fun _ K8=>?_
  refine yv y_as<|fk [(3,_),(4,_),(8,_),(20,_)] K8 ?_;refine Hd.region<|yv y_as<|Hd.nil<|slots [(3,_),(4,_),(8,_),(9,_)] sbq ?_;refine thenN<|Hd.begin hR pkk ?_;refine Hd.block<|Hd.seq fun _ K9=>?_
  refine Hd.bufK (b:=b) pkk c hc ?_;rw [bfL_eff hcp];refine Hd.region<|yv y_mv<|yv y_np<|yv (y_f 2 4 Tryz.underlying118 sz4)<|yv (y_load1 ag4 rfl (Rd.segK1 pkk (by decide) (by rfl))) ?_;refine yv (y_not rfl)<|fk [(3,_),(4,_),(8,_),(9,_),(25,_)] K9 ?_;refine qz ?_ ?_<;>intro hc1<;>try simp only [hyZ] at hc1
  ·refine sr fun _ K10=>?_
   refine yv y_mv<|yv y_np<|yv (y_f 2 4 Tryz.underlying118 sz4)<|Hd.storeK1 sz4 rfl rfl rfl pkk (by decide) (by simp;done) ?_
   try simp only [hyS]
   refine fk [(3,_),(4,_),(8,_)] K10 ?_;refine Hd.region<|yv (y_l1 ag33 rfl)<|yv y_mv<|yv (y_l1 ag29 rfl)<|callE rfl fk66 (set_ct _ b c hc { x.s c with on:=true } now hn (ht c hc).1) sq ?_;intro _;refine Hd.nil<|Hd.heap (BufP b wb ((effB (onF now) x pre).up c fun _=>setA c now { x.s c with on:=true })::_) (fun q s=>buf_putK hc q (by rw [bfL_up hc];exact Ent.sep enn q s)) ?_;refine slots [] sbq ?_;refine Hd.inB<|Hd.reN ?_;simp only [List.cons_append,List.nil_append]
   have hs1:onF now c (x.s c)=setA c now { x.s c with on:=true }:=if_neg (by rw [hc1];simp)
   rw [←hsn,hs1];exact sq
  refine Hd.heap (BufP b wb ((effB (onF now) x pre).up c fun _=>x.s c)::_) (fun q s=>buf_putK hc q (by rw [bfL_up hc];exact Ent.sep enn q s)) ?_;refine Hd.skip<|Hd.inB<|Hd.reN ?_;simp only [List.cons_append,List.nil_append]
  have hs1:onF now c (x.s c)=x.s c:=if_pos hc1
  rw [←hsn,hs1];exact sq
 ·intro r0 ys hys
  obtain rfl:ys=sidesA sides:=hys
  try simp only [List.cons_append,List.nil_append]
  refine Hd.inB<|Hd.toK K6 ?_;refine sr fun _ K11=>?_
  refine yv y_as<|fk [(6,_)] K11 ?_;refine Hd.ret ?_;rw [show enE sides=0 from hc0,show enB x now sides=effB (onF now) x (sidesA sides) by unfold enB;rw [if_pos hz]];exact Hd.retM (fun a fr=>Lv.mark pkk (Lv.end1 fr rfl () rfl sq))
 rintro r0_0 (_ | id0) pre0 hG0
 ·exact Hd.absurd (by exact id)
 exact Hd.absurd (by exact id)
abbrev offF (_:Nat) (s:SdA):SdA:={ s with on:=false,at_:=NV }
def disB (x:BfA) (sides:Int):BfA:=if bits .andNot .i64 sides 6=0 then effB offF x (sidesA sides) else x
theorem disable_ct (L:List SP) (b wb:Nat) (x:BfA) (sides:Int):Ct Tryz.prog 14 #[.pointer (some ⟨b,0,none⟩),.int .i64 sides] (BufP b wb x::L) (fun _:Unit=>.int .i64 (enE sides)) (fun _:Unit=>BufP b wb (disB x sides)::L):=by
 refine Ct.o2M Tryz.func14 ?_;intro E
 show Hd E 25 _ _ _ _
 refine Hd.bufK .here 0 (by omega) ?_;refine sr fun _ K1=>?_
 refine yv y_as<|fk [(0,_),(1,_)] K1 ?_;refine Hd.seq fun _ K2=>?_
 refine sr fun _ K3=>?_
 refine yv y_mv<|yv y_mv<|callE rfl fk64 (may_ct _ b wb x.fd sides) sq ?_;intro _;refine Hd.heap (BufP b wb x::L) (fun q s=>buf_close rfl rfl rfl q (Ent.sep enn q s)) ?_;rw [show (if bits .andNot .i64 sides 6=0 then (0:Int) else 2)=enE sides from rfl];refine yv y_as<|fk [(0,_),(1,_),(5,_)] K3 ?_;refine sr fun _ K4=>?_
 refine yv y_mv<|yv (y_neq rfl rfl) ?_;refine fk [(0,_),(1,_),(5,_),(12,_)] K4 ?_;refine qz ?_ ?_<;>intro hc0<;>try simp only [hyZ] at hc0
 ·refine sr fun _ K5=>?_
  refine yv y_mv<|yv y_as<|fk [(4,_)] K5 ?_;refine Hd.ret<|Hd.thenRet ?_
  have h:¬ bits .andNot .i64 sides 6=0:=fun h=>by unfold enE at hc0;rw [if_pos h] at hc0;exact hc0 rfl
  rw [show disB x sides=x by unfold disB;rw [if_neg h]];exact Hd.retM (fun a fr=>Lv.end1 fr rfl () rfl sq)
 have hz:bits .andNot .i64 sides 6=0:=Decidable.byContradiction fun h=>by unfold enE at hc0;rw [if_neg h] at hc0;exact absurd hc0 (by decide)
 refine qv K2<|Hd.seq fun _ K6=>?_
 refine sr fun _ K7=>?_
 refine yv y_mv<|yv y_mv<|callE rfl fk65 (some_ct _ (some ⟨b,0,none⟩) sides) sq ?_;rintro ⟨bb,bm⟩;dsimp only;refine fk [(16,_)] K7 ?_;refine Hd.block<|Hd.rangeF (enc:=encK b) (S:=fun ys=>ys=sidesA sides) (Sp:=fun ys=>ys <+: sidesA sides)
  (fun pre=>BufP b wb (effB offF x pre)::L) (fun _ _=>[pu False])
  rfl kq (fun _=>rfl) rfl (some_it b bb bm sides) (by rw [eff_nil];refine Ent.sep ?_;refine Ent.pick pkk ?_;exact Ent.swap (L:=[_,_])) ?_ ?_ ?_
 ·intro E l' R pre c N hR hG
  obtain ⟨hc,hcp⟩:=pre_new hG
  have hsn:=eff_snoc (f:=offF) (x:=x) hcp
  unfold Rnd;simp only [List.cons_append,List.nil_append,pz,encK];refine Hd.region<|yv y_as<|Hd.nil<|slots [(7,_)] sbq ?_;refine thenN<|Hd.begin hR pkk ?_;refine Hd.block<|Hd.bufK (b:=b) pkk c hc ?_;rw [bfL_eff hcp];refine Hd.region<|yv y_mv<|yv y_mv<|yv y_np<|yv (y_f 2 4 Tryz.underlying118 sz4)<|Hd.storeK1 sz4 rfl rfl rfl pkk (by decide) (by simp;done) ?_
  try simp only [hyS]
  refine yv y_np<|yv (y_f 7 29 Tryz.underlying118 sz29)<|Hd.storeK1 sz29 rfl rfl rfl pkk (by decide) (by simp;done) ?_
  try simp only [hyS]
  refine Hd.nil<|Hd.heap (BufP b wb ((effB offF x pre).up c fun _=>offF c (x.s c))::_) (fun q s=>buf_putK hc q (by rw [bfL_up hc];exact Ent.sep enn q s)) ?_;refine slots [] sbq ?_;refine Hd.inB<|Hd.reN ?_;simp only [List.cons_append,List.nil_append];rw [←hsn];exact sq
 ·intro r0 ys hys
  obtain rfl:ys=sidesA sides:=hys
  try simp only [List.cons_append,List.nil_append]
  refine Hd.inB<|Hd.toK K6 ?_;refine sr fun _ K8=>?_
  refine yv y_as<|fk [(4,_)] K8 ?_;refine Hd.ret ?_;rw [show enE sides=0 from hc0,show disB x sides=effB offF x (sidesA sides) by unfold disB;rw [if_pos hz]];exact Hd.retM (fun a fr=>Lv.mark pkk (Lv.end1 fr rfl () rfl sq))
 rintro r0_0 (_ | id0) pre0 hG0
 ·exact Hd.absurd (by exact id)
 exact Hd.absurd (by exact id)
def onM (x:BfA) (ks:List Nat):Int:=ks.foldl (fun m k=>if (x.s k).on=true then bits .or .i64 m (flagA k) else m) 0
theorem onM_snoc (x:BfA) (ks:List Nat) (k:Nat):onM x (ks++[k])=if (x.s k).on=true then bits .or .i64 (onM x ks) (flagA k) else onM x ks:=by unfold onM;rw [List.foldl_append];rfl
theorem enabled_ct (L:List SP) (b wb:Nat) (x:BfA):Ct Tryz.prog 32 #[.pointer (some ⟨b,0,none⟩)] (BufP b wb x::L) (fun _:Unit=>.int .i64 (onM x (sidesA 6))) (fun _:Unit=>BufP b wb x::L):=by
 refine Ct.o1M Tryz.func32 ?_;intro E
 show Hd E 22 _ _ _ _
 refine Hd.bufK .here 0 (by omega) ?_;refine sr fun _ K1=>?_
 refine yv y_as<|fk [(0,_)] K1 ?_;refine sr fun _ K2=>?_
 refine Hd.alloc zr3 (fun b3=>?_);refine Hd.store1 sz3 rfl rfl rfl pkk (by decide) ?_
 try simp only [hyS]
 refine fk [(0,_),(3,_)] K2 ?_;refine Hd.seq fun _ K3=>?_
 refine sr fun _ K4=>?_
 refine yv y_mv<|callE rfl fk71 (bnone_ct _ b wb x.fd) sq ?_;intro _;refine Hd.heap (BufP b wb x::pt b3 [.int .i64 0] 3::L) (fun q s=>buf_close rfl rfl rfl q (Ent.sep enn q s)) ?_;refine yv (y_not rfl)<|fk [(0,_),(3,_),(8,_)] K4 ?_;refine Hd.condT rfl ?_;refine sr fun _ K5=>?_
 refine yv y_mv<|callE rfl fk65 (some_ct _ (some ⟨b,0,none⟩) 6) sq ?_;rintro ⟨bb,bm⟩;dsimp only;refine fk [(3,_),(10,_)] K5 ?_;refine Hd.block<|Hd.rangeF (enc:=encK b) (S:=fun ys=>ys=sidesA 6) (Sp:=fun ys=>ys <+: sidesA 6)
  (fun pre=>pt b3 [.int .i64 (onM x pre)] 3::BufP b wb x::L) (fun _ _=>[pu False])
  rfl kq (fun _=>rfl) rfl (some_it b bb bm 6) (by refine Ent.sep ?_;refine Ent.eq pkk (pt_eq (by rfl)) ?_;refine Ent.pick pkk ?_;exact Ent.swap (L:=[_,_])) ?_ ?_ ?_
 ·intro E l' R pre c N hR hG
  obtain ⟨hc,hcp⟩:=pre_new hG
  have hsn:=onM_snoc x pre c
  unfold Rnd;simp only [List.cons_append,List.nil_append,pz,encK];refine sr fun _ K6=>?_
  refine yv y_as<|fk [(3,_),(4,_),(12,_)] K6 ?_;refine Hd.region<|yv y_as<|Hd.nil<|slots [(3,_),(4,_),(5,_)] sbq ?_;refine thenN<|Hd.begin hR pkk ?_;refine Hd.block<|Hd.seq fun _ K7=>?_
  refine Hd.bufK (b:=b) pkk c hc ?_;refine Hd.region<|yv y_mv<|yv y_np<|yv (y_f 2 4 Tryz.underlying118 sz4)<|yv (y_load1 ag4 rfl (Rd.segK1 pkk (by decide) (by rfl))) ?_;refine Hd.nil<|Hd.heap (BufP b wb x::_) (fun q s=>buf_backK hc q (by exact Ent.sep enn q s)) ?_;refine sk [(3,_),(4,_),(16,_)] K7 ?_;refine qz ?_ ?_<;>intro hc1<;>try simp only [hyZ] at hc1
  ·refine Hd.drawsH ([pt b3 [.int .i64 (onM x pre)] 3]) (fun j=>!([4].contains j)) mixed ?_
   simp only [List.length,Nat.zero_add,Nat.reduceAdd];refine tH 0 rfl (y_l1 ag3 rfl)<|tH 1 rfl y_mv<|qo 2 ?_;refine callE rfl fk79 (flag_ct _ c) sq ?_;intro _;refine qk<|tH 3 rfl (y_or rfl rfl) ?_;refine qo 4 ?_;refine Hd.store1 sz3 rfl rfl rfl pkk (by simp;done) ?_
   try simp only [hyS]
   refine qn<|endH kq ?_;refine slots [(3,_)] sbq ?_;refine Hd.inB<|Hd.reN ?_;simp only [List.cons_append,List.nil_append];rw [hsn,if_pos hc1];exact sq
  refine Hd.skip<|Hd.inB<|Hd.reN ?_;simp only [List.cons_append,List.nil_append];rw [hsn,if_neg (by rw [hc1];simp)];exact sq
 ·intro r0 ys hys
  obtain rfl:ys=sidesA 6:=hys
  try simp only [List.cons_append,List.nil_append]
  refine Hd.inB<|Hd.toK K3 ?_;refine sr fun _ K8=>?_
  refine yv (y_l1 ag3 rfl)<|yv y_as<|fk [(2,_)] K8 ?_;refine Hd.ret ?_;exact Hd.retM (fun a fr=>Lv.mark pkk (Lv.end1 fr rfl () rfl sq))
 rintro r0_0 (_ | id0) pre0 hG0
 ·exact Hd.absurd (by exact id)
 exact Hd.absurd (by exact id)
def mrkBad (side low high:Int):Bool:=((decide (side≠2) && decide (side≠4)) || decide (min low high < 0)) || (decide (max low high > 1048576) || (decide (high≠0) && (decide (high < low) || decide (side=4))))
abbrev mrkF (low high:Int) (_:Nat) (s:SdA):SdA:={ s with low:=low,high:=high }
def mrkB (x:BfA) (side low high:Int):BfA:=if mrkBad side low high=true then x else effB (mrkF low high) x (sidesA side)
def mrkE (side low high:Int):Int:=if mrkBad side low high=true then 2 else 0
theorem marks_ct (L:List SP) (b wb:Nat) (x:BfA) (side low high:Int):Ct Tryz.prog 16 #[.pointer (some ⟨b,0,none⟩),.int .i64 side,.int .i64 low,.int .i64 high] (BufP b wb x::L) (fun _:Unit=>.int .i64 (mrkE side low high)) (fun _:Unit=>BufP b wb (mrkB x side low high)::L):=by
 refine Ct.o4M Tryz.func16 ?_;intro E
 show Hd E 53 _ _ _ _
 refine Hd.bufK .here 0 (by omega) ?_;refine sr fun _ K1=>?_
 refine Hd.box rfl rfl (fun b6=>?_);refine Hd.box rfl rfl (fun b7=>?_);refine yv y_as<|fk [(0,_),(1,_),(6,_),(7,_)] K1 ?_;refine Hd.cutK (ι:=Unit) [(0,_),(1,_),(6,_),(7,_)] (fun _=>[]) (fun _=>pu (mrkBad side low high=false)::BufP b wb x::pt b6 [.int .i64 low] 3::pt b7 [.int .i64 high] 3::L) ?_ ?_ ⟨rfl,rfl,rfl,rfl,trivial⟩
 ·refine Hd.block ?_
  refine sr fun _ K2=>?_
  refine yv y_mv<|callE rfl fk71 (bnone_ct _ b wb x.fd) sq ?_;intro _;refine Hd.heap (BufP b wb x::pt b6 [.int .i64 low] 3::pt b7 [.int .i64 high] 3::L) (fun q s=>buf_close rfl rfl rfl q (Ent.sep enn q s)) ?_;refine yv y_as<|fk [(0,_),(1,_),(6,_),(7,_),(11,_)] K2 ?_;refine Hd.condF rfl ?_;refine Hd.seq fun _ K3=>?_
  refine sr fun _ K4=>?_
  refine yv y_mv<|yv (y_neq rfl rfl) ?_;refine yv y_mv ?_;apply Hd.andg 3 17 20 [(0,_),(1,_),(6,_),(7,_)] rfl sbq
  ·intro hg3_17
   try simp only [hyZ] at hg3_17
   simp only [List.take];refine y2 y_mv<|y2 (y_neq rfl rfl) ?_;refine yv (y_pickT rfl rfl) ?_;exact Hd.mn
  ·intro hg3_17
   try simp only [hyZ] at hg3_17
   simp only [List.take];refine n1<|n1<|yv (y_pickF rfl rfl) ?_;exact Hd.mn
  simp only [List.drop];refine yv y_as<|fk [(0,_),(1,_),(6,_),(7,_),(14,_)] K4 ?_;refine qz ?_ ?_<;>intro hc1<;>try simp only [hyZ] at hc1
  ·refine qv K3 ?_
   refine qz ?_ ?_<;>intro hc4<;>try simp only [hyZ] at hc4
   ·refine sr fun _ K5=>?_
    refine yv y_as<|fk [(8,_)] K5 ?_;refine Hd.ret<|Hd.inBret<|Hd.thenRet ?_
    have hb:mrkBad side low high=true:=by unfold mrkBad;simp only [Bool.or_eq_true,Bool.and_eq_true,decide_eq_true_eq];omega
    rw [show mrkE side low high=2 by unfold mrkE;rw [if_pos hb],show mrkB x side low high=x by unfold mrkB;rw [if_pos hb]];exact Hd.retM (fun a fr=>Lv.end1 fr rfl () rfl sq)
   refine Hd.skip<|Hd.inB<|thenN ?_;exfalso;omega
  refine sr fun _ K6=>?_
  refine yv (y_l1 ag3 rfl)<|yv (y_l1 ag3 rfl)<|yv (y_min rfl rfl) ?_;refine yv (y_lss rfl rfl) ?_;refine yv y_as<|fk [(0,_),(1,_),(6,_),(7,_),(14,_)] K6 ?_;refine qz ?_ ?_<;>intro hc2<;>try simp only [hyZ] at hc2
  ·refine qv K3 ?_
   refine qz ?_ ?_<;>intro hc4<;>try simp only [hyZ] at hc4
   ·refine sr fun _ K7=>?_
    refine yv y_as<|fk [(8,_)] K7 ?_;refine Hd.ret<|Hd.inBret<|Hd.thenRet ?_
    have hb:mrkBad side low high=true:=by unfold mrkBad;simp only [Bool.or_eq_true,Bool.and_eq_true,decide_eq_true_eq];omega
    rw [show mrkE side low high=2 by unfold mrkE;rw [if_pos hb],show mrkB x side low high=x by unfold mrkB;rw [if_pos hb]];exact Hd.retM (fun a fr=>Lv.end1 fr rfl () rfl sq)
   refine Hd.skip<|Hd.inB<|thenN ?_;exfalso;omega
  refine sr fun _ K8=>?_
  refine yv (y_l1 ag3 rfl)<|yv (y_l1 ag3 rfl)<|yv (y_max rfl rfl) ?_;refine yv (y_gtr rfl rfl) ?_;refine yv y_as<|fk [(0,_),(1,_),(6,_),(7,_),(14,_)] K8 ?_;refine qz ?_ ?_<;>intro hc3<;>try simp only [hyZ] at hc3
  ·refine qv K3 ?_
   refine qz ?_ ?_<;>intro hc4<;>try simp only [hyZ] at hc4
   ·refine sr fun _ K9=>?_
    refine yv y_as<|fk [(8,_)] K9 ?_;refine Hd.ret<|Hd.inBret<|Hd.thenRet ?_
    have hb:mrkBad side low high=true:=by unfold mrkBad;simp only [Bool.or_eq_true,Bool.and_eq_true,decide_eq_true_eq];omega
    rw [show mrkE side low high=2 by unfold mrkE;rw [if_pos hb],show mrkB x side low high=x by unfold mrkB;rw [if_pos hb]];exact Hd.retM (fun a fr=>Lv.end1 fr rfl () rfl sq)
   refine Hd.skip<|Hd.inB<|thenN ?_;exfalso;omega
  refine Hd.region<|yv (y_l1 ag3 rfl)<|yv (y_neq rfl rfl) ?_;refine yv y_mv ?_;apply Hd.andg 8 31 39 [(0,_),(1,_),(6,_),(7,_)] rfl sbq
  ·intro hg6_31
   try simp only [hyZ] at hg6_31
   simp only [List.take];refine y2 (y_l1 ag3 rfl)<|y2 (y_l1 ag3 rfl)<|y2 (y_lss rfl rfl) ?_;refine y2 y_mv ?_;apply Hd.org 3 35 38 [(0,_),(1,_),(6,_),(7,_),(31,_)] rfl sbq
   ·intro hg6_35
    try simp only [hyZ] at hg6_35
    simp only [List.take];refine n1<|n1<|y2 (y_pickT rfl rfl) ?_;exact Hd.mn
   ·intro hg6_35
    try simp only [hyZ] at hg6_35
    simp only [List.take];refine y2 y_mv<|y2 (y_eql rfl rfl) ?_;refine y2 (y_pickF rfl rfl) ?_;exact Hd.mn
   simp only [List.drop];refine yv (y_pickT rfl rfl) ?_;exact Hd.mn
  ·intro hg6_31
   try simp only [hyZ] at hg6_31
   simp only [List.take];refine n1<|n1<|n1<|n1<|n1<|n1<|n1<|yv (y_pickF rfl rfl) ?_;exact Hd.mn
  simp only [List.drop];refine yv y_as<|fk [(0,_),(1,_),(6,_),(7,_),(14,_)] K3 ?_;refine qz ?_ ?_<;>intro hc4<;>try simp only [hyZ] at hc4
  ·refine sr fun _ K10=>?_
   refine yv y_as<|fk [(8,_)] K10 ?_;refine Hd.ret<|Hd.inBret<|Hd.thenRet ?_
   have hb:mrkBad side low high=true:=by unfold mrkBad;simp only [Bool.or_eq_true,Bool.and_eq_true,decide_eq_true_eq];omega
   rw [show mrkE side low high=2 by unfold mrkE;rw [if_pos hb],show mrkB x side low high=x by unfold mrkB;rw [if_pos hb]];exact Hd.retM (fun a fr=>Lv.end1 fr rfl () rfl sq)
  refine Hd.skip<|Hd.inB<|thenN ?_
  have hb:mrkBad side low high=false:=by unfold mrkBad;simp only [Bool.or_eq_false_iff,Bool.and_eq_false_iff,decide_eq_false_iff_not];omega
  exact Hd.meet () sbq (Ent.sep (.pure hb enn))
 intro _;refine Hd.pure (fun hbad=>?_);refine Hd.seq fun _ K11=>?_
 refine sr fun _ K12=>?_
 refine yv y_mv<|yv y_mv<|callE rfl fk65 (some_ct _ (some ⟨b,0,none⟩) side) sq ?_;rintro ⟨bb,bm⟩;dsimp only;refine fk [(6,_),(7,_),(42,_)] K12 ?_;refine Hd.block<|Hd.rangeF (enc:=encK b) (S:=fun ys=>ys=sidesA side) (Sp:=fun ys=>ys <+: sidesA side)
  (fun pre=>BufP b wb (effB (mrkF low high) x pre)::pt b6 [.int .i64 low] 3::pt b7 [.int .i64 high] 3::L) (fun _ _=>[pu False])
  rfl kq (fun _=>rfl) rfl (some_it b bb bm side) (by rw [eff_nil];refine Ent.sep ?_;refine Ent.pick pkk ?_;refine Ent.pick pkk ?_;refine Ent.pick pkk ?_;exact Ent.swap (L:=[_,_])) ?_ ?_ ?_
 ·intro E l' R pre c N hR hG
  obtain ⟨hc,hcp⟩:=pre_new hG
  have hsn:=eff_snoc (f:=mrkF low high) (x:=x) hcp
  unfold Rnd;simp only [List.cons_append,List.nil_append,pz,encK];refine Hd.region<|yv y_as<|Hd.nil<|slots [(6,_),(7,_),(10,_)] sbq ?_;refine thenN<|Hd.begin hR pkk ?_;refine Hd.block<|Hd.bufK (b:=b) pkk c hc ?_;rw [bfL_eff hcp];refine Hd.drawsH ([pt b6 [.int .i64 low] 3,pt b7 [.int .i64 high] 3]) (fun j=>!(([1000]:List Nat).contains j)) mixed ?_;simp only [List.length,Nat.zero_add,Nat.reduceAdd];refine tH 0 rfl y_mv<|tH 1 rfl y_mv<|tH 2 rfl (y_l1 ag3 rfl)<|tH 3 rfl (y_l1 ag3 rfl)<|tH 4 rfl y_np<|tH 5 rfl (y_f 4 3 Tryz.underlying118 sz3)<|qo 6 ?_;refine Hd.storeK1 sz3 rfl rfl rfl pkk (by decide) (by simp;done) ?_
  try simp only [hyS]
  refine qk<|tH 7 rfl y_np<|tH 8 rfl (y_f 5 3 Tryz.underlying118 sz3)<|qo 9 ?_;refine Hd.storeK1 sz3 rfl rfl rfl pkk (by decide) (by simp;done) ?_
  try simp only [hyS]
  refine qk<|endH kq ?_;refine Hd.heap (BufP b wb ((effB (mrkF low high) x pre).up c fun _=>mrkF low high c (x.s c))::_) (fun q s=>buf_putK hc q (by rw [bfL_up hc];exact Ent.sep enn q s)) ?_;refine slots [] sbq ?_;refine Hd.inB<|Hd.reN ?_;simp only [List.cons_append,List.nil_append];rw [←hsn];exact sq
 ·intro r0 ys hys
  obtain rfl:ys=sidesA side:=hys
  try simp only [List.cons_append,List.nil_append]
  refine Hd.inB<|Hd.toK K11 ?_;refine sr fun _ K13=>?_
  refine yv y_as<|fk [(8,_)] K13 ?_;refine Hd.ret ?_;rw [show mrkE side low high=0 by unfold mrkE;rw [if_neg (by rw [hbad];simp)],show mrkB x side low high=effB (mrkF low high) x (sidesA side) by unfold mrkB;rw [if_neg (by rw [hbad];simp)]];exact Hd.retM (fun a fr=>Lv.mark pkk (Lv.end1 fr rfl () rfl sq))
 rintro r0_0 (_ | id0) pre0 hG0
 ·exact Hd.absurd (by exact id)
 exact Hd.absurd (by exact id)
def wantK (x:BfA) (k:Nat):Bool:=!(x.s k).ended && ((decide ((k:Int)=0) && (decide ((x.s k).high=0) || decide (((x.s k).c.length:Int) < (x.s k).high))) || (decide ((k:Int)=1) && decide (((x.s k).c.length:Int) > 0)))
def waM (x:BfA) (ks:List Nat):Int:=ks.foldl (fun m k=>if wantK x k=true then bits .or .i64 m (flagA k) else m) 0
theorem waM_snoc (x:BfA) (ks:List Nat) (k:Nat):waM x (ks++[k])=if wantK x k=true then bits .or .i64 (waM x ks) (flagA k) else waM x ks:=by unfold waM;rw [List.foldl_append];rfl
def wantsA (x:BfA):Int:=waM x (sidesA (onM x (sidesA 6)))
theorem wants_ct (L:List SP) (b wb:Nat) (x:BfA):Ct Tryz.prog 30 #[.pointer (some ⟨b,0,none⟩)] (BufP b wb x::L) (fun _:Unit=>.int .i64 (wantsA x)) (fun _:Unit=>BufP b wb x::L):=by
 refine Ct.o1M Tryz.func30 ?_;intro E
 show Hd E 54 _ _ _ _
 refine Hd.bufK .here 0 (by omega) ?_;refine sr fun _ K1=>?_
 refine yv y_as<|fk [(0,_)] K1 ?_;refine sr fun _ K2=>?_
 refine Hd.alloc zr3 (fun b3=>?_);refine Hd.store1 sz3 rfl rfl rfl pkk (by decide) ?_
 try simp only [hyS]
 refine fk [(0,_),(3,_)] K2 ?_;refine Hd.seq fun _ K3=>?_
 refine sr fun _ K4=>?_
 refine yv y_mv<|callE rfl fk71 (bnone_ct _ b wb x.fd) sq ?_;intro _;refine Hd.heap (BufP b wb x::pt b3 [.int .i64 0] 3::L) (fun q s=>buf_close rfl rfl rfl q (Ent.sep enn q s)) ?_;refine fk [(0,_),(3,_),(8,_)] K4 ?_;refine Hd.condF rfl ?_;refine qv K3<|Hd.seq fun _ K5=>?_
 refine sr fun _ K6=>?_
 refine yv y_mv<|yv y_mv<|callE rfl fk32 (enabled_ct _ b wb x) sq ?_;intro _;refine callE rfl fk65 (some_ct _ (some ⟨b,0,none⟩) (onM x (sidesA 6))) sq ?_;rintro ⟨bb,bm⟩;dsimp only;refine fk [(3,_),(13,_)] K6 ?_;refine Hd.block<|Hd.rangeF (enc:=encK b) (S:=fun ys=>ys=sidesA (onM x (sidesA 6))) (Sp:=fun ys=>ys <+: sidesA (onM x (sidesA 6)))
  (fun pre=>pt b3 [.int .i64 (waM x pre)] 3::BufP b wb x::L) (fun _ _=>[pu False])
  rfl kq (fun _=>rfl) rfl (some_it b bb bm (onM x (sidesA 6))) (by refine Ent.sep ?_;refine Ent.eq pkk (pt_eq (by rfl)) ?_;refine Ent.pick pkk ?_;exact Ent.swap (L:=[_,_])) ?_ ?_ ?_
 ·intro E l' R pre c N hR hG
  obtain ⟨hc,hcp⟩:=pre_new hG
  have hsn:=waM_snoc x pre c
  unfold Rnd;simp only [List.cons_append,List.nil_append,pz,encK];refine sr fun _ K7=>?_
  refine yv y_as<|fk [(3,_),(4,_),(15,_)] K7 ?_;refine Hd.region<|yv y_as<|Hd.nil<|slots [(3,_),(4,_),(5,_)] sbq ?_;refine thenN<|Hd.begin hR pkk ?_;refine Hd.block<|Hd.seq fun _ K8=>?_
  refine Hd.bufK (b:=b) pkk c hc ?_;refine Hd.region<|yv y_mv<|yv y_np<|yv (y_f 0 116 Tryz.underlying118 sz116)<|callE rfl fk78 (chLen _ b (2 + c * 8 + 0) (x.s c).c) sq ?_;intro _;refine yv y_as<|fk [(3,_),(4,_),(5,_),(6,_)] K8 ?_;refine Hd.block<|sr fun _ K9=>?_
  refine yv y_mv<|yv y_np<|yv (y_f 3 4 Tryz.underlying118 sz4)<|yv (y_load1 ag4 rfl (Rd.segK1 pkk (by decide) (by rfl))) ?_;refine yv y_as<|fk [(3,_),(4,_),(5,_),(6,_),(20,_)] K9 ?_;refine qz ?_ ?_<;>intro hc1<;>try simp only [hyZ] at hc1
  ·refine Hd.heap (BufP b wb x::_) (fun q s=>buf_backK hc q (by exact Ent.sep enn q s)) ?_
   rw [if_neg (by unfold wantK;rw [hc1];simp)] at hsn;refine Hd.skip<|Hd.inB<|Hd.inB<|Hd.reN ?_;simp only [List.cons_append,List.nil_append];rw [hsn];exact sq
  refine Hd.seq fun _ K10=>?_
  refine sr fun _ K11=>?_
  refine yv y_mv<|yv (y_eql rfl rfl) ?_;refine yv y_mv ?_;apply Hd.andg 14 28 42 [(3,_),(4,_),(6,_)] rfl sbq
  ·intro hg9_28
   try simp only [hyZ] at hg9_28
   simp only [List.take];refine y2 y_mv<|y2 y_np<|y2 (y_f 5 3 Tryz.underlying118 sz3)<|y2 (y_load1 ag3 rfl (Rd.segK1 pkk (by decide) (by rfl))) ?_;refine y2 (y_eql rfl rfl) ?_;refine y2 y_mv ?_;apply Hd.org 7 34 41 [(3,_),(4,_),(6,_),(28,_)] rfl sbq
   ·intro hg9_34
    try simp only [hyZ] at hg9_34
    simp only [List.take];refine n1<|n1<|n1<|n1<|n1<|n1<|y2 (y_pickT rfl rfl) ?_;exact Hd.mn
   ·intro hg9_34
    try simp only [hyZ] at hg9_34
    simp only [List.take];refine y2 y_mv<|y2 y_mv<|y2 y_np<|y2 (y_f 5 3 Tryz.underlying118 sz3)<|y2 (y_load1 ag3 rfl (Rd.segK1 pkk (by decide) (by rfl))) ?_;refine y2 (y_lss rfl rfl) ?_;refine y2 (y_pickF rfl rfl) ?_;exact Hd.mn
   simp only [List.drop];refine yv (y_pickT rfl rfl) ?_;exact Hd.mn
  ·intro hg9_28
   try simp only [hyZ] at hg9_28
   simp only [List.take];refine n1<|n1<|n1<|n1<|n1<|n1<|n1<|n1<|n1<|n1<|n1<|n1<|n1<|yv (y_pickF rfl rfl) ?_;exact Hd.mn
  simp only [List.drop];refine yv y_as<|Hd.nil<|Hd.heap (BufP b wb x::_) (fun q s=>buf_backK hc q (by exact Ent.sep enn q s)) ?_;refine sk [(3,_),(4,_),(6,_),(25,_)] K11 ?_;refine qz ?_ ?_<;>intro hc2<;>try simp only [hyZ] at hc2
  ·refine qv K10 ?_
   refine qz ?_ ?_<;>intro hc3<;>try simp only [hyZ] at hc3
   ·refine Hd.drawsH ([pt b3 [.int .i64 (waM x pre)] 3]) (fun j=>!([4].contains j)) mixed ?_
    simp only [List.length,Nat.zero_add,Nat.reduceAdd];refine tH 0 rfl (y_l1 ag3 rfl)<|tH 1 rfl y_mv<|qo 2 ?_;refine callE rfl fk79 (flag_ct _ c) sq ?_;intro _;refine qk<|tH 3 rfl (y_or rfl rfl) ?_;refine qo 4 ?_;refine Hd.store1 sz3 rfl rfl rfl pkk (by simp;done) ?_
    try simp only [hyS]
    refine qn<|endH kq ?_;refine slots [(3,_)] sbq ?_;refine Hd.inB<|Hd.inB<|Hd.reN ?_;simp only [List.cons_append,List.nil_append];rw [hsn,if_pos (by unfold wantK;simp only [Bool.or_eq_true,Bool.and_eq_true,decide_eq_true_eq,Bool.not_eq_true'];exact ⟨hc1,by omega⟩)];exact sq
   refine Hd.skip<|Hd.inB<|Hd.inB<|Hd.reN ?_;simp only [List.cons_append,List.nil_append];rw [hsn,if_neg (by unfold wantK;simp only [Bool.or_eq_true,Bool.and_eq_true,decide_eq_true_eq,Bool.not_eq_true'];intro h;omega)];exact sq
  refine Hd.region<|yv y_mv<|yv (y_eql rfl rfl) ?_;refine yv y_mv ?_;apply Hd.andg 3 45 48 [(3,_),(4,_)] rfl sbq
  ·intro hg10_45
   try simp only [hyZ] at hg10_45
   simp only [List.take];refine y2 y_mv<|y2 (y_gtr rfl rfl) ?_;refine yv (y_pickT rfl rfl) ?_;exact Hd.mn
  ·intro hg10_45
   try simp only [hyZ] at hg10_45
   simp only [List.take];refine n1<|n1<|yv (y_pickF rfl rfl) ?_;exact Hd.mn
  simp only [List.drop];refine yv y_as<|fk [(3,_),(4,_),(25,_)] K10 ?_;refine qz ?_ ?_<;>intro hc3<;>try simp only [hyZ] at hc3
  ·refine Hd.drawsH ([pt b3 [.int .i64 (waM x pre)] 3]) (fun j=>!([4].contains j)) mixed ?_
   simp only [List.length,Nat.zero_add,Nat.reduceAdd];refine tH 0 rfl (y_l1 ag3 rfl)<|tH 1 rfl y_mv<|qo 2 ?_;refine callE rfl fk79 (flag_ct _ c) sq ?_;intro _;refine qk<|tH 3 rfl (y_or rfl rfl) ?_;refine qo 4 ?_;refine Hd.store1 sz3 rfl rfl rfl pkk (by simp;done) ?_
   try simp only [hyS]
   refine qn<|endH kq ?_;refine slots [(3,_)] sbq ?_;refine Hd.inB<|Hd.inB<|Hd.reN ?_;simp only [List.cons_append,List.nil_append];rw [hsn,if_pos (by unfold wantK;simp only [Bool.or_eq_true,Bool.and_eq_true,decide_eq_true_eq,Bool.not_eq_true'];exact ⟨hc1,by omega⟩)];exact sq
  refine Hd.skip<|Hd.inB<|Hd.inB<|Hd.reN ?_;simp only [List.cons_append,List.nil_append];rw [hsn,if_neg (by unfold wantK;simp only [Bool.or_eq_true,Bool.and_eq_true,decide_eq_true_eq,Bool.not_eq_true'];intro h;omega)];exact sq
 ·intro r0 ys hys
  obtain rfl:ys=sidesA (onM x (sidesA 6)):=hys
  try simp only [List.cons_append,List.nil_append]
  refine Hd.inB<|Hd.toK K5 ?_;refine sr fun _ K12=>?_
  refine yv (y_l1 ag3 rfl)<|yv y_as<|fk [(2,_)] K12 ?_;refine Hd.ret ?_;exact Hd.retM (fun a fr=>Lv.mark pkk (Lv.end1 fr rfl () rfl sq))
 rintro r0_0 (_ | id0) pre0 hG0
 ·exact Hd.absurd (by exact id)
 exact Hd.absurd (by exact id)
structure ToA where
 r:Bool
 w:Bool
 ev:Int
 e:Int
 i:Int
 o:Int
abbrev encT (t:ToA):List Value:=[.bool t.r,.bool t.w,.int .i64 t.ev,.int .i64 t.e,.int .i64 t.i,.int .i64 t.o]
def noT:ToA:=⟨false,false,0,0,0,0⟩
abbrev ToP (bt:Nat) (t:ToA):SP:=pt bt (encT t) 58
abbrev stopF (s:SdA):SdA:={ s with on:=false,ended:=true,at_:=NV }
def stopE (t:ToA) (e:Int):Int:=if t.e=0 then e else t.e
abbrev stopT (t:ToA) (ev e:Int):ToA:={ t with ev:=bits .or .i64 t.ev ev,e:=stopE t e }
theorem stop_ct (L:List SP) (b k bt:Nat) (s:SdA) (t:ToA) (ev e:Int):Ct Tryz.prog 160 #[.pointer (some ⟨b,2 + k * 8,none⟩),.pointer (some ⟨bt,0,none⟩),.int .i64 ev,.int .i64 e] (SdL b k s (ToP bt t::L)) (fun _:Unit=>.tuple #[]) (fun _:Unit=>SdL b k (stopF s) (ToP bt (stopT t ev e)::L)):=by
 refine Ct.o4 Tryz.func160 ?_;intro E
 show Hd E 34 _ _ _ _
 refine sr fun _ K1=>?_
 refine yv y_mv<|yv y_mv<|yv y_mv<|yv y_np<|yv (y_f 2 4 Tryz.underlying118 sz4)<|Hd.storeK1 sz4 rfl rfl rfl pkk (by decide) (by simp;done) ?_
 try simp only [hyS]
 refine yv y_np<|yv (y_f 3 4 Tryz.underlying118 sz4)<|Hd.storeK1 sz4 rfl rfl rfl pkk (by decide) (by simp;done) ?_
 try simp only [hyS]
 refine yv y_np<|yv (y_f 7 29 Tryz.underlying118 sz29)<|Hd.storeK1 sz29 rfl rfl rfl pkk (by decide) (by simp;done) ?_
 try simp only [hyS]
 refine fk [(1,_),(2,_),(3,_)] K1 ?_;refine sr fun _ K2=>?_
 refine yv y_mv<|yv y_np<|yv (y_f 2 3 Tryz.underlying58 sz3)<|yv (y_l1 ag3 rfl)<|yv y_mv<|yv (y_or rfl rfl) ?_;refine yv y_np<|yv (y_f 2 3 Tryz.underlying58 sz3)<|Hd.store1 sz3 rfl rfl rfl pkk (by simp;done) ?_
 try simp only [hyS]
 refine fk [(1,_),(3,_)] K2 ?_;refine sr fun _ K3=>?_
 refine yv y_mv<|yv y_np<|yv (y_f 3 34 Tryz.underlying58 sz34)<|yv (y_l1 ag34 rfl)<|yv (y_eql rfl rfl) ?_;refine fk [(1,_),(3,_),(29,_)] K3 ?_;refine qz ?_ ?_<;>intro hc0<;>try simp only [hyZ] at hc0
 ·refine Hd.region ?_
  refine yv y_mv<|yv y_mv<|yv y_np<|yv (y_f 3 34 Tryz.underlying58 sz34)<|Hd.store1 sz34 rfl rfl rfl pkk (by simp;done) ?_
  try simp only [hyS]
  refine Hd.nil<|slots [] sbq ?_
  have h:stopE t e=e:=by unfold stopE;rw [if_pos hc0]
  have hq:[Value.bool t.r,.bool t.w,.int .i64 (bits .or .i64 t.ev ev),.int .i64 (e),.int .i64 t.i,.int .i64 t.o]=encT (stopT t ev e):=by
   show _=[Value.bool t.r,.bool t.w,.int .i64 (bits .or .i64 t.ev ev),.int .i64 (stopE t e),.int .i64 t.i,.int .i64 t.o]
   rw [h]
  exact Hd.end0 rfl () rfl (Ent.sep (.pick pkk (.eq pkk (segK_eq (by rfl)) (.eq pkk (pt_eq hq) enn))))
 refine Hd.skip ?_
 have h:stopE t e=t.e:=by unfold stopE;rw [if_neg hc0]
 have hq:[Value.bool t.r,.bool t.w,.int .i64 (bits .or .i64 t.ev ev),.int .i64 (t.e),.int .i64 t.i,.int .i64 t.o]=encT (stopT t ev e):=by
  show _=[Value.bool t.r,.bool t.w,.int .i64 (bits .or .i64 t.ev ev),.int .i64 (stopE t e),.int .i64 t.i,.int .i64 t.o]
  rw [h]
 exact Hd.end0 rfl () rfl (Ent.sep (.pick pkk (.eq pkk (segK_eq (by rfl)) (.eq pkk (pt_eq hq) enn))))
def lateK (now:Int) (s:SdA):Bool:=!(decide (s.at_=NV) || decide (s.at_ > now))
def ltF (now:Int) (k:Nat) (s:SdA):SdA:=if lateK now s=true then offF k s else s
def lateT (x:BfA) (now:Int) (ks:List Nat):Int:=ks.foldl (fun m k=>if lateK now (x.s k)=true then bits .or .i64 (bits .or .i64 m (if k=0 then 1 else 2)) 64 else m) 0
theorem lateT_snoc (x:BfA) (now:Int) (ks:List Nat) (k:Nat):lateT x now (ks++[k])=if lateK now (x.s k)=true then bits .or .i64 (bits .or .i64 (lateT x now ks) (if k=0 then 1 else 2)) 64 else lateT x now ks:=by unfold lateT;rw [List.foldl_append];rfl
theorem late_ct (L:List SP) (b wb:Nat) (x:BfA) (now:Int):Ct Tryz.prog 27 #[.pointer (some ⟨b,0,none⟩),.int .u64 now] (BufP b wb x::L) (fun _:Unit=>.agg (encT { noT with ev:=lateT x now (sidesA 6) }).toArray) (fun _:Unit=>BufP b wb (effB (ltF now) x (sidesA 6))::L):=by
 refine Ct.o2M Tryz.func27 ?_;intro E
 show Hd E 50 _ _ _ _
 refine Hd.bufK .here 0 (by omega) ?_;refine sr fun _ K1=>?_
 refine Hd.box rfl rfl (fun b3=>?_);refine Hd.alloc zr58 (fun b4=>?_);refine fk [(0,_),(3,_),(4,_)] K1 ?_;refine sr fun _ K2=>?_
 refine Hd.alloc zr58 (fun b5=>?_);refine fk [(0,_),(3,_),(4,_),(5,_)] K2 ?_;refine Hd.seq fun _ K3=>?_
 refine sr fun _ K4=>?_
 refine yv y_mv<|callE rfl fk71 (bnone_ct _ b wb x.fd) sq ?_;intro _;refine Hd.heap (BufP b wb x::pt b3 [.int .u64 now] 29::pt b4 (encT noT) 58::pt b5 (encT noT) 58::L) (fun q s=>buf_close rfl rfl rfl q (Ent.sep (by refine Ent.pick pkk ?_;refine Ent.pick pkk ?_;refine Ent.pick pkk ?_;refine Ent.pick pkk ?_;refine Ent.pick pkk ?_;refine Ent.pick pkk ?_;refine Ent.pick pkk ?_;refine Ent.eq pkk (pt_eq (by rfl)) ?_;refine Ent.eq pkk (pt_eq (by rfl)) ?_;exact Ent.same) q s)) ?_;refine fk [(0,_),(3,_),(4,_),(5,_),(9,_)] K4 ?_;refine Hd.condF rfl ?_;refine qv K3<|Hd.seq fun _ K5=>?_
 refine sr fun _ K6=>?_
 refine yv y_mv<|callE rfl fk65 (some_ct _ (some ⟨b,0,none⟩) 6) sq ?_;rintro ⟨bb,bm⟩;dsimp only;refine fk [(3,_),(4,_),(5,_),(12,_)] K6 ?_;refine Hd.block<|Hd.rangeF (enc:=encK b) (S:=fun ys=>ys=sidesA 6) (Sp:=fun ys=>ys <+: sidesA 6)
  (fun pre=>BufP b wb (effB (ltF now) x pre)::pt b5 (encT { noT with ev:=lateT x now pre }) 58::pt b3 [.int .u64 now] 29::pt b4 (encT noT) 58::L) (fun _ _=>[pu False])
  rfl kq (fun _=>rfl) rfl (some_it b bb bm 6) (by rw [eff_nil];refine Ent.sep ?_;refine Ent.pick pkk ?_;refine Ent.eq pkk (pt_eq (by rfl)) ?_;refine Ent.pick pkk ?_;refine Ent.pick pkk ?_;exact Ent.swap (L:=[_,_])) ?_ ?_ ?_
 ·intro E l' R pre c N hR hG
  obtain ⟨hc,hcp⟩:=pre_new hG
  have hsn:=eff_snoc (f:=ltF now) (x:=x) hcp
  have hls:=lateT_snoc x now pre c
  unfold Rnd;simp only [List.cons_append,List.nil_append,pz,encK];refine sr fun _ K7=>?_
  refine yv y_as<|fk [(3,_),(4,_),(5,_),(6,_),(14,_)] K7 ?_;refine Hd.region<|yv y_as<|Hd.nil<|slots [(3,_),(4,_),(5,_),(6,_),(7,_)] sbq ?_;refine thenN<|Hd.begin hR pkk ?_;refine Hd.block<|Hd.seq fun _ K8=>?_
  refine Hd.seq fun _ K9=>?_
  refine Hd.bufK (b:=b) pkk c hc ?_;rw [bfL_eff hcp];refine Hd.quiet mixed kq ?_;refine Hq.yv y_mv ?_;refine Hq.yv y_np ?_;refine Hq.yv (y_f 7 29 Tryz.underlying118 sz29) ?_;refine Hq.yv (y_load1 ag29 rfl (Rd.segK1 pkk (by decide) (by rfl))) ?_;refine Hq.yv (y_eql rfl rfl) ?_;refine Hq.yv y_mv ?_;apply Hq.org 7 20 27 [(4,_),(5,_),(6,_),(7,_)] rfl ⟨rfl,rfl,rfl,rfl,trivial⟩
  ·intro hg7_20
   try simp only [hyZ] at hg7_20
   simp only [List.take];refine Hq.ng rfl rfl rfl ?_;refine Hq.ng rfl rfl rfl ?_;refine Hq.ng rfl rfl rfl ?_;refine Hq.ng rfl rfl rfl ?_;refine Hq.ng rfl rfl rfl ?_;refine Hq.ng rfl rfl rfl ?_;refine Hq.yv (y_pickT rfl rfl) ?_;exact Hq.mend sbq
  ·intro hg7_20
   try simp only [hyZ] at hg7_20
   simp only [List.take];refine Hq.yg rfl rfl y_mv ?_;refine Hq.yg rfl rfl y_np ?_;refine Hq.yg rfl rfl (y_f 7 29 Tryz.underlying118 sz29) ?_;refine Hq.yg rfl rfl (y_load1 ag29 rfl (Rd.segK1 pkk (by decide) (by rfl))) ?_;refine Hq.yg rfl rfl (y_l1 ag29 rfl) ?_;refine Hq.yg rfl rfl (y_gtr rfl rfl) ?_;refine Hq.yv (y_pickF rfl rfl) ?_;exact Hq.mend sbq
  simp only [List.drop];refine Hq.nil ?_;refine sk [(4,_),(5,_),(6,_),(7,_),(27,_)] K9 ?_;refine qz ?_ ?_<;>intro hc1<;>try simp only [hyZ] at hc1
  ·have hl:lateK now (x.s c)=false:=by unfold lateK NV;simp only [Bool.not_eq_false',Bool.or_eq_true,decide_eq_true_eq];omega
   have hf:ltF now c (x.s c)=x.s c:=if_neg (by rw [hl];simp)
   refine Hd.heap (BufP b wb ((effB (ltF now) x pre).up c fun _=>x.s c)::_) (fun q s=>buf_putK hc q (by rw [bfL_up hc];exact Ent.sep enn q s)) ?_;refine Hd.exit<|Hd.thenExit<|Hd.inBexit<|Hd.reN ?_;simp only [List.cons_append,List.nil_append];rw [←hsn,hf,hls,if_neg (by rw [hl];simp)];exact sq
  have hl:lateK now (x.s c)=true:=by unfold lateK NV;simp only [Bool.not_eq_true',Bool.or_eq_false_iff,decide_eq_false_iff_not];omega
  have hf:ltF now c (x.s c)=offF c (x.s c):=if_pos hl
  refine qv K8<|sr fun _ K10=>?_
  refine yv y_mv<|yv y_mv<|yv y_np<|yv (y_f 2 4 Tryz.underlying118 sz4)<|Hd.storeK1 sz4 rfl rfl rfl pkk (by decide) (by simp;done) ?_
  try simp only [hyS]
  refine yv y_np<|yv (y_f 7 29 Tryz.underlying118 sz29)<|Hd.storeK1 sz29 rfl rfl rfl pkk (by decide) (by simp;done) ?_
  try simp only [hyS]
  refine Hd.nil<|Hd.heap (BufP b wb ((effB (ltF now) x pre).up c fun _=>offF c (x.s c))::_) (fun q s=>buf_putK hc q (by rw [bfL_up hc];exact Ent.sep enn q s)) ?_;refine sk [(4,_),(5,_),(6,_)] K10 ?_;refine Hd.seq fun _ K11=>?_
  refine sr fun _ K12=>?_
  refine yv y_mv<|fk [(4,_),(5,_),(34,_)] K12 ?_;refine Hd.block<|sr fun _ K13=>?_
  refine yv (y_eql rfl rfl) ?_;refine yv y_as<|fk [(4,_),(5,_),(39,_)] K13 ?_;refine qz ?_ ?_<;>intro hc2<;>try simp only [hyZ] at hc2
  ·have hz:(if c=0 then (1:Int) else 2)=1:=if_pos (by omega)
   refine Hd.region<|yv (y_f 2 3 Tryz.underlying58 sz3)<|yv (y_l1 ag3 rfl)<|yv (y_or rfl rfl) ?_;refine yv (y_f 2 3 Tryz.underlying58 sz3)<|Hd.store1 sz3 rfl rfl rfl pkk (by simp;done) ?_
   try simp only [hyS]
   refine Hd.nil<|slots [(4,_),(5,_)] sbq ?_;refine Hd.inB<|Hd.toK K11 ?_;refine Hd.region<|yv (y_f 2 3 Tryz.underlying58 sz3)<|yv (y_l1 ag3 rfl)<|yv (y_or rfl rfl) ?_;refine yv (y_f 2 3 Tryz.underlying58 sz3)<|Hd.store1 sz3 rfl rfl rfl pkk (by simp;done) ?_
   try simp only [hyS]
   refine Hd.nil<|slots [(4,_),(5,_)] sbq ?_;refine Hd.inB<|Hd.reN ?_;simp only [List.cons_append,List.nil_append];rw [←hsn,hf,hls,if_pos hl,hz];exact sq
  have hz:(if c=0 then (1:Int) else 2)=2:=if_neg (by omega)
  refine Hd.region<|yv (y_f 2 3 Tryz.underlying58 sz3)<|yv (y_l1 ag3 rfl)<|yv (y_or rfl rfl) ?_;refine yv (y_f 2 3 Tryz.underlying58 sz3)<|Hd.store1 sz3 rfl rfl rfl pkk (by simp;done) ?_
  try simp only [hyS]
  refine Hd.nil<|slots [(4,_),(5,_)] sbq ?_;refine Hd.inB<|Hd.toK K11 ?_;refine Hd.region<|yv (y_f 2 3 Tryz.underlying58 sz3)<|yv (y_l1 ag3 rfl)<|yv (y_or rfl rfl) ?_;refine yv (y_f 2 3 Tryz.underlying58 sz3)<|Hd.store1 sz3 rfl rfl rfl pkk (by simp;done) ?_
  try simp only [hyS]
  refine Hd.nil<|slots [(4,_),(5,_)] sbq ?_;refine Hd.inB<|Hd.reN ?_;simp only [List.cons_append,List.nil_append];rw [←hsn,hf,hls,if_pos hl,hz];exact sq
 ·intro r0 ys hys
  obtain rfl:ys=sidesA 6:=hys
  try simp only [List.cons_append,List.nil_append]
  refine Hd.inB<|Hd.toK K5 ?_;refine sr fun _ K14=>?_
  refine yv (y_loadn (us:=encT { noT with ev:=lateT x now (sidesA 6) }) ag58 rfl (Rd.pt pkk (fun j v e=>by rw [Nat.zero_add];exact e)) (by exact sz58)) ?_;refine Hd.storeA (us:=encT { noT with ev:=lateT x now (sidesA 6) }) sz58 rfl rfl rfl (by simp [Value.oneCell']) pkk (by exact rfl) ?_;refine fk [(4,_)] K14 ?_;refine Hd.ret ?_;exact Hd.retM (fun a fr=>Lv.mark pkk (Lv.endC fr rfl () ag58 rfl (Rd.pt (us:=encT { noT with ev:=lateT x now (sidesA 6) }) pkk (fun j v e=>by rw [Nat.zero_add];exact e)) (by exact sz58) rfl sq))
 rintro r0_0 (_ | id0) pre0 hG0
 ·exact Hd.absurd (by exact id)
 exact Hd.absurd (by exact id)
def rdN (s:SdA) (most:Int):Int:=if s.high > 0 then min (min (min most 4096) (1048576 - (s.c.length:Int))) (s.high - (s.c.length:Int)) else min (min most 4096) (1048576 - (s.c.length:Int))
structure StA where
 x:BfA
 w:WA
 t:ToA
abbrev getF (now:Int) (bs:List UInt8) (s:SdA):SdA:=setA 0 now { s with c:=addA s.c bs }
def rdP (σ:StA) (now:Int) (r:(List UInt8×Bool×Int)×WA):StA :=
 if r.1.2.1=true then ⟨σ.x.up 0 fun s=>stopF s,r.2,stopT σ.t 17 0⟩
 else if r.1.2.2=113 then ⟨σ.x,r.2,σ.t⟩
 else if r.1.2.2≠0 then ⟨σ.x.up 0 fun s=>stopF s,r.2,stopT σ.t 33 r.1.2.2⟩
 else ⟨σ.x.up 0 (getF now r.1.1),r.2,{ σ.t with i:=(r.1.1.length:Int),r:=decide (((addA (σ.x.s 0).c r.1.1).length:Int) ≥ (σ.x.s 0).low) }⟩
def readS (σ:StA) (now most:Int):StA:=if rdN (σ.x.s 0) most < 1 then σ else rdP σ now (readR σ.w σ.x.fd (rdN (σ.x.s 0) most))
theorem readR_len (w:WA) (fd n:Int):(readR w fd n).1.1.length≤65536∨¬ WOk w:=by
 by_cases h:WOk w
 ·left
  unfold readR
  split
  ·simp
  ·rename_i m k hat
   split
   ·simp
   ·rename_i x hx
    have hwf:=h.wf x (List.mem_of_getElem? hx)
    obtain ⟨_,_,hk,_⟩:=h.at_lt hat
    have h1:=hwf.le k hk
    have h2:=hwf.cap
    repeat' split
    all_goals first
     | (simp;done)
     | (rw [List.length_take];omega)
 ·right;exact h
theorem Hd.worldOk {E:World} {n:Nat} {ds:List Deferred} {st:List (Nat×Value)} {L L':List SP} {K:Act→World→Prop} {wb:Nat} {w:WA} (p:Pick L (WorldP wb w) L') (h:WOk w→Hd E n ds st L K):Hd E n ds st L K:=fun a v f s=>by
 refine h ?_ a v f s
 obtain ⟨h1,s1,i,x⟩:=sep.one p s.2.2.2
 exact (sep_pure (p:=WOk w∧i.rs.map Prod.snd=w.ws) x).1.1
theorem read_ct (L:List SP) (b wb bt:Nat) (x:BfA) (w:WA) (t:ToA) (ht:TmOk x) (now most:Int) (hn:InK .u64 now) (hm:most≤9223372036854775807) (hh:InK .i64 (x.s 0).high):Ct Tryz.prog 74 #[.pointer (some ⟨b,0,none⟩),.int .u64 now,.int .i64 most,.pointer (some ⟨bt,0,none⟩)] (BufP b wb x::WorldP wb w::ToP bt t::L) (fun _:Unit=>.tuple #[]) (fun _:Unit=>BufP b wb (readS ⟨x,w,t⟩ now most).x::WorldP wb (readS ⟨x,w,t⟩ now most).w::ToP bt (readS ⟨x,w,t⟩ now most).t::L):=by
 refine Ct.o4 Tryz.func74 ?_;intro E
 show Hd E 96 _ _ _ _
 simp only [InK] at hh;refine Hd.buf .here ?_;refine Hd.chB (b:=b) (o:=2 + 0 * 8 + 0) pkk (fun hcl=>?_);refine Hd.worldOk (wb:=wb) (w:=w) pkk (fun hwo=>?_)
 have hS:¬ rdN (x.s 0) most < 1→readS ⟨x,w,t⟩ now most=rdP ⟨x,w,t⟩ now (readR w x.fd (rdN (x.s 0) most)):=fun h=>if_neg h
 have hlen:=(readR_len w x.fd (rdN (x.s 0) most)).resolve_right (fun h=>h hwo)
 obtain ⟨⟨⟨bs,eo,ec⟩,w'⟩,hrr⟩:∃ rr,readR w x.fd (rdN (x.s 0) most)=rr:=⟨_,rfl⟩
 rw [hrr] at hS hlen;dsimp only at hlen;refine sr fun _ K1=>?_
 refine yv y_mv<|yv y_np<|yv (y_f 2 119 Tryz.underlying121 sz119)<|yv (y_idxA Tryz.underlying119 sz118 rfl rfl (by decide)) ?_;refine yv y_as<|fk [(0,_),(1,_),(2,_),(3,_),(8,_)] K1 ?_;refine sr fun _ K2=>?_
 refine yv y_mv<|yv y_mv<|yv y_np<|yv (y_f 0 116 Tryz.underlying118 sz116)<|callE rfl fk78 (chLen _ b (2 + 0 * 8 + 0) (x.s 0).c) sq ?_;intro _;refine yv (y_subn rfl rfl (by simp only [InK];omega)) ?_;refine yv (y_min3 rfl rfl rfl) ?_;refine yv y_as<|fk [(0,_),(1,_),(3,_),(8,_),(9,_)] K2 ?_;refine Hd.cutK (ι:=Unit) [(0,_),(1,_),(3,_),(8,_)] (fun _=>[(9,.int .i64 (rdN (x.s 0) most))]) (fun _=>BfL b wb x 0 (WorldP wb w::ToP bt t::L)) ?_ ?_ ⟨rfl,rfl,rfl,rfl,trivial⟩
 ·refine sr fun _ K3=>?_
  refine yv y_mv<|yv y_np<|yv (y_f 5 3 Tryz.underlying118 sz3)<|yv (y_load1 ag3 rfl (Rd.segK1 pkk (by decide) (by rfl))) ?_;refine yv (y_gtr rfl rfl) ?_;refine fk [(0,_),(1,_),(3,_),(8,_),(9,_),(28,_)] K3 ?_;refine qz ?_ ?_<;>intro hc0<;>try simp only [hyZ] at hc0
  ·refine Hd.drawsH ([segK b (2 + 0 * 8) 2 (encS (x.s 0))]) (fun _=>true) mixed ?_
   simp only [List.length,Nat.zero_add,Nat.reduceAdd];refine tH 0 rfl y_mv<|tH 1 rfl y_mv<|tH 2 rfl y_np<|tH 3 rfl (y_f 5 3 Tryz.underlying118 sz3)<|tH 4 rfl (y_load1 ag3 rfl (Rd.segK1 pkk (by decide) (by rfl))) ?_;refine tH 5 rfl y_mv<|tH 6 rfl y_np<|tH 7 rfl (y_f 0 116 Tryz.underlying118 sz116)<|qo 8 ?_;refine callE rfl fk78 (chLen _ b (2 + 0 * 8 + 0) (x.s 0).c) sq ?_;intro _;refine qk<|tH 9 rfl (y_subn rfl rfl (by simp only [InK];omega)) ?_;refine tH 10 rfl (y_min rfl rfl) ?_;refine tH 11 rfl y_as<|endH kq ?_;refine slots [(0,_),(1,_),(3,_),(8,_),(9,_)] sbq ?_;refine thenN ?_
   have hn9:rdN (x.s 0) most=min (min (min most 4096) (1048576 - ((x.s 0).c.length:Int))) ((x.s 0).high - ((x.s 0).c.length:Int)):=if_pos hc0
   rw [←hn9];exact Hd.meet () sbq sq
  refine Hd.skip<|thenN ?_
  have hn9:rdN (x.s 0) most=min (min most 4096) (1048576 - ((x.s 0).c.length:Int)):=if_neg (by omega)
  rw [←hn9];exact Hd.meet () sbq sq
 intro _;refine Hd.seq fun _ K4=>?_
 refine sr fun _ K5=>?_
 refine yv y_mv<|yv (y_lss rfl rfl) ?_;refine fk [(0,_),(1,_),(3,_),(8,_),(9,_),(41,_)] K5 ?_;refine qz ?_ ?_<;>intro hc1<;>try simp only [hyZ] at hc1
 ·refine Hd.ret ?_
  refine Hd.thenRet ?_;rw [show readS ⟨x,w,t⟩ now most=⟨x,w,t⟩ from if_pos hc1];exact Hd.ret0 rfl () rfl (fun q s=>buf_close rfl rfl rfl q (Ent.sep enn q s))
 refine qv K4<|Hd.seq fun _ K6=>?_
 refine Hd.drawsH ([BfH b wb x.fd]) (fun _=>true) mixed ?_;simp only [List.length,Nat.zero_add,Nat.reduceAdd];refine tH 0 rfl y_mv<|tH 1 rfl y_np<|tH 2 rfl (y_f 0 37 Tryz.underlying121 sz37)<|tH 3 rfl (y_load1 ag37 rfl (Rd.seg1 pkk (by rfl))) ?_;refine tH 4 rfl y_mv<|tH 5 rfl y_np<|tH 6 rfl (y_f 1 3 Tryz.underlying121 sz3)<|tH 7 rfl (y_load1 ag3 rfl (Rd.seg1 pkk (by rfl))) ?_;refine tH 8 rfl y_mv<|qo 9 ?_;refine callE rfl fk54 (wread_ct _ wb w x.fd (rdN (x.s 0) most)) sq ?_;rintro ⟨ad,c⟩;rw [hrr];dsimp only;refine qk<|tH 10 rfl y_mv<|tH 11 rfl y_ex<|tH 12 rfl y_ex<|tH 13 rfl y_ex<|tH 14 rfl y_as<|tH 15 rfl y_as<|tH 16 rfl y_as<|endH kq ?_;refine sk [(0,_),(1,_),(3,_),(8,_),(10,_),(11,_),(12,_)] K6 ?_;refine Hd.block<|sr fun _ K7=>?_
 refine yv y_mv<|yv y_as<|fk [(0,_),(1,_),(3,_),(8,_),(10,_),(12,_),(81,_)] K7 ?_;refine qz ?_ ?_<;>intro hc2<;>try simp only [hyZ] at hc2
 ·refine Hd.region ?_
  refine yv y_mv<|yv y_mv<|callE rfl fk160 (stop_ct _ b 0 bt (x.s 0) t 17 0) sq ?_;intro _;refine Hd.nil<|slots [] sbq ?_;refine Hd.inB ?_;rw [show readS ⟨x,w,t⟩ now most=⟨x.up 0 fun s=>stopF s,w',stopT t 17 0⟩ from (hS (by omega)).trans (if_pos hc2)];exact Hd.end0 rfl () rfl (fun q s=>buf_put (fd:=x.fd) (x':=x.up 0 fun s=>stopF s) (s0:=stopF (x.s 0)) (s1:=x.s 1) rfl rfl rfl q (Ent.sep enn q s))
 refine sr fun _ K8=>?_
 refine yv y_mv<|yv (y_eql rfl rfl) ?_;refine yv y_as<|fk [(0,_),(1,_),(3,_),(8,_),(10,_),(12,_),(86,_)] K8 ?_;refine qz ?_ ?_<;>intro hc3<;>try simp only [hyZ] at hc3
 ·refine Hd.skip ?_
  refine Hd.inB ?_;rw [show readS ⟨x,w,t⟩ now most=⟨x,w',t⟩ from (hS (by omega)).trans<|(if_neg (by rw [hc2];simp)).trans (if_pos hc3)];exact Hd.end0 rfl () rfl (fun q s=>buf_close rfl rfl rfl q (Ent.sep enn q s))
 refine sr fun _ K9=>?_
 refine yv y_mv<|yv (y_neq rfl rfl) ?_;refine yv y_as<|fk [(0,_),(1,_),(3,_),(8,_),(10,_),(12,_),(89,_)] K9 ?_;refine qz ?_ ?_<;>intro hc4<;>try simp only [hyZ] at hc4
 ·refine Hd.region ?_
  refine yv y_mv<|yv y_mv<|yv y_mv<|callE rfl fk160 (stop_ct _ b 0 bt (x.s 0) t 33 ec) sq ?_;intro _;refine Hd.nil<|slots [] sbq ?_;refine Hd.inB ?_;rw [show readS ⟨x,w,t⟩ now most=⟨x.up 0 fun s=>stopF s,w',stopT t 33 ec⟩ from (hS (by omega)).trans<|(if_neg (by rw [hc2];simp)).trans ((if_neg hc3).trans (if_pos hc4))];exact Hd.end0 rfl () rfl (fun q s=>buf_put (fd:=x.fd) (x':=x.up 0 fun s=>stopF s) (s0:=stopF (x.s 0)) (s1:=x.s 1) rfl rfl rfl q (Ent.sep enn q s))
 refine Hd.seq fun _ K10=>?_
 refine Hd.ownCap pkk (fun hmc=>?_);refine Hd.region<|yv y_mv<|yv y_np<|yv (y_f 0 116 Tryz.underlying118 sz116)<|yv y_mv<|callE rfl fk72 (chAdd _ b (2 + 0 * 8 + 0) (x.s 0).c ad bs.length c bs rfl ?hA hmc (by omega)) sq ?_
 case hA=>exact RdS.own (ad:=ad) pkk
 intro _;refine fk [(0,_),(1,_),(3,_),(8,_),(10,_)] K10 ?_;refine sr fun _ K11=>?_
 refine yv y_mv<|yv y_mv<|yv (y_len Tryz.underlying30 rfl) ?_;refine yv y_np<|yv (y_f 4 3 Tryz.underlying58 sz3)<|Hd.store1 sz3 rfl rfl rfl pkk (by simp;done) ?_
 try simp only [hyS]
 refine fk [(0,_),(1,_),(3,_),(8,_)] K11 ?_;refine Hd.seq fun _ K12=>?_
 refine Hd.drawsH ([segK b (2 + 0 * 8) 2 (encS (x.s 0))]) (fun j=>!(([1000]:List Nat).contains j)) mixed ?_;simp only [List.length,Nat.zero_add,Nat.reduceAdd];refine tH 0 rfl y_mv<|tH 1 rfl y_mv<|tH 2 rfl y_np<|tH 3 rfl (y_f 0 116 Tryz.underlying118 sz116)<|tH 5 rfl y_mv<|tH 6 rfl y_np<|tH 7 rfl (y_f 4 3 Tryz.underlying118 sz3)<|tH 8 rfl (y_load1 ag3 rfl (Rd.segK1 pkk (by decide) (by rfl))) ?_;refine qo 4 ?_;refine callE rfl fk78 (chLen _ b (2 + 0 * 8 + 0) (addA (x.s 0).c bs)) sq ?_;intro _;refine qk<|tH 9 rfl (y_geq rfl rfl) ?_;refine tH 10 rfl y_np<|tH 11 rfl (y_f 0 4 Tryz.underlying58 sz4)<|qo 12 ?_;refine Hd.store1 sz4 rfl rfl rfl pkk (by simp;done) ?_
 try simp only [hyS]
 refine qk<|endH kq ?_;refine sk [(0,_),(1,_)] K12 ?_;refine Hd.region<|yv y_mv<|yv y_mv<|callE rfl fk66 (set_ct _ b 0 (by omega) { x.s 0 with c:=addA (x.s 0).c bs } now hn (ht 0 (by omega)).1) sq ?_;intro _;refine Hd.nil<|slots [] sbq ?_;refine Hd.inB ?_;rw [show readS ⟨x,w,t⟩ now most=⟨x.up 0 (getF now bs),w',{ t with i:=(bs.length:Int),r:=decide (((addA (x.s 0).c bs).length:Int) ≥ (x.s 0).low) }⟩ from (hS (by omega)).trans<|(if_neg (by rw [hc2];simp)).trans ((if_neg hc3).trans (if_neg (by simpa using hc4)))];exact Hd.end0 rfl () rfl (fun q s=>buf_put (fd:=x.fd) (x':=x.up 0 (getF now bs)) (s0:=setA 0 now { x.s 0 with c:=addA (x.s 0).c bs }) (s1:=x.s 1) rfl rfl rfl q (Ent.sep (.pick pkk (.pick pkk (.pick pkk (.pick pkk (.pick pkk (.pick pkk (.pick pkk (.eq pkk (pt_eq (by rfl)) enn)))))))) q s))
def offA (s:SdA) (much:Int):List UInt8:=Bc.cpy s.c 0 (min much 4096)
abbrev putF (now n:Int) (s:SdA):SdA:=setA 1 now { s with c:=s.c.drop n.toNat }
def wrP (σ:StA) (now:Int) (r:(Int×Int)×WA):StA :=
 if r.1.2=0 then ⟨σ.x.up 1 (putF now r.1.1),r.2,{ σ.t with o:=r.1.1,w:=decide (((((σ.x.s 1).c.drop r.1.1.toNat).length:Nat):Int)≤(σ.x.s 1).low) }⟩
 else if r.1.2=113 then ⟨σ.x,r.2,σ.t⟩
 else ⟨σ.x.up 1 fun s=>stopF s,r.2,stopT σ.t 34 r.1.2⟩
def writeS (σ:StA) (now much:Int):StA:=if (offA (σ.x.s 1) much).length=0 then σ else wrP σ now (writeR σ.w σ.x.fd (offA (σ.x.s 1) much))
theorem writeR_le (w:WA) (fd:Int) (bs:List UInt8):(writeR w fd bs).1.1≤(bs.length:Int):=by
 unfold writeR
 repeat' split
 all_goals first
  | (dsimp only;omega)
  | (dsimp only;unfold putN;omega)
theorem write_ct (L:List SP) (b wb bt:Nat) (x:BfA) (w:WA) (t:ToA) (ht:TmOk x) (now much:Int) (hn:InK .u64 now) (hm:InK .i64 much):Ct Tryz.prog 75 #[.pointer (some ⟨b,0,none⟩),.int .u64 now,.int .i64 much,.pointer (some ⟨bt,0,none⟩)] (BufP b wb x::WorldP wb w::ToP bt t::L) (fun _:Unit=>.tuple #[]) (fun _:Unit=>BufP b wb (writeS ⟨x,w,t⟩ now much).x::WorldP wb (writeS ⟨x,w,t⟩ now much).w::ToP bt (writeS ⟨x,w,t⟩ now much).t::L):=by
 refine Ct.o4 Tryz.func75 ?_;intro E
 show Hd E 71 _ _ _ _
 simp only [InK] at hm;refine Hd.bufK .here 1 (by omega) ?_;refine Hd.chB (b:=b) (o:=2 + 1 * 8 + 0) pkk (fun hcl=>?_)
 have hol:(offA (x.s 1) much).length≤4096:=by
  unfold offA Bc.cpy
  split
  ·simp
  ·rw [List.length_take];omega
 have hS:¬ (offA (x.s 1) much).length=0→writeS ⟨x,w,t⟩ now much=wrP ⟨x,w,t⟩ now (writeR w x.fd (offA (x.s 1) much)):=fun h=>if_neg h
 have hle:=writeR_le w x.fd (offA (x.s 1) much)
 obtain ⟨⟨⟨n,ec⟩,w'⟩,hrr⟩:∃ rr,writeR w x.fd (offA (x.s 1) much)=rr:=⟨_,rfl⟩
 rw [hrr] at hS hle;dsimp only at hle
 obtain ⟨bs,hbs⟩:∃ bs,offA (x.s 1) much=bs:=⟨_,rfl⟩
 rw [hbs] at hS hle hol hrr;refine sr fun _ K1=>?_
 refine yv y_mv<|yv y_np<|yv (y_f 2 119 Tryz.underlying121 sz119)<|yv (y_idxA Tryz.underlying119 sz118 rfl rfl (by decide)) ?_;refine yv y_as<|fk [(0,_),(1,_),(2,_),(3,_),(8,_)] K1 ?_;refine sr fun _ K2=>?_
 refine yv y_mv<|yv y_np<|yv (y_f 0 116 Tryz.underlying118 sz116)<|yv y_mv<|yv (y_min rfl rfl) ?_;refine callE rfl fk161 (chCopy _ b (2 + 1 * 8 + 0) (x.s 1).c 0 (min much 4096) (by simp [InK]) (by simp only [InK];omega)) sq ?_;rintro ⟨ad,c⟩;dsimp only;rw [show Bc.cpy (x.s 1).c 0 (min much 4096)=bs from hbs];refine yv y_as<|fk [(0,_),(1,_),(3,_),(8,_),(9,_)] K2 ?_;refine Hd.seq fun _ K3=>?_
 refine sr fun _ K4=>?_
 refine yv y_mv<|yv (y_len Tryz.underlying30 rfl) ?_;refine yv (y_eql rfl rfl) ?_;refine fk [(0,_),(1,_),(3,_),(8,_),(9,_),(24,_)] K4 ?_;refine qz ?_ ?_<;>intro hc0<;>try simp only [hyZ] at hc0
 ·refine Hd.ret ?_
  refine Hd.thenRet ?_;rw [show writeS ⟨x,w,t⟩ now much=⟨x,w,t⟩ from if_pos (by show (offA (x.s 1) much).length=0;rw [hbs];omega)];exact Hd.ret0 rfl () rfl (fun q s=>buf_backK (k:=1) (by omega) q (Ent.sep enn q s))
 refine qv K3<|Hd.seq fun _ K5=>?_
 refine Hd.ownCap pkk (fun hmc=>?_);refine Hd.drawsH ([BfH b wb x.fd]) (fun _=>true) mixed ?_;simp only [List.length,Nat.zero_add,Nat.reduceAdd];refine tH 0 rfl y_mv<|tH 1 rfl y_np<|tH 2 rfl (y_f 0 37 Tryz.underlying121 sz37)<|tH 3 rfl (y_load1 ag37 rfl (Rd.seg1 pkk (by rfl))) ?_;refine tH 4 rfl y_mv<|tH 5 rfl y_np<|tH 6 rfl (y_f 1 3 Tryz.underlying121 sz3)<|tH 7 rfl (y_load1 ag3 rfl (Rd.seg1 pkk (by rfl))) ?_;refine tH 8 rfl y_mv<|qo 9 ?_;refine callE rfl fk44 (wwrite_ct _ wb w x.fd ad bs.length c bs rfl ?hA (by omega) hmc) sq ?_
 case hA=>exact RdS.own (ad:=ad) pkk
 intro _;rw [hrr];dsimp only;refine qk<|tH 10 rfl y_mv<|tH 11 rfl y_ex<|tH 12 rfl y_ex<|tH 13 rfl y_as<|tH 14 rfl y_as<|endH kq ?_;refine sk [(0,_),(1,_),(3,_),(8,_),(10,_),(11,_)] K5 ?_;refine sr fun _ K6=>?_
 refine yv y_mv<|fk [(0,_),(1,_),(3,_),(8,_),(10,_),(11,_),(38,_)] K6 ?_;refine Hd.block<|sr fun _ K7=>?_
 refine yv (y_eql rfl rfl) ?_;refine yv y_as<|fk [(0,_),(1,_),(3,_),(8,_),(10,_),(11,_),(38,_),(43,_)] K7 ?_;refine qz ?_ ?_<;>intro hc1<;>try simp only [hyZ] at hc1
 ·refine sr fun _ K8=>?_
  refine yv y_mv<|yv y_np<|yv (y_f 0 116 Tryz.underlying118 sz116)<|yv y_mv<|callE rfl fk162 (chDrain _ b (2 + 1 * 8 + 0) (x.s 1).c n (by omega)) sq ?_;intro _;refine fk [(0,_),(1,_),(3,_),(8,_),(10,_)] K8 ?_;refine sr fun _ K9=>?_
  refine yv y_mv<|yv y_mv<|yv y_np<|yv (y_f 5 3 Tryz.underlying58 sz3)<|Hd.store1 sz3 rfl rfl rfl pkk (by simp;done) ?_
  try simp only [hyS]
  refine fk [(0,_),(1,_),(3,_),(8,_)] K9 ?_;refine Hd.seq fun _ K10=>?_
  refine Hd.drawsH ([segK b (2 + 1 * 8) 2 (encS (x.s 1))]) (fun j=>!(([1000]:List Nat).contains j)) mixed ?_;simp only [List.length,Nat.zero_add,Nat.reduceAdd];refine tH 0 rfl y_mv<|tH 1 rfl y_mv<|tH 2 rfl y_np<|tH 3 rfl (y_f 0 116 Tryz.underlying118 sz116)<|tH 5 rfl y_mv<|tH 6 rfl y_np<|tH 7 rfl (y_f 4 3 Tryz.underlying118 sz3)<|tH 8 rfl (y_load1 ag3 rfl (Rd.segK1 pkk (by decide) (by rfl))) ?_;refine qo 4 ?_;refine callE rfl fk78 (chLen _ b (2 + 1 * 8 + 0) ((x.s 1).c.drop n.toNat)) sq ?_;intro _;refine qk<|tH 9 rfl (y_leq rfl rfl) ?_;refine tH 10 rfl y_np<|tH 11 rfl (y_f 1 4 Tryz.underlying58 sz4)<|qo 12 ?_;refine Hd.store1 sz4 rfl rfl rfl pkk (by simp;done) ?_
  try simp only [hyS]
  refine qk<|endH kq ?_;refine sk [(0,_),(1,_)] K10 ?_;refine Hd.region<|yv y_mv<|yv y_mv<|callE rfl fk66 (set_ct _ b 1 (by omega) { x.s 1 with c:=(x.s 1).c.drop n.toNat } now hn (ht 1 (by omega)).1) sq ?_;intro _;refine Hd.nil<|slots [] sbq ?_;refine Hd.inB ?_
  have hne:¬ bs.length=0:=by omega
  rw [show writeS ⟨x,w,t⟩ now much=⟨x.up 1 (putF now n),w',{ t with o:=n,w:=decide (((((x.s 1).c.drop n.toNat).length:Nat):Int)≤(x.s 1).low) }⟩ from (hS hne).trans (if_pos hc1)];refine Hd.end0 rfl () rfl (fun q s=>buf_putK (k:=1) (x:=x) (s':=putF now n (x.s 1)) (by omega) q ?_);rw [bfL_up (by omega)];exact Ent.sep (.pick pkk (.pick pkk (.pick pkk (.pick pkk (.pick pkk (.pick pkk (.pick pkk (.eq pkk (pt_eq (by rfl)) enn)))))))) q s
 refine sr fun _ K11=>?_
 refine yv (y_eql rfl rfl) ?_;refine yv y_as<|fk [(3,_),(8,_),(11,_),(69,_)] K11 ?_;refine qz ?_ ?_<;>intro hc2<;>try simp only [hyZ] at hc2
 ·refine Hd.skip ?_
  refine Hd.inB ?_
  have hne:¬ bs.length=0:=by omega
  rw [show writeS ⟨x,w,t⟩ now much=⟨x,w',t⟩ from (hS hne).trans ((if_neg hc1).trans (if_pos hc2))];exact Hd.end0 rfl () rfl (fun q s=>buf_backK (k:=1) (by omega) q (Ent.sep enn q s))
 refine Hd.region<|yv y_mv<|yv y_mv<|yv y_mv<|callE rfl fk160 (stop_ct _ b 1 bt (x.s 1) t 34 ec) sq ?_;intro _;refine Hd.nil<|slots [] sbq ?_;refine Hd.inB ?_
 have hne:¬ bs.length=0:=by omega
 rw [show writeS ⟨x,w,t⟩ now much=⟨x.up 1 fun s=>stopF s,w',stopT t 34 ec⟩ from (hS hne).trans ((if_neg hc1).trans (if_neg hc2))];refine Hd.end0 rfl () rfl (fun q s=>buf_putK (k:=1) (x:=x) (s':=stopF (x.s 1)) (by omega) q ?_);rw [bfL_up (by omega)];exact Ent.sep enn q s
theorem tm_stop {x:BfA} (h:TmOk x) (k:Nat):TmOk (x.up k fun s=>stopF s):=h.up fun s ha _=>⟨ha,by show InK .u64 18446744073709551615;simp [InK]⟩
theorem tm_set {x:BfA} (h:TmOk x) (k:Nat) {now:Int} (hn:InK .u64 now) (f:SdA→List UInt8):TmOk (x.up k fun s=>setA k now { s with c:=f s }):=h.up fun s ha _=>⟨ha,atV_in (s:={ s with c:=f s }) hn ha⟩
theorem tm_read {σ:StA} (h:TmOk σ.x) {now:Int} (hn:InK .u64 now) (most:Int):TmOk (readS σ now most).x:=by
 unfold readS rdP
 repeat' split
 all_goals first
  | exact h
  | exact tm_stop h 0
  | exact tm_set h 0 hn (fun s=>addA s.c _)
def stepM (x:BfA) (flags:Int):Int:=bits .and .i64 flags (wantsA x)
def stepR (x:BfA) (w:WA) (now flags most:Int):StA:=if bits .and .i64 (stepM x flags) 2≠0 then readS ⟨x,w,noT⟩ now most else ⟨x,w,noT⟩
def stepS (x:BfA) (w:WA) (now flags most much:Int):StA:=if bits .and .i64 (stepM x flags) 4≠0 then writeS (stepR x w now flags most) now much else stepR x w now flags most
theorem tm_stepR {x:BfA} (h:TmOk x) {now:Int} (hn:InK .u64 now) (w:WA) (flags most:Int):TmOk (stepR x w now flags most).x:=by
 unfold stepR
 split
 ·exact tm_read h hn most
 ·exact h
theorem step_ct (L:List SP) (b wb:Nat) (x:BfA) (w:WA) (ht:TmOk x) (hh:InK .i64 (x.s 0).high) (now flags most much:Int) (hn:InK .u64 now) (hm:most≤9223372036854775807) (hmu:InK .i64 much):Ct Tryz.prog 24 #[.pointer (some ⟨b,0,none⟩),.int .u64 now,.int .i64 flags,.int .i64 most,.int .i64 much] (BufP b wb x::WorldP wb w::L) (fun _:Unit=>.agg (encT (stepS x w now flags most much).t).toArray) (fun _:Unit=>BufP b wb (stepS x w now flags most much).x::WorldP wb (stepS x w now flags most much).w::L):=by
 refine Ct.o5 Tryz.func24 ?_;intro E
 show Hd E 32 _ _ _ _
 refine sr fun _ K1=>?_
 refine Hd.alloc zr58 (fun b10=>?_);refine fk [(0,_),(1,_),(2,_),(3,_),(4,_),(10,_)] K1 ?_;refine sr fun _ K2=>?_
 refine Hd.alloc zr58 (fun b11=>?_);refine fk [(0,_),(1,_),(2,_),(3,_),(4,_),(10,_),(11,_)] K2 ?_;refine sr fun _ K3=>?_
 refine yv y_mv<|yv y_mv<|callE rfl fk30 (wants_ct _ b wb x) sq ?_;intro _;refine yv (y_to (v':=.int .i64 (stepM x flags)) (y_and rfl rfl) (by rfl)) ?_;refine yv y_as<|fk [(0,_),(1,_),(3,_),(4,_),(10,_),(11,_),(12,_)] K3 ?_;refine Hd.heap (ToP b11 noT::pt b10 (encT noT) 58::BufP b wb x::WorldP wb w::L) (fun q s=>Ent.sep (.eq pkk (pt_eq (by rfl)) (.eq pkk (pt_eq (by rfl)) enn)) q s) ?_;refine Hd.cutK (ι:=Unit) [(0,_),(1,_),(4,_),(10,_),(11,_),(12,_)] (fun _=>[]) (fun _=>BufP b wb (stepR x w now flags most).x::WorldP wb (stepR x w now flags most).w::ToP b11 (stepR x w now flags most).t::pt b10 (encT noT) 58::L) ?_ ?_ ⟨rfl,rfl,rfl,rfl,rfl,rfl,trivial⟩
 ·refine sr fun _ K4=>?_
  refine yv y_mv<|yv (y_and rfl rfl) ?_;refine yv (y_neq rfl rfl) ?_;refine fk [(0,_),(1,_),(3,_),(4,_),(10,_),(11,_),(12,_),(19,_)] K4 ?_;refine qz ?_ ?_<;>intro hc0<;>try simp only [hyZ] at hc0
  ·refine Hd.region ?_
   refine yv y_mv<|yv y_mv<|yv y_mv<|callE rfl fk74 (read_ct _ b wb b11 x w noT ht now most hn hm hh) sq ?_;intro _;refine Hd.nil<|slots [(0,_),(1,_),(4,_),(10,_),(11,_),(12,_)] sbq ?_;refine thenN ?_;rw [show stepR x w now flags most=readS ⟨x,w,noT⟩ now most from if_pos hc0];exact Hd.meet () sbq sq
  refine Hd.skip<|thenN ?_;rw [show stepR x w now flags most=⟨x,w,noT⟩ from if_neg (fun h=>h hc0)];exact Hd.meet () sbq sq
 intro _;refine Hd.cutK (ι:=Unit) [(10,_),(11,_)] (fun _=>[]) (fun _=>BufP b wb (stepS x w now flags most much).x::WorldP wb (stepS x w now flags most much).w::ToP b11 (stepS x w now flags most much).t::pt b10 (encT noT) 58::L) ?_ ?_ ⟨rfl,rfl,trivial⟩
 ·refine sr fun _ K5=>?_
  refine yv y_mv<|yv (y_and rfl rfl) ?_;refine yv (y_neq rfl rfl) ?_;refine fk [(0,_),(1,_),(4,_),(10,_),(11,_),(26,_)] K5 ?_;refine qz ?_ ?_<;>intro hc1<;>try simp only [hyZ] at hc1
  ·refine Hd.region ?_
   refine yv y_mv<|yv y_mv<|yv y_mv<|callE rfl fk75 (write_ct _ b wb b11 (stepR x w now flags most).x (stepR x w now flags most).w (stepR x w now flags most).t (tm_stepR ht hn w flags most) now much hn hmu) sq ?_;intro _;refine Hd.nil<|slots [(10,_),(11,_)] sbq ?_;refine thenN ?_;rw [show stepS x w now flags most much=writeS (stepR x w now flags most) now much from if_pos hc1];exact Hd.meet () sbq sq
  refine Hd.skip<|thenN ?_;rw [show stepS x w now flags most much=stepR x w now flags most from if_neg (fun h=>h hc1)];exact Hd.meet () sbq sq
 intro _;refine sr fun _ K6=>?_
 refine yv (y_loadn (us:=encT (stepS x w now flags most much).t) ag58 rfl (Rd.pt pkk (fun j v e=>by rw [Nat.zero_add];exact e)) (by exact sz58)) ?_;refine Hd.storeA (us:=encT (stepS x w now flags most much).t) sz58 rfl rfl rfl (by simp [Value.oneCell']) pkk (by exact rfl) ?_;refine fk [(10,_)] K6 ?_;refine Hd.ret ?_;exact Hd.retC rfl () ag58 rfl (Rd.pt (us:=encT (stepS x w now flags most much).t) pkk (fun j v e=>by rw [Nat.zero_add];exact e)) (by exact sz58) rfl sq
def SOk (s:SdA):Prop:=(InK .u64 s.after∧InK .u64 s.at_)∧(0≤s.low∧s.low≤1048576)∧0≤s.high∧s.high≤1048576
def BOk (x:BfA):Prop:=∀ k,k < 2→SOk (x.s k)
theorem BOk.tm {x:BfA} (h:BOk x):TmOk x:=fun k hk=>(h k hk).1
theorem BOk.hi {x:BfA} (h:BOk x):InK .i64 (x.s 0).high:=by
 have:=(h 0 (by omega)).2.2
 simp only [InK];omega
theorem bok_up {x:BfA} (h:BOk x) {k:Nat} {f:SdA→SdA} (hf:∀ s,SOk s→SOk (f s)):BOk (x.up k f):=fun j hj=>by
 by_cases e:j=k
 ·subst e;rw [bup_at];exact hf _ (h j hj)
 ·rw [bup_ne _ _ e];exact h j hj
theorem bok_eff {f:Nat→SdA→SdA} {x:BfA} (h:BOk x) (hf:∀ k s,SOk s→SOk (f k s)) (ks:List Nat):BOk (effB f x ks):=fun j hj=>by
 show SOk (if j∈ks then f j (x.s j) else x.s j)
 split
 ·exact hf _ _ (h j hj)
 ·exact h j hj
theorem sok_nv {s:SdA} (h:SOk s) (on en:Bool):SOk { s with on:=on,ended:=en,at_:=NV }:=⟨⟨h.1.1,by show InK .u64 18446744073709551615;simp [InK]⟩,h.2⟩
theorem sok_set {s:SdA} (h:SOk s) (k:Nat) {now:Int} (hn:InK .u64 now) (on:Bool) (c:List UInt8):SOk (setA k now { s with on:=on,c:=c }):=⟨⟨h.1.1,atV_in (s:={ s with on:=on,c:=c }) hn h.1.1⟩,h.2⟩
theorem bok_new (fd:Int):BOk (newB fd):=fun k hk=>⟨tm_new fd k hk,⟨Int.le_refl 0,by show (0:Int)≤_;omega⟩,Int.le_refl 0,by show (0:Int)≤_;omega⟩
theorem bok_en {x:BfA} (h:BOk x) {now:Int} (hn:InK .u64 now) (sides:Int):BOk (enB x now sides):=by
 unfold enB
 split
 ·refine bok_eff h (fun k s hs=>?_) _
  show SOk (if s.on=true then s else setA k now { s with on:=true })
  split
  ·exact hs
  ·exact sok_set hs k hn true s.c
 ·exact h
theorem bok_dis {x:BfA} (h:BOk x) (sides:Int):BOk (disB x sides):=by
 unfold disB
 split
 ·exact bok_eff h (fun k s hs=>sok_nv hs false s.ended) _
 ·exact h
theorem bok_mrk {x:BfA} (h:BOk x) (side low high:Int):BOk (mrkB x side low high):=by
 unfold mrkB
 split
 ·exact h
 ·rename_i hb
  refine bok_eff (f:=mrkF low high) h (fun k s hs=>⟨hs.1,?_⟩) _;unfold mrkBad at hb;simp only [Bool.or_eq_true,Bool.and_eq_true,decide_eq_true_eq] at hb
  show (0≤low∧low≤1048576)∧0≤high∧high≤1048576
  omega
theorem bok_read {σ:StA} (h:BOk σ.x) {now:Int} (hn:InK .u64 now) (most:Int):BOk (readS σ now most).x:=by
 unfold readS rdP
 repeat' split
 all_goals first
  | exact h
  | exact bok_up h fun s hs=>sok_nv hs false true
  | exact bok_up h fun s hs=>sok_set hs 0 hn s.on _
theorem bok_write {σ:StA} (h:BOk σ.x) {now:Int} (hn:InK .u64 now) (much:Int):BOk (writeS σ now much).x:=by
 unfold writeS wrP
 repeat' split
 all_goals first
  | exact h
  | exact bok_up h fun s hs=>sok_nv hs false true
  | exact bok_up h fun s hs=>sok_set hs 1 hn s.on _
theorem bok_stepR {x:BfA} (h:BOk x) {now:Int} (hn:InK .u64 now) (w:WA) (flags most:Int):BOk (stepR x w now flags most).x:=by
 unfold stepR
 split
 ·exact bok_read h hn most
 ·exact h
theorem bok_step {x:BfA} (h:BOk x) {now:Int} (hn:InK .u64 now) (w:WA) (flags most much:Int):BOk (stepS x w now flags most much).x:=by
 unfold stepS
 split
 ·exact bok_write (bok_stepR h hn w flags most) hn much
 ·exact bok_stepR h hn w flags most
theorem bok_put {x:BfA} (h:BOk x) {now:Int} (hn:InK .u64 now) (bs:List UInt8):BOk (wrB x now bs):=by
 unfold wrB
 repeat' split
 ·exact h
 ·exact bok_up h fun s hs=>sok_set hs 1 hn s.on _
 ·exact bok_up h fun s hs=>hs
theorem bok_get {x:BfA} (h:BOk x) (n:Int):BOk (readB x n):=by
 unfold readB
 split
 ·exact h
 ·exact bok_up h fun s hs=>hs
theorem bok_tms {x:BfA} (h:BOk x) {now r w:Int} (hn:InK .u64 now) (hr:InK .u64 r) (hw:InK .u64 w):BOk (tmB x now r w):=by
 unfold tmB;exact bok_up (k:=1) (f:=fun s=>setA 1 now { s with after:=w }) (bok_up (k:=0) (f:=fun s=>setA 0 now { s with after:=r }) h fun s hs=>⟨⟨hr,atV_in (s:={ s with after:=r }) hn hr⟩,hs.2⟩) fun s hs=>⟨⟨hw,atV_in (s:={ s with after:=w }) hn hw⟩,hs.2⟩
theorem bok_late {x:BfA} (h:BOk x) (now:Int) (ks:List Nat):BOk (effB (ltF now) x ks):=by
 refine bok_eff h (fun k s hs=>?_) _
 show SOk (if lateK now s=true then offF k s else s)
 split
 ·exact sok_nv hs false s.ended
 ·exact hs
abbrev abc:List UInt8:=[97,98,99]
abbrev pairA (n:Nat):WA:=mkW newA 2 (halfW n 2)
abbrev alX1:BfA:=enB (newB 0) 0 2
abbrev alX2:BfA:=mrkB alX1 2 2 4
abbrev alW:WA:=(writeR (pairA 8) 1 abc).2
abbrev alS:StA:=stepS alX2 alW 0 2 99 99
theorem al_op:(readyR (pairA 8) 0).op=true:=by decide +kernel
theorem al_3:wantsA alX2=2:=by decide +kernel
theorem al_4:encT alS.t=[.bool true,.bool false,.int .i64 0,.int .i64 0,.int .i64 3,.int .i64 0]:=by rfl
theorem al_5:wantsA alS.x=2:=by decide +kernel
theorem al_k1:BOk alX1:=bok_en (bok_new 0) (by simp [InK]) 2
theorem al_k2:BOk alX2:=bok_mrk al_k1 2 2 4
theorem alive_ct (L:List SP):Ct Tryz.prog 5 #[] (L) (fun _:Unit=>.bool true) (fun _:Unit=>L):=by
 refine Ct.o0 Tryz.func5 ?_;intro E
 show Hd E 52 _ _ _ _
 refine sr fun _ K1=>?_
 refine yv y_as<|fk [] K1 ?_;refine sr fun _ K2=>?_
 refine callE rfl fk42 (wnew_ct _) sq ?_;intro wb;refine yv y_as<|fk [(1,_)] K2 ?_;refine sr fun _ K3=>?_
 refine yv y_mv<|callE rfl fk43 (pair_ct _ wb newA 8 (by decide) (by decide)) sq ?_;intro _;refine fk [(1,_)] K3 ?_;refine sr fun _ K4=>?_
 refine yv y_mv<|callE rfl fk9 (bnew_ct _ wb (pairA 8) 0 al_op) sq ?_;intro b;refine yv y_mv<|yv y_ex<|yv y_ex<|yv y_as<|yv y_as<|fk [(1,_),(2,_),(3,_)] K4 ?_;refine sr fun _ K5=>?_
 refine yv y_mv<|callE rfl fk12 (enable_ct _ b wb (newB 0) (tm_new 0) 0 2 (by simp [InK])) sq ?_;intro _;refine yv y_as<|fk [(1,_),(2,_),(3,_),(4,_)] K5 ?_;refine sr fun _ K6=>?_
 refine yv y_mv<|callE rfl fk16 (marks_ct _ b wb alX1 2 2 4) sq ?_;intro _;refine yv y_as<|fk [(1,_),(2,_),(3,_),(4,_),(5,_)] K6 ?_;refine sr fun _ K7=>?_
 refine yv y_mv<|Hd.bslice (vs:=[(0,_),(1,_),(2,_)]) rfl (by exact bs5_21 ..) (fun b21=>?_);refine Hd.convSS (e:=5) kq rfl pkk rfl (by decide) ?_;refine callE rfl fk44 (wwrite_ct _ wb (pairA 8) 1 (some ⟨b21,0,none⟩) 3 3 abc rfl ?hD (by decide) (by decide)) sq ?_
 case hD=>exact RdS.own (m:=3) (us:=[.int .u8 97,.int .u8 98,.int .u8 99]) pkk
 intro _;refine fk [(2,_),(3,_),(4,_),(5,_)] K7 ?_;refine sr fun _ K8=>?_
 refine yv y_mv<|callE rfl fk30 (wants_ct _ b wb alX2) sq ?_;intro _;rw [al_3];refine yv y_as<|fk [(2,_),(3,_),(4,_),(5,_),(6,_)] K8 ?_;refine sr fun _ K9=>?_
 refine yv y_mv<|callE rfl fk24 (step_ct _ b wb alX2 alW al_k2.tm al_k2.hi 0 2 99 99 (by simp [InK]) (by decide) (by simp [InK])) sq ?_;intro _;rw [al_4];refine Hd.alloc zr58 (fun b7=>?_);refine Hd.storeA (us:=[.bool true,.bool false,.int .i64 0,.int .i64 0,.int .i64 3,.int .i64 0]) sz58 rfl rfl rfl (by simp [Value.oneCell']) pkk (by exact rfl) ?_;refine fk [(2,_),(3,_),(4,_),(5,_),(6,_),(7,_)] K9 ?_;refine sr fun _ K10=>?_
 refine yv y_mv<|yv (y_eqlT rfl rfl) ?_;refine yv (y_to (v':=.bool true) y_mv (by rfl)) ?_;refine y2 y_mv<|y2 (y_eqlT rfl rfl) ?_;refine yv (y_pickT rfl rfl) ?_;refine yv y_mv<|y2 y_mv<|y2 (y_eqlT rfl rfl) ?_;refine yv (y_pickT rfl rfl) ?_;refine yv y_mv<|y2 y_mv<|y2 (y_eqlT rfl rfl) ?_;refine yv (y_pickT rfl rfl) ?_;refine yv y_mv<|y2 (y_loadn (us:=[.bool true,.bool false,.int .i64 0,.int .i64 0,.int .i64 3,.int .i64 0]) ag58 rfl (Rd.pt pkk (fun j v e=>by rw [Nat.zero_add];exact e)) (by exact sz58)) ?_;refine y2 (y_build (vs:=[(0,_),(4,_)]) rfl (by exact bd5_44 ..)) ?_;refine y2 (y_eql_agg rfl rfl eqt58 rfl ⟨rfl,rfl⟩) ?_;refine yv (y_pickT rfl rfl) ?_;refine yv y_mv<|y2 y_mv<|Hd.unguard rfl rfl ?_;refine callE rfl fk30 (wants_ct _ b wb alS.x) sq ?_;intro _;rw [al_5];refine y2 (y_eqlT rfl rfl) ?_
 refine yv (y_pickT rfl rfl) ?_;refine yv y_as<|fk [(0,_)] K10 ?_;refine Hd.ret ?_;exact Hd.ret1 rfl () (by rfl) sq
end Bu
end Go.Proofs.YtmpemhbfgbochaaGreatDoor
