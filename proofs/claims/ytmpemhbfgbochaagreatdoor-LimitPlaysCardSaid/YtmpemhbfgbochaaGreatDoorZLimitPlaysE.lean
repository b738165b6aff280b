/-
  Worlds: what all calls keep.
-/
import Derived.Test.YtmpemhbfgbochaaGreatDoorZLimitPlaysD
set_option linter.unusedSimpArgs false
set_option linter.unusedVariables false
set_option linter.unnecessarySimpa false
set_option maxRecDepth 8000
set_option maxHeartbeats 2000000
open Go.RX.Hd (yv y2 n1 fk sk sr tH callE heldK qo qk qn qt qz qv endH thenN slots)
namespace Go.Proofs.YtmpemhbfgbochaaGreatDoor
open Go.RX Fx
namespace Wo
theorem read_stp {w:WA} (h:WOk w) (fd n:Int):Stp 1 w (readR w fd n).2:=by
 unfold readR
 split
 ·exact Stp.same w
 ·split
  ·exact Stp.same w
  ·rename_i m k hk _ x hx
   split
   ·exact Stp.same w
   ·split
    ·exact Stp.same w
    ·split
     ·exact Stp.same w
     ·split
      ·rename_i hr _ _ _
       have hwf:=h.wf x (List.mem_of_getElem? hx)
       exact ((smW_take hwf (h.at_lt hk).2.2.1 (by simpa using hr)).sb hwf).stp hx fun j _=>rs_take x k n.toNat j
      ·split
       ·exact Stp.same w
       ·exact Stp.same w
theorem write_stp {w:WA} (h:WOk w) (fd:Int) (bs:List UInt8):Stp 1 w (writeR w fd bs).2:=by
 unfold writeR
 split
 ·exact Stp.same w
 ·split
  ·exact Stp.same w
  ·rename_i m k hk _ x hx
   split
   ·exact Stp.same w
   ·split
    ·exact Stp.same w
    ·split
     ·exact Stp.same w
     ·split
      ·exact Stp.same w
      ·split
       ·exact Stp.same w
       ·rename_i hr _ _ _ _
        have hwf:=h.wf x (List.mem_of_getElem? hx)
        have hk2:=(h.at_lt hk).2.2.1
        exact ((smW_put hwf hk2 bs (by rw [←hwf.wr k hk2];simpa using hr)).sb hwf).stp hx fun j _=>rs_put x k bs j
theorem put_stp {w:WA} (h:WOk w) (n:Int) (bs:List UInt8):Stp 1 w (putR w n bs).2:=by
 unfold putR
 split
 ·exact Stp.same w
 ·rename_i x hx
  obtain ⟨_,hx,ho⟩:=outW_some hx
  have hwf:=h.wf x (List.mem_of_getElem? hx)
  split
  ·exact Stp.same w
  ·split
   ·exact Stp.same w
   ·exact ((smW_put hwf (k:=1) (by omega) bs (hwf.ou ho).1).sb hwf).stp hx fun j _=>rs_put x 1 bs j
theorem tak_stp {w:WA} (h:WOk w) (n m:Int):Stp 1 w (takR w n m).2:=by
 unfold takR
 split
 ·exact Stp.same w
 ·rename_i x hx
  obtain ⟨_,hx,ho⟩:=outW_some hx
  have hwf:=h.wf x (List.mem_of_getElem? hx)
  split
  ·exact Stp.same w
  ·split
   ·exact Stp.same w
   ·exact ((smW_take hwf (k:=1) (by omega) (hwf.ou ho).2).sb hwf).stp hx fun j _=>rs_take x 1 m.toNat j
theorem pshut_stp {w:WA} (h:WOk w) (n:Int):Stp 1 w (pshutR w n).2:=by
 unfold pshutR
 split
 ·exact Stp.same w
 ·rename_i x hx
  obtain ⟨_,hx,ho⟩:=outW_some hx
  have hwf:=h.wf x (List.mem_of_getElem? hx)
  exact ((smW_shut hwf).sb hwf).stp hx fun j _=>rs_shut x 1 j
theorem pclose_stp {w:WA} (h:WOk w) (n:Int):Stp 1 w (pcloseR w n).2:=by
 unfold pcloseR
 split
 ·exact Stp.same w
 ·rename_i x hx
  obtain ⟨_,hx,ho⟩:=outW_some hx
  have hwf:=h.wf x (List.mem_of_getElem? hx)
  exact (sbW_close hwf (by omega)).stp hx fun j _=>rs_close x 1 j
theorem reset_stp {w:WA} (h:WOk w) (n:Int):Stp 1 w (resetR w n).2:=by
 unfold resetR
 split
 ·exact Stp.same w
 ·rename_i x hx
  obtain ⟨_,hx,ho⟩:=outW_some hx
  have hwf:=h.wf x (List.mem_of_getElem? hx)
  dsimp only
  split
  ·exact Stp.same w
  ·exact ((smW_reset x).sb hwf).stp hx fun j _=>rs_reset x j
theorem shut_stp {w:WA} (h:WOk w) (fd:Int):Stp 1 w (shutR w fd).2:=by
 unfold shutR
 split
 ·exact Stp.same w
 ·split
  ·exact Stp.same w
  ·rename_i m k hk _ x hx
   have hwf:=h.wf x (List.mem_of_getElem? hx)
   split
   ·exact Stp.same w
   ·exact ((smW_shut hwf).sb hwf).stp hx fun j _=>rs_shut x k j
theorem sbW_closeP {w:WA} (h:WOk w) {m k:Nat} {x:WireA} {fd:Int} (hn:w.at fd=some (m,k)) (hx:w.ws[m]?=some x):SbW x ((closeW x k).wts []):=by
 have hwf:=h.wf x (List.mem_of_getElem? hx)
 have hk:=(h.at_lt hn).2.2.1
 exact (sbW_close hwf hk).trans (sbW_wts (close_wf hwf hk) (List.nil_sublist _))
theorem closeAll_ok:∀ (l:List Nat) (w:WA),WOk w→l.Nodup→(∀ n∈l,∃ y,w.ws[n]?=some y∧(y.e 0).what=0)→(∀ n∈l,n ∉ w.ws.flatMap WireA.wt) →
  WOk { w with ws:=closeAll w.ws l }∧WA.at { w with ws:=closeAll w.ws l }=w.at∧Stp l.length w { w with ws:=closeAll w.ws l }
 | [],w,h,_,_,_=>⟨h,rfl,Stp.refl w⟩
 | n::t,w,h,hd,h0,hw=>by
  obtain ⟨y,hy,hy0⟩:=h0 n List.mem_cons_self
  have hwf:=h.wf y (List.mem_of_getElem? hy)
  have hs:=sbW_close hwf (k:=0) (by omega)
  have hfm:(w.setW n (closeW y 0)).ws.flatMap WireA.wt=w.ws.flatMap WireA.wt:=flatMap_set hy rfl
  have hni:n ∉ (w.setW n (closeW y 0)).ws.flatMap WireA.wt:=by rw [hfm];exact hw n List.mem_cons_self
  have hok:=h.setS hy hs (fun e=>absurd e hni)
  have hat:=h.setS_at hy hs (fun e=>absurd e hni) (fun k hk e=>by
   rw [(close_e y (by omega) hk).1]
   split
   ·rename_i e0;subst e0;rw [hy0] at e;cases e
   ·exact e)
  have ih:=closeAll_ok t (w.setW n (closeW y 0)) hok (List.nodup_cons.1 hd).2 (fun a ha=>by
   obtain ⟨z,hz,hz0⟩:=h0 a (List.mem_cons_of_mem _ ha)
   have:a≠n:=fun e=>(List.nodup_cons.1 hd).1 (e ▸ ha)
   exact ⟨z,by rw [setW_ne this];exact hz,hz0⟩) (fun a ha=>by rw [hfm];exact hw a (List.mem_cons_of_mem _ ha))
  have e:closeAll w.ws (n::t)=closeAll (w.setW n (closeW y 0)).ws t:=by
   show closeAll (match w.ws[n]? with | some y=>w.ws.set n (closeW y 0) | none=>w.ws) t=_
   rw [hy];rfl
  have e2:({ w with ws:=closeAll w.ws (n::t) }:WA)={ w.setW n (closeW y 0) with ws:=closeAll (w.setW n (closeW y 0)).ws t }:=by rw [e];rfl
  rw [e2];refine ⟨ih.1,ih.2.1.trans hat,?_⟩;rw [List.length_cons,Nat.add_comm];exact (hs.stp hy fun j _=>rs_close y 0 j).trans ih.2.2
theorem wt_le {w:WA} (h:WOk w) {m:Nat} {x:WireA} (hx:w.ws[m]?=some x):x.wt.length≤64:=by
 have:=(h.wf x (List.mem_of_getElem? hx)).bl
 omega
theorem wt_gone {w:WA} (h:WOk w) {m:Nat} {x x':WireA} (hx:w.ws[m]?=some x) (hx':x'.wt=[]):∀ n∈x.wt,n ∉ (w.setW m x').ws.flatMap WireA.wt:=by
 have hp:=flatMap_set_app (f:=WireA.wt) (bs:=x.wt) (l:=(w.setW m x').ws) (n:=m) (x:=x') (x':=x) (setW_self hx) (by rw [hx'];rfl)
 have e:(w.setW m x').ws.set m x=w.ws:=by
  show (w.ws.set m x').set m x=w.ws
  rw [List.set_set]
  obtain ⟨hl,e⟩:=List.getElem?_eq_some_iff.1 hx
  rw [←e,List.set_getElem_self]
 rw [e] at hp
 have hn:=hp.nodup_iff.1 h.wn
 intro n h1 h2;exact (List.nodup_append.1 hn).2.2 n h1 n h2 rfl
theorem sub_flatMap {α β:Type} {f:α→List β}:∀ {l:List α} {n:Nat} {x:α},l[n]?=some x→(f x).Sublist (l.flatMap f)
 | [],_,_,h=>by simp at h
 | a::l,0,x,h=>by
  obtain rfl:a=x:=by simpa using h
  exact List.sublist_append_left _ _
 | a::l,n + 1,x,h=>(sub_flatMap (f:=f) (l:=l) (n:=n) (by simpa using h)).trans (List.sublist_append_right _ _)
theorem closeF_ok {w:WA} (h:WOk w) (fd:Int):WOk (closeF w fd).2∧(closeF w fd).2.at=setT w.at fd none∧Stp 65 w (closeF w fd).2:=by
 unfold closeF
 split
 ·rename_i hn
  refine ⟨h,?_,Stp.same w⟩
  funext a
  show w.at a=if a=fd then none else w.at a
  split
  ·rename_i e;rw [e];exact hn
  ·rfl
 ·rename_i m k hn
  obtain ⟨_,_,hk,_,x0,hx0,hxw,_⟩:=h.at_lt hn
  split
  ·rename_i hx;rw [hx] at hx0;cases hx0
  ·rename_i x hx
   rw [hx] at hx0;obtain rfl:=Option.some.inj hx0
   have hwf:=h.wf x (List.mem_of_getElem? hx)
   have hc:=h.closeW hn hx
   have hs:=sbW_closeP h hn hx
   have hgo:=wt_gone h hx (x':=(closeW x k).wts []) rfl
   have hsub:∀ n∈x.wt,n∈w.ws.flatMap WireA.wt:=fun n hn=>List.mem_flatMap.2 ⟨x,List.mem_of_getElem? hx,hn⟩
   have h00:∀ n∈x.wt,∃ y,(w.setW m ((closeW x k).wts [])).ws[n]?=some y∧(y.e 0).what=0:=fun n hn=>by
    obtain ⟨y,hy,hy0⟩:=h.wm n (hsub n hn)
    by_cases e:n=m
    ·subst e
     rw [hx] at hy;obtain rfl:=Option.some.inj hy;refine ⟨_,setW_self hx,?_⟩
     show ((closeW x k).e 0).what=0
     rw [(close_e x hk (by omega)).1,if_neg]
     ·exact hy0
     ·intro e;subst e;rw [hy0] at hxw;cases hxw
    ·exact ⟨y,by rw [setW_ne e];exact hy,hy0⟩
   have hm0:m∈(w.setW m ((closeW x k).wts [])).ws.flatMap WireA.wt→(((closeW x k).wts []).e 0).what=0:=fun e=>by
    have:=(flatMap_set_sub (f:=WireA.wt) (x':=(closeW x k).wts []) hx (List.nil_sublist _)).subset e
    obtain ⟨y,hy,hy0⟩:=h.wm m this
    rw [hx] at hy;obtain rfl:=Option.some.inj hy
    show ((closeW x k).e 0).what=0
    rw [(close_e x hk (by omega)).1,if_neg]
    ·exact hy0
    ·intro e;subst e;rw [hy0] at hxw;cases hxw
   have hok:=h.setS hx hs hm0
   have hat:(w.setW m ((closeW x k).wts [])).at=setT w.at fd none:=by
    rw [←hc.2]
    have h2:(w.setW m (closeW x k)).ws[m]?=some (closeW x k):=setW_self hx
    have e:w.setW m ((closeW x k).wts [])=(w.setW m (closeW x k)).setW m ((closeW x k).wts []):=by
     show ({ w with ws:=_ }:WA)={ w with ws:=_ }
     congr 1
     show _=(w.ws.set m _).set m _
     rw [List.set_set]
    rw [e];refine hc.1.setS_at h2 (sbW_wts (close_wf hwf hk) (List.nil_sublist _)) (by rw [←e];exact hm0) fun _ _ e=>e
   have hx1:=(wt_le h hx)
   obtain ⟨a,b,c⟩:=closeAll_ok x.wt (w.setW m ((closeW x k).wts [])) hok ((sub_flatMap (f:=WireA.wt) hx).nodup h.wn) h00 hgo
   refine ⟨a,b.trans hat,?_⟩;exact ((hs.stp hx fun j _=>rs_close x k j).trans c).mono (by omega)
theorem conn_e (n k:Nat) (hk:k < 2):((connW n).e k).what=(if k=1 then 2 else 0)∧((connW n).e k).rd=true∧((connW n).e k).wr=true∧((connW n).e k).b=[]∧((connW n).e k).inn=0∧((connW n).e k).out=0:=by
 rcases (show k=0∨k=1 by omega) with rfl | rfl
 ·exact ⟨rfl,rfl,rfl,rfl,rfl,rfl⟩
 ·exact ⟨rfl,rfl,rfl,rfl,rfl,rfl⟩
theorem conn_new {n l:Nat} (h:n≤65536):NewW (connW n) l:=by
 have e:=conn_e n
 refine ⟨⟨fun k hk=>by rw [(e k hk).2.2.1,(e (1 - k) (by omega)).2.1],fun k hk=>by rw [(e k hk).2.2.2.1];exact Nat.zero_le _,fun k hk _=>(e k hk).2.2.2.1,h,fun k hk=>?_,⟨Int.le_refl _,by show (0:Int)≤64;decide,by show ((0:Nat):Int)≤0;decide⟩,fun _=>⟨rfl,rfl⟩⟩,fun k hk=>?_,rfl⟩
 ·rw [(e k hk).1];split<;>decide
 ·rw [(e k hk).1];split<;>decide
theorem opF_nil (w:WA):OpF w []:=⟨.nil,fun _ h=>(by cases h),Nat.zero_le _⟩
theorem open_nil (x:WireA):openW x [] 0=x:=by
 obtain ⟨e,c,r,bl,wt⟩:=x
 rfl
theorem WOk.addN {w:WA} (h:WOk w) {x:WireA} (hx:NewW x w.ws.length) (hl:w.ws.length < 1000):WOk (w.addW x)∧(w.addW x).at=w.at:=by
 have h1:=h.addW hx (opF_nil w) hl
 have h2:=addW_at hx (opF_nil w)
 rw [show ([]:List Nat).length=0 from rfl,open_nil] at h1 h2;exact ⟨h1,h2⟩
theorem rs_wait (x:WireA) (m:Nat):∀ j,RsE (x.e j) ((waitW x m).e j):=fun j=>by
 show RsE (x.e j) ((x.up 0 fun e=>{ e with inn:=IntKind.u64.wrap (e.inn + 1) }).e j)
 exact rs_up x 0 (f:=fun e=>{ e with inn:=IntKind.u64.wrap (e.inn + 1) }) (fun e=>⟨.inr rfl,.inl rfl⟩) j
theorem conn_ok {w:WA} (h:WOk w) (n m:Int):WOk (connR w n m).2∧(connR w n m).2.at=w.at∧Stp 1 w (connR w n m).2:=by
 unfold connR
 split
 ·exact ⟨h,rfl,Stp.same w⟩
 ·rename_i x hx
  have hx:0≤n∧w.ws[n.toNat]?=some x:=by
   split at hx
   ·cases hx
   ·exact ⟨by omega,hx⟩
  split
  ·exact ⟨h,rfl,Stp.same w⟩
  ·split
   ·exact ⟨h,rfl,Stp.same w⟩
   ·split
    ·exact ⟨h,rfl,Stp.same w⟩
    ·split
     ·exact ⟨h,rfl,Stp.same w⟩
     ·rename_i h1 h2 h3 h4
      have hlt:=(List.getElem?_eq_some_iff.1 hx.2).1
      have ha:=h.addN (conn_new (n:=m.toNat) (l:=w.ws.length) (by omega)) (by omega)
      have hx2:(w.addW (connW m.toNat)).ws[n.toNat]?=some x:=by show (w.ws++[_])[n.toNat]?=_;rw [List.getElem?_append_left hlt];exact hx.2
      have hy:(w.addW (connW m.toNat)).ws[w.ws.length]?=some (connW m.toNat):=by show (w.ws++[_])[w.ws.length]?=_;simp
      have hnw:w.ws.length ∉ (w.addW (connW m.toNat)).ws.flatMap WireA.wt:=fun e=>by
       have e2:(w.addW (connW m.toNat)).ws.flatMap WireA.wt=w.ws.flatMap WireA.wt:=by
        show (w.ws++[_]).flatMap WireA.wt=_
        rw [List.flatMap_append,List.flatMap_cons,List.flatMap_nil,show (connW m.toNat).wt=[] from rfl,List.append_nil,List.append_nil]
       rw [e2] at e
       obtain ⟨z,hz,_⟩:=h.wm _ e
       have:=(List.getElem?_eq_some_iff.1 hz).1
       omega
      have hw:=ha.1.wait hx2 hy rfl (by omega) hnw (by omega)
      refine ⟨hw.1,hw.2.trans ha.2,?_⟩
      have s1:=stp_add w (x:=connW m.toNat) (fun k hk=>⟨(conn_e m.toNat k hk).2.2.2.2.1,(conn_e m.toNat k hk).2.2.2.2.2⟩) (fun e=>by rw [(conn_e m.toNat 1 (by omega)).1] at e;exact absurd e (by decide))
      have s2:=stp_set (w:=w.addW (connW m.toNat)) (x':=waitW x w.ws.length) hx2 (fun k _=>rs_wait x _ k) (fun e=>by rw [(wait_e x _ 0).1];exact e) (fun _ k hk e=>⟨by rw [←(wait_e x w.ws.length k).1];exact e,(wait_e x _ k).2.1⟩) (fun e=>by rw [(wait_e x w.ws.length 1).1] at e;exact e)
      exact (s1.trans s2).mono (by omega)
theorem acc_ok {w:WA} (h:WOk w) (fd:Int):WOk (accR w fd).2∧Stp 2 w (accR w fd).2:=by
 unfold accR
 split
 ·exact ⟨h,Stp.same w⟩
 ·rename_i m k hm
  split
  ·exact ⟨h,Stp.same w⟩
  ·rename_i x hx
   split
   ·exact ⟨h,Stp.same w⟩
   ·split
    ·exact ⟨h,Stp.same w⟩
    ·rename_i a t hwt
     split
     ·exact ⟨h,Stp.same w⟩
     ·rename_i f fs hfs
      split
      ·exact ⟨h,Stp.same w⟩
      ·rename_i y hy
       have hwf:=h.wf x (List.mem_of_getElem? hx)
       have hs:SbW x (x.wts t):=sbW_wts hwf (by rw [hwt];exact List.sublist_cons_self _ _)
       have hsub:=flatMap_set_sub (f:=WireA.wt) (x':=x.wts t) hx hs.wt
       have hm0:m∈(w.setW m (x.wts t)).ws.flatMap WireA.wt→((x.wts t).e 0).what=0:=fun e=>by
        obtain ⟨z,hz,hz0⟩:=h.wm m (hsub.subset e)
        rw [hx] at hz;obtain rfl:=Option.some.inj hz;exact hz0
       have hok:=h.setS hx hs hm0
       have hat:=h.setS_at hx hs hm0 (fun _ _ e=>e)
       have ham:a∈w.ws.flatMap WireA.wt:=List.mem_flatMap.2 ⟨x,List.mem_of_getElem? hx,by rw [hwt];exact List.mem_cons_self⟩
       have hy0:(y.e 0).what=0:=by
        obtain ⟨z,hz,hz0⟩:=h.wm a ham
        rcases setW_get hy with ⟨rfl,rfl⟩ | ⟨_,hy⟩
        ·rw [hx] at hz;obtain rfl:=Option.some.inj hz
         exact hz0
        ·rw [hy] at hz;obtain rfl:=Option.some.inj hz
         exact hz0
       have hamw:a ∉ (w.setW m (x.wts t)).ws.flatMap WireA.wt:=by
        have hp2:=flatMap_set_app (f:=WireA.wt) (bs:=[a]++t) (l:=(w.setW m (x.wts [])).ws) (n:=m) (x:=x.wts []) (x':=x) (setW_self hx) (by rw [hwt];rfl)
        have hp3:=flatMap_set_app (f:=WireA.wt) (bs:=t) (l:=(w.setW m (x.wts [])).ws) (n:=m) (x:=x.wts []) (x':=x.wts t) (setW_self hx) rfl
        have e1:(w.setW m (x.wts [])).ws.set m x=w.ws:=by
         show (w.ws.set m _).set m x=w.ws
         rw [List.set_set]
         obtain ⟨hl,e⟩:=List.getElem?_eq_some_iff.1 hx
         rw [←e,List.set_getElem_self]
        have e2:(w.setW m (x.wts [])).ws.set m (x.wts t)=(w.setW m (x.wts t)).ws:=by
         show (w.ws.set m _).set m _=w.ws.set m _
         rw [List.set_set]
        rw [e1] at hp2;rw [e2] at hp3
        have hn:=hp2.nodup_iff.1 h.wn
        intro hm
        have:=hp3.mem_iff.1 hm
        rw [List.append_assoc] at hn;exact (List.nodup_cons.1 hn).1 this
       have hff:=frees_mem.1 (show f∈frees w.at by rw [hfs];exact List.mem_cons_self)
       have hg:=hok.give (f:=f) hy (by rw [hy0];decide) hamw hff.1 (by rw [hat];exact hff.2)
       refine ⟨hg.1,?_⟩
       have s1:=hs.stp hx fun j _=>RsE.refl _
       have s2:=stp_set (w:=w.setW m (x.wts t)) (x':=giveW y f) hy (fun k _=>rs_up y 0 (f:=fun e=>{ e with what:=1,fd:=(f:Int) }) (fun e=>RsE.refl _) k) (fun e=>absurd hy0 e) (fun e=>absurd hy0 e) (fun e=>by rw [give1] at e;exact e)
       exact s1.trans s2
theorem pass_ok {w:WA} (h:WOk w) (n:Int) (h0:0≤n):WOk (passR w n)∧Stp 0 w (passR w n):=by
 refine ⟨⟨h.uq,h.fd,h.len,h.hdl,h.ctl,h.wf,h.wn,h.wm,h.nt,h.ns⟩,fun K _ hl=>⟨⟨hl.ct,hl.rs,?_,hl.g1⟩,gr_ws rfl⟩⟩
 have:=hl.now
 show 0≤w.now + min n (18446744073709551615 - w.now)∧w.now + min n (18446744073709551615 - w.now)≤18446744073709551615
 omega
theorem ntc_ok {w:WA} (h:WOk w):WOk (ntcR w)∧(ntcR w).at=w.at∧Stp 1 w (ntcR w):=by
 unfold ntcR
 split
 ·exact ⟨h,rfl,Stp.same w⟩
 ·rename_i n k hn
  obtain ⟨hk,x0,hx0,z0,z1⟩:=h.nt n k hn
  split
  ·exact ⟨h,rfl,Stp.same w⟩
  ·rename_i x hx
   rw [hx] at hx0;obtain rfl:=Option.some.inj hx0
   have hwf:=h.wf x (List.mem_of_getElem? hx)
   have hrd:∀ j,j < 2→(x.e j).rd=true:=fun j hj=>by
    rcases (show j=0∨j=1 by omega) with rfl | rfl
    ·exact z0
    ·exact z1
   split
   ·have hs:=smW_take hwf (n:=(x.e k).b.length) hk (hrd k hk)
    exact ⟨h.setW hx hs,h.setW_at hx hs,(hs.sb hwf).stp hx fun j _=>rs_take x k _ j⟩
   ·split
    ·have hs:=smW_put hwf (k:=1 - k) (by omega) [1] (hrd (1 - (1 - k)) (by omega))
     exact ⟨h.setW hx hs,h.setW_at hx hs,(hs.sb hwf).stp hx fun j _=>rs_put x (1 - k) [1] j⟩
    ·exact ⟨h,rfl,Stp.same w⟩
theorem ct_ok {w:WA} (h:WOk w) {hd:List Bool} {ct:List Int} (h1:hd.length=32) (h2:ct.length=32):WOk { w with hd:=hd,ct:=ct }:=⟨h.uq,h.fd,h.len,h1,h2,h.wf,h.wn,h.wm,h.nt,h.ns⟩
theorem ct_stp (w:WA) {hd:List Bool} {ct:List Int} (h:∀ K:Nat,(∀ c∈w.ct,0≤c∧c≤(K:Int))→∀ c∈ct,0≤c∧c≤((K + 1:Nat):Int)):Stp 1 w { w with hd:=hd,ct:=ct }:=fun K _ hl=>⟨⟨h K hl.ct,(hl.mono (Nat.le_succ K)).rs,hl.now,hl.g1⟩,gr_ws rfl⟩
theorem han_ok {w:WA} (h:WOk w) (s:Int) (on:Bool):WOk (hanR w s on).2∧Stp 2 w (hanR w s on).2:=by
 unfold hanR
 split
 ·have:=ntc_ok h
  exact ⟨this.1,this.2.2.mono (by omega)⟩
 ·have h1:WOk { w with hd:=w.hd.set s.toNat on,ct:=if on=true then w.ct else w.ct.set s.toNat 0 }:=ct_ok h (by rw [List.length_set];exact h.hdl) (by split;exact h.ctl;rw [List.length_set];exact h.ctl)
  have:=ntc_ok h1
  refine ⟨this.1,(ct_stp w fun K hc c hm=>?_).trans this.2.2⟩
  split at hm
  ·have:=hc c hm;omega
  ·rcases List.mem_or_eq_of_mem_set hm with hm | rfl
   ·have:=hc c hm;omega
   ·omega
theorem rai_ok {w:WA} (h:WOk w) (s:Int):WOk (raiR w s).2∧Stp 2 w (raiR w s).2:=by
 unfold raiR
 split
 ·have:=ntc_ok h
  exact ⟨this.1,this.2.2.mono (by omega)⟩
 ·rename_i hs
  have h1:WOk { w with ct:=if w.hd.getD s.toNat false=true then w.ct.set s.toNat (w.ct.getD s.toNat 0 + 1) else w.ct }:=ct_ok h h.hdl (by split;rw [List.length_set];exact h.ctl;exact h.ctl)
  have:=ntc_ok h1
  refine ⟨this.1,(ct_stp w fun K hc c hm=>?_).trans this.2.2⟩
  split at hm
  ·rcases List.mem_or_eq_of_mem_set hm with hm | rfl
   ·have:=hc c hm;omega
   ·have hl:s.toNat < w.ct.length:=by rw [h.ctl];omega
    rw [List.getD_eq_getElem?_getD,List.getElem?_eq_getElem hl]
    have:=hc _ (List.getElem_mem hl)
    show 0≤w.ct[s.toNat] + 1∧w.ct[s.toNat] + 1≤_
    omega
  ·have:=hc c hm;omega
theorem sig_ok {w:WA} (h:WOk w):WOk (sigR w).2∧Stp 2 w (sigR w).2:=by
 unfold sigR;dsimp only
 have h1:WOk { w with ct:=match w.ct with | []=>[] | c::t=>c::t.map fun _=>0 }:=ct_ok h h.hdl (by
  have:=h.ctl
  cases hc:w.ct with
  | nil=>rw [hc] at this;exact this
  | cons c t=>rw [hc] at this;simpa using this)
 have:=ntc_ok h1
 refine ⟨this.1,(ct_stp w fun K hc c hm=>?_).trans this.2.2⟩
 cases he:w.ct with
 | nil=>rw [he] at hm;cases hm
 | cons a t =>
  rw [he] at hm
  rcases List.mem_cons.1 hm with rfl | hm
  ·have:=hc c (by rw [he];exact List.mem_cons_self);omega
  ·obtain ⟨_,_,rfl⟩:=List.mem_map.1 hm;omega
theorem not_ok {w:WA} (h:WOk w) (a b:Int):WOk (notR w a b).2∧Stp 1 w (notR w a b).2:=by
 unfold notR
 split
 ·rename_i n k m i ha hb
  split
  ·exact ⟨h,Stp.same w⟩
  ·rename_i x hx
   split
   ·exact ⟨h,Stp.same w⟩
   ·rename_i hc
    have hk:=(h.at_lt ha).2.2.1
    have h1:WOk { w with nt:=some (n,k) }:=⟨h.uq,h.fd,h.len,h.hdl,h.ctl,h.wf,h.wn,h.wm,fun a b e=>by
     obtain ⟨rfl,rfl⟩:=Prod.mk.inj (Option.some.inj e)
     exact ⟨hk,x,hx,by cases hz:(x.e 0).rd with | true=>rfl | false=>exact absurd (.inr (.inr (.inl hz))) hc,by cases hz:(x.e 1).rd with | true=>rfl | false=>exact absurd (.inr (.inr (.inr hz))) hc⟩,h.ns⟩
    have:=ntc_ok h1
    refine ⟨this.1,?_⟩
    have s0:Stp 0 w { w with nt:=some (n,k) }:=fun K _ hl=>⟨⟨hl.ct,hl.rs,hl.now,hl.g1⟩,gr_ws rfl⟩
    exact (s0.trans this.2.2).mono (by omega)
 ·exact ⟨h,Stp.same w⟩
end Wo
end Go.Proofs.YtmpemhbfgbochaaGreatDoor
namespace Go.Proofs.YtmpemhbfgbochaaGreatDoor
open Go.RX Fx
namespace Rf
open Wo
structure RwI where
 a:Nat→Option Addr
 c:Nat→Nat
 wa:Option Addr
 wc:Nat
abbrev Row:=WireA×RwI
abbrev encRE (x:EndA) (a:Option Addr) (c:Nat):List Value:=[.int .i64 x.what,.int .i64 x.fd,.bool x.rd,.bool x.wr,.slice a x.b.length c,.bool x.shut,.int .u64 x.inn,.int .u64 x.out]
abbrev encRW (p:Row):List Value:=encRE (p.1.e 0) (p.2.a 0) (p.2.c 0)++(encRE (p.1.e 1) (p.2.a 1) (p.2.c 1)++[.int .i64 (p.1.cap:Int),.bool p.1.rs,.int .i64 p.1.bl,.slice p.2.wa p.1.wt.length p.2.wc])
theorem encRW_len (p:Row):(encRW p).length=20:=rfl
theorem encRW_one (p:Row):∀ u∈encRW p,u.oneCell'=true:=by simp [Value.oneCell']
abbrev SdB (p:Row) (k:Nat):SP:=own 5 1 (p.2.a k) (p.1.e k).b.length (p.2.c k) (bsl (p.1.e k).b)
abbrev SdW (p:Row):SP:=own 3 1 p.2.wa p.1.wt.length p.2.wc (nats p.1.wt)
abbrev SdL (p:Row) (k:Nat) (L:List SP):List SP:=SdB p k::SdB p (1 - k)::SdW p::L
def Sd (p:Row):SP:=RX.ex fun k:Nat=>pu (k < 2)::SdL p k []
theorem Hd.sd {E:World} {n:Nat} {ds:List Deferred} {st:List (Nat×Value)} {L L':List SP} {K:Act→World→Prop} {p:Row} (q:Pick L (Sd p) L') (k:Nat) (hk:k < 2) (h:Hd E n ds st (SdL p k L') K):Hd E n ds st L K :=
 Hd.exs (f:=fun k:Nat=>pu (k < 2)::SdL p k []) q fun j=>Hd.pure fun hj=>by
  by_cases e:j=k
  ·subst e;exact h
  ·obtain rfl:j=1 - k:=by omega
   refine Hd.heap (SdL p k L') (fun q s=>?_) h
   have e2:1 - (1 - k)=k:=by omega
   have s':sep (SdL p (1 - k) L') q:=s
   unfold SdL at s';rw [e2] at s';exact Ent.sep enn q s'
theorem sd_fold {p:Row} {k:Nat} (hk:k < 2) {L:List SP}:∀ h,sep (SdL p k L) h→sep (Sd p::L) h:=fun h s=>Ent.sep (.ex k (.pure hk enn)) h s
theorem sd_same {p p':Row} (hb:∀ k,k < 2→(p'.1.e k).b=(p.1.e k).b) (hw:p'.1.wt=p.1.wt) (hi:p'.2=p.2):Sd p'=Sd p:=by
 have h:∀ k,k < 2→SdL p' k []=SdL p k []:=fun k hk=>by
  unfold SdL SdB SdW;rw [hb k hk,hb (1 - k) (by omega),hw,hi]
 unfold Sd
 funext q
 refine propext ⟨?_,?_⟩
 ·rintro ⟨k,s⟩
  have hk:k < 2:=by obtain ⟨_,_,_,_,_,hf,_⟩:=s;exact hf
  exact ⟨k,by show sep (pu (k < 2)::SdL p k []) q;rw [←h k hk];exact s⟩
 ·rintro ⟨k,s⟩
  have hk:k < 2:=by obtain ⟨_,_,_,_,_,hf,_⟩:=s;exact hf
  exact ⟨k,by show sep (pu (k < 2)::SdL p' k []) q;rw [h k hk];exact s⟩
abbrev ntV:Option (Nat×Nat)→List Value
 | none=>[.int .i64 (-1),.int .i64 0]
 | some (n,k)=>[.int .i64 (n:Int),.int .i64 (k:Int)]
abbrev RwC (w:WA) (n:Nat) (ad:Option Addr) (c:Nat):List Value:=[.slice ad n c,.int .u64 w.now]++(w.hd.map .bool++(w.ct.map (Value.int .i64)++ntV w.nt))
abbrev RwH (b:Nat) (w:WA) (n:Nat) (ad:Option Addr) (c:Nat):SP:=pt b (RwC w n ad c) 102
abbrev Rows_:=List Row×Option Addr×Nat
abbrev OwR (i:Rows_):SP:=own 204 20 i.2.1 i.1.length i.2.2 (i.1.flatMap encRW)
abbrev RwL (b:Nat) (w:WA) (i:Rows_) (L:List SP):List SP:=RwH b w i.1.length i.2.1 i.2.2::OwR i::Bag Sd i.1::L
def RwP (b:Nat) (w:WA):SP:=RX.ex fun i:Rows_=>pu (i.1.map Prod.fst=w.ws)::RwL b w i []
theorem Hd.rw {E:World} {n:Nat} {ds:List Deferred} {st:List (Nat×Value)} {L L':List SP} {K:Act→World→Prop} {b:Nat} {w:WA} (p:Pick L (RwP b w) L') (h:∀ i:Rows_,i.1.map Prod.fst=w.ws→Hd E n ds st (RwL b w i L') K):Hd E n ds st L K :=
 Hd.exs (f:=fun i:Rows_=>pu (i.1.map Prod.fst=w.ws)::RwL b w i []) p fun i=>Hd.pure fun hr=>h i hr
theorem rw_fold {b:Nat} {w:WA} {i:Rows_} {L:List SP} (h:i.1.map Prod.fst=w.ws):∀ k,sep (RwL b w i L) k→sep (RwP b w::L) k:=fun k s=>Ent.sep (.ex i (.pure h enn)) k s
theorem row_at {w:WA} {i:Rows_} (h:i.1.map Prod.fst=w.ws) {n:Nat} {x:WireA} (hn:w.ws[n]?=some x):∃ j,i.1[n]?=some (x,j):=by
 rw [←h,List.getElem?_map] at hn
 cases hr:i.1[n]? with
 | none=>rw [hr] at hn;cases hn
 | some p=>rw [hr] at hn;obtain ⟨y,j⟩:=p;obtain rfl:=Option.some.inj hn;exact ⟨j,rfl⟩
theorem rows_n {w:WA} {i:Rows_} (h:i.1.map Prod.fst=w.ws):i.1.length=w.ws.length:=by rw [←h,List.length_map]
theorem rcell {rs:List Row} {n k j o:Nat} {x:WireA} {i:RwI} {v:Value} (h:rs[n]?=some (x,i)) (hk:k < 2) (hj:j < 8) (ho:o=n * 20 + k * 8 + j) (hv:(encRE (x.e k) (i.a k) (i.c k))[j]?=some v):(rs.flatMap encRW)[o]?=some v:=by
 subst ho;rw [Nat.add_assoc];refine flat_cells encRW 20 encRW_len h (k * 8 + j) v ?_
 rcases (show k=0∨k=1 by omega) with rfl | rfl
 ·rw [show 0 * 8 + j=j by omega,List.getElem?_append_left (by simp;omega)];exact hv
 ·rw [List.getElem?_append_right (by simp),List.getElem?_append_left (by simp;omega)]
  simpa using hv
theorem rcellW {rs:List Row} {n j o:Nat} {x:WireA} {i:RwI} {v:Value} (h:rs[n]?=some (x,i)) (ho:o=n * 20 + j) (hv:(encRW (x,i))[j]?=some v):(rs.flatMap encRW)[o]?=some v:=by
 subst ho;exact flat_cells encRW 20 encRW_len h j v hv
theorem rset {rs:List Row} {n k j o:Nat} {x x':WireA} {i i':RwI} {v:Value} (h:rs[n]?=some (x,i)) (hk:k < 2) (hj:j < 8) (ho:o=n * 20 + k * 8 + j) (he:(encRE (x.e k) (i.a k) (i.c k)).set j v=encRE (x'.e k) (i'.a k) (i'.c k))
  (h1:encRE (x.e (1 - k)) (i.a (1 - k)) (i.c (1 - k))=encRE (x'.e (1 - k)) (i'.a (1 - k)) (i'.c (1 - k))) (h2:(encRW (x,i)).drop 16=(encRW (x',i')).drop 16):(rs.flatMap encRW).set o v=(rs.set n (x',i')).flatMap encRW:=by
 subst ho;refine rows_set (j:=k * 8 + j) encRW_len (by omega) ?_ h (by omega)
 have h3:([.int .i64 (x.cap:Int),.bool x.rs,.int .i64 x.bl,.slice i.wa x.wt.length i.wc]:List Value)=[.int .i64 (x'.cap:Int),.bool x'.rs,.int .i64 x'.bl,.slice i'.wa x'.wt.length i'.wc]:=h2
 rcases (show k=0∨k=1 by omega) with rfl | rfl
 ·rw [show 0 * 8 + j=j by omega]
  show (encRE (x.e 0) (i.a 0) (i.c 0)++_).set j v=_
  rw [List.set_append_left _ _ (by simp;omega),he]
  show _++(encRE (x.e 1) (i.a 1) (i.c 1)++_)=_++(_++_)
  rw [h1,h3]
 ·show (encRE (x.e 0) (i.a 0) (i.c 0)++(encRE (x.e 1) (i.a 1) (i.c 1)++_)).set (1 * 8 + j) v=_
  rw [List.set_append_right _ _ (by simp),List.set_append_left _ _ (by simp;omega)];rw [show 1 * 8 + j - (encRE (x.e 0) (i.a 0) (i.c 0)).length=j by simp,he,h3]
  have h1':encRE (x.e 0) (i.a 0) (i.c 0)=encRE (x'.e 0) (i'.a 0) (i'.c 0):=h1
  rw [h1']
section
variable {E : World} {n : Nat} {ds : List Deferred} {st : List (Nat × Value)} {L L' : List SP} {P : Program} {d : Nat} {ty t : TypeId} {pos : String} {af : Array Edge} {g : Option (Nat × Bool)} {op : Operand} {v : Value}
theorem y_rc {e m c q k o:Nat} {ad:Option Addr} {rs:List Row} {x:WireA} {i:RwI} (ha:agk P t=some false) (hx:evo st op=some (.pointer (some ((adr ad).add o)))) (hr:rs[q]?=some (x,i)) (hk:k < 2) (j:Nat) (hv:(encRE (x.e k) (i.a k) (i.c k))[j]?=some v)
  (p:Pick L (own e 20 ad m c (rs.flatMap encRW)) L':=by repeat (first | with_reducible exact Pick.here | apply Pick.there | with_reducible apply Pick.right)) (ho:o=q * 20 + k * 8 + j:=by omega) (hj:j < 8:=by decide):Yv E n ds st L P ⟨some d,.load t op,ty,pos,af,g⟩ v :=
 y_loadR1 ha hx (RdS.own p) (rcell hr hk hj ho hv)
theorem y_rw {e m c q o:Nat} {ad:Option Addr} {rs:List Row} {x:WireA} {i:RwI} (ha:agk P t=some false) (hx:evo st op=some (.pointer (some ((adr ad).add o)))) (hr:rs[q]?=some (x,i)) (j:Nat) (hv:(encRW (x,i))[j]?=some v)
  (p:Pick L (own e 20 ad m c (rs.flatMap encRW)) L':=by repeat (first | with_reducible exact Pick.here | apply Pick.there | with_reducible apply Pick.right)) (ho:o=q * 20 + j:=by omega):Yv E n ds st L P ⟨some d,.load t op,ty,pos,af,g⟩ v :=
 y_loadR1 ha hx (RdS.own p) (rcellW hr ho hv)
end
end Rf
end Go.Proofs.YtmpemhbfgbochaaGreatDoor
namespace Go.Proofs.YtmpemhbfgbochaaGreatDoor
open Go.RX Fx
namespace Wo
theorem wol_back {wb n b:Nat} {w:WA} {i:WoI} {x:WireA} {L:List SP} (hb:i.rs[n]?=some (b,x)):∀ h,sep (WireP b x::WoR wb n w i L) h→sep (WoL wb w i L) h:=by
 intro h s
 obtain ⟨hn,e⟩:=List.getElem?_eq_some_iff.1 hb
 have h1:sep (WireP b x::Wires (i.rs.take n)::Wires (i.rs.drop (n + 1))::WoH wb w.at w i.rs.length i::own 189 1 i.wa i.rs.length i.wc (pws i.rs)::SigP i.sb w.hd w.ct::L) h:=Ent.sep enn h s
 have h2:=ws_in hn h1
 rw [←e,List.set_getElem_self] at h2;exact Ent.sep enn h h2
theorem sep_trans {A B C:List SP} (f:∀ q,sep A q→sep B q) (g:∀ q,sep B q→sep C q):∀ q,sep A q→sep C q:=fun q s=>g q (f q s)
end Wo
end Go.Proofs.YtmpemhbfgbochaaGreatDoor
namespace Go.Proofs.YtmpemhbfgbochaaGreatDoor
open Go.RX Fx
namespace Rf
open Wo
theorem rw_head {b n:Nat} {w:WA} {i:Rows_} {x x':WireA} {j:RwI} {L:List SP} (hi:i.1.map Prod.fst=w.ws) (hn:i.1[n]?=some (x,j)) (hb:∀ k,k < 2→(x'.e k).b=(x.e k).b) (hw:x'.wt=x.wt) :
  ∀ h,sep (RwH b w i.1.length i.2.1 i.2.2::own 204 20 i.2.1 i.1.length i.2.2 ((i.1.set n (x',j)).flatMap encRW)::Bag Sd i.1::L) h→sep (RwP b (w.setW n x')::L) h:=fun h s=>by
 have e1:Bag Sd i.1=Bag Sd (i.1.set n (x',j)):=(bag_set hn (sd_same (p:=(x,j)) (p':=(x',j)) hb hw rfl)).symm
 have hl:(i.1.set n (x',j)).length=i.1.length:=List.length_set ..
 refine rw_fold (i:=(i.1.set n (x',j),i.2)) (by show (i.1.set n (x',j)).map Prod.fst=w.ws.set n x';rw [List.map_set,hi]) h (Ent.sep ?_ h s);exact .eq pkk (pt_eq (by show _=RwC (w.setW n x') (i.1.set n (x',j)).length i.2.1 i.2.2;rw [hl];rfl)) (.eq pkk (own_eq3 hl.symm rfl rfl) (.eq pkk e1 enn))
theorem rw_put {b n:Nat} {w:WA} {i:Rows_} {x':WireA} {j':RwI} {L:List SP} (hi:i.1.map Prod.fst=w.ws) (hn:n < i.1.length) :
  ∀ h,sep (Sd (x',j')::RwH b w i.1.length i.2.1 i.2.2::own 204 20 i.2.1 i.1.length i.2.2 ((i.1.set n (x',j')).flatMap encRW)::Bag Sd (i.1.take n)::Bag Sd (i.1.drop (n + 1))::L) h→sep (RwP b (w.setW n x')::L) h:=fun h s=>by
 have hl:(i.1.set n (x',j')).length=i.1.length:=List.length_set ..
 have h1:sep (Sd (x',j')::Bag Sd (i.1.take n)::Bag Sd (i.1.drop (n + 1))::RwH b w i.1.length i.2.1 i.2.2::own 204 20 i.2.1 i.1.length i.2.2 ((i.1.set n (x',j')).flatMap encRW)::L) h:=Ent.sep enn h s
 have h2:=bag_in hn h1
 refine rw_fold (i:=(i.1.set n (x',j'),i.2)) (by show (i.1.set n (x',j')).map Prod.fst=w.ws.set n x';rw [List.map_set,hi]) h (Ent.sep ?_ h h2);exact .eq pkk (pt_eq (by show _=RwC (w.setW n x') (i.1.set n (x',j')).length i.2.1 i.2.2;rw [hl];rfl)) (.eq pkk (own_eq3 hl.symm rfl rfl) enn)
def atN:Option (Nat×Nat)→Int
 | none=>-1
 | some p=>(p.1:Int)
def atK:Option (Nat×Nat)→Int
 | none=>-1
 | some p=>(p.2:Int)
theorem rat_ct (L:List SP) (b:Nat) (w:WA) (hw:WOk w) (fd:Int):Ct Tryz.prog 117 #[.pointer (some ⟨b,0,none⟩),.int .i64 fd] (RwP b w::L) (fun _:Unit=>.tuple #[.int .i64 (atN (w.at fd)),.int .i64 (atK (w.at fd))]) (fun _:Unit=>RwP b w::L):=by
 refine Ct.o2 Tryz.func117 ?_;intro E
 show Hd E 50 _ _ _ _
 refine Hd.rw .here (fun i hi=>?_)
 have hrl:=rows_n hi
 have hwl:=hw.len
 refine sr fun _ K1=>?_
 refine yv y_as<|yv y_as<|fk [(0,_),(1,_)] K1 ?_;refine Hd.seq fun _ K2=>?_
 refine sr fun _ K3=>?_
 refine yv y_as<|fk [(0,_),(1,_),(6,_)] K3 ?_;refine Hd.block<|Hd.loopK (ι:=Nat) [(0,_),(1,_)] (fun n=>[(6,.int .i64 (n:Int))]) (fun n=>pu (n≤w.ws.length∧∀ m y,m < n→w.ws[m]?=some y→atE y fd=none)::RwL b w i L) (fun n=>w.ws.length - n) 0 sbq sbq (Ent.sep (.pure ⟨Nat.zero_le _,fun _ _ h=>absurd h (Nat.not_lt_zero _)⟩ enn)) ?_;intro n
 try dsimp only
 refine Hd.pure (fun hp0=>?_)
 try dsimp only at hp0
 refine Hd.seq fun _ K4=>?_
 refine sr fun _ K5=>?_
 refine yv y_mv<|yv y_mv<|yv y_np<|yv (y_f 0 98 Tryz.underlying102 sz98)<|yv (y_l1 ag98 rfl)<|yv (y_len Tryz.underlying98 rfl) ?_;refine yv (y_lss rfl rfl) ?_;refine fk [(0,_),(1,_),(6,_),(14,_)] K5 ?_;refine qz ?_ ?_<;>intro hc0<;>try simp only [hyZ] at hc0
 ·have hn:n < w.ws.length:=by omega
  obtain ⟨x,hx⟩:∃ x,w.ws[n]?=some x:=⟨_,List.getElem?_eq_getElem hn⟩
  obtain ⟨j,hrow⟩:=row_at hi hx
  refine qv K4<|Hd.seq fun _ K6=>?_
  refine Hd.block<|sr fun _ K7=>?_
  refine yv y_as<|fk [(0,_),(1,_),(6,_),(7,_)] K7 ?_;refine Hd.block<|Hd.loopK (ι:=Nat) [(0,_),(1,_),(6,_)] (fun k=>[(7,.int .i64 (k:Int))]) (fun k=>pu (k≤2∧∀ q,q < k→¬ ((x.e q).what=1∧(x.e q).fd=fd))::RwL b w i L) (fun k=>2 - k) 0 sbq sbq (Ent.sep (.pure ⟨Nat.zero_le _,fun _ h=>absurd h (Nat.not_lt_zero _)⟩ enn)) ?_;intro k
  try dsimp only
  refine Hd.pure (fun hp1=>?_)
  try dsimp only at hp1
  refine Hd.seq fun _ K8=>?_
  refine sr fun _ K9=>?_
  refine yv y_mv<|yv (y_lss rfl rfl) ?_;refine fk [(0,_),(1,_),(6,_),(7,_),(18,_)] K9 ?_;refine qz ?_ ?_<;>intro hc1<;>try simp only [hyZ] at hc1
  ·have hk:k < 2:=by omega
   refine qv K8<|Hd.seq fun _ K10=>?_
   refine Hd.block<|sr fun _ K11=>?_
   refine yv y_mv<|yv y_np<|yv (y_f 0 98 Tryz.underlying102 sz98)<|yv (y_l1 ag98 rfl)<|yv y_mv<|yv y_mv<|yv (y_idxR Tryz.underlying98 sz204 rfl rfl (by omega) (by exact RdS.own pkk)) ?_;refine yv (y_fR 0 202 Tryz.underlying204 sz202) ?_;refine yv (y_idxAR Tryz.underlying202 sz201 rfl rfl (by omega)) ?_;refine yv (y_fR 0 3 Tryz.underlying201 sz3) ?_;refine yv (y_rc ag3 rfl hrow hk 0 rfl) ?_;refine yv (y_eql rfl rfl) ?_;refine yv y_mv ?_;apply Hd.andg 14 33 47 [(0,_),(1,_),(6,_),(7,_)] rfl sbq
   ·intro hg7_33
    try simp only [hyZ] at hg7_33
    simp only [List.take];refine y2 y_mv<|y2 y_np<|y2 (y_f 0 98 Tryz.underlying102 sz98)<|y2 (y_l1 ag98 rfl)<|y2 y_mv<|y2 y_mv<|y2 (y_idxR Tryz.underlying98 sz204 rfl rfl (by omega) (by exact RdS.own pkk)) ?_;refine y2 (y_fR 0 202 Tryz.underlying204 sz202) ?_;refine y2 (y_idxAR Tryz.underlying202 sz201 rfl rfl (by omega)) ?_;refine y2 (y_fR 1 3 Tryz.underlying201 sz3) ?_;refine y2 (y_rc ag3 rfl hrow hk 1 rfl) ?_;refine y2 y_mv<|y2 (y_eql rfl rfl) ?_;refine yv (y_pickT rfl rfl) ?_;exact Hd.mn
   ·intro hg7_33
    try simp only [hyZ] at hg7_33
    simp only [List.take];refine n1<|n1<|n1<|n1<|n1<|n1<|n1<|n1<|n1<|n1<|n1<|n1<|n1<|yv (y_pickF rfl rfl) ?_;exact Hd.mn
   simp only [List.drop];refine fk [(0,_),(1,_),(6,_),(7,_),(47,_)] K11 ?_;refine qz ?_ ?_<;>intro hc2<;>try simp only [hyZ] at hc2
   ·refine sr fun _ K12=>?_
    refine yv y_mv<|yv y_mv<|yv y_as<|yv y_as<|fk [(4,_),(5,_)] K12 ?_;refine Hd.ret<|Hd.inBret<|Hd.thenRet<|Hd.thenRet<|Hd.inBret<|Hd.inBret<|Hd.thenRet<|Hd.thenRet<|Hd.inBret<|Hd.thenRet ?_
    have e:w.at fd=some (n,k):=(atW_iff hw.uq).2 ⟨hk,x,hx,hc2⟩
    rw [e];exact Hd.ret2 rfl () rfl rfl rfl (rw_fold hi)
   refine Hd.skip<|Hd.inB<|Hd.toK K10 ?_;refine Hd.region<|yv y_mv<|yv (y_addn rfl rfl (by simp only [InK];omega)) ?_;refine yv y_as<|Hd.nil<|slots [(0,_),(1,_),(6,_),(7,_)] sbq ?_;refine thenN ?_
   have hne:∀ q,q < k + 1→¬ ((x.e q).what=1∧(x.e q).fd=fd):=by
    intro q hq
    rcases (show q < k∨q=k by omega) with h | rfl
    ·exact hp1.2 q h
    ·rintro ⟨h1,h2⟩
     rcases hc2 with h | h
     ·exact h h1
     ·exact h h2
   exact Hd.again (k + 1) (by omega) sbq (Ent.sep (.pure ⟨hk,hne⟩ enn))
  have hk2:k=2:=by omega
  refine Hd.exit<|Hd.thenExit<|Hd.thenExit<|Hd.inBexit<|Hd.inB<|Hd.toK K6 ?_;refine Hd.region<|yv y_mv<|yv (y_addn rfl rfl (by simp only [InK];omega)) ?_;refine yv y_as<|Hd.nil<|slots [(0,_),(1,_),(6,_)] sbq ?_;refine thenN ?_
  have hne:∀ m y,m < n + 1→w.ws[m]?=some y→atE y fd=none:=by
   intro m y hm hy
   rcases (show m < n∨m=n by omega) with h | rfl
   ·exact hp0.2 m y h hy
   ·rw [hx] at hy;obtain rfl:=Option.some.inj hy
    exact atE_no fun q hq=>hp1.2 q (by omega)
  exact Hd.again (n + 1) (by omega) sbq (Ent.sep (.pure ⟨hn,hne⟩ enn))
 refine Hd.exit<|Hd.thenExit<|Hd.thenExit<|Hd.inBexit<|Hd.toK K2 ?_;refine sr fun _ K13=>?_
 refine yv y_as<|yv y_as<|fk [(4,_),(5,_)] K13 ?_;refine Hd.ret ?_
 have e:w.at fd=none:=atW_none.2 fun y hy=>by
  obtain ⟨m,hm,e⟩:=List.getElem_of_mem hy
  exact hp0.2 m y (by omega) (by rw [List.getElem?_eq_getElem hm,e])
 rw [e];exact Hd.ret2 rfl () rfl rfl rfl (rw_fold hi)
theorem rset_inn {rs:List Row} {n k o:Nat} {x:WireA} {j:RwI} {v:Int} (h:rs[n]?=some (x,j)) (hk:k < 2) (ho:o=n * 20 + k * 8 + 6):(rs.flatMap encRW).set o (.int .u64 v)=(rs.set n (x.up k fun e=>{ e with inn:=v },j)).flatMap encRW :=
 rset h hk (j:=6) (by decide) ho (by rw [up_at];rfl) (by rw [up_ne _ _ (by omega)]) rfl
theorem rset_out {rs:List Row} {n k o:Nat} {x:WireA} {j:RwI} {v:Int} (h:rs[n]?=some (x,j)) (hk:k < 2) (ho:o=n * 20 + k * 8 + 7):(rs.flatMap encRW).set o (.int .u64 v)=(rs.set n (x.up k fun e=>{ e with out:=v },j)).flatMap encRW :=
 rset h hk (j:=7) (by decide) ho (by rw [up_at];rfl) (by rw [up_ne _ _ (by omega)]) rfl
theorem row_set {rs:List Row} {n:Nat} {p q:Row} (h:rs[n]?=some p):(rs.set n q)[n]?=some q:=by
 rw [List.getElem?_set_self (List.getElem?_eq_some_iff.1 h).1]
theorem up_b (x:WireA) (k:Nat) {f:EndA→EndA} (hf:∀ e,(f e).b=e.b) (j:Nat):((x.up k f).e j).b=(x.e j).b:=by
 by_cases e:j=k
 ·subst e;rw [up_at];exact hf _
 ·rw [up_ne _ _ e]
abbrev OwS (i:Rows_) (rs:List Row):SP:=own 204 20 i.2.1 i.1.length i.2.2 (rs.flatMap encRW)
theorem rrise_ct (L:List SP) (b:Nat) (w:WA) (n:Nat) (x:WireA) (hx:w.ws[n]?=some x) (k:Nat) (hk:k < 2) (vi vo:Bool):Ct Tryz.prog 199 #[.pointer (some ⟨b,0,none⟩),.int .i64 (n:Int),.int .i64 (k:Int),.bool vi,.bool vo] (RwP b w::L) (fun _:Unit=>.tuple #[]) (fun _:Unit=>RwP b (w.setW n (x.up k (riseE vi vo)))::L):=by
 refine Ct.o5 Tryz.func199 ?_;intro E
 show Hd E 70 _ _ _ _
 refine Hd.rw .here (fun i hi=>?_)
 have hrl:=rows_n hi
 obtain ⟨j,hrow⟩:=row_at hi hx
 have hn:n < i.1.length:=(List.getElem?_eq_some_iff.1 hrow).1
 have hrow2:(i.1.set n (x.up k (riseE vi false),j))[n]?=some (x.up k (riseE vi false),j):=row_set hrow
 refine Hd.cutK (ι:=Unit) [(0,_),(1,_),(2,_),(4,_)] (fun _=>[]) (fun _=>RwH b w i.1.length i.2.1 i.2.2::OwS i (i.1.set n (x.up k (riseE vi false),j))::Bag Sd i.1::L) ?_ ?_ ⟨rfl,rfl,rfl,rfl,trivial⟩
 ·refine sr fun _ K1=>?_
  refine yv y_mv<|yv y_mv ?_;apply Hd.andg 12 11 23 [(0,_),(1,_),(2,_),(4,_)] rfl sbq
  ·intro hg0_11
   try simp only [hyZ] at hg0_11
   simp only [List.take];refine y2 y_mv<|y2 y_np<|y2 (y_f 0 98 Tryz.underlying102 sz98)<|y2 (y_l1 ag98 rfl)<|y2 y_mv<|y2 y_mv<|y2 (y_idxR Tryz.underlying98 sz204 rfl rfl (by omega) (by exact RdS.own pkk)) ?_;refine y2 (y_fR 0 202 Tryz.underlying204 sz202) ?_;refine y2 (y_idxAR Tryz.underlying202 sz201 rfl rfl (by omega)) ?_;refine y2 (y_fR 2 4 Tryz.underlying201 sz4) ?_;refine y2 (y_rc ag4 rfl hrow hk 2 rfl) ?_;refine yv (y_pickT rfl rfl) ?_;exact Hd.mn
  ·intro hg0_11
   try simp only [hyZ] at hg0_11
   simp only [List.take];refine n1<|n1<|n1<|n1<|n1<|n1<|n1<|n1<|n1<|n1<|n1<|yv (y_pickF rfl rfl) ?_;exact Hd.mn
  simp only [List.drop];refine fk [(0,_),(1,_),(2,_),(4,_),(23,_)] K1 ?_;refine qz ?_ ?_<;>intro hc0<;>try simp only [hyZ] at hc0
  ·have h2:x.up k (fun e=>{ e with inn:=IntKind.u64.wrap ((x.e k).inn + 1) })=x.up k (riseE vi false):=up_eq (by simp [riseE,hc0.1,hc0.2])
   refine Hd.drawsH ([RwH b w i.1.length i.2.1 i.2.2,OwR i]) (fun j=>!([16].contains j)) mixed ?_;simp only [List.length,Nat.zero_add,Nat.reduceAdd];refine tH 0 rfl y_mv<|tH 1 rfl y_np<|tH 2 rfl (y_f 0 98 Tryz.underlying102 sz98)<|tH 3 rfl (y_l1 ag98 rfl)<|tH 4 rfl y_mv<|tH 5 rfl y_mv<|tH 6 rfl (y_idxR Tryz.underlying98 sz204 rfl rfl (by omega) (by exact RdS.own pkk)) ?_;refine tH 7 rfl (y_fR 0 202 Tryz.underlying204 sz202) ?_;refine tH 8 rfl (y_idxAR Tryz.underlying202 sz201 rfl rfl (by omega)) ?_;refine tH 9 rfl (y_fR 6 29 Tryz.underlying201 sz29) ?_;refine tH 10 rfl (y_rc ag29 rfl hrow hk 6 rfl) ?_;refine tH 11 rfl (y_add rfl rfl) ?_;refine qo 12 ?_;refine yv (y_idxR Tryz.underlying98 sz204 rfl rfl (by omega) (by exact RdS.own pkk)) ?_;refine qk<|qo 13 ?_;refine yv (y_fR 0 202 Tryz.underlying204 sz202) ?_
   refine qk<|qo 14 ?_;refine yv (y_idxAR Tryz.underlying202 sz201 rfl rfl (by omega)) ?_;refine qk<|tH 15 rfl (y_fR 6 29 Tryz.underlying201 sz29) ?_;refine qo 16 ?_;refine Hd.storeO1 sz29 rfl rfl rfl pkk (by rw [rows_len encRW_len];omega) ?_
   try simp only [hyS]
   refine qn<|endH kq ?_;rw [rset_inn hrow hk (by omega)];refine slots [(0,_),(1,_),(2,_),(4,_)] sbq ?_;refine thenN ?_;exact Hd.meet () sbq (Ent.sep (.pick pkk (.eq pkk (own_eq3 rfl rfl (by rw [h2])) enn)))
  have h2:x.up k (riseE vi false)=x:=up_id (by
   have h:(vi && (x.e k).rd)=false:=by rcases hc0 with h | h<;>simp [h]
   unfold riseE;rw [if_neg (by rw [h];simp),if_neg (by simp)])
  have h3:i.1.set n (x,j)=i.1:=by
   obtain ⟨hl,e⟩:=List.getElem?_eq_some_iff.1 hrow
   rw [←e,List.set_getElem_self]
  refine Hd.skip<|thenN ?_;exact Hd.meet () sbq (Ent.sep (.pick pkk (.eq pkk (own_eq3 rfl rfl (by rw [h2,h3])) enn)))
 intro _;refine sr fun _ K2=>?_
 refine yv y_mv<|yv y_mv ?_;apply Hd.andg 12 41 53 [(0,_),(1,_),(2,_)] rfl sbq
 ·intro hg2_41
  try simp only [hyZ] at hg2_41
  simp only [List.take];refine y2 y_mv<|y2 y_np<|y2 (y_f 0 98 Tryz.underlying102 sz98)<|y2 (y_l1 ag98 rfl)<|y2 y_mv<|y2 y_mv<|y2 (y_idxR Tryz.underlying98 sz204 rfl rfl (by omega) (by exact RdS.own pkk)) ?_;refine y2 (y_fR 0 202 Tryz.underlying204 sz202) ?_;refine y2 (y_idxAR Tryz.underlying202 sz201 rfl rfl (by omega)) ?_;refine y2 (y_fR 3 4 Tryz.underlying201 sz4) ?_;refine y2 (y_to (v':=.bool (x.e k).wr) (y_rc ag4 rfl hrow2 hk 3 rfl) (by (rw [up_at];rfl))) ?_;refine yv (y_pickT rfl rfl) ?_;exact Hd.mn
 ·intro hg2_41
  try simp only [hyZ] at hg2_41
  simp only [List.take];refine n1<|n1<|n1<|n1<|n1<|n1<|n1<|n1<|n1<|n1<|n1<|yv (y_pickF rfl rfl) ?_;exact Hd.mn
 simp only [List.drop];refine fk [(0,_),(1,_),(2,_),(53,_)] K2 ?_;refine qz ?_ ?_<;>intro hc1<;>try simp only [hyZ] at hc1
 ·refine Hd.drawsH ([RwH b w i.1.length i.2.1 i.2.2,OwS i (i.1.set n (x.up k (riseE vi false),j))]) (fun j=>!([16].contains j)) mixed ?_
  simp only [List.length,Nat.zero_add,Nat.reduceAdd];refine tH 0 rfl y_mv<|tH 1 rfl y_np<|tH 2 rfl (y_f 0 98 Tryz.underlying102 sz98)<|tH 3 rfl (y_l1 ag98 rfl)<|tH 4 rfl y_mv<|tH 5 rfl y_mv<|tH 6 rfl (y_idxR Tryz.underlying98 sz204 rfl rfl (by omega) (by exact RdS.own pkk)) ?_;refine tH 7 rfl (y_fR 0 202 Tryz.underlying204 sz202) ?_;refine tH 8 rfl (y_idxAR Tryz.underlying202 sz201 rfl rfl (by omega)) ?_;refine tH 9 rfl (y_fR 7 29 Tryz.underlying201 sz29) ?_;refine tH 10 rfl (y_to (v':=.int .u64 (x.e k).out) (y_rc ag29 rfl hrow2 hk 7 rfl) (by (rw [up_at];simp [riseE]))) ?_;refine tH 11 rfl (y_add rfl rfl) ?_;refine qo 12 ?_;refine yv (y_idxR Tryz.underlying98 sz204 rfl rfl (by omega) (by exact RdS.own pkk)) ?_;refine qk<|qo 13 ?_;refine yv (y_fR 0 202 Tryz.underlying204 sz202) ?_;refine qk<|qo 14 ?_
  refine yv (y_idxAR Tryz.underlying202 sz201 rfl rfl (by omega)) ?_;refine qk<|tH 15 rfl (y_fR 7 29 Tryz.underlying201 sz29) ?_;refine qo 16 ?_;refine Hd.storeO1 sz29 rfl rfl rfl pkk (by rw [rows_len encRW_len,List.length_set];omega) ?_
  try simp only [hyS]
  refine qn<|endH kq ?_;rw [rset_out hrow2 hk (by omega),List.set_set,up_up];refine slots [] sbq ?_
  have h2:(x.up k fun e=>{ riseE vi false e with out:=IntKind.u64.wrap ((x.e k).out + 1) })=x.up k (riseE vi vo):=up_eq (by simp [riseE,hc1.1,hc1.2])
  rw [h2];exact Hd.end0 rfl () rfl (fun q s=>rw_head (x':=x.up k (riseE vi vo)) hi hrow (fun j _=>up_b x k (f:=riseE vi vo) (fun _=>rfl) j) rfl q (Ent.sep enn q s))
 refine Hd.skip ?_
 have h2:x.up k (riseE vi false)=x.up k (riseE vi vo):=up_eq (by
  have h:(vo && (x.e k).wr)=false:=by rcases hc1 with h | h<;>simp [h]
  unfold riseE;congr 1;rw [if_neg (by simp),if_neg (by rw [h];simp)])
 rw [h2];exact Hd.end0 rfl () rfl (fun q s=>rw_head (x':=x.up k (riseE vi vo)) hi hrow (fun j _=>up_b x k (f:=riseE vi vo) (fun _=>rfl) j) rfl q (Ent.sep enn q s))
theorem setW_setW {w:WA} {n:Nat} {x y:WireA}:(w.setW n x).setW n y=w.setW n y:=by
 show ({ w with ws:=_ }:WA)={ w with ws:=_ }
 congr 1
 show (w.ws.set n x).set n y=_
 rw [List.set_set]
def RwI.upB (j:RwI) (k:Nat) (a:Option Addr) (c:Nat):RwI:={ j with a:=fun q=>if q=k then a else j.a q,c:=fun q=>if q=k then c else j.c q }
theorem upB_a (j:RwI) (k:Nat) (a:Option Addr) (c:Nat):(j.upB k a c).a k=a∧(j.upB k a c).c k=c:=⟨if_pos rfl,if_pos rfl⟩
theorem upB_ne (j:RwI) {k q:Nat} (a:Option Addr) (c:Nat) (h:q≠k):(j.upB k a c).a q=j.a q∧(j.upB k a c).c q=j.c q:=⟨if_neg h,if_neg h⟩
theorem rset_b {rs:List Row} {n k o m c:Nat} {x:WireA} {j:RwI} {l:List UInt8} {a:Option Addr} (h:rs[n]?=some (x,j)) (hk:k < 2) (ho:o=n * 20 + k * 8 + 4) (hl:l.length=m):(rs.flatMap encRW).set o (.slice a m c)=(rs.set n (x.up k fun e=>{ e with b:=l },j.upB k a c)).flatMap encRW:=by
 refine rset h hk (j:=4) (by decide) ho ?_ ?_ rfl
 ·rw [up_at,(upB_a j k a c).1,(upB_a j k a c).2,←hl];rfl
 ·rw [up_ne _ _ (by omega),(upB_ne j a c (by omega:1 - k≠k)).1,(upB_ne j a c (by omega:1 - k≠k)).2]
theorem sd_b {k c:Nat} {x:WireA} {j:RwI} {l:List UInt8} {a:Option Addr} {L:List SP} (hk:k < 2):∀ h,sep (own 5 1 a l.length c (bsl l)::SdB (x,j) (1 - k)::SdW (x,j)::L) h→sep (Sd (x.up k fun e=>{ e with b:=l },j.upB k a c)::L) h:=fun h s=>by
 refine sd_fold hk h ?_;unfold SdL SdB;dsimp only;rw [up_at,up_ne _ _ (by omega:1 - k≠k),(upB_a j k a c).1,(upB_a j k a c).2,(upB_ne j a c (by omega:1 - k≠k)).1,(upB_ne j a c (by omega:1 - k≠k)).2];exact s
theorem rget_ct (L:List SP) (b:Nat) (w:WA) (n:Nat) (x:WireA) (hx:w.ws[n]?=some x) (k:Nat) (hk:k < 2) (many:Int) (hm:0≤many):Ct Tryz.prog 120 #[.pointer (some ⟨b,0,none⟩),.int .i64 (n:Int),.int .i64 (k:Int),.int .i64 many] (RwP b w::L) (fun q_:Option Addr×Nat=>.slice q_.1 ((x.e k).b.take many.toNat).length q_.2) (fun q_:Option Addr×Nat=>own 5 1 q_.1 ((x.e k).b.take many.toNat).length ((x.e k).b.take many.toNat).length (bsl ((x.e k).b.take many.toNat))::RwP b (w.setW n (takeW x k many.toNat))::L):=by
 refine Ct.o4 Tryz.func120 ?_;intro E
 show Hd E 50 _ _ _ _
 refine Hd.rw .here (fun i hi=>?_)
 have hrl:=rows_n hi
 obtain ⟨j,hrow⟩:=row_at hi hx
 have hn:n < i.1.length:=(List.getElem?_eq_some_iff.1 hrow).1
 have hk1:1 - k < 2:=by omega
 refine Hd.bagOut pkk hrow ?_;refine Hd.sd .here k hk ?_
 obtain ⟨bs,hbs⟩:∃ bs,bs=(x.e k).b:=⟨_,rfl⟩
 obtain ⟨kn,hkn⟩:∃ q,q=min many.toNat bs.length:=⟨_,rfl⟩
 have htk:bs.take many.toNat=bs.take kn:=by
  rw [hkn]
  rcases Nat.le_total many.toNat bs.length with h | h
  ·rw [Nat.min_eq_left h]
  ·rw [Nat.min_eq_right h,List.take_length,List.take_of_length_le h]
 have hdk:bs.drop many.toNat=bs.drop kn:=by
  rw [hkn]
  rcases Nat.le_total many.toNat bs.length with h | h
  ·rw [Nat.min_eq_left h]
  ·rw [Nat.min_eq_right h,List.drop_length,List.drop_of_length_le h]
 have hkl:kn≤bs.length:=by omega
 have htl:(bs.take kn).length=kn:=by rw [List.length_take];omega
 refine Hd.ownCap (e:=5) (ad:=j.a k) (m:=(x.e k).b.length) (cap:=j.c k) pkk (fun hcap=>?_);rw [←hbs] at hcap
 have hkc:kn≤j.c k:=by omega
 have ex:takeW x k many.toNat=(x.up k fun e=>{ e with b:=bs.drop kn }).up (1 - k) (riseE false (decide (0 < kn))):=by
  unfold takeW;rw [←hbs,htk,htl,show (x.up k fun e=>{ e with b:=e.b.drop many.toNat })=x.up k fun e=>{ e with b:=bs.drop kn } from up_eq (by rw [←hbs,hdk])]
 rw [←hbs,htk,htl,ex];refine sr fun _ K1=>?_
 refine yv y_as<|fk [(0,_),(1,_),(2,_),(3,_)] K1 ?_;refine sr fun _ K2=>?_
 refine yv y_mv<|yv y_np<|yv (y_f 0 98 Tryz.underlying102 sz98)<|yv (y_l1 ag98 rfl)<|yv y_mv<|yv y_mv<|yv (y_idxR Tryz.underlying98 sz204 rfl rfl (by omega) (by exact RdS.own pkk)) ?_;refine yv (y_fR 0 202 Tryz.underlying204 sz202) ?_;refine yv (y_idxAR Tryz.underlying202 sz201 rfl rfl (by omega)) ?_;refine yv (y_fR 4 30 Tryz.underlying201 sz30) ?_;refine yv (y_to (v':=.slice (j.a k) bs.length (j.c k)) (y_rc ag30 rfl hrow hk 4 rfl) (by (rw [hbs]))) ?_;refine yv y_as<|fk [(0,_),(1,_),(2,_),(3,_),(9,_)] K2 ?_;refine Hd.cutK (ι:=Unit) [(0,_),(1,_),(2,_),(9,_)] (fun _=>[(3,.int .i64 (kn:Int))]) (fun _=>SdL (x,j) k (Bag Sd (i.1.take n)::Bag Sd (i.1.drop (n + 1))::RwH b w i.1.length i.2.1 i.2.2::OwR i::L)) ?_ ?_ ⟨rfl,rfl,rfl,rfl,trivial⟩
 ·refine sr fun _ K3=>?_
  refine yv y_mv<|yv y_mv<|yv (y_len Tryz.underlying30 rfl) ?_;refine yv (y_gtr rfl rfl) ?_;refine fk [(0,_),(1,_),(2,_),(3,_),(9,_),(24,_)] K3 ?_;refine qz ?_ ?_<;>intro hc0<;>try simp only [hyZ] at hc0
  ·refine Hd.region ?_
   refine yv y_mv<|yv (y_len Tryz.underlying30 rfl) ?_;refine yv y_as<|Hd.nil<|slots [(0,_),(1,_),(2,_),(3,_),(9,_)] sbq ?_;refine thenN ?_;exact Hd.meet () ⟨congrArg (fun z=>some (Value.int .i64 z)) (by omega),by repeat (first | exact trivial | refine ⟨rfl,?_⟩)⟩ sq
  refine Hd.skip<|thenN ?_;exact Hd.meet () ⟨congrArg (fun z=>some (Value.int .i64 z)) (by omega),by repeat (first | exact trivial | refine ⟨rfl,?_⟩)⟩ sq
 intro _;refine Hd.seq fun _ K4=>?_
 refine Hd.drawsH ([RwH b w i.1.length i.2.1 i.2.2,OwR i]) (fun j=>!([13].contains j)) mixed ?_;simp only [List.length,Nat.zero_add,Nat.reduceAdd];refine tH 0 rfl y_mv<|tH 1 rfl y_np<|tH 2 rfl (y_f 0 98 Tryz.underlying102 sz98)<|tH 3 rfl (y_l1 ag98 rfl)<|tH 4 rfl y_mv<|tH 5 rfl y_mv<|tH 6 rfl y_mv<|tH 7 rfl y_mv<|tH 8 rfl (y_slo_oxxN Tryz.underlying30 sz5 rfl rfl (by omega)) ?_;refine qo 9 ?_;refine yv (y_idxR Tryz.underlying98 sz204 rfl rfl (by omega) (by exact RdS.own pkk)) ?_;refine qk<|qo 10 ?_;refine yv (y_fR 0 202 Tryz.underlying204 sz202) ?_;refine qk<|qo 11 ?_;refine yv (y_idxAR Tryz.underlying202 sz201 rfl rfl (by omega)) ?_;refine qk<|tH 12 rfl (y_fR 4 30 Tryz.underlying201 sz30) ?_;refine qo 13 ?_;refine Hd.storeO1 sz30 rfl rfl rfl pkk (by rw [rows_len encRW_len];omega) ?_
 try simp only [hyS]
 refine qn<|endH kq ?_;rw [rset_b (l:=bs.drop kn) hrow hk (by omega) (by rw [List.length_drop])];refine Hd.ownSplit (e:=5) (ad:=j.a k) (m:=(x.e k).b.length) (cap:=j.c k) (us:=bsl (x.e k).b) pkk kn (bsl (bs.take kn)) (bsl (bs.drop kn)) (by rw [←hbs];exact hkl) (by rw [←hbs];unfold bsl;rw [←List.map_append,List.take_append_drop]) (by unfold bsl;rw [List.length_map,htl,Nat.mul_one]) ?_;refine Hd.heap (RwP b (w.setW n (x.up k fun e=>{ e with b:=bs.drop kn }))::own 5 1 (j.a k) kn kn (bsl (bs.take kn))::L) (sep_trans (sep_trans (Ent.sep (.eq pkk (own_eq3 (by rw [List.length_drop,←hbs]) rfl rfl) enn)) (sd_b (l:=bs.drop kn) (a:=cutA (j.a k) 1 kn (j.c k)) (c:=j.c k - kn) hk)) (sep_trans sq (rw_put hi hn))) ?_;refine sk [(0,_),(1,_),(2,_),(3,_),(9,_)] K4 ?_;refine sr fun _ K5=>?_
 refine yv y_mv<|yv y_mv<|yv y_mv<|yv (y_to (v':=.int .i64 ((1 - k:Nat):Int)) (y_subn rfl rfl (by simp only [InK];omega)) (by (congr 1;omega))) ?_;refine yv y_mv<|yv (y_to (v':=.bool (decide (0 < kn))) (y_gtr rfl rfl) (by (congr 1;simp only [decide_eq_decide];omega))) ?_;refine callE rfl fk199 (rrise_ct _ b _ n _ (setW_self hx) (1 - k) hk1 false (decide (0 < kn))) sq ?_;intro _;rw [setW_setW];refine fk [(3,_),(9,_)] K5 ?_;refine sr fun _ K6=>?_
 refine yv y_mv<|yv y_mv<|yv (y_slo_xoxN Tryz.underlying30 sz5 rfl rfl (by omega)) ?_;refine yv y_as<|fk [(8,_)] K6 ?_;refine Hd.ret ?_;exact Hd.ret1 rfl (j.a k,j.c k) rfl sq
theorem rfill_ct (L:List SP) (b:Nat) (w:WA) (n:Nat) (x:WireA) (hx:w.ws[n]?=some x) (hwf:WfW x) (k:Nat) (hk:k < 2) (ad:Option Addr) (m c:Nat) (bs:List UInt8) (hm:bs.length=m) (hR:RdS L 1 ad m (bsl bs)) (hml:m≤70368744177664) (hmc:m≤c):Ct Tryz.prog 121 #[.pointer (some ⟨b,0,none⟩),.int .i64 (n:Int),.int .i64 (k:Int),.slice ad m c] (RwP b w::L) (fun _:Unit=>.int .i64 (putN x k bs:Nat)) (fun _:Unit=>RwP b (w.setW n (putW x k bs))::L):=by
 refine Ct.o4 Tryz.func121 ?_;intro E
 show Hd E 78 _ _ _ _
 refine Hd.rw .here (fun i hi=>?_)
 have hrl:=rows_n hi
 obtain ⟨j,hrow⟩:=row_at hi hx
 have hn:n < i.1.length:=(List.getElem?_eq_some_iff.1 hrow).1
 have hk1:1 - k < 2:=by omega
 have hle:=hwf.le (1 - k) hk1
 have hcp:=hwf.cap
 refine Hd.bagOut pkk hrow ?_;refine Hd.sd .here (1 - k) hk1 ?_
 obtain ⟨kn,hkn⟩:∃ q,q=putN x k bs:=⟨_,rfl⟩
 have hkn2:kn=min m (x.cap - (x.e (1 - k)).b.length):=by rw [hkn,←hm];rfl
 have htl:(bs.take kn).length=kn:=by rw [List.length_take,hm];omega
 have hRk:RdS L 1 ad kn (bsl (bs.take kn)):=by
  have:=RdS.head (l:=kn) hR (by omega)
  rwa [Nat.mul_one,bsl_take] at this
 have ex:putW x k bs=(x.up (1 - k) fun e=>{ e with b:=(x.e (1 - k)).b++bs.take kn }).up (1 - k) (riseE (decide (0 < kn)) false):=by
  unfold putW;rw [←hkn,show (x.up (1 - k) fun e=>{ e with b:=e.b++bs.take kn })=x.up (1 - k) fun e=>{ e with b:=(x.e (1 - k)).b++bs.take kn } from up_eq rfl]
 rw [←hkn,ex];refine sr fun _ K1=>?_
 refine yv y_as<|fk [(0,_),(1,_),(2,_),(3,_)] K1 ?_;refine Hd.seq fun _ K2=>?_
 refine Hd.quiet mixed kq ?_;refine Hq.yv y_mv ?_;refine Hq.yv y_np ?_;refine Hq.yv (y_f 0 98 Tryz.underlying102 sz98) ?_;refine Hq.yv (y_l1 ag98 rfl) ?_;refine Hq.yv y_mv ?_;refine Hq.yv (y_idxR Tryz.underlying98 sz204 rfl rfl (by omega) (by exact RdS.own pkk)) ?_;refine Hq.yv (y_fR 16 3 Tryz.underlying204 sz3) ?_;refine Hq.yv (y_to (v':=.int .i64 (x.cap:Int)) (y_rw ag3 rfl hrow 16 rfl) (by rfl)) ?_;refine Hq.yv y_mv ?_;refine Hq.yv y_np ?_;refine Hq.yv (y_f 0 98 Tryz.underlying102 sz98) ?_;refine Hq.yv (y_l1 ag98 rfl) ?_;refine Hq.yv y_mv ?_;refine Hq.yv y_mv ?_;refine Hq.yv (y_to (v':=.int .i64 ((1 - k:Nat):Int)) (y_subn rfl rfl (by simp only [InK];omega)) (by (congr 1;omega))) ?_;refine Hq.yv (y_idxR Tryz.underlying98 sz204 rfl rfl (by omega) (by exact RdS.own pkk)) ?_;refine Hq.yv (y_fR 0 202 Tryz.underlying204 sz202) ?_;refine Hq.yv (y_idxAR Tryz.underlying202 sz201 rfl rfl (by omega)) ?_
 refine Hq.yv (y_fR 4 30 Tryz.underlying201 sz30) ?_;refine Hq.yv (y_rc ag30 rfl hrow hk1 4 rfl) ?_;refine Hq.yv (y_len Tryz.underlying30 rfl) ?_;refine Hq.yv (y_to (v':=.int .i64 ((x.cap - (x.e (1 - k)).b.length:Nat):Int)) (y_subn rfl rfl (by simp only [InK];omega)) (by (congr 1;omega))) ?_;refine Hq.yv y_as ?_;refine Hq.nil ?_;refine sk [(0,_),(1,_),(2,_),(3,_),(9,_)] K2 ?_;refine sr fun _ K3=>?_
 refine yv y_mv<|yv (y_len Tryz.underlying30 rfl) ?_;refine yv y_as<|fk [(0,_),(1,_),(2,_),(3,_),(9,_),(10,_)] K3 ?_;refine Hd.cutK (ι:=Unit) [(0,_),(1,_),(2,_),(3,_)] (fun _=>[(10,.int .i64 (kn:Int))]) (fun _=>SdL (x,j) (1 - k) (Bag Sd (i.1.take n)::Bag Sd (i.1.drop (n + 1))::RwH b w i.1.length i.2.1 i.2.2::OwR i::L)) ?_ ?_ ⟨rfl,rfl,rfl,rfl,trivial⟩
 ·refine sr fun _ K4=>?_
  refine yv y_mv<|yv y_mv<|yv (y_gtr rfl rfl) ?_;refine fk [(0,_),(1,_),(2,_),(3,_),(9,_),(10,_),(38,_)] K4 ?_;refine qz ?_ ?_<;>intro hc0<;>try simp only [hyZ] at hc0
  ·refine Hd.region ?_
   refine yv y_mv<|yv y_as<|Hd.nil<|slots [(0,_),(1,_),(2,_),(3,_),(10,_)] sbq ?_;refine thenN ?_;exact Hd.meet () ⟨congrArg (fun z=>some (Value.int .i64 z)) (by omega),by repeat (first | exact trivial | refine ⟨rfl,?_⟩)⟩ sq
  refine Hd.skip<|thenN ?_;exact Hd.meet () ⟨congrArg (fun z=>some (Value.int .i64 z)) (by omega),by repeat (first | exact trivial | refine ⟨rfl,?_⟩)⟩ sq
 intro _;refine sr fun _ K5=>?_
 refine yv y_as<|fk [(0,_),(1,_),(2,_),(3,_),(10,_),(11,_)] K5 ?_;refine Hd.seq fun _ K6=>?_
 refine Hd.ownNil 5 1 none ?_;refine Hd.region<|yv y_mv<|yv y_mv<|yv y_np<|yv (y_f 0 98 Tryz.underlying102 sz98)<|yv (y_l1 ag98 rfl)<|yv y_mv<|yv y_mv<|yv (y_to (v':=.int .i64 ((1 - k:Nat):Int)) (y_subn rfl rfl (by simp only [InK];omega)) (by (congr 1;omega))) ?_;refine yv (y_idxR Tryz.underlying98 sz204 rfl rfl (by omega) (by exact RdS.own pkk)) ?_;refine yv (y_fR 0 202 Tryz.underlying204 sz202) ?_;refine yv (y_idxAR Tryz.underlying202 sz201 rfl rfl (by omega)) ?_;refine yv (y_fR 4 30 Tryz.underlying201 sz30) ?_;refine yv (y_rc ag30 rfl hrow hk1 4 rfl) ?_;refine Hd.append Tryz.underlying30 ty5 rfl rfl rfl pkk (by first | exact RdS.rd (Rd.pt pkk (fun j v e=>by simpa using e)) rfl | (exact RdS.own pkk)) (by simp [Value.oneCell'];done) (by simp only [maxLen];omega) (by omega) (fun ad53 cap53=>?_)
 refine yv y_as<|fk [(0,_),(1,_),(2,_),(3,_),(10,_),(11,_)] K6 ?_;refine Hd.seq fun _ K7=>?_
 refine Hd.drawsH ([RwH b w i.1.length i.2.1 i.2.2,OwR i]) (fun j=>!([16].contains j)) mixed ?_;simp only [List.length,Nat.zero_add,Nat.reduceAdd];refine tH 0 rfl y_mv<|tH 1 rfl y_np<|tH 2 rfl (y_f 0 98 Tryz.underlying102 sz98)<|tH 3 rfl (y_l1 ag98 rfl)<|tH 4 rfl y_mv<|tH 5 rfl y_mv<|tH 6 rfl (y_to (v':=.int .i64 ((1 - k:Nat):Int)) (y_subn rfl rfl (by simp only [InK];omega)) (by (congr 1;omega))) ?_;refine tH 7 rfl y_mv<|tH 8 rfl y_mv<|tH 9 rfl y_mv<|tH 10 rfl (y_slo_xoxN Tryz.underlying30 sz5 rfl rfl (by omega)) ?_;refine Hd.eitherH 11 12 rfl rfl kq ?_ ?_
 ·refine Hd.append Tryz.underlying30 ty5 rfl rfl rfl pkk (by exact RdS.mono hRk sq) (by exact B_one) (by simp only [maxLen];omega) (by omega) (fun ad65 cap65=>?_)
  refine qk<|qo 12 ?_;refine yv (y_idxR Tryz.underlying98 sz204 rfl rfl (by omega) (by exact RdS.own pkk)) ?_;refine qk<|qo 13 ?_;refine yv (y_fR 0 202 Tryz.underlying204 sz202) ?_;refine qk<|qo 14 ?_;refine yv (y_idxAR Tryz.underlying202 sz201 rfl rfl (by omega)) ?_;refine qk<|tH 15 rfl (y_fR 4 30 Tryz.underlying201 sz30) ?_;refine qo 16 ?_;refine Hd.storeO1 sz30 rfl rfl rfl pkk (by rw [rows_len encRW_len];omega) ?_
  try simp only [hyS]
  refine qn<|endH kq ?_;rw [rset_b (l:=(x.e (1 - k)).b++bs.take kn) hrow hk1 (by omega) (by rw [List.length_append,htl])];refine Hd.heap (RwP b (w.setW n (x.up (1 - k) fun e=>{ e with b:=(x.e (1 - k)).b++bs.take kn }))::L) (sep_trans (sep_trans (Ent.sep (.eq pkk (own_eq3 (by rw [List.length_append,htl]) rfl (by unfold bsl;simp)) (.pick pkk (.pick pkk .same)))) (sd_b (l:=(x.e (1 - k)).b++bs.take kn) (a:=ad65) (c:=cap65) hk1)) (sep_trans sq (rw_put hi hn))) ?_;refine sk [(0,_),(1,_),(2,_),(10,_)] K7 ?_;refine sr fun _ K8=>?_
  refine yv y_mv<|yv y_mv<|yv y_mv<|yv (y_to (v':=.int .i64 ((1 - k:Nat):Int)) (y_subn rfl rfl (by simp only [InK];omega)) (by (congr 1;omega))) ?_;refine yv y_mv<|yv (y_to (v':=.bool (decide (0 < kn))) (y_gtr rfl rfl) (by (congr 1;simp only [decide_eq_decide];omega))) ?_;refine callE rfl fk199 (rrise_ct _ b _ n _ (setW_self hx) (1 - k) hk1 (decide (0 < kn)) false) sq ?_;intro _;rw [setW_setW];refine fk [(10,_)] K8 ?_;refine sr fun _ K9=>?_
  refine yv y_mv<|yv y_as<|fk [(8,_)] K9 ?_;refine Hd.ret ?_;exact Hd.ret1 rfl () rfl sq
 refine yv (y_idxR Tryz.underlying98 sz204 rfl rfl (by omega) (by exact RdS.own pkk)) ?_;refine qk<|Hd.eitherH 11 13 rfl rfl kq ?_ ?_
 ·refine Hd.append Tryz.underlying30 ty5 rfl rfl rfl pkk (by exact RdS.mono hRk sq) (by exact B_one) (by simp only [maxLen];omega) (by omega) (fun ad65 cap65=>?_)
  refine qk<|qo 13 ?_;refine yv (y_fR 0 202 Tryz.underlying204 sz202) ?_;refine qk<|qo 14 ?_;refine yv (y_idxAR Tryz.underlying202 sz201 rfl rfl (by omega)) ?_;refine qk<|tH 15 rfl (y_fR 4 30 Tryz.underlying201 sz30) ?_;refine qo 16 ?_;refine Hd.storeO1 sz30 rfl rfl rfl pkk (by rw [rows_len encRW_len];omega) ?_
  try simp only [hyS]
  refine qn<|endH kq ?_;rw [rset_b (l:=(x.e (1 - k)).b++bs.take kn) hrow hk1 (by omega) (by rw [List.length_append,htl])];refine Hd.heap (RwP b (w.setW n (x.up (1 - k) fun e=>{ e with b:=(x.e (1 - k)).b++bs.take kn }))::L) (sep_trans (sep_trans (Ent.sep (.eq pkk (own_eq3 (by rw [List.length_append,htl]) rfl (by unfold bsl;simp)) (.pick pkk (.pick pkk .same)))) (sd_b (l:=(x.e (1 - k)).b++bs.take kn) (a:=ad65) (c:=cap65) hk1)) (sep_trans sq (rw_put hi hn))) ?_;refine sk [(0,_),(1,_),(2,_),(10,_)] K7 ?_;refine sr fun _ K10=>?_
  refine yv y_mv<|yv y_mv<|yv y_mv<|yv (y_to (v':=.int .i64 ((1 - k:Nat):Int)) (y_subn rfl rfl (by simp only [InK];omega)) (by (congr 1;omega))) ?_;refine yv y_mv<|yv (y_to (v':=.bool (decide (0 < kn))) (y_gtr rfl rfl) (by (congr 1;simp only [decide_eq_decide];omega))) ?_;refine callE rfl fk199 (rrise_ct _ b _ n _ (setW_self hx) (1 - k) hk1 (decide (0 < kn)) false) sq ?_;intro _;rw [setW_setW];refine fk [(10,_)] K10 ?_;refine sr fun _ K11=>?_
  refine yv y_mv<|yv y_as<|fk [(8,_)] K11 ?_;refine Hd.ret ?_;exact Hd.ret1 rfl () rfl sq
 refine yv (y_fR 0 202 Tryz.underlying204 sz202) ?_;refine qk<|qo 11 ?_;refine Hd.append Tryz.underlying30 ty5 rfl rfl rfl pkk (by exact RdS.mono hRk sq) (by exact B_one) (by simp only [maxLen];omega) (by omega) (fun ad65 cap65=>?_);refine qk<|qo 14 ?_;refine yv (y_idxAR Tryz.underlying202 sz201 rfl rfl (by omega)) ?_;refine qk<|tH 15 rfl (y_fR 4 30 Tryz.underlying201 sz30) ?_;refine qo 16 ?_;refine Hd.storeO1 sz30 rfl rfl rfl pkk (by rw [rows_len encRW_len];omega) ?_
 try simp only [hyS]
 refine qn<|endH kq ?_;rw [rset_b (l:=(x.e (1 - k)).b++bs.take kn) hrow hk1 (by omega) (by rw [List.length_append,htl])];refine Hd.heap (RwP b (w.setW n (x.up (1 - k) fun e=>{ e with b:=(x.e (1 - k)).b++bs.take kn }))::L) (sep_trans (sep_trans (Ent.sep (.eq pkk (own_eq3 (by rw [List.length_append,htl]) rfl (by unfold bsl;simp)) (.pick pkk (.pick pkk .same)))) (sd_b (l:=(x.e (1 - k)).b++bs.take kn) (a:=ad65) (c:=cap65) hk1)) (sep_trans sq (rw_put hi hn))) ?_;refine sk [(0,_),(1,_),(2,_),(10,_)] K7 ?_;refine sr fun _ K12=>?_
 refine yv y_mv<|yv y_mv<|yv y_mv<|yv (y_to (v':=.int .i64 ((1 - k:Nat):Int)) (y_subn rfl rfl (by simp only [InK];omega)) (by (congr 1;omega))) ?_;refine yv y_mv<|yv (y_to (v':=.bool (decide (0 < kn))) (y_gtr rfl rfl) (by (congr 1;simp only [decide_eq_decide];omega))) ?_;refine callE rfl fk199 (rrise_ct _ b _ n _ (setW_self hx) (1 - k) hk1 (decide (0 < kn)) false) sq ?_;intro _;rw [setW_setW];refine fk [(10,_)] K12 ?_;refine sr fun _ K13=>?_
 refine yv y_mv<|yv y_as<|fk [(8,_)] K13 ?_;refine Hd.ret ?_;exact Hd.ret1 rfl () rfl sq
theorem atN_no {o:Option (Nat×Nat)} (h:atN o < 0):o=none:=by
 cases o with
 | none=>rfl
 | some p=>simp only [atN] at h;omega
theorem atN_yes {o:Option (Nat×Nat)} (h:0≤atN o):∃ n k,o=some (n,k):=by
 cases o with
 | none=>simp only [atN] at h;omega
 | some p=>exact ⟨p.1,p.2,rfl⟩
theorem rRead_ct (L:List SP) (b:Nat) (w:WA) (hw:WOk w) (fd many:Int):Ct Tryz.prog 55 #[.pointer (some ⟨b,0,none⟩),.int .i64 fd,.int .i64 many] (RwP b w::L) (fun q_:Option Addr×Nat=>.tuple #[.slice q_.1 (readR w fd many).1.1.length q_.2,.bool (readR w fd many).1.2.1,.int .i64 (readR w fd many).1.2.2]) (fun q_:Option Addr×Nat=>own 5 1 q_.1 (readR w fd many).1.1.length (readR w fd many).1.1.length (bsl (readR w fd many).1.1)::RwP b (readR w fd many).2::L):=by
 refine Ct.o3 Tryz.func55 ?_;intro E
 show Hd E 86 _ _ _ _
 refine sr fun _ K1=>?_
 refine yv y_as<|yv y_as<|yv y_as<|fk [(0,_),(1,_),(2,_)] K1 ?_;refine sr fun _ K2=>?_
 refine yv y_mv<|yv y_mv<|callE rfl fk117 (rat_ct _ b w hw fd) sq ?_;intro _;refine yv y_mv<|yv y_ex<|yv y_ex<|yv y_as<|yv y_as<|fk [(0,_),(2,_),(9,_),(10,_)] K2 ?_;refine Hd.seq fun _ K3=>?_
 refine sr fun _ K4=>?_
 refine yv y_mv<|yv (y_lss rfl rfl) ?_;refine fk [(0,_),(2,_),(9,_),(10,_),(18,_)] K4 ?_;refine qz ?_ ?_<;>intro hc0<;>try simp only [hyZ] at hc0
 ·have hno:=atN_no hc0
  refine sr fun _ K5=>?_
  refine yv y_as<|yv y_as<|yv y_as<|fk [(6,_),(7,_),(8,_)] K5 ?_;refine Hd.ret<|Hd.thenRet ?_;rw [show readR w fd many=(([],false,110),w) by unfold readR;rw [hno]];exact Hd.ret3 rfl (none,0) rfl rfl rfl rfl (Ent.sep (.ownNil .same))
 obtain ⟨n,k,hnk⟩:=atN_yes (by omega)
 obtain ⟨_,_,hk,_,x,hx,_,_⟩:=hw.at_lt hnk
 rw [show atN (w.at fd)=(n:Int) by rw [hnk];rfl,show atK (w.at fd)=(k:Int) by rw [hnk];rfl]
 have hk1:1 - k < 2:=by omega
 refine Hd.rw .here (fun i hi=>?_)
 have hrl:=rows_n hi
 obtain ⟨j,hrow⟩:=row_at hi hx
 have hn:n < i.1.length:=(List.getElem?_eq_some_iff.1 hrow).1
 have hr:readR w fd many=(if (x.e k).rd=false then (([],false,111),w) else if many < 1 then (([],false,2),w) else if x.rs=true then (([],false,115),w)
   else if (x.e k).b≠[] then (((x.e k).b.take many.toNat,false,0),w.setW n (takeW x k many.toNat))
   else if silentW x k=true then (([],true,0),w) else (([],false,113),w)):=by unfold readR;rw [hnk];dsimp only;rw [hx]
 refine qv K3<|Hd.seq fun _ K6=>?_
 refine sr fun _ K7=>?_
 refine yv y_mv<|yv y_np<|yv (y_f 0 98 Tryz.underlying102 sz98)<|yv (y_l1 ag98 rfl)<|yv y_mv<|yv y_mv<|yv (y_idxR Tryz.underlying98 sz204 rfl rfl (by omega) (by exact RdS.own pkk)) ?_;refine yv (y_fR 0 202 Tryz.underlying204 sz202) ?_;refine yv (y_idxAR Tryz.underlying202 sz201 rfl rfl (by omega)) ?_;refine yv (y_fR 2 4 Tryz.underlying201 sz4) ?_;refine yv (y_rc ag4 rfl hrow hk 2 rfl) ?_;refine yv (y_not rfl)<|fk [(0,_),(2,_),(9,_),(10,_),(30,_)] K7 ?_;refine qz ?_ ?_<;>intro hc1<;>try simp only [hyZ] at hc1
 ·have h1:(x.e k).rd=false:=by simpa using hc1
  refine sr fun _ K8=>?_
  refine yv y_as<|yv y_as<|yv y_as<|fk [(6,_),(7,_),(8,_)] K8 ?_;refine Hd.ret<|Hd.thenRet ?_;rw [hr,if_pos h1];exact Hd.ret3 rfl (none,0) rfl rfl rfl rfl (fun q s=>Ent.sep (.ownNil .same) q (rw_fold hi q s))
 have h1:¬ ((x.e k).rd=false):=by simpa using hc1
 refine qv K6<|Hd.seq fun _ K9=>?_
 refine sr fun _ K10=>?_
 refine yv y_mv<|yv (y_lss rfl rfl) ?_;refine fk [(0,_),(2,_),(9,_),(10,_),(32,_)] K10 ?_;refine qz ?_ ?_<;>intro hc2<;>try simp only [hyZ] at hc2
 ·refine sr fun _ K11=>?_
  refine yv y_as<|yv y_as<|yv y_as<|fk [(6,_),(7,_),(8,_)] K11 ?_;refine Hd.ret<|Hd.thenRet ?_;rw [hr,if_neg h1,if_pos hc2];exact Hd.ret3 rfl (none,0) rfl rfl rfl rfl (fun q s=>Ent.sep (.ownNil .same) q (rw_fold hi q s))
 have h2:¬ (many < 1):=by omega
 refine qv K9<|Hd.seq fun _ K12=>?_
 refine sr fun _ K13=>?_
 refine yv y_mv<|yv y_np<|yv (y_f 0 98 Tryz.underlying102 sz98)<|yv (y_l1 ag98 rfl)<|yv y_mv<|yv (y_idxR Tryz.underlying98 sz204 rfl rfl (by omega) (by exact RdS.own pkk)) ?_;refine yv (y_fR 17 4 Tryz.underlying204 sz4) ?_;refine yv (y_rw ag4 rfl hrow 17 rfl) ?_;refine fk [(0,_),(2,_),(9,_),(10,_),(40,_)] K13 ?_;refine qz ?_ ?_<;>intro hc3<;>try simp only [hyZ] at hc3
 ·refine sr fun _ K14=>?_
  refine yv y_as<|yv y_as<|yv y_as<|fk [(6,_),(7,_),(8,_)] K14 ?_;refine Hd.ret<|Hd.thenRet ?_;rw [hr,if_neg h1,if_neg h2,if_pos hc3];exact Hd.ret3 rfl (none,0) rfl rfl rfl rfl (fun q s=>Ent.sep (.ownNil .same) q (rw_fold hi q s))
 have h3:¬ (x.rs=true):=by rw [hc3];decide
 refine qv K12<|Hd.seq fun _ K15=>?_
 refine sr fun _ K16=>?_
 refine yv y_mv<|yv y_np<|yv (y_f 0 98 Tryz.underlying102 sz98)<|yv (y_l1 ag98 rfl)<|yv y_mv<|yv y_mv<|yv (y_idxR Tryz.underlying98 sz204 rfl rfl (by omega) (by exact RdS.own pkk)) ?_;refine yv (y_fR 0 202 Tryz.underlying204 sz202) ?_;refine yv (y_idxAR Tryz.underlying202 sz201 rfl rfl (by omega)) ?_;refine yv (y_fR 4 30 Tryz.underlying201 sz30) ?_;refine yv (y_rc ag30 rfl hrow hk 4 rfl) ?_;refine yv (y_len Tryz.underlying30 rfl) ?_;refine yv (y_gtr rfl rfl) ?_;refine fk [(0,_),(2,_),(9,_),(10,_),(53,_)] K16 ?_;refine qz ?_ ?_<;>intro hc4<;>try simp only [hyZ] at hc4
 ·have h4:(x.e k).b≠[]:=fun h=>by rw [h] at hc4;simp at hc4
  refine sr fun _ K17=>?_
  refine yv y_mv<|yv y_mv<|yv y_mv<|yv y_mv<|Hd.heap (RwP b w::L) (rw_fold hi) ?_;refine callE rfl fk120 (rget_ct _ b w n x hx k hk many (by omega)) sq ?_;rintro ⟨ad,c⟩;dsimp only;refine yv y_as<|yv y_as<|yv y_as<|fk [(6,_),(7,_),(8,_)] K17 ?_;refine Hd.ret<|Hd.thenRet ?_;rw [hr,if_neg h1,if_neg h2,if_neg h3,if_pos h4];exact Hd.ret3 rfl (ad,c) rfl rfl rfl rfl sq
 have h4:¬ ((x.e k).b≠[]):=fun h=>h (List.eq_nil_of_length_eq_zero (by omega))
 refine qv K15<|Hd.seq fun _ K18=>?_
 refine sr fun _ K19=>?_
 refine yv y_mv<|yv y_np<|yv (y_f 0 98 Tryz.underlying102 sz98)<|yv (y_l1 ag98 rfl)<|yv y_mv<|yv y_mv<|yv (y_to (v':=.int .i64 ((1 - k:Nat):Int)) (y_subn rfl rfl (by simp only [InK];omega)) (by (congr 1;omega))) ?_;refine yv (y_idxR Tryz.underlying98 sz204 rfl rfl (by omega) (by exact RdS.own pkk)) ?_;refine yv (y_fR 0 202 Tryz.underlying204 sz202) ?_;refine yv (y_idxAR Tryz.underlying202 sz201 rfl rfl (by omega)) ?_;refine yv (y_fR 0 3 Tryz.underlying201 sz3) ?_;refine yv (y_rc ag3 rfl hrow hk1 0 rfl) ?_;refine yv (y_eql rfl rfl) ?_;refine yv y_mv ?_;apply Hd.org 13 72 85 [] rfl sbq
 ·intro hg12_72
  try simp only [hyZ] at hg12_72
  simp only [List.take];refine n1<|n1<|n1<|n1<|n1<|n1<|n1<|n1<|n1<|n1<|n1<|n1<|yv (y_pickT rfl rfl) ?_;exact Hd.mn
 ·intro hg12_72
  try simp only [hyZ] at hg12_72
  simp only [List.take];refine y2 y_mv<|y2 y_np<|y2 (y_f 0 98 Tryz.underlying102 sz98)<|y2 (y_l1 ag98 rfl)<|y2 y_mv<|y2 y_mv<|y2 (y_to (v':=.int .i64 ((1 - k:Nat):Int)) (y_subn rfl rfl (by simp only [InK];omega)) (by (congr 1;omega))) ?_;refine y2 (y_idxR Tryz.underlying98 sz204 rfl rfl (by omega) (by exact RdS.own pkk)) ?_;refine y2 (y_fR 0 202 Tryz.underlying204 sz202) ?_;refine y2 (y_idxAR Tryz.underlying202 sz201 rfl rfl (by omega)) ?_;refine y2 (y_fR 5 4 Tryz.underlying201 sz4) ?_;refine y2 (y_rc ag4 rfl hrow hk1 5 rfl) ?_;refine yv (y_pickF rfl rfl) ?_;exact Hd.mn
 simp only [List.drop];refine fk [(85,_)] K19 ?_;refine qz ?_ ?_<;>intro hc5<;>try simp only [hyZ] at hc5
 ·have h5:silentW x k=true:=by unfold silentW;simpa using hc5
  refine sr fun _ K20=>?_
  refine yv y_as<|yv y_as<|yv y_as<|fk [(6,_),(7,_),(8,_)] K20 ?_;refine Hd.ret<|Hd.thenRet ?_;rw [hr,if_neg h1,if_neg h2,if_neg h3,if_neg h4,if_pos h5];exact Hd.ret3 rfl (none,0) rfl rfl rfl rfl (fun q s=>Ent.sep (.ownNil .same) q (rw_fold hi q s))
 have h5:¬ (silentW x k=true):=by unfold silentW;simp [hc5.1,hc5.2]
 refine qv K18<|sr fun _ K21=>?_
 refine yv y_as<|yv y_as<|yv y_as<|fk [(6,_),(7,_),(8,_)] K21 ?_;refine Hd.ret ?_;rw [hr,if_neg h1,if_neg h2,if_neg h3,if_neg h4,if_neg h5];exact Hd.ret3 rfl (none,0) rfl rfl rfl rfl (fun q s=>Ent.sep (.ownNil .same) q (rw_fold hi q s))
theorem rWrite_ct (L:List SP) (b:Nat) (w:WA) (hw:WOk w) (fd:Int) (ad:Option Addr) (m c:Nat) (bs:List UInt8) (hm:bs.length=m) (hR:RdS L 1 ad m (bsl bs)) (hml:m≤70368744177664) (hmc:m≤c):Ct Tryz.prog 56 #[.pointer (some ⟨b,0,none⟩),.int .i64 fd,.slice ad m c] (RwP b w::L) (fun _:Unit=>.tuple #[.int .i64 (writeR w fd bs).1.1,.int .i64 (writeR w fd bs).1.2]) (fun _:Unit=>RwP b (writeR w fd bs).2::L):=by
 refine Ct.o3 Tryz.func56 ?_;intro E
 show Hd E 76 _ _ _ _
 refine sr fun _ K1=>?_
 refine yv y_as<|yv y_as<|fk [(0,_),(1,_),(2,_)] K1 ?_;refine sr fun _ K2=>?_
 refine yv y_mv<|yv y_mv<|callE rfl fk117 (rat_ct _ b w hw fd) sq ?_;intro _;refine yv y_mv<|yv y_ex<|yv y_ex<|yv y_as<|yv y_as<|fk [(0,_),(2,_),(8,_),(9,_)] K2 ?_;refine Hd.seq fun _ K3=>?_
 refine sr fun _ K4=>?_
 refine yv y_mv<|yv (y_lss rfl rfl) ?_;refine fk [(0,_),(2,_),(8,_),(9,_),(18,_)] K4 ?_;refine qz ?_ ?_<;>intro hc0<;>try simp only [hyZ] at hc0
 ·have hno:=atN_no hc0
  refine sr fun _ K5=>?_
  refine yv y_as<|yv y_as<|fk [(6,_),(7,_)] K5 ?_;refine Hd.ret<|Hd.thenRet ?_;rw [show writeR w fd bs=((0,110),w) by unfold writeR;rw [hno]];exact Hd.ret2 rfl () rfl rfl rfl sq
 obtain ⟨n,k,hnk⟩:=atN_yes (by omega)
 obtain ⟨_,_,hk,_,x,hx,_,_⟩:=hw.at_lt hnk
 have hwf:=hw.wf x (List.mem_of_getElem? hx)
 rw [show atN (w.at fd)=(n:Int) by rw [hnk];rfl,show atK (w.at fd)=(k:Int) by rw [hnk];rfl]
 have hk1:1 - k < 2:=by omega
 refine Hd.rw .here (fun i hi=>?_)
 have hrl:=rows_n hi
 obtain ⟨j,hrow⟩:=row_at hi hx
 have hn:n < i.1.length:=(List.getElem?_eq_some_iff.1 hrow).1
 have hr:writeR w fd bs=(if (x.e k).wr=false then ((0,111),w) else if x.rs=true then ((0,115),w) else if (x.e k).shut=true∨(x.e (1 - k)).what=3 then ((0,114),w)
   else if bs.length=0 then ((0,0),w) else if putN x k bs=0 then ((0,113),w) else ((((putN x k bs:Nat):Int),0),w.setW n (putW x k bs))):=by unfold writeR;rw [hnk];dsimp only;rw [hx]
 refine qv K3<|Hd.seq fun _ K6=>?_
 refine sr fun _ K7=>?_
 refine yv y_mv<|yv y_np<|yv (y_f 0 98 Tryz.underlying102 sz98)<|yv (y_l1 ag98 rfl)<|yv y_mv<|yv y_mv<|yv (y_idxR Tryz.underlying98 sz204 rfl rfl (by omega) (by exact RdS.own pkk)) ?_;refine yv (y_fR 0 202 Tryz.underlying204 sz202) ?_;refine yv (y_idxAR Tryz.underlying202 sz201 rfl rfl (by omega)) ?_;refine yv (y_fR 3 4 Tryz.underlying201 sz4) ?_;refine yv (y_rc ag4 rfl hrow hk 3 rfl) ?_;refine yv (y_not rfl)<|fk [(0,_),(2,_),(8,_),(9,_),(30,_)] K7 ?_;refine qz ?_ ?_<;>intro hc1<;>try simp only [hyZ] at hc1
 ·have h1:(x.e k).wr=false:=by simpa using hc1
  refine sr fun _ K8=>?_
  refine yv y_as<|yv y_as<|fk [(6,_),(7,_)] K8 ?_;refine Hd.ret<|Hd.thenRet ?_;rw [hr,if_pos h1];exact Hd.ret2 rfl () rfl rfl rfl (rw_fold hi)
 have h1:¬ ((x.e k).wr=false):=by simpa using hc1
 refine qv K6<|Hd.seq fun _ K9=>?_
 refine sr fun _ K10=>?_
 refine yv y_mv<|yv y_np<|yv (y_f 0 98 Tryz.underlying102 sz98)<|yv (y_l1 ag98 rfl)<|yv y_mv<|yv (y_idxR Tryz.underlying98 sz204 rfl rfl (by omega) (by exact RdS.own pkk)) ?_;refine yv (y_fR 17 4 Tryz.underlying204 sz4) ?_;refine yv (y_rw ag4 rfl hrow 17 rfl) ?_;refine fk [(0,_),(2,_),(8,_),(9,_),(38,_)] K10 ?_;refine qz ?_ ?_<;>intro hc2<;>try simp only [hyZ] at hc2
 ·refine sr fun _ K11=>?_
  refine yv y_as<|yv y_as<|fk [(6,_),(7,_)] K11 ?_;refine Hd.ret<|Hd.thenRet ?_;rw [hr,if_neg h1,if_pos hc2];exact Hd.ret2 rfl () rfl rfl rfl (rw_fold hi)
 have h2:¬ (x.rs=true):=by rw [hc2];decide
 refine qv K9<|Hd.seq fun _ K12=>?_
 refine sr fun _ K13=>?_
 refine yv y_mv<|yv y_np<|yv (y_f 0 98 Tryz.underlying102 sz98)<|yv (y_l1 ag98 rfl)<|yv y_mv<|yv y_mv<|yv (y_idxR Tryz.underlying98 sz204 rfl rfl (by omega) (by exact RdS.own pkk)) ?_;refine yv (y_fR 0 202 Tryz.underlying204 sz202) ?_;refine yv (y_idxAR Tryz.underlying202 sz201 rfl rfl (by omega)) ?_;refine yv (y_fR 5 4 Tryz.underlying201 sz4) ?_;refine yv (y_rc ag4 rfl hrow hk 5 rfl) ?_;refine yv y_mv ?_;apply Hd.org 14 50 64 [(0,_),(2,_),(8,_),(9,_)] rfl sbq
 ·intro hg8_50
  try simp only [hyZ] at hg8_50
  simp only [List.take];refine n1<|n1<|n1<|n1<|n1<|n1<|n1<|n1<|n1<|n1<|n1<|n1<|n1<|yv (y_pickT rfl rfl) ?_;exact Hd.mn
 ·intro hg8_50
  try simp only [hyZ] at hg8_50
  simp only [List.take];refine y2 y_mv<|y2 y_np<|y2 (y_f 0 98 Tryz.underlying102 sz98)<|y2 (y_l1 ag98 rfl)<|y2 y_mv<|y2 y_mv<|y2 (y_to (v':=.int .i64 ((1 - k:Nat):Int)) (y_subn rfl rfl (by simp only [InK];omega)) (by (congr 1;omega))) ?_;refine y2 (y_idxR Tryz.underlying98 sz204 rfl rfl (by omega) (by exact RdS.own pkk)) ?_;refine y2 (y_fR 0 202 Tryz.underlying204 sz202) ?_;refine y2 (y_idxAR Tryz.underlying202 sz201 rfl rfl (by omega)) ?_;refine y2 (y_fR 0 3 Tryz.underlying201 sz3) ?_;refine y2 (y_rc ag3 rfl hrow hk1 0 rfl) ?_;refine y2 (y_eql rfl rfl) ?_;refine yv (y_pickF rfl rfl) ?_;exact Hd.mn
 simp only [List.drop];refine fk [(0,_),(2,_),(8,_),(9,_),(64,_)] K13 ?_;refine qz ?_ ?_<;>intro hc3<;>try simp only [hyZ] at hc3
 ·have h3:(x.e k).shut=true∨(x.e (1 - k)).what=3:=by simpa using hc3
  refine sr fun _ K14=>?_
  refine yv y_as<|yv y_as<|fk [(6,_),(7,_)] K14 ?_;refine Hd.ret<|Hd.thenRet ?_;rw [hr,if_neg h1,if_neg h2,if_pos h3];exact Hd.ret2 rfl () rfl rfl rfl (rw_fold hi)
 have h3:¬ ((x.e k).shut=true∨(x.e (1 - k)).what=3):=by
  rintro (h | h)<;>simp [h] at hc3
 refine qv K12<|Hd.seq fun _ K15=>?_
 refine sr fun _ K16=>?_
 refine yv y_mv<|yv (y_len Tryz.underlying30 rfl) ?_;refine yv (y_eql rfl rfl) ?_;refine fk [(0,_),(2,_),(8,_),(9,_),(67,_)] K16 ?_;refine qz ?_ ?_<;>intro hc4<;>try simp only [hyZ] at hc4
 ·have h4:bs.length=0:=by omega
  refine sr fun _ K17=>?_
  refine yv y_as<|yv y_as<|fk [(6,_),(7,_)] K17 ?_;refine Hd.ret<|Hd.thenRet ?_;rw [hr,if_neg h1,if_neg h2,if_neg h3,if_pos h4];exact Hd.ret2 rfl () rfl rfl rfl (rw_fold hi)
 have h4:¬ (bs.length=0):=by omega
 refine qv K15<|sr fun _ K18=>?_
 refine yv y_mv<|yv y_mv<|yv y_mv<|yv y_mv<|Hd.heap (RwP b w::L) (rw_fold hi) ?_;refine callE rfl fk121 (rfill_ct L b w n x hx hwf k hk ad m c bs hm hR hml hmc) sq ?_;intro _;refine yv y_as<|fk [(10,_)] K18 ?_;refine Hd.seq fun _ K19=>?_
 refine sr fun _ K20=>?_
 refine yv y_mv<|yv (y_eql rfl rfl) ?_;refine fk [(10,_),(74,_)] K20 ?_;refine qz ?_ ?_<;>intro hc5<;>try simp only [hyZ] at hc5
 ·have h5:putN x k bs=0:=by omega
  refine sr fun _ K21=>?_
  refine yv y_as<|yv y_as<|fk [(6,_),(7,_)] K21 ?_;refine Hd.ret<|Hd.thenRet ?_;rw [hr,if_neg h1,if_neg h2,if_neg h3,if_neg h4,if_pos h5];exact Hd.ret2 rfl () rfl rfl rfl (Ent.sep (.eq pkk (by rw [putW_zero h5,setW_same hx]) enn))
 have h5:¬ (putN x k bs=0):=by omega
 refine qv K19<|sr fun _ K22=>?_
 refine yv y_mv<|yv y_as<|yv y_as<|fk [(6,_),(7,_)] K22 ?_;refine Hd.ret ?_;rw [hr,if_neg h1,if_neg h2,if_neg h3,if_neg h4,if_neg h5];exact Hd.ret2 rfl () rfl rfl rfl sq
end Rf
end Go.Proofs.YtmpemhbfgbochaaGreatDoor
namespace Go.Proofs.YtmpemhbfgbochaaGreatDoor
open Go.RX Fx
namespace Wo
def mkN (w:WA) (k:Nat):Int:=if mkE w k=0 then (w.ws.length:Int) else 0
theorem mkW_len {w:WA} {k:Nat} {x:WireA} (h:mkE w k=0):(mkW w k x).ws.length=w.ws.length + 1:=by
 unfold mkE at h;unfold mkW
 by_cases h1:mkOk w k=true
 ·rw [if_pos h1]
  show (w.ws++[_]).length=_
  rw [List.length_append];rfl
 ·rw [if_neg h1] at h;exact absurd h (by decide)
def pipeW (n:Nat):WireA:=((halfW n 2).up 0 fun e=>{ e with wr:=false }).up 1 fun e=>{ e with rd:=false }
theorem pipe_new {n l:Nat} (h:n≤65536):NewW (pipeW n) l:=by
 have e:∀ k,k < 2→((pipeW n).e k).b=[]∧((pipeW n).e k).what=0:=fun k hk=>by
  rcases (show k=0∨k=1 by omega) with rfl | rfl<;>exact ⟨rfl,rfl⟩
 refine ⟨⟨fun k hk=>?_,fun k hk=>by rw [(e k hk).1];exact Nat.zero_le _,fun k hk _=>(e k hk).1,h,fun k hk=>by rw [(e k hk).2];decide,⟨Int.le_refl _,by show (0:Int)≤64;decide,by show ((0:Nat):Int)≤0;decide⟩,fun h1=>absurd h1 (by rw [(e 1 (by omega)).2];decide)⟩,fun k hk=>by rw [(e k hk).2];decide,rfl⟩
 rcases (show k=0∨k=1 by omega) with rfl | rfl<;>rfl
def listW (n:Nat):WireA:={ e:=fun _=>blankE,cap:=n,rs:=false,bl:=(n:Int),wt:=[] }
theorem list_new {n l:Nat} (h:n≤64):NewW (listW n) l :=
 ⟨⟨fun k hk=>rfl,fun k hk=>Nat.zero_le _,fun k hk _=>rfl,by show n≤65536;omega,fun k hk=>by show (0:Int)≤0∧(0:Int)≤3;decide,⟨by show (0:Int)≤(n:Int);omega,by show (n:Int)≤64;omega,by show ((0:Nat):Int)≤(n:Int);omega⟩,fun h1=>absurd (show (0:Int)=2 from h1) (by decide)⟩,fun k hk=>by show (0:Int)≠1;decide,rfl⟩
def mayE (s:Int):Int:=if 1≤s∧s≤31 then 0 else 100
theorem mayE_0 {s:Int}:mayE s=0↔1≤s∧s≤31:=by unfold mayE;split<;>simp_all
theorem is_ct (L:List SP) (s:Int):Ct Tryz.prog 237 #[.int .i64 s] (L) (fun _:Unit=>.bool (decide (s ≥ 1) && decide (s≤31))) (fun _:Unit=>L):=by
 refine Ct.o1 Tryz.func237 ?_;intro E
 show Hd E 9 _ _ _ _
 refine sr fun _ K1=>?_
 refine yv y_as<|fk [(0,_)] K1 ?_;refine sr fun _ K2=>?_
 refine yv y_mv<|yv (y_geq rfl rfl) ?_;refine yv y_mv ?_;apply Hd.andg 3 5 8 [] rfl sbq
 ·intro hg1_5
  try simp only [hyZ] at hg1_5
  simp only [List.take];refine y2 y_mv<|y2 (y_leq rfl rfl) ?_;refine yv (y_pickT rfl rfl) ?_;exact Hd.mn
 ·intro hg1_5
  try simp only [hyZ] at hg1_5
  simp only [List.take];refine n1<|n1<|yv (y_pickF rfl rfl) ?_;exact Hd.mn
 simp only [List.drop];refine yv y_as<|fk [(2,_)] K2 ?_;refine Hd.ret ?_;exact Hd.ret1 rfl () (by rfl) sq
theorem may_ct (L:List SP) (sb:Nat) (s:Int):Ct Tryz.prog 215 #[.pointer (some ⟨sb,0,none⟩),.int .i64 s] (L) (fun _:Unit=>.int .i64 (mayE s)) (fun _:Unit=>L):=by
 refine Ct.o2 Tryz.func215 ?_;intro E
 show Hd E 12 _ _ _ _
 refine sr fun _ K1=>?_
 refine yv y_as<|fk [(0,_),(1,_)] K1 ?_;refine Hd.seq fun _ K2=>?_
 refine Hd.block<|sr fun _ K3=>?_
 refine yv y_mv<|yv (y_eql_pointer Tryz.underlying179 rfl rfl) ?_;refine yv y_as<|fk [(1,_),(5,_)] K3 ?_;refine Hd.condF rfl ?_;refine sr fun _ K4=>?_
 refine yv y_mv<|callE rfl fk237 (is_ct _ s) sq ?_;intro _;refine yv (y_not rfl)<|yv y_as<|fk [(8,_)] K4 ?_;refine qz ?_ ?_<;>intro hc1<;>try simp only [hyZ] at hc1
 ·refine sr fun _ K5=>?_
  refine yv y_as<|fk [(4,_)] K5 ?_;refine Hd.ret<|Hd.inBret<|Hd.thenRet ?_;rw [show mayE s=100 from if_neg (by omega)];exact Hd.ret1 rfl () rfl sq
 refine Hd.skip<|Hd.inB<|Hd.toK K2 ?_;refine sr fun _ K6=>?_
 refine yv y_as<|fk [(4,_)] K6 ?_;refine Hd.ret ?_;rw [show mayE s=0 from if_pos (by omega)];exact Hd.ret1 rfl () rfl sq
abbrev SgV (hd:List Bool) (ct:List Int):List Value:=hd.map .bool++ct.map (Value.int .i64)
theorem sg_hd {hd:List Bool} {ct:List Int} {s o:Nat} (hl:hd.length=32) (hs:s < 32) (ho:o=s):(SgV hd ct)[o]?=some (.bool (hd.getD s false)):=by
 subst ho;rw [List.getElem?_append_left (by rw [List.length_map];omega),List.getElem?_map,List.getD_eq_getElem?_getD,List.getElem?_eq_getElem (by omega)];rfl
theorem sg_ct {hd:List Bool} {ct:List Int} {s o:Nat} (hl:hd.length=32) (hc:ct.length=32) (hs:s < 32) (ho:o=32 + s):(SgV hd ct)[o]?=some (.int .i64 (ct.getD s 0)):=by
 subst ho;rw [List.getElem?_append_right (by rw [List.length_map];omega),List.length_map,hl,Nat.add_sub_cancel_left,List.getElem?_map,List.getD_eq_getElem?_getD,List.getElem?_eq_getElem (by omega)];rfl
def cntS (ct:List Int) (s:Int):Int:=if 1≤s∧s≤31 then ct.getD s.toNat 0 else 0
theorem count_ct (L:List SP) (sb:Nat) (hd:List Bool) (ct:List Int) (hl:hd.length=32) (hcl:ct.length=32) (s:Int):Ct Tryz.prog 164 #[.pointer (some ⟨sb,0,none⟩),.int .i64 s] (SigP sb hd ct::L) (fun _:Unit=>.int .i64 (cntS ct s)) (fun _:Unit=>SigP sb hd ct::L):=by
 refine Ct.o2 Tryz.func164 ?_;intro E
 show Hd E 15 _ _ _ _
 refine sr fun _ K1=>?_
 refine yv y_as<|fk [(0,_),(1,_)] K1 ?_;refine Hd.seq fun _ K2=>?_
 refine sr fun _ K3=>?_
 refine yv y_mv<|yv y_mv<|callE rfl fk215 (may_ct _ sb s) sq ?_;intro _;refine yv (y_neq rfl rfl) ?_;refine fk [(0,_),(1,_),(8,_)] K3 ?_;refine qz ?_ ?_<;>intro hc0<;>try simp only [hyZ] at hc0
 ·refine sr fun _ K4=>?_
  refine yv y_as<|fk [(4,_)] K4 ?_;refine Hd.ret<|Hd.thenRet ?_;rw [show cntS ct s=0 from if_neg (fun h=>hc0 (mayE_0.2 h))];exact Hd.ret1 rfl () rfl sq
 have hs:=mayE_0.1 hc0
 obtain ⟨k,rfl⟩:∃ k:Nat,s=(k:Int):=⟨s.toNat,by omega⟩
 have hk:k < 32:=by omega
 refine qv K2<|sr fun _ K5=>?_
 refine yv y_mv<|yv y_mv<|yv y_np<|yv (y_f 32 100 Tryz.underlying270 sz100)<|yv (y_idxA Tryz.underlying100 sz3 rfl rfl (by omega)) ?_;refine yv (y_load1 ag3 rfl (Rd.pt1 pkk (by exact sg_ct hl hcl hk (by omega)))) ?_;refine yv y_as<|fk [(4,_)] K5 ?_;refine Hd.ret ?_;rw [show cntS ct (k:Int)=ct.getD k 0 from if_pos hs];exact Hd.ret1 rfl () rfl sq
theorem cntF_app:∀ (a b:List Int) (i:Nat),cntF i (a++b)=cntF i a++cntF (i + a.length) b
 | [],b,i=>rfl
 | c::t,b,i=>by
  show (if i=0∨c=0 then cntF (i + 1) (t++b) else ((i:Int),c)::cntF (i + 1) (t++b))=(if i=0∨c=0 then cntF (i + 1) t else ((i:Int),c)::cntF (i + 1) t)++cntF (i + (t.length + 1)) b
  rw [cntF_app t b (i + 1),show i + 1 + t.length=i + (t.length + 1) by omega]
  split<;>rfl
theorem cntF_succ {ct:List Int} {i:Nat} (h:i < ct.length):cntF 0 (ct.take (i + 1))=cntF 0 (ct.take i)++(if i=0∨ct.getD i 0=0 then [] else [((i:Int),ct.getD i 0)]):=by
 rw [List.take_add_one,List.getElem?_eq_getElem h,Option.toList_some,cntF_app,List.length_take,Nat.min_eq_left (by omega),Nat.zero_add,List.getD_eq_getElem?_getD,List.getElem?_eq_getElem h]
 show _++(if i=0∨ct[i]=0 then cntF (i + 1) [] else ((i:Int),ct[i])::cntF (i + 1) [])=_
 rfl
theorem cntF_pre (ct:List Int) (i:Nat):cntF 0 (ct.take i) <+: cntF 0 ct:=by
 conv=>rhs;rw [←List.take_append_drop i ct]
 rw [cntF_app];exact List.prefix_append _ _
theorem cntF_le:∀ (l:List Int) (i:Nat),(cntF i l).length≤l.length
 | [],_=>Nat.le_refl _
 | c::t,i=>by
  have:=cntF_le t (i + 1)
  show (if i=0∨c=0 then cntF (i + 1) t else ((i:Int),c)::cntF (i + 1) t).length≤_
  split<;>simp only [List.length_cons]<;>omega
abbrev encCn (p:Int×Int):List Value:=[.int .i64 p.1,.int .i64 p.2]
abbrev encCA (p:Int×Int):List Value:=[.agg (encCn p).toArray]
abbrev SgX (bx sb:Nat) (hd:List Bool) (ct:List Int) (L:List SP):List SP:=pt bx [.pointer (some ⟨sb,0,none⟩)] 179::SigP sb hd ct::L
theorem counts_ct (L:List SP) (sb:Nat):Ct Tryz.prog 214 #[.pointer (some ⟨sb,0,none⟩)] (L) (fun bx:Nat=>.func (.func 236) #[] #[.pointer (some ⟨bx,0,none⟩)]) (fun bx:Nat=>pt bx [.pointer (some ⟨sb,0,none⟩)] 179::L):=by
 refine Ct.o1 Tryz.func214 ?_;intro E
 show Hd E 4 _ _ _ _
 refine sr fun _ K1=>?_
 refine Hd.box rfl rfl (fun b1=>?_);refine yv y_as<|fk [(1,_)] K1 ?_;refine sr fun _ K2=>?_
 refine yv (y_mkf (fv:=[]) (cv:=[_]) rfl rfl) ?_;refine yv y_as<|fk [(2,_)] K2 ?_;refine Hd.ret ?_;exact Hd.ret1 rfl b1 rfl sq
theorem counts_it (bx sb:Nat) (hd:List Bool) (ct:List Int) (hl:hd.length=32) (hcl:ct.length=32):RX.It Tryz.prog 236 [.pointer (some ⟨bx,0,none⟩)] encCA (fun ys=>ys=cntF 0 ct) (fun ys=>ys <+: cntF 0 ct)
  (SgX bx sb hd ct []) (SgX bx sb hd ct []):=by
 intro l J X hy;refine Ct.of (vs:=[.func (.yield l) #[] #[],.pointer (some ⟨bx,0,none⟩)]) Tryz.func236 rfl rfl [(0,.func (.yield l) #[] #[]),(1,.pointer (some ⟨bx,0,none⟩))] ⟨rfl,rfl,trivial⟩ ?_;intro E
 show Hd E 20 _ _ _ _
 refine Hd.heap (SgX bx sb hd ct (J [])) (fun k h=>by have:=sep_app h;exact this) ?_;refine Hd.scope ?_;refine Hd.seq fun _ K1=>?_
 refine Hd.label ?_;refine Hd.toK K1 ?_;refine sr fun _ K2=>?_
 refine yv y_mv<|fk [(0,_),(1,_),(5,_)] K2 ?_;refine Hd.block<|Hd.loopK (ι:=Nat) [(0,_),(1,_)] (fun i=>[(5,.int .i64 (i:Int))]) (fun i=>pu (i≤32)::SgX bx sb hd ct (J (cntF 0 (ct.take i)))) (fun i=>32 - i) 0 sbq sbq (Ent.sep (.pure (by omega) enn)) ?_;intro i
 try dsimp only
 refine Hd.pure (fun hp0=>?_)
 try dsimp only at hp0
 refine sr fun _ K3=>?_
 refine yv (y_lss rfl rfl) ?_;refine fk [(0,_),(1,_),(5,_),(6,_)] K3 ?_;refine Hd.seq fun _ K4=>?_
 refine qz ?_ ?_<;>intro hc0<;>try simp only [hyZ] at hc0
 ·have hi:i < 32:=by omega
  have hsc:=cntF_succ (ct:=ct) (i:=i) (by omega)
  have hpr:=cntF_pre ct (i + 1)
  refine qv K4<|Hd.seq fun _ K5=>?_
  refine Hd.block<|sr fun _ K6=>?_
  refine yv y_mv<|yv y_as<|fk [(0,_),(1,_),(3,_),(5,_)] K6 ?_;refine sr fun _ K7=>?_
  refine yv (y_l1 ag179 rfl)<|yv y_mv<|callE rfl fk164 (count_ct _ sb hd ct hl hcl (i:Int)) sq ?_;intro _;refine yv y_as<|fk [(0,_),(1,_),(3,_),(4,_),(5,_)] K7 ?_;refine Hd.seq fun _ K8=>?_
  refine sr fun _ K9=>?_
  refine yv y_mv<|yv (y_eql rfl rfl) ?_;refine fk [(0,_),(1,_),(3,_),(4,_),(5,_),(12,_)] K9 ?_;refine qz ?_ ?_<;>intro hc1<;>try simp only [hyZ] at hc1
  ·refine Hd.exit ?_
   refine Hd.thenExit<|Hd.inBexit<|Hd.toK K5 ?_;refine Hd.region<|yv (y_addn rfl rfl (by simp only [InK];omega)) ?_;refine yv y_mv<|Hd.nil<|slots [(0,_),(1,_),(5,_)] sbq ?_;refine thenN ?_
   rw [if_pos (by
    unfold cntS at hc1
    by_cases h0:i=0
    ·exact .inl h0
    ·rw [if_pos (by omega),Int.toNat_natCast] at hc1;exact .inr hc1),List.append_nil] at hsc
   rw [←hsc];exact Hd.again (i + 1) (by omega) sbq (Ent.sep (.pure (by omega) enn))
  have hi0:i≠0:=fun h=>by subst h;exact hc1 rfl
  have hcv:cntS ct (i:Int)=ct.getD i 0:=by unfold cntS;rw [if_pos (by omega),Int.toNat_natCast]
  rw [hcv] at hc1;rw [if_neg (by rintro (h | h);exact hi0 h;exact hc1 h)] at hsc;rw [hsc] at hpr;rw [hcv];refine qv K8<|sr fun _ K10=>?_
  refine yv y_mv<|yv y_mv<|yv y_mv<|yv (y_build (vs:=[(0,_),(1,_)]) rfl (by exact bd236_16 ..)) ?_;refine Hd.yield (pre:=cntF 0 (ct.take i)) (c:=((i:Int),ct.getD i 0)) (M:=SgX bx sb hd ct []) hy rfl rfl hpr (fun k' h=>sep_app (show sep ((SgX bx sb hd ct [])++J (cntF 0 (ct.take i))) k' from Ent.sep enn k' h)) ?_;intro yb;refine yv (y_not rfl)<|fk [(0,_),(1,_),(5,_),(18,_)] K10 ?_;refine qz ?_ ?_<;>intro hc2<;>try simp only [hyZ] at hc2
  ·subst hc2
   simp only [cond_false];refine Hd.ret<|Hd.inBret<|Hd.thenRet<|Hd.thenRet<|Hd.inBret<|Hd.scRet ?_;exact Hd.ret0 rfl (cntF 0 (ct.take i)++[((i:Int),ct.getD i 0)],false) rfl (fun k' h=>Ent.sep (.pure hpr .same) k' h)
  subst hc2;simp only [cond_true];refine Hd.heap (SgX bx sb hd ct (J (cntF 0 (ct.take i)++[((i:Int),ct.getD i 0)]))) (fun k' h=>sep_app h) ?_;rw [←hsc];refine Hd.skip<|Hd.inB<|Hd.toK K5 ?_;refine Hd.region<|yv (y_addn rfl rfl (by simp only [InK];omega)) ?_;refine yv y_mv<|Hd.nil<|slots [(0,_),(1,_),(5,_)] sbq ?_;refine thenN ?_;exact Hd.again (i + 1) (by omega) sbq (Ent.sep (.pure (by omega) enn))
 refine Hd.exit<|Hd.thenExit<|Hd.thenExit<|Hd.inBexit<|Hd.scNorm ?_
 obtain rfl:i=32:=by omega
 rw [show ct.take 32=ct from List.take_of_length_le (by omega)];exact Hd.end0 rfl (cntF 0 ct,true) rfl (fun k' h=>Ent.sep (.pure rfl .same) k' (sep_app (M:=SgX bx sb hd ct []) (N:=J (cntF 0 ct)) (Ent.sep enn k' h)))
theorem cntF_mem:∀ (l:List Int) (i:Nat) (p:Int×Int),p∈cntF i l→∃ j:Nat,l[j]?=some p.2∧p.1=((i + j:Nat):Int)∧0 < i + j
 | [],_,_,h=>by cases h
 | c::t,i,p,h=>by
  have h':p∈(if i=0∨c=0 then cntF (i + 1) t else ((i:Int),c)::cntF (i + 1) t):=h
  have rec_:p∈cntF (i + 1) t→∃ j:Nat,(c::t)[j]?=some p.2∧p.1=((i + j:Nat):Int)∧0 < i + j:=fun h=>by
   obtain ⟨j,h1,h2,h3⟩:=cntF_mem t (i + 1) p h
   exact ⟨j + 1,by simpa using h1,by rw [h2];congr 1;omega,by omega⟩
  split at h'
  ·exact rec_ h'
  ·rename_i hn
   rcases List.mem_cons.1 h' with rfl | h'
   ·exact ⟨0,rfl,rfl,by omega⟩
   ·exact rec_ h'
theorem cntF_sum:∀ (l:List Int) (i:Nat),0 < i→((cntF i l).map Prod.snd).sum=l.sum
 | [],_,_=>rfl
 | c::t,i,h=>by
  show ((if i=0∨c=0 then cntF (i + 1) t else ((i:Int),c)::cntF (i + 1) t).map Prod.snd).sum=c + t.sum
  have ih:=cntF_sum t (i + 1) (by omega)
  split
  ·rename_i h1
   rw [ih];omega
  ·show c + ((cntF (i + 1) t).map Prod.snd).sum=_
   rw [ih]
theorem cntF_sum0 (ct:List Int):((cntF 0 ct).map Prod.snd).sum=(ct.drop 1).sum:=by
 cases ct with
 | nil=>rfl
 | cons c t =>
  show ((if 0=0∨c=0 then cntF 1 t else (((0:Nat):Int),c)::cntF 1 t).map Prod.snd).sum=t.sum
  rw [if_pos (.inl rfl)];exact cntF_sum t 1 (by omega)
theorem sum_bd {l:List (Int×Int)} {K:Int} (h:∀ p∈l,0≤p.2∧p.2≤K):0≤(l.map Prod.snd).sum∧(l.map Prod.snd).sum≤l.length * K:=by
 induction l with
 | nil=>simp
 | cons p t ih =>
  have h1:=h p List.mem_cons_self
  have h2:=ih fun q hq=>h q (List.mem_cons_of_mem _ hq)
  simp only [List.map_cons,List.sum_cons,List.length_cons]
  have:((t.length + 1:Nat):Int) * K=(t.length:Int) * K + K:=by
   rw [Int.natCast_add,Int.add_mul];simp
  omega
theorem pending_ct (L:List SP) (sb:Nat) (hd:List Bool) (ct:List Int) (hl:hd.length=32) (hcl:ct.length=32) (hb:∀ c∈ct,0≤c∧c≤2000000000):Ct Tryz.prog 163 #[.pointer (some ⟨sb,0,none⟩)] (SigP sb hd ct::L) (fun _:Unit=>.int .i64 (ct.drop 1).sum) (fun _:Unit=>SigP sb hd ct::L):=by
 refine Ct.o1M Tryz.func163 ?_;intro E
 show Hd E 13 _ _ _ _
 have hmb:∀ p∈cntF 0 ct,0≤p.2∧p.2≤2000000000:=fun p hp=>by
  obtain ⟨j,hj,_,_⟩:=cntF_mem ct 0 p hp
  exact hb _ (List.mem_of_getElem? hj)
 have hcle:=cntF_le ct 0
 refine sr fun _ K1=>?_
 refine yv y_as<|fk [(0,_)] K1 ?_;refine sr fun _ K2=>?_
 refine Hd.alloc zr3 (fun b3=>?_);refine Hd.store1 sz3 rfl rfl rfl pkk (by decide) ?_
 try simp only [hyS]
 refine fk [(0,_),(3,_)] K2 ?_;refine Hd.seq fun _ K3=>?_
 refine sr fun _ K4=>?_
 refine yv y_mv<|callE rfl fk214 (counts_ct _ sb) sq ?_;intro bx;refine fk [(3,_),(6,_)] K4 ?_;refine Hd.block<|Hd.rangeF (enc:=encCA) (S:=fun ys=>ys=cntF 0 ct) (Sp:=fun ys=>ys <+: cntF 0 ct)
  (fun pre=>pt b3 [.int .i64 (pre.map Prod.snd).sum] 3::L) (fun _ _=>[pu False])
  rfl kq (fun _=>rfl) rfl (counts_it bx sb hd ct hl hcl) (by refine Ent.sep ?_;refine Ent.eq pkk (pt_eq (by rfl)) ?_;exact Ent.swap (L:=[_,_])) ?_ ?_ ?_
 ·intro E l' R pre c N hR hG
  have hpl:=hG.length_le
  have hs1:=sum_bd (l:=pre) (K:=2000000000) fun p hp=>hmb p (hG.subset (List.mem_append_left _ hp))
  have hc1:=hmb c (hG.subset (by simp))
  rw [List.length_append] at hpl
  have hpl2:pre.length≤32:=by simp at hpl;omega
  unfold Rnd;simp only [List.cons_append,List.nil_append,pz,encCA];refine Hd.region<|Hd.alloc zr225 (fun b4=>?_);refine Hd.storeA (us:=encCn c) sz225 rfl rfl rfl (by simp [Value.oneCell']) pkk (by exact rfl) ?_;refine Hd.nil<|slots [(3,_),(4,_)] sbq ?_;refine thenN<|Hd.begin hR pkk ?_;refine Hd.block<|Hd.region<|yv (y_l1 ag3 rfl)<|yv (y_f 1 3 Tryz.underlying225 sz3)<|yv (y_l1 ag3 rfl)<|yv (y_addn rfl rfl (by simp only [InK];omega)) ?_;refine Hd.store1 sz3 rfl rfl rfl pkk (by simp;done) ?_
  try simp only [hyS]
  refine Hd.nil<|slots [(3,_)] sbq ?_;refine Hd.inB<|Hd.reN ?_;simp only [List.cons_append,List.nil_append];exact Ent.sep (.pick pkk (.eq pkk (pt_eq (by simp)) enn))
 ·intro r0 ys hys
  obtain rfl:ys=cntF 0 ct:=hys
  try simp only [List.cons_append,List.nil_append]
  refine Hd.inB<|Hd.toK K3 ?_;refine sr fun _ K5=>?_
  refine yv (y_l1 ag3 rfl)<|yv y_as<|fk [(2,_)] K5 ?_;refine Hd.ret ?_;rw [←cntF_sum0];exact Hd.retM (fun a fr=>Lv.mark pkk (Lv.end1 fr rfl () rfl sq))
 rintro r0_0 (_ | id0) pre0 hG0
 ·exact Hd.absurd (by exact id)
 exact Hd.absurd (by exact id)
theorem woT_nt {t:Int→Option (Nat×Nat)} {w:WA} {n j o:Nat} {i:WoI} {v:Value} (ho:o=291 + j) (hv:(plc w.nt)[j]?=some v):(fdC t++woT w n i)[o]?=some v:=by
 refine woT_at (j:=3 + j) (by omega) ?_
 show ([.slice i.wa n i.wc,ptr (some i.sb),.int .u64 w.now]++plc w.nt)[3 + j]?=_
 rw [List.getElem?_append_right (by simp),show 3 + j - List.length ([.slice i.wa n i.wc,ptr (some i.sb),.int .u64 w.now]:List Value)=j by simp];exact hv
end Wo
end Go.Proofs.YtmpemhbfgbochaaGreatDoor
namespace Go.Proofs.YtmpemhbfgbochaaGreatDoor
open Go.RX Fx
namespace Rf
open Wo
theorem rc_hd {w:WA} {n c s o:Nat} {ad:Option Addr} (hl:w.hd.length=32) (hs:s < 32) (ho:o=2 + s):(RwC w n ad c)[o]?=some (.bool (w.hd.getD s false)):=by
 subst ho;rw [List.getElem?_append_right (by simp),List.getElem?_append_left (by simp;omega),List.getElem?_map,List.getD_eq_getElem?_getD]
 have e:2 + s - ([Value.slice ad n c,Value.int .u64 w.now]:List Value).length=s:=by simp
 rw [e,List.getElem?_eq_getElem (by omega)];rfl
theorem rc_ct {w:WA} {n c s o:Nat} {ad:Option Addr} (hl:w.hd.length=32) (hc:w.ct.length=32) (hs:s < 32) (ho:o=34 + s):(RwC w n ad c)[o]?=some (.int .i64 (w.ct.getD s 0)):=by
 subst ho;rw [List.getElem?_append_right (by simp;omega),List.getElem?_append_right (by simp;omega),List.getElem?_append_left (by simp;omega),List.getElem?_map,List.getD_eq_getElem?_getD]
 have e:34 + s - ([Value.slice ad n c,Value.int .u64 w.now]:List Value).length - (w.hd.map Value.bool).length=s:=by simp;omega
 rw [e,List.getElem?_eq_getElem (by omega)];rfl
theorem rc_nt {w:WA} {n c j o:Nat} {ad:Option Addr} {v:Value} (hl:w.hd.length=32) (hc:w.ct.length=32) (hv:(ntV w.nt)[j]?=some v) (ho:o=66 + j):(RwC w n ad c)[o]?=some v:=by
 subst ho;rw [List.getElem?_append_right (by simp;omega),List.getElem?_append_right (by simp;omega),List.getElem?_append_right (by simp;omega)]
 have e:66 + j - ([Value.slice ad n c,Value.int .u64 w.now]:List Value).length - (w.hd.map Value.bool).length - (w.ct.map (Value.int .i64)).length=j:=by simp;omega
 rw [e];exact hv
theorem sum_take_bd {l:List Int} {K:Int} (h:∀ c∈l,0≤c∧c≤K) (s:Nat):0≤(l.take s).sum∧(l.take s).sum≤(l.take s).length * K:=by
 have h':∀ c∈l.take s,0≤c∧c≤K:=fun c hc=>h c (List.mem_of_mem_take hc)
 generalize l.take s=t at h'
 induction t with
 | nil=>simp
 | cons c t ih =>
  have h1:=h' c List.mem_cons_self
  have h2:=ih fun q hq=>h' q (List.mem_cons_of_mem _ hq)
  simp only [List.sum_cons,List.length_cons]
  have:((t.length + 1:Nat):Int) * K=(t.length:Int) * K + K:=by
   rw [Int.natCast_add,Int.add_mul];simp
  omega
theorem rPending_ct (L:List SP) (b:Nat) (w:WA) (hw:WOk w) (hb:∀ c∈w.ct,0≤c∧c≤2000000000):Ct Tryz.prog 84 #[.pointer (some ⟨b,0,none⟩)] (RwP b w::L) (fun _:Unit=>.int .i64 (pendN w)) (fun _:Unit=>RwP b w::L):=by
 refine Ct.o1 Tryz.func84 ?_;intro E
 show Hd E 18 _ _ _ _
 refine Hd.rw .here (fun i hi=>?_)
 have hl:=hw.hdl
 have hcl:=hw.ctl
 have hdb:∀ c∈w.ct.drop 1,0≤c∧c≤2000000000:=fun c hc=>hb c (List.mem_of_mem_drop hc)
 have hdl:(w.ct.drop 1).length=31:=by rw [List.length_drop,hcl]
 refine sr fun _ K1=>?_
 refine yv y_as<|fk [(0,_)] K1 ?_;refine sr fun _ K2=>?_
 refine yv y_as<|fk [(0,_),(3,_)] K2 ?_;refine Hd.seq fun _ K3=>?_
 refine sr fun _ K4=>?_
 refine yv y_as<|fk [(0,_),(3,_),(4,_)] K4 ?_;refine Hd.block<|Hd.loopK (ι:=Nat) [(0,_)] (fun s=>[(3,.int .i64 ((w.ct.drop 1).take s).sum),(4,.int .i64 ((s + 1:Nat):Int))]) (fun s=>pu (s≤31)::RwL b w i L) (fun s=>31 - s) 0 sbq sbq (Ent.sep (.pure (by omega) enn)) ?_;intro s
 try dsimp only
 refine Hd.pure (fun hp0=>?_)
 try dsimp only at hp0
 refine Hd.seq fun _ K5=>?_
 refine sr fun _ K6=>?_
 refine yv y_mv<|yv (y_leq rfl rfl) ?_;refine fk [(0,_),(3,_),(4,_),(6,_)] K6 ?_;refine qz ?_ ?_<;>intro hc0<;>try simp only [hyZ] at hc0
 ·have hs:s < 31:=by omega
  have hbd:=sum_take_bd hdb s
  have htl:((w.ct.drop 1).take s).length=s:=by rw [List.length_take];omega
  have hsc:((w.ct.drop 1).take (s + 1)).sum=((w.ct.drop 1).take s).sum + w.ct.getD (s + 1) 0:=by
   rw [List.take_add_one,List.getElem?_drop,List.getD_eq_getElem?_getD,Nat.add_comm 1 s,List.getElem?_eq_getElem (show s + 1 < w.ct.length by omega)];simp
  have hcb:0≤w.ct.getD (s + 1) 0∧w.ct.getD (s + 1) 0≤2000000000:=by
   rw [List.getD_eq_getElem?_getD,List.getElem?_eq_getElem (show s + 1 < w.ct.length by omega)];exact hb _ (List.getElem_mem _)
  rw [htl] at hbd;refine qv K5<|Hd.seq fun _ K7=>?_
  refine Hd.block<|Hd.region<|yv y_mv<|yv y_mv<|yv y_mv<|yv y_np<|yv (y_f 34 100 Tryz.underlying102 sz100)<|yv (y_idxA Tryz.underlying100 sz3 rfl rfl (by omega)) ?_;refine yv (y_load1 ag3 rfl (Rd.pt1 pkk (rc_ct hl hcl (show s + 1 < 32 by omega) (by omega)))) ?_;refine yv (y_addn rfl rfl (by simp only [InK];omega)) ?_;refine yv y_as<|Hd.nil<|slots [(0,_),(3,_),(4,_)] sbq ?_;refine Hd.inB<|Hd.toK K7 ?_;refine Hd.region<|yv y_mv<|yv (y_addn rfl rfl (by simp only [InK];omega)) ?_;refine yv y_as<|Hd.nil<|slots [(0,_),(3,_),(4,_)] sbq ?_;refine thenN ?_;rw [←hsc];exact Hd.again (s + 1) (by omega) sbq (Ent.sep (.pure (by omega) enn))
 obtain rfl:s=31:=by omega
 refine Hd.exit<|Hd.thenExit<|Hd.thenExit<|Hd.inBexit<|Hd.toK K3 ?_;refine sr fun _ K8=>?_
 refine yv y_mv<|yv y_as<|fk [(2,_)] K8 ?_;refine Hd.ret ?_
 have e:((w.ct.drop 1).take 31).sum=pendN w:=by unfold pendN;rw [List.take_of_length_le (by omega)]
 rw [←e];exact Hd.ret1 rfl () rfl (rw_fold hi)
abbrev frN (w:WA) (i:Nat):List Nat:=(List.range i).filter fun fd:Nat=>(w.at (fd:Int)).isNone
theorem rfree_ct (L:List SP) (b:Nat) (w:WA) (hw:WOk w):Ct Tryz.prog 115 #[.pointer (some ⟨b,0,none⟩)] (RwP b w::L) (fun q_:Option Addr×Nat=>.slice q_.1 (frees w.at).length q_.2) (fun q_:Option Addr×Nat=>own 3 1 q_.1 (frees w.at).length q_.2 (nats (frees w.at))::RwP b w::L):=by
 refine Ct.o1 Tryz.func115 ?_;intro E
 show Hd E 24 _ _ _ _
 refine sr fun _ K1=>?_
 refine yv y_as<|fk [(0,_)] K1 ?_;refine sr fun _ K2=>?_
 refine yv y_as<|fk [(0,_),(3,_)] K2 ?_;refine Hd.seq fun _ K3=>?_
 refine sr fun _ K4=>?_
 refine yv y_as<|fk [(0,_),(3,_),(4,_)] K4 ?_;refine Hd.block<|Hd.loopK (ι:=Nat×Option Addr×Nat) [(0,_)] (fun q_=>[(3,.slice q_.2.1 (frN w q_.1).length q_.2.2),(4,.int .i64 (q_.1:Int))]) (fun q_=>pu (q_.1≤96)::own 3 1 q_.2.1 (frN w q_.1).length q_.2.2 (nats (frN w q_.1))::RwP b w::L) (fun q_=>96 - q_.1) (0,none,0) sbq sbq (fun q t=>Ent.sep (.pure (Nat.zero_le _) (.ownNil .same)) q t) ?_;rintro ⟨i,ad,c⟩
 try dsimp only
 refine Hd.pure (fun hp0=>?_)
 try dsimp only at hp0
 refine Hd.seq fun _ K5=>?_
 refine sr fun _ K6=>?_
 refine yv y_mv<|yv (y_leq rfl rfl) ?_;refine fk [(0,_),(3,_),(4,_),(8,_)] K6 ?_;refine qz ?_ ?_<;>intro hc0<;>try simp only [hyZ] at hc0
 ·have hi:i < 96:=by omega
  have hsf:=range_succ_filter (fun fd:Nat=>(w.at (fd:Int)).isNone) i
  have hll:(frN w i).length≤i:=by
   have:=List.length_filter_le (fun fd:Nat=>(w.at (fd:Int)).isNone) (List.range i)
   rwa [List.length_range] at this
  obtain ⟨g,hg⟩:∃ g,g=frN w i:=⟨_,rfl⟩
  rw [←hg] at hll ⊢
  have hsg:frN w (i + 1)=g++(if (w.at (i:Int)).isNone=true then [i] else []):=by rw [hg];refine Eq.trans hsf ?_;split<;>simp
  refine qv K5<|Hd.seq fun _ K7=>?_
  refine Hd.block<|sr fun _ K8=>?_
  refine yv y_mv<|yv y_mv<|callE rfl fk117 (rat_ct _ b w hw (i:Int)) sq ?_;intro _;refine yv y_mv<|yv y_ex<|yv y_ex<|yv y_as<|yv y_as<|fk [(0,_),(3,_),(4,_),(5,_)] K8 ?_;refine sr fun _ K9=>?_
  refine yv y_mv<|yv (y_lss rfl rfl) ?_;refine fk [(0,_),(3,_),(4,_),(18,_)] K9 ?_;refine qz ?_ ?_<;>intro hc1<;>try simp only [hyZ] at hc1
  ·refine Hd.region ?_
   refine yv y_mv<|yv y_mv<|Hd.bslice (vs:=[(0,_)]) rfl (by exact bs115_21 ..) (fun b21=>?_);refine Hd.append Tryz.underlying94 ty3 rfl rfl rfl pkk (by exact RdS.rd (Rd.pt pkk (fun j v e=>by simpa using e)) rfl) (by simp [Value.oneCell'];done) (by simp only [maxLen];omega) (by omega) (fun ad22 cap22=>?_);refine yv y_as<|Hd.nil<|slots [(0,_),(3,_),(4,_)] sbq ?_;refine Hd.inB<|Hd.toK K7 ?_;refine Hd.region<|yv y_mv<|yv (y_addn rfl rfl (by simp only [InK];omega)) ?_;refine yv y_as<|Hd.nil<|slots [(0,_),(3,_),(4,_)] sbq ?_;refine thenN ?_
   have hfr:(w.at (i:Int)).isNone=true:=by rw [atN_no hc1];rfl
   rw [if_pos hfr] at hsg;refine Hd.again (i + 1,ad22,cap22) (by show 96 - (i + 1) < 96 - i;omega) (by rw [hsg];simp only [List.length_append,List.length_singleton];repeat (first | exact trivial | refine ⟨rfl,?_⟩)) (fun q t=>?_);rw [hsg];exact Ent.sep (.pure (show i + 1≤96 by omega) (.eq pkk (own_eq3 (by simp) rfl (by simp [nats])) enn)) q t
  refine Hd.skip<|Hd.inB<|Hd.toK K7 ?_;refine Hd.region<|yv y_mv<|yv (y_addn rfl rfl (by simp only [InK];omega)) ?_;refine yv y_as<|Hd.nil<|slots [(0,_),(3,_),(4,_)] sbq ?_;refine thenN ?_
  have hfr:¬ ((w.at (i:Int)).isNone=true):=by
   obtain ⟨n,k,hnk⟩:=atN_yes (by omega:0≤atN (w.at (i:Int)))
   rw [hnk];simp
  rw [if_neg hfr,List.append_nil] at hsg;refine Hd.again (i + 1,ad,c) (by show 96 - (i + 1) < 96 - i;omega) (by rw [hsg];repeat (first | exact trivial | refine ⟨rfl,?_⟩)) (fun q t=>?_);rw [hsg];exact Ent.sep (.pure (show i + 1≤96 by omega) enn) q t
 obtain rfl:i=96:=by omega
 refine Hd.exit<|Hd.thenExit<|Hd.thenExit<|Hd.inBexit<|Hd.toK K3 ?_;refine sr fun _ K10=>?_
 refine yv y_mv<|yv y_as<|fk [(2,_)] K10 ?_;refine Hd.ret ?_;exact Hd.ret1 rfl (ad,c) rfl sq
theorem rwc {p:Row} {k j o:Nat} {v:Value} (hk:k < 2) (hj:j < 8) (ho:o=k * 8 + j) (hv:(encRE (p.1.e k) (p.2.a k) (p.2.c k))[j]?=some v):(encRW p)[o]?=some v:=by
 have:=rcell (rs:=[p]) (n:=0) (o:=o) rfl hk hj (by omega) hv
 simpa using this
theorem rReady_ct (L:List SP) (b:Nat) (w:WA) (hw:WOk w) (fd:Int):Ct Tryz.prog 63 #[.pointer (some ⟨b,0,none⟩),.int .i64 fd] (RwP b w::L) (fun _:Unit=>.agg (encR (readyR w fd)).toArray) (fun _:Unit=>RwP b w::L):=by
 refine Ct.o2 Tryz.func63 ?_;intro E
 show Hd E 122 _ _ _ _
 refine sr fun _ K1=>?_
 refine Hd.alloc zr112 (fun b4=>?_);refine fk [(0,_),(1,_),(4,_)] K1 ?_;refine sr fun _ K2=>?_
 refine yv y_mv<|yv y_mv<|callE rfl fk117 (rat_ct _ b w hw fd) sq ?_;intro _;refine yv y_mv<|yv y_ex<|yv y_ex<|yv y_as<|yv y_as<|fk [(0,_),(4,_),(5,_),(6,_)] K2 ?_;refine Hd.seq fun _ K3=>?_
 refine sr fun _ K4=>?_
 refine yv y_mv<|yv (y_lss rfl rfl) ?_;refine fk [(0,_),(4,_),(5,_),(6,_),(17,_)] K4 ?_;refine qz ?_ ?_<;>intro hc0<;>try simp only [hyZ] at hc0
 ·have hno:=atN_no hc0
  refine sr fun _ K5=>?_
  refine yv (y_build (vs:=[]) rfl (by exact bd63_18 ..)) ?_;refine Hd.storeA (us:=encR noRdy) sz112 rfl rfl rfl (by simp [Value.oneCell']) pkk (by exact rfl) ?_;refine fk [(4,_)] K5 ?_;refine Hd.ret<|Hd.thenRet ?_;rw [show readyR w fd=noRdy by unfold readyR;rw [hno]];exact Hd.retC rfl () ag112 rfl (Rd.pt (us:=encR noRdy) pkk (fun j v e=>by rw [Nat.zero_add];exact e)) (by exact sz112) rfl sq
 obtain ⟨n,k,hnk⟩:=atN_yes (by omega)
 obtain ⟨_,_,hk,_,x,hx,_,_⟩:=hw.at_lt hnk
 have hk1:1 - k < 2:=by omega
 rw [show atN (w.at fd)=(n:Int) by rw [hnk];rfl,show atK (w.at fd)=(k:Int) by rw [hnk];rfl]
 have hR:readyR w fd=readyW x k:=by unfold readyR;rw [hnk];dsimp only;rw [hx]
 refine Hd.rw pkk (fun i hi=>?_)
 have hrl:=rows_n hi
 obtain ⟨j,hrow⟩:=row_at hi hx
 have hn:n < i.1.length:=(List.getElem?_eq_some_iff.1 hrow).1
 refine qv K3<|sr fun _ K6=>?_
 refine yv y_mv<|yv y_np<|yv (y_f 0 98 Tryz.underlying102 sz98)<|yv (y_l1 ag98 rfl)<|yv y_mv<|yv (y_idxR Tryz.underlying98 sz204 rfl rfl (by omega) (by exact RdS.own pkk)) ?_;refine yv (y_loadRn (vs:=encRW (x,j)) ag204 rfl (RdS.own (ad:=i.2.1) (us:=i.1.flatMap encRW) pkk) (flat_cells encRW 20 encRW_len hrow) (by exact sz204) (by simp)) ?_;refine Hd.alloc zr204 (fun b7=>?_);refine Hd.storeA (us:=encRW (x,j)) sz204 rfl rfl rfl (encRW_one _) pkk (by exact rfl) ?_;refine fk [(4,_),(6,_),(7,_)] K6 ?_;refine Hd.seq fun _ K7=>?_
 refine Hd.drawsH ([pt b7 (encRW (x,j)) 204]) (fun j=>!([12].contains j)) mixed ?_;simp only [List.length,Nat.zero_add,Nat.reduceAdd];refine tH 0 rfl y_mv<|tH 1 rfl (y_f 0 202 Tryz.underlying204 sz202)<|tH 2 rfl (y_idxA Tryz.underlying202 sz201 rfl rfl (by omega)) ?_;refine tH 3 rfl (y_f 6 29 Tryz.underlying201 sz29)<|tH 4 rfl (y_load1 (v:=.int .u64 (x.e k).inn) ag29 rfl (Rd.pt1 pkk (rwc (p:=(x,j)) (j:=6) hk (by decide) (by omega) rfl))) ?_;refine tH 5 rfl y_mv<|tH 6 rfl (y_f 0 202 Tryz.underlying204 sz202)<|tH 7 rfl (y_idxA Tryz.underlying202 sz201 rfl rfl (by omega)) ?_;refine tH 8 rfl (y_f 7 29 Tryz.underlying201 sz29)<|tH 9 rfl (y_load1 (v:=.int .u64 (x.e k).out) ag29 rfl (Rd.pt1 pkk (rwc (p:=(x,j)) (j:=7) hk (by decide) (by omega) rfl))) ?_;refine tH 10 rfl (y_build (vs:=[(0,_),(5,_),(6,_)]) rfl (by exact bd63_36 ..)) ?_
 refine qo 11 ?_;refine Hd.alloc zr112 (fun b8=>?_);refine qk<|qo 12 ?_;refine Hd.storeA (us:=encR ⟨true,false,false,false,false,(x.e k).inn,(x.e k).out⟩) sz112 rfl rfl rfl (by simp [Value.oneCell']) pkk (by exact rfl) ?_;refine qn<|endH kq ?_;refine sk [(4,_),(6,_),(7,_),(8,_)] K7 ?_;refine Hd.seq fun _ K8=>?_
 refine sr fun _ K9=>?_
 refine yv (y_f 18 3 Tryz.underlying204 sz3)<|yv (y_l1 ag3 rfl)<|yv (y_gtr rfl rfl) ?_;refine fk [(4,_),(6,_),(7,_),(8,_),(39,_)] K9 ?_;refine qz ?_ ?_<;>intro hc1<;>try simp only [hyZ] at hc1
 ·refine sr fun _ K10=>?_
  refine yv (y_f 19 94 Tryz.underlying204 sz94)<|yv (y_l1 ag94 rfl)<|yv (y_len Tryz.underlying94 rfl) ?_;refine yv (y_gtr rfl rfl) ?_;refine yv (y_f 1 4 Tryz.underlying112 sz4)<|Hd.store1 sz4 rfl rfl rfl pkk (by simp;done) ?_
  try simp only [hyS]
  refine fk [(4,_),(8,_)] K10 ?_;refine sr fun _ K11=>?_
  refine yv (y_loadn (us:=[_,_,_,_,_,_,_]) ag112 rfl (Rd.pt pkk (by (first | (intro j v e;rcases j with _|_|_|_|_|_|_|_|_|_|_|_|j<;>first | exact e | exact absurd e (by simp))))) (by exact sz112)) ?_;refine Hd.storeA (us:=encR ⟨true,decide ((x.wt.length:Int) > 0),false,false,false,(x.e k).inn,(x.e k).out⟩) sz112 rfl rfl rfl (by simp [Value.oneCell']) pkk (by exact rfl) ?_;refine fk [(4,_)] K11 ?_;refine Hd.ret<|Hd.thenRet ?_;rw [hR,show readyW x k=⟨true,decide ((x.wt.length:Int) > 0),false,false,false,(x.e k).inn,(x.e k).out⟩ from if_pos hc1];exact Hd.retC rfl () ag112 rfl (Rd.pt (us:=encR ⟨true,decide ((x.wt.length:Int) > 0),false,false,false,(x.e k).inn,(x.e k).out⟩) pkk (fun j v e=>by rw [Nat.zero_add];exact e)) (by exact sz112) rfl (fun q s=>rw_fold hi q (Ent.sep enn q s))
 have hbl:¬ (x.bl > 0):=by omega
 have hRw:readyW x k=⟨true,(x.e k).rd && ((decide (((x.e k).b.length:Int) > 0) || silentW x k) || x.rs),((x.e k).wr && !(x.e k).shut) && ((decide ((x.e (1 - k)).what=3) || x.rs) || decide (((x.cap - (x.e (1 - k)).b.length:Nat):Int) > 0)),decide ((x.e (1 - k)).what=3),x.rs,(x.e k).inn,(x.e k).out⟩:=if_neg hbl
 refine qv K8<|sr fun _ K12=>?_
 refine yv y_mv<|yv (y_to (v':=.int .i64 ((1 - k:Nat):Int)) (y_subn rfl rfl (by simp only [InK];omega)) (by (congr 1;omega))) ?_;refine yv (y_f 0 202 Tryz.underlying204 sz202)<|yv (y_idxA Tryz.underlying202 sz201 rfl rfl (by omega)) ?_;refine yv (y_f 0 3 Tryz.underlying201 sz3)<|yv (y_load1 (v:=.int .i64 (x.e (1 - k)).what) ag3 rfl (Rd.pt1 pkk (rwc (p:=(x,j)) (j:=0) hk1 (by decide) (by omega) rfl))) ?_;refine yv (y_eql rfl rfl) ?_;refine yv y_as<|fk [(4,_),(6,_),(7,_),(8,_),(9,_)] K12 ?_;refine sr fun _ K13=>?_
 refine yv y_mv<|yv (y_f 3 4 Tryz.underlying112 sz4)<|Hd.store1 sz4 rfl rfl rfl pkk (by simp;done) ?_
 try simp only [hyS]
 refine fk [(4,_),(6,_),(7,_),(8,_),(9,_)] K13 ?_;refine sr fun _ K14=>?_
 refine yv (y_f 17 4 Tryz.underlying204 sz4)<|yv (y_l1 ag4 rfl)<|yv (y_f 4 4 Tryz.underlying112 sz4)<|Hd.store1 sz4 rfl rfl rfl pkk (by simp;done) ?_
 try simp only [hyS]
 refine fk [(4,_),(6,_),(7,_),(8,_),(9,_)] K14 ?_;refine sr fun _ K15=>?_
 refine yv y_mv<|yv (y_f 0 202 Tryz.underlying204 sz202)<|yv (y_idxA Tryz.underlying202 sz201 rfl rfl (by omega)) ?_;refine yv (y_f 2 4 Tryz.underlying201 sz4)<|yv (y_load1 (v:=.bool (x.e k).rd) ag4 rfl (Rd.pt1 pkk (rwc (p:=(x,j)) (j:=2) hk (by decide) (by omega) rfl))) ?_;refine yv y_mv ?_;apply Hd.andg 23 63 86 [(4,_),(6,_),(7,_),(8,_),(9,_)] rfl sbq
 ·intro hg12_63
  try simp only [hyZ] at hg12_63
  simp only [List.take];refine y2 y_mv<|y2 (y_f 0 202 Tryz.underlying204 sz202)<|y2 (y_idxA Tryz.underlying202 sz201 rfl rfl (by omega)) ?_;refine y2 (y_f 4 30 Tryz.underlying201 sz30)<|y2 (y_load1 (v:=.slice (j.a k) (x.e k).b.length (j.c k)) ag30 rfl (Rd.pt1 pkk (rwc (p:=(x,j)) (j:=4) hk (by decide) (by omega) rfl))) ?_;refine y2 (y_len Tryz.underlying30 rfl) ?_;refine y2 (y_gtr rfl rfl) ?_;refine y2 y_mv ?_;apply Hd.org 2 71 73 [(4,_),(6,_),(7,_),(8,_),(9,_),(63,_)] rfl sbq
  ·intro hg12_71
   try simp only [hyZ] at hg12_71
   simp only [List.take];refine n1<|y2 (y_pickT rfl rfl) ?_;exact Hd.mn
  ·intro hg12_71
   try simp only [hyZ] at hg12_71
   simp only [List.take];refine y2 y_mv<|y2 (y_pickF rfl rfl) ?_;exact Hd.mn
  simp only [List.drop];refine y2 y_mv ?_;apply Hd.org 7 74 81 [(4,_),(6,_),(7,_),(8,_),(9,_),(63,_)] rfl sbq
  ·intro hg12_74
   try simp only [hyZ] at hg12_74
   simp only [List.take];refine n1<|n1<|n1<|n1<|n1<|n1<|y2 (y_pickT rfl rfl) ?_;exact Hd.mn
  ·intro hg12_74
   try simp only [hyZ] at hg12_74
   simp only [List.take];refine y2 y_mv<|y2 (y_to (v':=.int .i64 ((1 - k:Nat):Int)) (y_subn rfl rfl (by simp only [InK];omega)) (by (congr 1;omega))) ?_;refine y2 (y_f 0 202 Tryz.underlying204 sz202)<|y2 (y_idxA Tryz.underlying202 sz201 rfl rfl (by omega)) ?_;refine y2 (y_f 5 4 Tryz.underlying201 sz4)<|y2 (y_load1 (v:=.bool (x.e (1 - k)).shut) ag4 rfl (Rd.pt1 pkk (rwc (p:=(x,j)) (j:=5) hk1 (by decide) (by omega) rfl))) ?_;refine y2 (y_pickF rfl rfl) ?_;exact Hd.mn
  simp only [List.drop];refine y2 y_mv ?_;apply Hd.org 3 82 85 [(4,_),(6,_),(7,_),(8,_),(9,_),(63,_)] rfl sbq
  ·intro hg12_82
   try simp only [hyZ] at hg12_82
   simp only [List.take];refine n1<|n1<|y2 (y_pickT rfl rfl) ?_;exact Hd.mn
  ·intro hg12_82
   try simp only [hyZ] at hg12_82
   simp only [List.take];refine y2 (y_f 17 4 Tryz.underlying204 sz4)<|y2 (y_l1 ag4 rfl)<|y2 (y_pickF rfl rfl) ?_;exact Hd.mn
  simp only [List.drop];refine yv (y_pickT rfl rfl) ?_;exact Hd.mn
 ·intro hg12_63
  try simp only [hyZ] at hg12_63
  simp only [List.take];refine n1<|n1<|n1<|n1<|n1<|n1<|n1<|n1<|n1<|n1<|n1<|n1<|n1<|n1<|n1<|n1<|n1<|n1<|n1<|n1<|n1<|n1<|yv (y_pickF rfl rfl) ?_;exact Hd.mn
 simp only [List.drop];refine yv (y_f 1 4 Tryz.underlying112 sz4)<|Hd.store1 sz4 rfl rfl rfl pkk (by simp;done) ?_
 try simp only [hyS]
 refine fk [(4,_),(6,_),(7,_),(8,_),(9,_)] K15 ?_;refine Hd.cutK (ι:=Unit) [(4,_),(8,_)] (fun _=>[]) (fun _=>pt b8 (encR (readyW x k)) 112::pt b4 (encR noRdy) 112::RwL b w i L) ?_ ?_ ⟨rfl,rfl,trivial⟩
 ·refine Hd.drawsH ([pt b7 (encRW (x,j)) 204]) (fun j=>!(([1000]:List Nat).contains j)) mixed ?_
  simp only [List.length,Nat.zero_add,Nat.reduceAdd];refine tH 0 rfl y_mv<|tH 1 rfl (y_f 0 202 Tryz.underlying204 sz202)<|tH 2 rfl (y_idxA Tryz.underlying202 sz201 rfl rfl (by omega)) ?_;refine tH 3 rfl (y_f 3 4 Tryz.underlying201 sz4)<|tH 4 rfl (y_load1 (v:=.bool (x.e k).wr) ag4 rfl (Rd.pt1 pkk (rwc (p:=(x,j)) (j:=3) hk (by decide) (by omega) rfl))) ?_;refine tH 5 rfl y_mv<|Hd.part (gd:=93) rfl (fun hg13_93=>?_) (fun hg13_93=>?_)
  ·try simp only [hyZ] at hg13_93
   refine Hd.takegH 6 rfl kq kq kq kq rfl rfl y_mv fq sq ?_;refine Hd.takegH 7 rfl kq kq kq kq rfl rfl (y_f 0 202 Tryz.underlying204 sz202) fq sq ?_;refine Hd.takegH 8 rfl kq kq kq kq rfl rfl (y_idxA Tryz.underlying202 sz201 rfl rfl (by omega)) fq sq ?_;refine Hd.takegH 9 rfl kq kq kq kq rfl rfl (y_f 5 4 Tryz.underlying201 sz4) fq sq ?_;refine Hd.takegH 10 rfl kq kq kq kq rfl rfl (y_load1 (v:=.bool (x.e k).shut) ag4 rfl (Rd.pt1 pkk (rwc (p:=(x,j)) (j:=5) hk (by decide) (by omega) rfl))) fq sq ?_;refine Hd.takegH 11 rfl kq kq kq kq rfl rfl (y_not rfl) fq sq ?_;refine tH 12 rfl (y_pickT rfl rfl) ?_;refine tH 13 rfl y_mv<|Hd.part (gd:=101) rfl (fun hg13_101=>?_) (fun hg13_101=>?_)
   ·try simp only [hyZ] at hg13_101
    refine Hd.takegH 14 rfl kq kq kq kq rfl rfl y_mv fq sq ?_;refine Hd.takegH 15 rfl kq kq kq kq rfl rfl (y_to (v':=.int .i64 ((1 - k:Nat):Int)) (y_subn rfl rfl (by simp only [InK];omega)) (by (congr 1;omega))) fq sq ?_;refine Hd.takegH 16 rfl kq kq kq kq rfl rfl (y_f 0 202 Tryz.underlying204 sz202) fq sq ?_;refine Hd.takegH 17 rfl kq kq kq kq rfl rfl (y_idxA Tryz.underlying202 sz201 rfl rfl (by omega)) fq sq ?_;refine Hd.takegH 18 rfl kq kq kq kq rfl rfl (y_f 4 30 Tryz.underlying201 sz30) fq sq ?_;refine Hd.takegH 19 rfl kq kq kq kq rfl rfl (y_load1 (v:=.slice (j.a (1 - k)) (x.e (1 - k)).b.length (j.c (1 - k))) ag30 rfl (Rd.pt1 pkk (rwc (p:=(x,j)) (j:=4) hk1 (by decide) (by omega) rfl))) fq sq ?_;refine Hd.takegH 20 rfl kq kq kq kq rfl rfl (y_len Tryz.underlying30 rfl) fq sq ?_;refine Hd.takegH 21 rfl kq kq kq kq rfl rfl (y_f 16 3 Tryz.underlying204 sz3) fq sq ?_;refine Hd.takegH 22 rfl kq kq kq kq rfl rfl (y_l1 ag3 rfl) fq sq ?_
    refine Hd.takegH 23 rfl kq kq kq kq rfl rfl (y_lss rfl rfl) fq sq ?_;refine Hd.takegH 24 rfl kq kq kq kq rfl rfl y_mv fq sq ?_;refine Hd.part (gd:=112) rfl (fun hg13_112=>?_) (fun hg13_112=>?_)
    ·try simp only [hyZ] at hg13_112
     refine qt 25 ?_;refine Hd.takegH 26 rfl kq kq kq kq rfl rfl (y_pickT rfl rfl) fq sq ?_;refine Hd.takegH 27 rfl kq kq kq kq rfl rfl y_mv fq sq ?_;refine Hd.part (gd:=115) rfl (fun hg13_115=>?_) (fun hg13_115=>?_)
     ·try simp only [hyZ] at hg13_115
      refine qt 28 ?_;refine qt 29 ?_;refine Hd.takegH 30 rfl kq kq kq kq rfl rfl (y_pickT rfl rfl) fq sq ?_;refine tH 31 rfl (y_pickT rfl rfl) ?_;refine tH 32 rfl (y_f 2 4 Tryz.underlying112 sz4)<|qo 33 ?_;refine Hd.store1 sz4 rfl rfl rfl pkk (by simp;done) ?_
      try simp only [hyS]
      refine qk<|endH kq ?_;refine slots [(4,_),(8,_)] sbq ?_;refine thenN ?_;exact Hd.meet () sbq (Ent.sep (.eq pkk (pt_eq (by rw [hRw];simp_all [silentW,Bool.or_assoc];omega)) (.eq pkk (pt_eq (by rfl)) enn)))
     try simp only [hyZ] at hg13_115
     refine Hd.takegH 28 rfl kq kq kq kq rfl rfl (y_f 17 4 Tryz.underlying204 sz4) fq sq ?_;refine Hd.takegH 29 rfl kq kq kq kq rfl rfl (y_l1 ag4 rfl) fq sq ?_;refine Hd.takegH 30 rfl kq kq kq kq rfl rfl (y_pickF rfl rfl) fq sq ?_;refine tH 31 rfl (y_pickT rfl rfl) ?_;refine tH 32 rfl (y_f 2 4 Tryz.underlying112 sz4)<|qo 33 ?_;refine Hd.store1 sz4 rfl rfl rfl pkk (by simp;done) ?_
     try simp only [hyS]
     refine qk<|endH kq ?_;refine slots [(4,_),(8,_)] sbq ?_;refine thenN ?_;exact Hd.meet () sbq (Ent.sep (.eq pkk (pt_eq (by rw [hRw];exact absurd hg13_115 (by decide))) (.eq pkk (pt_eq (by rfl)) enn)))
    try simp only [hyZ] at hg13_112
    refine Hd.takegH 25 rfl kq kq kq kq rfl rfl y_mv fq sq ?_;refine Hd.takegH 26 rfl kq kq kq kq rfl rfl (y_pickF rfl rfl) fq sq ?_;refine Hd.takegH 27 rfl kq kq kq kq rfl rfl y_mv fq sq ?_;refine Hd.part (gd:=115) rfl (fun hg13_115=>?_) (fun hg13_115=>?_)
    ·try simp only [hyZ] at hg13_115
     refine qt 28 ?_;refine qt 29 ?_;refine Hd.takegH 30 rfl kq kq kq kq rfl rfl (y_pickT rfl rfl) fq sq ?_;refine tH 31 rfl (y_pickT rfl rfl) ?_;refine tH 32 rfl (y_f 2 4 Tryz.underlying112 sz4)<|qo 33 ?_;refine Hd.store1 sz4 rfl rfl rfl pkk (by simp;done) ?_
     try simp only [hyS]
     refine qk<|endH kq ?_;refine slots [(4,_),(8,_)] sbq ?_;refine thenN ?_;exact Hd.meet () sbq (Ent.sep (.eq pkk (pt_eq (by rw [hRw];simp_all [silentW,Bool.or_assoc];done)) (.eq pkk (pt_eq (by rfl)) enn)))
    try simp only [hyZ] at hg13_115
    refine Hd.takegH 28 rfl kq kq kq kq rfl rfl (y_f 17 4 Tryz.underlying204 sz4) fq sq ?_;refine Hd.takegH 29 rfl kq kq kq kq rfl rfl (y_l1 ag4 rfl) fq sq ?_;refine Hd.takegH 30 rfl kq kq kq kq rfl rfl (y_pickF rfl rfl) fq sq ?_;refine tH 31 rfl (y_pickT rfl rfl) ?_;refine tH 32 rfl (y_f 2 4 Tryz.underlying112 sz4)<|qo 33 ?_;refine Hd.store1 sz4 rfl rfl rfl pkk (by simp;done) ?_
    try simp only [hyS]
    refine qk<|endH kq ?_;refine slots [(4,_),(8,_)] sbq ?_;refine thenN ?_;exact Hd.meet () sbq (Ent.sep (.eq pkk (pt_eq (by rw [hRw];have h0:¬ (((x.cap - (x.e (1 - k)).b.length:Nat):Int) > 0):=(by omega);rw [hg13_93,hg13_101,decide_eq_false hg13_115,decide_eq_false h0];simp [silentW,hg13_115,Bool.or_assoc])) (.eq pkk (pt_eq (by rfl)) enn)))
   try simp only [hyZ] at hg13_101
   refine qt 14 ?_;refine qt 15 ?_;refine qt 16 ?_;refine qt 17 ?_;refine qt 18 ?_;refine qt 19 ?_;refine qt 20 ?_;refine qt 21 ?_;refine qt 22 ?_;refine qt 23 ?_;refine qt 24 ?_;refine qt 25 ?_;refine qt 26 ?_;refine qt 27 ?_;refine qt 28 ?_;refine qt 29 ?_;refine qt 30 ?_;refine tH 31 rfl (y_pickF rfl rfl) ?_;refine tH 32 rfl (y_f 2 4 Tryz.underlying112 sz4)<|qo 33 ?_;refine Hd.store1 sz4 rfl rfl rfl pkk (by simp;done) ?_
   try simp only [hyS]
   refine qk<|endH kq ?_;refine slots [(4,_),(8,_)] sbq ?_;refine thenN ?_;exact Hd.meet () sbq (Ent.sep (.eq pkk (pt_eq (by rw [hRw];simp_all [silentW,Bool.or_assoc];done)) (.eq pkk (pt_eq (by rfl)) enn)))
  try simp only [hyZ] at hg13_93
  refine qt 6 ?_;refine qt 7 ?_;refine qt 8 ?_;refine qt 9 ?_;refine qt 10 ?_;refine qt 11 ?_;refine tH 12 rfl (y_pickF rfl rfl) ?_;refine tH 13 rfl y_mv<|Hd.part (gd:=101) rfl (fun hg13_101=>?_) (fun hg13_101=>?_)
  ·try simp only [hyZ] at hg13_101
   refine Hd.takegH 14 rfl kq kq kq kq rfl rfl y_mv fq sq ?_;refine Hd.takegH 15 rfl kq kq kq kq rfl rfl (y_to (v':=.int .i64 ((1 - k:Nat):Int)) (y_subn rfl rfl (by simp only [InK];omega)) (by (congr 1;omega))) fq sq ?_;refine Hd.takegH 16 rfl kq kq kq kq rfl rfl (y_f 0 202 Tryz.underlying204 sz202) fq sq ?_;refine Hd.takegH 17 rfl kq kq kq kq rfl rfl (y_idxA Tryz.underlying202 sz201 rfl rfl (by omega)) fq sq ?_;refine Hd.takegH 18 rfl kq kq kq kq rfl rfl (y_f 4 30 Tryz.underlying201 sz30) fq sq ?_;refine Hd.takegH 19 rfl kq kq kq kq rfl rfl (y_load1 (v:=.slice (j.a (1 - k)) (x.e (1 - k)).b.length (j.c (1 - k))) ag30 rfl (Rd.pt1 pkk (rwc (p:=(x,j)) (j:=4) hk1 (by decide) (by omega) rfl))) fq sq ?_;refine Hd.takegH 20 rfl kq kq kq kq rfl rfl (y_len Tryz.underlying30 rfl) fq sq ?_;refine Hd.takegH 21 rfl kq kq kq kq rfl rfl (y_f 16 3 Tryz.underlying204 sz3) fq sq ?_;refine Hd.takegH 22 rfl kq kq kq kq rfl rfl (y_l1 ag3 rfl) fq sq ?_
   refine Hd.takegH 23 rfl kq kq kq kq rfl rfl (y_lss rfl rfl) fq sq ?_;refine Hd.takegH 24 rfl kq kq kq kq rfl rfl y_mv fq sq ?_;refine Hd.part (gd:=112) rfl (fun hg13_112=>?_) (fun hg13_112=>?_)
   ·try simp only [hyZ] at hg13_112
    refine qt 25 ?_;refine Hd.takegH 26 rfl kq kq kq kq rfl rfl (y_pickT rfl rfl) fq sq ?_;refine Hd.takegH 27 rfl kq kq kq kq rfl rfl y_mv fq sq ?_;refine Hd.part (gd:=115) rfl (fun hg13_115=>?_) (fun hg13_115=>?_)
    ·try simp only [hyZ] at hg13_115
     refine qt 28 ?_;refine qt 29 ?_;refine Hd.takegH 30 rfl kq kq kq kq rfl rfl (y_pickT rfl rfl) fq sq ?_;refine tH 31 rfl (y_pickT rfl rfl) ?_;refine tH 32 rfl (y_f 2 4 Tryz.underlying112 sz4)<|qo 33 ?_;refine Hd.store1 sz4 rfl rfl rfl pkk (by simp;done) ?_
     try simp only [hyS]
     refine qk<|endH kq ?_;refine slots [(4,_),(8,_)] sbq ?_;refine thenN ?_;exact Hd.meet () sbq (Ent.sep (.eq pkk (pt_eq (by rw [hRw];simp_all [silentW,Bool.or_assoc];done)) (.eq pkk (pt_eq (by rfl)) enn)))
    try simp only [hyZ] at hg13_115
    refine Hd.takegH 28 rfl kq kq kq kq rfl rfl (y_f 17 4 Tryz.underlying204 sz4) fq sq ?_;refine Hd.takegH 29 rfl kq kq kq kq rfl rfl (y_l1 ag4 rfl) fq sq ?_;refine Hd.takegH 30 rfl kq kq kq kq rfl rfl (y_pickF rfl rfl) fq sq ?_;refine tH 31 rfl (y_pickT rfl rfl) ?_;refine tH 32 rfl (y_f 2 4 Tryz.underlying112 sz4)<|qo 33 ?_;refine Hd.store1 sz4 rfl rfl rfl pkk (by simp;done) ?_
    try simp only [hyS]
    refine qk<|endH kq ?_;refine slots [(4,_),(8,_)] sbq ?_;refine thenN ?_;exact Hd.meet () sbq (Ent.sep (.eq pkk (pt_eq (by rw [hRw];exact absurd hg13_115 (by decide))) (.eq pkk (pt_eq (by rfl)) enn)))
   try simp only [hyZ] at hg13_112
   refine Hd.takegH 25 rfl kq kq kq kq rfl rfl y_mv fq sq ?_;refine Hd.takegH 26 rfl kq kq kq kq rfl rfl (y_pickF rfl rfl) fq sq ?_;refine Hd.takegH 27 rfl kq kq kq kq rfl rfl y_mv fq sq ?_;refine Hd.part (gd:=115) rfl (fun hg13_115=>?_) (fun hg13_115=>?_)
   ·try simp only [hyZ] at hg13_115
    refine qt 28 ?_;refine qt 29 ?_;refine Hd.takegH 30 rfl kq kq kq kq rfl rfl (y_pickT rfl rfl) fq sq ?_;refine tH 31 rfl (y_pickT rfl rfl) ?_;refine tH 32 rfl (y_f 2 4 Tryz.underlying112 sz4)<|qo 33 ?_;refine Hd.store1 sz4 rfl rfl rfl pkk (by simp;done) ?_
    try simp only [hyS]
    refine qk<|endH kq ?_;refine slots [(4,_),(8,_)] sbq ?_;refine thenN ?_;exact Hd.meet () sbq (Ent.sep (.eq pkk (pt_eq (by rw [hRw];simp_all [silentW,Bool.or_assoc];done)) (.eq pkk (pt_eq (by rfl)) enn)))
   try simp only [hyZ] at hg13_115
   refine Hd.takegH 28 rfl kq kq kq kq rfl rfl (y_f 17 4 Tryz.underlying204 sz4) fq sq ?_;refine Hd.takegH 29 rfl kq kq kq kq rfl rfl (y_l1 ag4 rfl) fq sq ?_;refine Hd.takegH 30 rfl kq kq kq kq rfl rfl (y_pickF rfl rfl) fq sq ?_;refine tH 31 rfl (y_pickT rfl rfl) ?_;refine tH 32 rfl (y_f 2 4 Tryz.underlying112 sz4)<|qo 33 ?_;refine Hd.store1 sz4 rfl rfl rfl pkk (by simp;done) ?_
   try simp only [hyS]
   refine qk<|endH kq ?_;refine slots [(4,_),(8,_)] sbq ?_;refine thenN ?_;exact Hd.meet () sbq (Ent.sep (.eq pkk (pt_eq (by rw [hRw];exact absurd hg13_101 (by decide))) (.eq pkk (pt_eq (by rfl)) enn)))
  try simp only [hyZ] at hg13_101
  refine qt 14 ?_;refine qt 15 ?_;refine qt 16 ?_;refine qt 17 ?_;refine qt 18 ?_;refine qt 19 ?_;refine qt 20 ?_;refine qt 21 ?_;refine qt 22 ?_;refine qt 23 ?_;refine qt 24 ?_;refine qt 25 ?_;refine qt 26 ?_;refine qt 27 ?_;refine qt 28 ?_;refine qt 29 ?_;refine qt 30 ?_;refine tH 31 rfl (y_pickF rfl rfl) ?_;refine tH 32 rfl (y_f 2 4 Tryz.underlying112 sz4)<|qo 33 ?_;refine Hd.store1 sz4 rfl rfl rfl pkk (by simp;done) ?_
  try simp only [hyS]
  refine qk<|endH kq ?_;refine slots [(4,_),(8,_)] sbq ?_;refine thenN ?_;exact Hd.meet () sbq (Ent.sep (.eq pkk (pt_eq (by rw [hRw];simp_all [silentW,Bool.or_assoc];done)) (.eq pkk (pt_eq (by rfl)) enn)))
 intro _;refine sr fun _ K16=>?_
 refine yv (y_loadn (us:=[_,_,_,_,_,_,_]) ag112 rfl (Rd.pt pkk (by (first | (intro j v e;rcases j with _|_|_|_|_|_|_|_|_|_|_|_|j<;>first | exact e | exact absurd e (by simp))))) (by exact sz112)) ?_;refine Hd.storeA (us:=encR (readyW x k)) sz112 rfl rfl rfl (by simp [Value.oneCell']) pkk (by exact rfl) ?_;refine fk [(4,_)] K16 ?_;refine Hd.ret ?_;rw [hR];exact Hd.retC rfl () ag112 rfl (Rd.pt (us:=encR (readyW x k)) pkk (fun j v e=>by rw [Nat.zero_add];exact e)) (by exact sz112) rfl (fun q s=>rw_fold hi q (Ent.sep enn q s))
end Rf
end Go.Proofs.YtmpemhbfgbochaaGreatDoor
namespace Go.Proofs.YtmpemhbfgbochaaGreatDoor
open Go.RX Fx
namespace Wo
structure Ov where
 k:Int
 a:Int
 n:Int
 t:Int
 ad:Option Addr
 c:Nat
 d:List UInt8
def mkKW (k n:Int):WireA:=if k=0 then pipeW n.toNat else if k=1 then halfW n.toNat 2 else if k=2 then connW n.toNat else listW n.toNat
def mkKE (k:Int):Nat:=if k=0∨k=1 then 2 else 1
def makeR (w:WA) (k n:Int):WA:=if n < 1∨65536 < n∨(k=3∧64 < n) then w else mkW w (mkKE k) (mkKW k n)
theorem mkKW_z (k n:Int):∀ j,j < 2→((mkKW k n).e j).inn=0∧((mkKW k n).e j).out=0:=fun j hj=>by
 unfold mkKW
 rcases (show j=0∨j=1 by omega) with rfl | rfl
 ·split
  ·exact ⟨rfl,rfl⟩
  ·split
   ·exact ⟨rfl,rfl⟩
   ·split<;>exact ⟨rfl,rfl⟩
 ·split
  ·exact ⟨rfl,rfl⟩
  ·split
   ·exact ⟨rfl,rfl⟩
   ·split<;>exact ⟨rfl,rfl⟩
theorem mkKW_new {k n:Int} {l:Nat} (hb:¬ (n < 1∨65536 < n∨(k=3∧64 < n))) (hk:0≤k∧k≤3):NewW (mkKW k n) l:=by
 unfold mkKW
 split
 ·exact pipe_new (by omega)
 ·split
  ·exact half_new (by omega)
  ·split
   ·exact conn_new (by omega)
   ·exact list_new (by omega)
theorem mkKE_le (k:Int):mkKE k≤2:=by unfold mkKE;split<;>omega
theorem make_stp (w:WA) (k n:Int) (hk:0≤k∧k≤3):Stp 1 w (makeR w k n):=by
 unfold makeR
 split
 ·exact Stp.same w
 ·rename_i hb
  have hno:=(mkKW_new (l:=w.ws.length) hb hk).no 1 (by omega)
  unfold mkW
  split
  ·refine (stp_add w (fun j hj=>?_) (fun e=>?_)).mono (Nat.zero_le _)
   ·have h:=mkKW_z k n j hj
    rw [open_e]
    split
    ·exact h
    ·exact h
   ·rw [open_e] at e ⊢
    by_cases h1:1 < mkKE k
    ·rw [if_pos (by omega)];show (1:Int)≠0;decide
    ·rw [if_neg h1] at e;exact absurd e hno
  ·exact Stp.same w
theorem mkW_ok {w:WA} (h:WOk w) {k:Nat} (hk:k≤2) {x:WireA} (hx:NewW x w.ws.length):WOk (mkW w k x):=by
 unfold mkW
 split
 ·rename_i ho
  have hof:=opF_take w hk
  obtain ⟨hfl,hwl⟩:((frees w.at).take k).length=k∧w.ws.length < 1000:=by
   unfold mkOk at ho;simp only [Bool.and_eq_true,decide_eq_true_eq] at ho;omega
  have:=h.addW hx hof hwl
  rwa [hfl] at this
 ·exact h
def doA (w:WA) (o:Ov):WA :=
 if 0≤o.k∧o.k≤3 then makeR w o.k o.n
 else if o.k=4 then (accR w o.a).2
 else if o.k=5 then (readR w o.a o.n).2
 else if o.k=6 then (writeR w o.a o.d).2
 else if o.k=7 then (shutR w o.a).2
 else if o.k=8 then (closeF w o.a).2
 else if o.k=9 then (putR w o.a o.d).2
 else if o.k=10 then (takR w o.a o.n).2
 else if o.k=11 then (pshutR w o.a).2
 else if o.k=12 then (pcloseR w o.a).2
 else if o.k=13 then (resetR w o.a).2
 else if o.k=14 then (connR w o.a o.n).2
 else if o.k=15 then passR w o.t
 else if o.k=16 then (hanR w o.a (decide (o.n > 0))).2
 else if o.k=17 then (raiR w o.a).2
 else if o.k=18 then (sigR w).2
 else if o.k=19 then (notR w o.a o.n).2
 else w
theorem ite_stp {j:Nat} {c:Prop} [Decidable c] {w a b:WA} (h1:c→Stp j w a) (h2:¬ c→Stp j w b):Stp j w (if c then a else b):=by
 by_cases h:c
 ·rw [if_pos h];exact h1 h
 ·rw [if_neg h];exact h2 h
theorem do_stp {w:WA} (h:WOk w) (o:Ov) (ht:0≤o.t):Stp 100 w (doA w o):=by
 unfold doA;refine ite_stp (fun hk=>(make_stp w o.k o.n hk).mono (by decide)) fun _=>?_
 refine ite_stp (fun _=>(acc_ok h o.a).2.mono (by decide)) fun _=>?_
 refine ite_stp (fun _=>(read_stp h o.a o.n).mono (by decide)) fun _=>?_
 refine ite_stp (fun _=>(write_stp h o.a o.d).mono (by decide)) fun _=>?_
 refine ite_stp (fun _=>(shut_stp h o.a).mono (by decide)) fun _=>?_
 refine ite_stp (fun _=>(closeF_ok h o.a).2.2.mono (by decide)) fun _=>?_
 refine ite_stp (fun _=>(put_stp h o.a o.d).mono (by decide)) fun _=>?_
 refine ite_stp (fun _=>(tak_stp h o.a o.n).mono (by decide)) fun _=>?_
 refine ite_stp (fun _=>(pshut_stp h o.a).mono (by decide)) fun _=>?_
 refine ite_stp (fun _=>(pclose_stp h o.a).mono (by decide)) fun _=>?_
 refine ite_stp (fun _=>(reset_stp h o.a).mono (by decide)) fun _=>?_
 refine ite_stp (fun _=>(conn_ok h o.a o.n).2.2.mono (by decide)) fun _=>?_
 refine ite_stp (fun _=>(pass_ok h o.t ht).2.mono (by decide)) fun _=>?_
 refine ite_stp (fun _=>(han_ok h o.a _).2.mono (by decide)) fun _=>?_
 refine ite_stp (fun _=>(rai_ok h o.a).2.mono (by decide)) fun _=>?_
 refine ite_stp (fun _=>(sig_ok h).2.mono (by decide)) fun _=>?_
 refine ite_stp (fun _=>(not_ok h o.a o.n).2.mono (by decide)) fun _=>?_
 exact Stp.same w
theorem do_mk {w:WA} {o:Ov} (h:0≤o.k∧o.k≤3):doA w o=makeR w o.k o.n:=if_pos h
theorem do_5 {w:WA} {o:Ov} (h:o.k=5):doA w o=(readR w o.a o.n).2:=by
 obtain ⟨k,a,n,t,ad,c,d⟩:=o
 obtain rfl:k=5:=h
 rfl
theorem do_6 {w:WA} {o:Ov} (h:o.k=6):doA w o=(writeR w o.a o.d).2:=by
 obtain ⟨k,a,n,t,ad,c,d⟩:=o
 obtain rfl:k=6:=h
 rfl
theorem Lo.bd {K:Nat} {w:WA} (h:Lo K w) {B:Int} (hk:(K:Int)≤B):∀ c∈w.ct,0≤c∧c≤B:=fun c hc=>by have:=h.ct c hc;omega
theorem newA_lo:Lo 0 newA:=⟨fun c hc=>by have:=(List.mem_replicate.1 hc).2;omega,fun x hx=>(by cases hx),by decide,fun x hx=>(by cases hx)⟩
end Wo
end Go.Proofs.YtmpemhbfgbochaaGreatDoor
