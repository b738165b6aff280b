/-
  Worlds: what all calls keep.
-/
import Derived.Test.YtbfddabjbkohdaaGreatZChangeKernelsE
set_option linter.unusedSimpArgs false
set_option linter.unusedVariables false
set_option linter.unnecessarySimpa false
set_option maxRecDepth 8000
set_option maxHeartbeats 2000000
open Go.RX.Hd (yv y2 n1 fk sk sr tH callE heldK qo qk qn qt qz qv endH thenN slots)
namespace Go.Proofs.YtbfddabjbkohdaaGreat
open Go.RX Fx
namespace Wo
theorem read_stp {w : WA} (h : WOk w) (fd n : Int) : Stp 1 w (readR w fd n).2 := by
 unfold readR
 split
 ·exact Stp.same w
 ·split
  ·exact Stp.same w
  ·rename_i m k hk _ x hx
   split
   ·exact Stp.same w
   ·split
    ·exact Stp.same w
    ·split
     ·exact Stp.same w
     ·split
      ·rename_i hr _ _ _
       have hwf := h.wf x (List.mem_of_getElem? hx)
       exact ((smW_take hwf (h.at_lt hk).2.2.1 (by simpa using hr)).sb hwf).stp hx fun j _ => rs_take x k n.toNat j
      ·split
       ·exact Stp.same w
       ·exact Stp.same w
theorem write_stp {w : WA} (h : WOk w) (fd : Int) (bs : List UInt8) : Stp 1 w (writeR w fd bs).2 := by
 unfold writeR
 split
 ·exact Stp.same w
 ·split
  ·exact Stp.same w
  ·rename_i m k hk _ x hx
   split
   ·exact Stp.same w
   ·split
    ·exact Stp.same w
    ·split
     ·exact Stp.same w
     ·split
      ·exact Stp.same w
      ·split
       ·exact Stp.same w
       ·rename_i hr _ _ _ _
        have hwf := h.wf x (List.mem_of_getElem? hx)
        have hk2 := (h.at_lt hk).2.2.1
        exact ((smW_put hwf hk2 bs (by rw [← hwf.wr k hk2]; simpa using hr)).sb hwf).stp hx fun j _ => rs_put x k bs j
theorem put_stp {w : WA} (h : WOk w) (n : Int) (bs : List UInt8) : Stp 1 w (putR w n bs).2 := by
 unfold putR
 split
 ·exact Stp.same w
 ·rename_i x hx
  obtain ⟨_, hx, ho⟩ := outW_some hx
  have hwf := h.wf x (List.mem_of_getElem? hx)
  split
  ·exact Stp.same w
  ·split
   ·exact Stp.same w
   ·exact ((smW_put hwf (k := 1) (by omega) bs (hwf.ou ho).1).sb hwf).stp hx fun j _ => rs_put x 1 bs j
theorem tak_stp {w : WA} (h : WOk w) (n m : Int) : Stp 1 w (takR w n m).2 := by
 unfold takR
 split
 ·exact Stp.same w
 ·rename_i x hx
  obtain ⟨_, hx, ho⟩ := outW_some hx
  have hwf := h.wf x (List.mem_of_getElem? hx)
  split
  ·exact Stp.same w
  ·split
   ·exact Stp.same w
   ·exact ((smW_take hwf (k := 1) (by omega) (hwf.ou ho).2).sb hwf).stp hx fun j _ => rs_take x 1 m.toNat j
theorem pshut_stp {w : WA} (h : WOk w) (n : Int) : Stp 1 w (pshutR w n).2 := by
 unfold pshutR
 split
 ·exact Stp.same w
 ·rename_i x hx
  obtain ⟨_, hx, ho⟩ := outW_some hx
  have hwf := h.wf x (List.mem_of_getElem? hx)
  exact ((smW_shut hwf).sb hwf).stp hx fun j _ => rs_shut x 1 j
theorem pclose_stp {w : WA} (h : WOk w) (n : Int) : Stp 1 w (pcloseR w n).2 := by
 unfold pcloseR
 split
 ·exact Stp.same w
 ·rename_i x hx
  obtain ⟨_, hx, ho⟩ := outW_some hx
  have hwf := h.wf x (List.mem_of_getElem? hx)
  exact (sbW_close hwf (by omega)).stp hx fun j _ => rs_close x 1 j
theorem reset_stp {w : WA} (h : WOk w) (n : Int) : Stp 1 w (resetR w n).2 := by
 unfold resetR
 split
 ·exact Stp.same w
 ·rename_i x hx
  obtain ⟨_, hx, ho⟩ := outW_some hx
  have hwf := h.wf x (List.mem_of_getElem? hx)
  dsimp only
  split
  ·exact Stp.same w
  ·exact ((smW_reset x).sb hwf).stp hx fun j _ => rs_reset x j
theorem shut_stp {w : WA} (h : WOk w) (fd : Int) : Stp 1 w (shutR w fd).2 := by
 unfold shutR
 split
 ·exact Stp.same w
 ·split
  ·exact Stp.same w
  ·rename_i m k hk _ x hx
   have hwf := h.wf x (List.mem_of_getElem? hx)
   split
   ·exact Stp.same w
   ·exact ((smW_shut hwf).sb hwf).stp hx fun j _ => rs_shut x k j
theorem sbW_closeP {w : WA} (h : WOk w) {m k : Nat} {x : WireA} {fd : Int} (hn : w.at fd = some (m, k)) (hx : w.ws[m]? = some x) : SbW x ((closeW x k).wts []) := by
 have hwf := h.wf x (List.mem_of_getElem? hx)
 have hk := (h.at_lt hn).2.2.1
 exact (sbW_close hwf hk).trans (sbW_wts (close_wf hwf hk) (List.nil_sublist _))
theorem closeAll_ok : ∀ (l : List Nat) (w : WA), WOk w → l.Nodup → (∀ n ∈ l, ∃ y, w.ws[n]? = some y ∧ (y.e 0).what = 0) → (∀ n ∈ l, n ∉ w.ws.flatMap WireA.wt) →
  WOk { w with ws := closeAll w.ws l } ∧ WA.at { w with ws := closeAll w.ws l } = w.at ∧ Stp l.length w { w with ws := closeAll w.ws l }
 | [], w, h, _, _, _ => ⟨h, rfl, Stp.refl w⟩
 | n :: t, w, h, hd, h0, hw => by
  obtain ⟨y, hy, hy0⟩ := h0 n List.mem_cons_self
  have hwf := h.wf y (List.mem_of_getElem? hy)
  have hs := sbW_close hwf (k := 0) (by omega)
  have hfm : (w.setW n (closeW y 0)).ws.flatMap WireA.wt = w.ws.flatMap WireA.wt := flatMap_set hy rfl
  have hni : n ∉ (w.setW n (closeW y 0)).ws.flatMap WireA.wt := by rw [hfm]; exact hw n List.mem_cons_self
  have hok := h.setS hy hs (fun e => absurd e hni)
  have hat := h.setS_at hy hs (fun e => absurd e hni) (fun k hk e => by
   rw [(close_e y (by omega) hk).1]
   split
   ·rename_i e0; subst e0; rw [hy0] at e; cases e
   ·exact e)
  have ih := closeAll_ok t (w.setW n (closeW y 0)) hok (List.nodup_cons.1 hd).2 (fun a ha => by
   obtain ⟨z, hz, hz0⟩ := h0 a (List.mem_cons_of_mem _ ha)
   have : a ≠ n := fun e => (List.nodup_cons.1 hd).1 (e ▸ ha)
   exact ⟨z, by rw [setW_ne this]; exact hz, hz0⟩) (fun a ha => by rw [hfm]; exact hw a (List.mem_cons_of_mem _ ha))
  have e : closeAll w.ws (n :: t) = closeAll (w.setW n (closeW y 0)).ws t := by
   show closeAll (match w.ws[n]? with | some y => w.ws.set n (closeW y 0) | none => w.ws) t = _
   rw [hy]; rfl
  have e2 : ({ w with ws := closeAll w.ws (n :: t) } : WA) = { w.setW n (closeW y 0) with ws := closeAll (w.setW n (closeW y 0)).ws t } := by rw [e]; rfl
  rw [e2]; refine ⟨ih.1, ih.2.1.trans hat, ?_⟩; rw [List.length_cons, Nat.add_comm]; exact (hs.stp hy fun j _ => rs_close y 0 j).trans ih.2.2
theorem wt_le {w : WA} (h : WOk w) {m : Nat} {x : WireA} (hx : w.ws[m]? = some x) : x.wt.length ≤ 64 := by
 have := (h.wf x (List.mem_of_getElem? hx)).bl
 omega
theorem wt_gone {w : WA} (h : WOk w) {m : Nat} {x x' : WireA} (hx : w.ws[m]? = some x) (hx' : x'.wt = []) : ∀ n ∈ x.wt, n ∉ (w.setW m x').ws.flatMap WireA.wt := by
 have hp := flatMap_set_app (f := WireA.wt) (bs := x.wt) (l := (w.setW m x').ws) (n := m) (x := x') (x' := x) (setW_self hx) (by rw [hx']; rfl)
 have e : (w.setW m x').ws.set m x = w.ws := by
  show (w.ws.set m x').set m x = w.ws
  rw [List.set_set]
  obtain ⟨hl, e⟩ := List.getElem?_eq_some_iff.1 hx
  rw [← e, List.set_getElem_self]
 rw [e] at hp
 have hn := hp.nodup_iff.1 h.wn
 intro n h1 h2; exact (List.nodup_append.1 hn).2.2 n h1 n h2 rfl
theorem sub_flatMap {α β : Type} {f : α → List β} : ∀ {l : List α} {n : Nat} {x : α}, l[n]? = some x → (f x).Sublist (l.flatMap f)
 | [], _, _, h => by simp at h
 | a :: l, 0, x, h => by
  obtain rfl : a = x := by simpa using h
  exact List.sublist_append_left _ _
 | a :: l, n + 1, x, h => (sub_flatMap (f := f) (l := l) (n := n) (by simpa using h)).trans (List.sublist_append_right _ _)
theorem closeF_ok {w : WA} (h : WOk w) (fd : Int) : WOk (closeF w fd).2 ∧ (closeF w fd).2.at = setT w.at fd none ∧ Stp 65 w (closeF w fd).2 := by
 unfold closeF
 split
 ·rename_i hn
  refine ⟨h, ?_, Stp.same w⟩
  funext a
  show w.at a = if a = fd then none else w.at a
  split
  ·rename_i e; rw [e]; exact hn
  ·rfl
 ·rename_i m k hn
  obtain ⟨_, _, hk, _, x0, hx0, hxw, _⟩ := h.at_lt hn
  split
  ·rename_i hx; rw [hx] at hx0; cases hx0
  ·rename_i x hx
   rw [hx] at hx0; obtain rfl := Option.some.inj hx0
   have hwf := h.wf x (List.mem_of_getElem? hx)
   have hc := h.closeW hn hx
   have hs := sbW_closeP h hn hx
   have hgo := wt_gone h hx (x' := (closeW x k).wts []) rfl
   have hsub : ∀ n ∈ x.wt, n ∈ w.ws.flatMap WireA.wt := fun n hn => List.mem_flatMap.2 ⟨x, List.mem_of_getElem? hx, hn⟩
   have h00 : ∀ n ∈ x.wt, ∃ y, (w.setW m ((closeW x k).wts [])).ws[n]? = some y ∧ (y.e 0).what = 0 := fun n hn => by
    obtain ⟨y, hy, hy0⟩ := h.wm n (hsub n hn)
    by_cases e : n = m
    ·subst e
     rw [hx] at hy; obtain rfl := Option.some.inj hy; refine ⟨_, setW_self hx, ?_⟩
     show ((closeW x k).e 0).what = 0
     rw [(close_e x hk (by omega)).1, if_neg]
     ·exact hy0
     ·intro e; subst e; rw [hy0] at hxw; cases hxw
    ·exact ⟨y, by rw [setW_ne e]; exact hy, hy0⟩
   have hm0 : m ∈ (w.setW m ((closeW x k).wts [])).ws.flatMap WireA.wt → (((closeW x k).wts []).e 0).what = 0 := fun e => by
    have := (flatMap_set_sub (f := WireA.wt) (x' := (closeW x k).wts []) hx (List.nil_sublist _)).subset e
    obtain ⟨y, hy, hy0⟩ := h.wm m this
    rw [hx] at hy; obtain rfl := Option.some.inj hy
    show ((closeW x k).e 0).what = 0
    rw [(close_e x hk (by omega)).1, if_neg]
    ·exact hy0
    ·intro e; subst e; rw [hy0] at hxw; cases hxw
   have hok := h.setS hx hs hm0
   have hat : (w.setW m ((closeW x k).wts [])).at = setT w.at fd none := by
    rw [← hc.2]
    have h2 : (w.setW m (closeW x k)).ws[m]? = some (closeW x k) := setW_self hx
    have e : w.setW m ((closeW x k).wts []) = (w.setW m (closeW x k)).setW m ((closeW x k).wts []) := by
     show ({ w with ws := _ } : WA) = { w with ws := _ }
     congr 1
     show _ = (w.ws.set m _).set m _
     rw [List.set_set]
    rw [e]; refine hc.1.setS_at h2 (sbW_wts (close_wf hwf hk) (List.nil_sublist _)) (by rw [← e]; exact hm0) fun _ _ e => e
   have hx1 := (wt_le h hx)
   obtain ⟨a, b, c⟩ := closeAll_ok x.wt (w.setW m ((closeW x k).wts [])) hok ((sub_flatMap (f := WireA.wt) hx).nodup h.wn) h00 hgo
   refine ⟨a, b.trans hat, ?_⟩; exact ((hs.stp hx fun j _ => rs_close x k j).trans c).mono (by omega)
theorem conn_e (n k : Nat) (hk : k < 2) : ((connW n).e k).what = (if k = 1 then 2 else 0) ∧ ((connW n).e k).rd = true ∧ ((connW n).e k).wr = true ∧ ((connW n).e k).b = [] ∧ ((connW n).e k).inn = 0 ∧ ((connW n).e k).out = 0 := by
 rcases (show k = 0 ∨ k = 1 by omega) with rfl | rfl
 ·exact ⟨rfl, rfl, rfl, rfl, rfl, rfl⟩
 ·exact ⟨rfl, rfl, rfl, rfl, rfl, rfl⟩
theorem conn_new {n l : Nat} (h : n ≤ 65536) : NewW (connW n) l := by
 have e := conn_e n
 refine ⟨⟨fun k hk => by rw [(e k hk).2.2.1, (e (1 - k) (by omega)).2.1], fun k hk => by rw [(e k hk).2.2.2.1]; exact Nat.zero_le _, fun k hk _ => (e k hk).2.2.2.1, h, fun k hk => ?_, ⟨Int.le_refl _, by show (0 : Int) ≤ 64; decide, by show ((0 : Nat) : Int) ≤ 0; decide⟩, fun _ => ⟨rfl, rfl⟩⟩, fun k hk => ?_, rfl⟩
 ·rw [(e k hk).1]; split <;> decide
 ·rw [(e k hk).1]; split <;> decide
theorem opF_nil (w : WA) : OpF w [] := ⟨.nil, fun _ h => (by cases h), Nat.zero_le _⟩
theorem open_nil (x : WireA) : openW x [] 0 = x := by
 obtain ⟨e, c, r, bl, wt⟩ := x
 rfl
theorem WOk.addN {w : WA} (h : WOk w) {x : WireA} (hx : NewW x w.ws.length) (hl : w.ws.length < 1000) : WOk (w.addW x) ∧ (w.addW x).at = w.at := by
 have h1 := h.addW hx (opF_nil w) hl
 have h2 := addW_at hx (opF_nil w)
 rw [show ([] : List Nat).length = 0 from rfl, open_nil] at h1 h2; exact ⟨h1, h2⟩
theorem rs_wait (x : WireA) (m : Nat) : ∀ j, RsE (x.e j) ((waitW x m).e j) := fun j => by
 show RsE (x.e j) ((x.up 0 fun e => { e with inn := IntKind.u64.wrap (e.inn + 1) }).e j)
 exact rs_up x 0 (f := fun e => { e with inn := IntKind.u64.wrap (e.inn + 1) }) (fun e => ⟨.inr rfl, .inl rfl⟩) j
theorem conn_ok {w : WA} (h : WOk w) (n m : Int) : WOk (connR w n m).2 ∧ (connR w n m).2.at = w.at ∧ Stp 1 w (connR w n m).2 := by
 unfold connR
 split
 ·exact ⟨h, rfl, Stp.same w⟩
 ·rename_i x hx
  have hx : 0 ≤ n ∧ w.ws[n.toNat]? = some x := by
   split at hx
   ·cases hx
   ·exact ⟨by omega, hx⟩
  split
  ·exact ⟨h, rfl, Stp.same w⟩
  ·split
   ·exact ⟨h, rfl, Stp.same w⟩
   ·split
    ·exact ⟨h, rfl, Stp.same w⟩
    ·split
     ·exact ⟨h, rfl, Stp.same w⟩
     ·rename_i h1 h2 h3 h4
      have hlt := (List.getElem?_eq_some_iff.1 hx.2).1
      have ha := h.addN (conn_new (n := m.toNat) (l := w.ws.length) (by omega)) (by omega)
      have hx2 : (w.addW (connW m.toNat)).ws[n.toNat]? = some x := by show (w.ws ++ [_])[n.toNat]? = _; rw [List.getElem?_append_left hlt]; exact hx.2
      have hy : (w.addW (connW m.toNat)).ws[w.ws.length]? = some (connW m.toNat) := by show (w.ws ++ [_])[w.ws.length]? = _; simp
      have hnw : w.ws.length ∉ (w.addW (connW m.toNat)).ws.flatMap WireA.wt := fun e => by
       have e2 : (w.addW (connW m.toNat)).ws.flatMap WireA.wt = w.ws.flatMap WireA.wt := by
        show (w.ws ++ [_]).flatMap WireA.wt = _
        rw [List.flatMap_append, List.flatMap_cons, List.flatMap_nil, show (connW m.toNat).wt = [] from rfl, List.append_nil, List.append_nil]
       rw [e2] at e
       obtain ⟨z, hz, _⟩ := h.wm _ e
       have := (List.getElem?_eq_some_iff.1 hz).1
       omega
      have hw := ha.1.wait hx2 hy rfl (by omega) hnw (by omega)
      refine ⟨hw.1, hw.2.trans ha.2, ?_⟩
      have s1 := stp_add w (x := connW m.toNat) (fun k hk => ⟨(conn_e m.toNat k hk).2.2.2.2.1, (conn_e m.toNat k hk).2.2.2.2.2⟩) (fun e => by rw [(conn_e m.toNat 1 (by omega)).1] at e; exact absurd e (by decide))
      have s2 := stp_set (w := w.addW (connW m.toNat)) (x' := waitW x w.ws.length) hx2 (fun k _ => rs_wait x _ k) (fun e => by rw [(wait_e x _ 0).1]; exact e) (fun _ k hk e => ⟨by rw [← (wait_e x w.ws.length k).1]; exact e, (wait_e x _ k).2.1⟩) (fun e => by rw [(wait_e x w.ws.length 1).1] at e; exact e)
      exact (s1.trans s2).mono (by omega)
theorem acc_ok {w : WA} (h : WOk w) (fd : Int) : WOk (accR w fd).2 ∧ Stp 2 w (accR w fd).2 := by
 unfold accR
 split
 ·exact ⟨h, Stp.same w⟩
 ·rename_i m k hm
  split
  ·exact ⟨h, Stp.same w⟩
  ·rename_i x hx
   split
   ·exact ⟨h, Stp.same w⟩
   ·split
    ·exact ⟨h, Stp.same w⟩
    ·rename_i a t hwt
     split
     ·exact ⟨h, Stp.same w⟩
     ·rename_i f fs hfs
      split
      ·exact ⟨h, Stp.same w⟩
      ·rename_i y hy
       have hwf := h.wf x (List.mem_of_getElem? hx)
       have hs : SbW x (x.wts t) := sbW_wts hwf (by rw [hwt]; exact List.sublist_cons_self _ _)
       have hsub := flatMap_set_sub (f := WireA.wt) (x' := x.wts t) hx hs.wt
       have hm0 : m ∈ (w.setW m (x.wts t)).ws.flatMap WireA.wt → ((x.wts t).e 0).what = 0 := fun e => by
        obtain ⟨z, hz, hz0⟩ := h.wm m (hsub.subset e)
        rw [hx] at hz; obtain rfl := Option.some.inj hz; exact hz0
       have hok := h.setS hx hs hm0
       have hat := h.setS_at hx hs hm0 (fun _ _ e => e)
       have ham : a ∈ w.ws.flatMap WireA.wt := List.mem_flatMap.2 ⟨x, List.mem_of_getElem? hx, by rw [hwt]; exact List.mem_cons_self⟩
       have hy0 : (y.e 0).what = 0 := by
        obtain ⟨z, hz, hz0⟩ := h.wm a ham
        rcases setW_get hy with ⟨rfl, rfl⟩ | ⟨_, hy⟩
        ·rw [hx] at hz; obtain rfl := Option.some.inj hz
         exact hz0
        ·rw [hy] at hz; obtain rfl := Option.some.inj hz
         exact hz0
       have hamw : a ∉ (w.setW m (x.wts t)).ws.flatMap WireA.wt := by
        have hp2 := flatMap_set_app (f := WireA.wt) (bs := [a] ++ t) (l := (w.setW m (x.wts [])).ws) (n := m) (x := x.wts []) (x' := x) (setW_self hx) (by rw [hwt]; rfl)
        have hp3 := flatMap_set_app (f := WireA.wt) (bs := t) (l := (w.setW m (x.wts [])).ws) (n := m) (x := x.wts []) (x' := x.wts t) (setW_self hx) rfl
        have e1 : (w.setW m (x.wts [])).ws.set m x = w.ws := by
         show (w.ws.set m _).set m x = w.ws
         rw [List.set_set]
         obtain ⟨hl, e⟩ := List.getElem?_eq_some_iff.1 hx
         rw [← e, List.set_getElem_self]
        have e2 : (w.setW m (x.wts [])).ws.set m (x.wts t) = (w.setW m (x.wts t)).ws := by
         show (w.ws.set m _).set m _ = w.ws.set m _
         rw [List.set_set]
        rw [e1] at hp2; rw [e2] at hp3
        have hn := hp2.nodup_iff.1 h.wn
        intro hm
        have := hp3.mem_iff.1 hm
        rw [List.append_assoc] at hn; exact (List.nodup_cons.1 hn).1 this
       have hff := frees_mem.1 (show f ∈ frees w.at by rw [hfs]; exact List.mem_cons_self)
       have hg := hok.give (f := f) hy (by rw [hy0]; decide) hamw hff.1 (by rw [hat]; exact hff.2)
       refine ⟨hg.1, ?_⟩
       have s1 := hs.stp hx fun j _ => RsE.refl _
       have s2 := stp_set (w := w.setW m (x.wts t)) (x' := giveW y f) hy (fun k _ => rs_up y 0 (f := fun e => { e with what := 1, fd := (f : Int) }) (fun e => RsE.refl _) k) (fun e => absurd hy0 e) (fun e => absurd hy0 e) (fun e => by rw [give1] at e; exact e)
       exact s1.trans s2
theorem pass_ok {w : WA} (h : WOk w) (n : Int) (h0 : 0 ≤ n) : WOk (passR w n) ∧ Stp 0 w (passR w n) := by
 refine ⟨⟨h.uq, h.fd, h.len, h.hdl, h.ctl, h.wf, h.wn, h.wm, h.nt, h.ns⟩, fun K _ hl => ⟨⟨hl.ct, hl.rs, ?_, hl.g1⟩, gr_ws rfl⟩⟩
 have := hl.now
 show 0 ≤ w.now + min n (18446744073709551615 - w.now) ∧ w.now + min n (18446744073709551615 - w.now) ≤ 18446744073709551615
 omega
theorem ntc_ok {w : WA} (h : WOk w) : WOk (ntcR w) ∧ (ntcR w).at = w.at ∧ Stp 1 w (ntcR w) := by
 unfold ntcR
 split
 ·exact ⟨h, rfl, Stp.same w⟩
 ·rename_i n k hn
  obtain ⟨hk, x0, hx0, z0, z1⟩ := h.nt n k hn
  split
  ·exact ⟨h, rfl, Stp.same w⟩
  ·rename_i x hx
   rw [hx] at hx0; obtain rfl := Option.some.inj hx0
   have hwf := h.wf x (List.mem_of_getElem? hx)
   have hrd : ∀ j, j < 2 → (x.e j).rd = true := fun j hj => by
    rcases (show j = 0 ∨ j = 1 by omega) with rfl | rfl
    ·exact z0
    ·exact z1
   split
   ·have hs := smW_take hwf (n := (x.e k).b.length) hk (hrd k hk)
    exact ⟨h.setW hx hs, h.setW_at hx hs, (hs.sb hwf).stp hx fun j _ => rs_take x k _ j⟩
   ·split
    ·have hs := smW_put hwf (k := 1 - k) (by omega) [1] (hrd (1 - (1 - k)) (by omega))
     exact ⟨h.setW hx hs, h.setW_at hx hs, (hs.sb hwf).stp hx fun j _ => rs_put x (1 - k) [1] j⟩
    ·exact ⟨h, rfl, Stp.same w⟩
theorem ct_ok {w : WA} (h : WOk w) {hd : List Bool} {ct : List Int} (h1 : hd.length = 32) (h2 : ct.length = 32) : WOk { w with hd := hd, ct := ct } := ⟨h.uq, h.fd, h.len, h1, h2, h.wf, h.wn, h.wm, h.nt, h.ns⟩
theorem ct_stp (w : WA) {hd : List Bool} {ct : List Int} (h : ∀ K : Nat, (∀ c ∈ w.ct, 0 ≤ c ∧ c ≤ (K : Int)) → ∀ c ∈ ct, 0 ≤ c ∧ c ≤ ((K + 1 : Nat) : Int)) : Stp 1 w { w with hd := hd, ct := ct } := fun K _ hl => ⟨⟨h K hl.ct, (hl.mono (Nat.le_succ K)).rs, hl.now, hl.g1⟩, gr_ws rfl⟩
theorem han_ok {w : WA} (h : WOk w) (s : Int) (on : Bool) : WOk (hanR w s on).2 ∧ Stp 2 w (hanR w s on).2 := by
 unfold hanR
 split
 ·have := ntc_ok h
  exact ⟨this.1, this.2.2.mono (by omega)⟩
 ·have h1 : WOk { w with hd := w.hd.set s.toNat on, ct := if on = true then w.ct else w.ct.set s.toNat 0 } := ct_ok h (by rw [List.length_set]; exact h.hdl) (by split; exact h.ctl; rw [List.length_set]; exact h.ctl)
  have := ntc_ok h1
  refine ⟨this.1, (ct_stp w fun K hc c hm => ?_).trans this.2.2⟩
  split at hm
  ·have := hc c hm; omega
  ·rcases List.mem_or_eq_of_mem_set hm with hm | rfl
   ·have := hc c hm; omega
   ·omega
theorem rai_ok {w : WA} (h : WOk w) (s : Int) : WOk (raiR w s).2 ∧ Stp 2 w (raiR w s).2 := by
 unfold raiR
 split
 ·have := ntc_ok h
  exact ⟨this.1, this.2.2.mono (by omega)⟩
 ·rename_i hs
  have h1 : WOk { w with ct := if w.hd.getD s.toNat false = true then w.ct.set s.toNat (w.ct.getD s.toNat 0 + 1) else w.ct } := ct_ok h h.hdl (by split; rw [List.length_set]; exact h.ctl; exact h.ctl)
  have := ntc_ok h1
  refine ⟨this.1, (ct_stp w fun K hc c hm => ?_).trans this.2.2⟩
  split at hm
  ·rcases List.mem_or_eq_of_mem_set hm with hm | rfl
   ·have := hc c hm; omega
   ·have hl : s.toNat < w.ct.length := by rw [h.ctl]; omega
    rw [List.getD_eq_getElem?_getD, List.getElem?_eq_getElem hl]
    have := hc _ (List.getElem_mem hl)
    show 0 ≤ w.ct[s.toNat] + 1 ∧ w.ct[s.toNat] + 1 ≤ _
    omega
  ·have := hc c hm; omega
theorem sig_ok {w : WA} (h : WOk w) : WOk (sigR w).2 ∧ Stp 2 w (sigR w).2 := by
 unfold sigR; dsimp only
 have h1 : WOk { w with ct := match w.ct with | [] => [] | c :: t => c :: t.map fun _ => 0 } := ct_ok h h.hdl (by
  have := h.ctl
  cases hc : w.ct with
  | nil => rw [hc] at this; exact this
  | cons c t => rw [hc] at this; simpa using this)
 have := ntc_ok h1
 refine ⟨this.1, (ct_stp w fun K hc c hm => ?_).trans this.2.2⟩
 cases he : w.ct with
 | nil => rw [he] at hm; cases hm
 | cons a t =>
  rw [he] at hm
  rcases List.mem_cons.1 hm with rfl | hm
  ·have := hc c (by rw [he]; exact List.mem_cons_self); omega
  ·obtain ⟨_, _, rfl⟩ := List.mem_map.1 hm; omega
theorem not_ok {w : WA} (h : WOk w) (a b : Int) : WOk (notR w a b).2 ∧ Stp 1 w (notR w a b).2 := by
 unfold notR
 split
 ·rename_i n k m i ha hb
  split
  ·exact ⟨h, Stp.same w⟩
  ·rename_i x hx
   split
   ·exact ⟨h, Stp.same w⟩
   ·rename_i hc
    have hk := (h.at_lt ha).2.2.1
    have h1 : WOk { w with nt := some (n, k) } := ⟨h.uq, h.fd, h.len, h.hdl, h.ctl, h.wf, h.wn, h.wm, fun a b e => by
     obtain ⟨rfl, rfl⟩ := Prod.mk.inj (Option.some.inj e)
     exact ⟨hk, x, hx, by cases hz : (x.e 0).rd with | true => rfl | false => exact absurd (.inr (.inr (.inl hz))) hc, by cases hz : (x.e 1).rd with | true => rfl | false => exact absurd (.inr (.inr (.inr hz))) hc⟩, h.ns⟩
    have := ntc_ok h1
    refine ⟨this.1, ?_⟩
    have s0 : Stp 0 w { w with nt := some (n, k) } := fun K _ hl => ⟨⟨hl.ct, hl.rs, hl.now, hl.g1⟩, gr_ws rfl⟩
    exact (s0.trans this.2.2).mono (by omega)
 ·exact ⟨h, Stp.same w⟩
end Wo
end Go.Proofs.YtbfddabjbkohdaaGreat
namespace Go.Proofs.YtbfddabjbkohdaaGreat
open Go.RX Fx
namespace Rf
open Wo
structure RwI where
 a : Nat → Option Addr
 c : Nat → Nat
 wa : Option Addr
 wc : Nat
abbrev Row := WireA × RwI
abbrev encRE (x : EndA) (a : Option Addr) (c : Nat) : List Value := [.int .i64 x.what, .int .i64 x.fd, .bool x.rd, .bool x.wr, .slice a x.b.length c, .bool x.shut, .int .u64 x.inn, .int .u64 x.out]
abbrev encRW (p : Row) : List Value := encRE (p.1.e 0) (p.2.a 0) (p.2.c 0) ++ (encRE (p.1.e 1) (p.2.a 1) (p.2.c 1) ++ [.int .i64 (p.1.cap : Int), .bool p.1.rs, .int .i64 p.1.bl, .slice p.2.wa p.1.wt.length p.2.wc])
theorem encRW_len (p : Row) : (encRW p).length = 20 := rfl
theorem encRW_one (p : Row) : ∀ u ∈ encRW p, u.oneCell' = true := by simp [Value.oneCell']
abbrev SdB (p : Row) (k : Nat) : SP := own 5 1 (p.2.a k) (p.1.e k).b.length (p.2.c k) (bsl (p.1.e k).b)
abbrev SdW (p : Row) : SP := own 3 1 p.2.wa p.1.wt.length p.2.wc (nats p.1.wt)
abbrev SdL (p : Row) (k : Nat) (L : List SP) : List SP := SdB p k :: SdB p (1 - k) :: SdW p :: L
def Sd (p : Row) : SP := RX.ex fun k : Nat => pu (k < 2) :: SdL p k []
theorem Hd.sd {E : World} {n : Nat} {ds : List Deferred} {st : List (Nat × Value)} {L L' : List SP} {K : Act → World → Prop} {p : Row} (q : Pick L (Sd p) L') (k : Nat) (hk : k < 2) (h : Hd E n ds st (SdL p k L') K) : Hd E n ds st L K :=
 Hd.exs (f := fun k : Nat => pu (k < 2) :: SdL p k []) q fun j => Hd.pure fun hj => by
  by_cases e : j = k
  ·subst e; exact h
  ·obtain rfl : j = 1 - k := by omega
   refine Hd.heap (SdL p k L') (fun q s => ?_) h
   have e2 : 1 - (1 - k) = k := by omega
   have s' : sep (SdL p (1 - k) L') q := s
   unfold SdL at s'; rw [e2] at s'; exact Ent.sep enn q s'
theorem sd_fold {p : Row} {k : Nat} (hk : k < 2) {L : List SP} : ∀ h, sep (SdL p k L) h → sep (Sd p :: L) h := fun h s => Ent.sep (.ex k (.pure hk enn)) h s
theorem sd_same {p p' : Row} (hb : ∀ k, k < 2 → (p'.1.e k).b = (p.1.e k).b) (hw : p'.1.wt = p.1.wt) (hi : p'.2 = p.2) : Sd p' = Sd p := by
 have h : ∀ k, k < 2 → SdL p' k [] = SdL p k [] := fun k hk => by
  unfold SdL SdB SdW; rw [hb k hk, hb (1 - k) (by omega), hw, hi]
 unfold Sd
 funext q
 refine propext ⟨?_, ?_⟩
 ·rintro ⟨k, s⟩
  have hk : k < 2 := by obtain ⟨_, _, _, _, _, hf, _⟩ := s; exact hf
  exact ⟨k, by show sep (pu (k < 2) :: SdL p k []) q; rw [← h k hk]; exact s⟩
 ·rintro ⟨k, s⟩
  have hk : k < 2 := by obtain ⟨_, _, _, _, _, hf, _⟩ := s; exact hf
  exact ⟨k, by show sep (pu (k < 2) :: SdL p' k []) q; rw [h k hk]; exact s⟩
abbrev ntV : Option (Nat × Nat) → List Value
 | none => [.int .i64 (-1), .int .i64 0]
 | some (n, k) => [.int .i64 (n : Int), .int .i64 (k : Int)]
abbrev RwC (w : WA) (n : Nat) (ad : Option Addr) (c : Nat) : List Value := [.slice ad n c, .int .u64 w.now] ++ (w.hd.map .bool ++ (w.ct.map (Value.int .i64) ++ ntV w.nt))
abbrev RwH (b : Nat) (w : WA) (n : Nat) (ad : Option Addr) (c : Nat) : SP := pt b (RwC w n ad c) 133
abbrev Rows_ := List Row × Option Addr × Nat
abbrev OwR (i : Rows_) : SP := own 221 20 i.2.1 i.1.length i.2.2 (i.1.flatMap encRW)
abbrev RwL (b : Nat) (w : WA) (i : Rows_) (L : List SP) : List SP := RwH b w i.1.length i.2.1 i.2.2 :: OwR i :: Bag Sd i.1 :: L
def RwP (b : Nat) (w : WA) : SP := RX.ex fun i : Rows_ => pu (i.1.map Prod.fst = w.ws) :: RwL b w i []
theorem Hd.rw {E : World} {n : Nat} {ds : List Deferred} {st : List (Nat × Value)} {L L' : List SP} {K : Act → World → Prop} {b : Nat} {w : WA} (p : Pick L (RwP b w) L') (h : ∀ i : Rows_, i.1.map Prod.fst = w.ws → Hd E n ds st (RwL b w i L') K) : Hd E n ds st L K :=
 Hd.exs (f := fun i : Rows_ => pu (i.1.map Prod.fst = w.ws) :: RwL b w i []) p fun i => Hd.pure fun hr => h i hr
theorem rw_fold {b : Nat} {w : WA} {i : Rows_} {L : List SP} (h : i.1.map Prod.fst = w.ws) : ∀ k, sep (RwL b w i L) k → sep (RwP b w :: L) k := fun k s => Ent.sep (.ex i (.pure h enn)) k s
theorem row_at {w : WA} {i : Rows_} (h : i.1.map Prod.fst = w.ws) {n : Nat} {x : WireA} (hn : w.ws[n]? = some x) : ∃ j, i.1[n]? = some (x, j) := by
 rw [← h, List.getElem?_map] at hn
 cases hr : i.1[n]? with
 | none => rw [hr] at hn; cases hn
 | some p => rw [hr] at hn; obtain ⟨y, j⟩ := p; obtain rfl := Option.some.inj hn; exact ⟨j, rfl⟩
theorem rows_n {w : WA} {i : Rows_} (h : i.1.map Prod.fst = w.ws) : i.1.length = w.ws.length := by rw [← h, List.length_map]
theorem rcell {rs : List Row} {n k j o : Nat} {x : WireA} {i : RwI} {v : Value} (h : rs[n]? = some (x, i)) (hk : k < 2) (hj : j < 8) (ho : o = n * 20 + k * 8 + j) (hv : (encRE (x.e k) (i.a k) (i.c k))[j]? = some v) : (rs.flatMap encRW)[o]? = some v := by
 subst ho; rw [Nat.add_assoc]; refine flat_cells encRW 20 encRW_len h (k * 8 + j) v ?_
 rcases (show k = 0 ∨ k = 1 by omega) with rfl | rfl
 ·rw [show 0 * 8 + j = j by omega, List.getElem?_append_left (by simp; omega)]; exact hv
 ·rw [List.getElem?_append_right (by simp), List.getElem?_append_left (by simp; omega)]
  simpa using hv
theorem rcellW {rs : List Row} {n j o : Nat} {x : WireA} {i : RwI} {v : Value} (h : rs[n]? = some (x, i)) (ho : o = n * 20 + j) (hv : (encRW (x, i))[j]? = some v) : (rs.flatMap encRW)[o]? = some v := by
 subst ho; exact flat_cells encRW 20 encRW_len h j v hv
theorem rset {rs : List Row} {n k j o : Nat} {x x' : WireA} {i i' : RwI} {v : Value} (h : rs[n]? = some (x, i)) (hk : k < 2) (hj : j < 8) (ho : o = n * 20 + k * 8 + j) (he : (encRE (x.e k) (i.a k) (i.c k)).set j v = encRE (x'.e k) (i'.a k) (i'.c k))
  (h1 : encRE (x.e (1 - k)) (i.a (1 - k)) (i.c (1 - k)) = encRE (x'.e (1 - k)) (i'.a (1 - k)) (i'.c (1 - k))) (h2 : (encRW (x, i)).drop 16 = (encRW (x', i')).drop 16) : (rs.flatMap encRW).set o v = (rs.set n (x', i')).flatMap encRW := by
 subst ho; refine rows_set (j := k * 8 + j) encRW_len (by omega) ?_ h (by omega)
 have h3 : ([.int .i64 (x.cap : Int), .bool x.rs, .int .i64 x.bl, .slice i.wa x.wt.length i.wc] : List Value) = [.int .i64 (x'.cap : Int), .bool x'.rs, .int .i64 x'.bl, .slice i'.wa x'.wt.length i'.wc] := h2
 rcases (show k = 0 ∨ k = 1 by omega) with rfl | rfl
 ·rw [show 0 * 8 + j = j by omega]
  show (encRE (x.e 0) (i.a 0) (i.c 0) ++ _).set j v = _
  rw [List.set_append_left _ _ (by simp; omega), he]
  show _ ++ (encRE (x.e 1) (i.a 1) (i.c 1) ++ _) = _ ++ (_ ++ _)
  rw [h1, h3]
 ·show (encRE (x.e 0) (i.a 0) (i.c 0) ++ (encRE (x.e 1) (i.a 1) (i.c 1) ++ _)).set (1 * 8 + j) v = _
  rw [List.set_append_right _ _ (by simp), List.set_append_left _ _ (by simp; omega)]; rw [show 1 * 8 + j - (encRE (x.e 0) (i.a 0) (i.c 0)).length = j by simp, he, h3]
  have h1' : encRE (x.e 0) (i.a 0) (i.c 0) = encRE (x'.e 0) (i'.a 0) (i'.c 0) := h1
  rw [h1']
section
variable {E : World} {n : Nat} {ds : List Deferred} {st : List (Nat × Value)} {L L' : List SP} {P : Program} {d : Nat} {ty t : TypeId} {pos : String} {af : Array Edge} {g : Option (Nat × Bool)} {op : Operand} {v : Value}
theorem y_rc {e m c q k o : Nat} {ad : Option Addr} {rs : List Row} {x : WireA} {i : RwI} (ha : agk P t = some false) (hx : evo st op = some (.pointer (some ((adr ad).add o)))) (hr : rs[q]? = some (x, i)) (hk : k < 2) (j : Nat) (hv : (encRE (x.e k) (i.a k) (i.c k))[j]? = some v)
  (p : Pick L (own e 20 ad m c (rs.flatMap encRW)) L' := by repeat (first | with_reducible exact Pick.here | apply Pick.there | with_reducible apply Pick.right)) (ho : o = q * 20 + k * 8 + j := by omega) (hj : j < 8 := by decide) : Yv E n ds st L P ⟨some d, .load t op, ty, pos, af, g⟩ v :=
 y_loadR1 ha hx (RdS.own p) (rcell hr hk hj ho hv)
theorem y_rw {e m c q o : Nat} {ad : Option Addr} {rs : List Row} {x : WireA} {i : RwI} (ha : agk P t = some false) (hx : evo st op = some (.pointer (some ((adr ad).add o)))) (hr : rs[q]? = some (x, i)) (j : Nat) (hv : (encRW (x, i))[j]? = some v)
  (p : Pick L (own e 20 ad m c (rs.flatMap encRW)) L' := by repeat (first | with_reducible exact Pick.here | apply Pick.there | with_reducible apply Pick.right)) (ho : o = q * 20 + j := by omega) : Yv E n ds st L P ⟨some d, .load t op, ty, pos, af, g⟩ v :=
 y_loadR1 ha hx (RdS.own p) (rcellW hr ho hv)
end
end Rf
end Go.Proofs.YtbfddabjbkohdaaGreat
namespace Go.Proofs.YtbfddabjbkohdaaGreat
open Go.RX Fx
namespace Wo
theorem wol_back {wb n b : Nat} {w : WA} {i : WoI} {x : WireA} {L : List SP} (hb : i.rs[n]? = some (b, x)) : ∀ h, sep (WireP b x :: WoR wb n w i L) h → sep (WoL wb w i L) h := by
 intro h s
 obtain ⟨hn, e⟩ := List.getElem?_eq_some_iff.1 hb
 have h1 : sep (WireP b x :: Wires (i.rs.take n) :: Wires (i.rs.drop (n + 1)) :: WoH wb w.at w i.rs.length i :: own 191 1 i.wa i.rs.length i.wc (pws i.rs) :: SigP i.sb w.hd w.ct :: L) h := Ent.sep enn h s
 have h2 := ws_in hn h1
 rw [← e, List.set_getElem_self] at h2; exact Ent.sep enn h h2
def outB (i : WoI) (w : WA) (n : Int) : Option Nat := if (outW w n).isSome then (i.rs[n.toNat]?).map Prod.fst else none
def outE (w : WA) (n : Int) : Int := if (outW w n).isSome then 0 else 116
theorem outW_nat {w : WA} {n : Nat} {x : WireA} (hx : w.ws[n]? = some x) : outW w (n : Int) = if (x.e 1).what = 2 then some x else none := by
 unfold outW; rw [if_neg (by omega), Int.toNat_natCast, hx]
theorem outW_off {w : WA} {n : Int} (h : n < 0 ∨ (w.ws.length : Int) ≤ n) : outW w n = none := by
 unfold outW
 split
 ·rfl
 ·rw [List.getElem?_eq_none (by omega)]
theorem outer1_ct (L : List SP) (wb : Nat) (w : WA) (i : WoI) (hw : WOk w) (hrs : i.rs.map Prod.snd = w.ws) (n b : Nat) (x : WireA) (hb : i.rs[n]? = some (b, x)) : Ct Tryz.prog 111 #[.pointer (some ⟨wb, 0, none⟩), .int .i64 (n : Int)] (WoL wb w i L) (fun _ : Unit => .tuple #[ptr (if (x.e 1).what = 2 then some b else none), .int .i64 (if (x.e 1).what = 2 then 0 else 116)]) (fun _ : Unit => WoL wb w i L) := by
 refine Ct.o2 Tryz.func111 ?_; intro E
 show Hd E 43 _ _ _ _
 have hn := (List.getElem?_eq_some_iff.1 hb).1
 refine sr fun _ K1 => ?_
 refine yv y_as <| yv y_as <| fk [(0,_),(1,_)] K1 ?_; refine Hd.seq fun _ K2 => ?_
 refine Hd.block <| sr fun _ K3 => ?_
 refine yv y_mv <| callE rfl fk113 (wnone_ct _ wb w.at w i.rs.length i) sq ?_; intro _; refine yv y_as <| fk [(0,_),(1,_),(6,_)] K3 ?_; refine Hd.condF rfl ?_; refine Hd.seq fun _ K4 => ?_
 refine Hd.wOut pkk hb ?_; refine Hd.wire .here 1 (by omega) (fun i2 hi => ?_); refine Hd.region <| yv y_mv <| yv (y_lss rfl rfl) ?_; refine yv y_mv ?_; apply Hd.org 8 12 20 [(0,_),(1,_)] rfl sbq
 ·intro hg3_12
  try simp only [hyZ] at hg3_12
  simp only [List.take]; refine n1 <| n1 <| n1 <| n1 <| n1 <| n1 <| n1 <| yv (y_pickT rfl rfl) ?_; exact Hd.mn
 ·intro hg3_12
  try simp only [hyZ] at hg3_12
  simp only [List.take]; refine y2 y_mv <| y2 y_mv <| y2 y_np <| y2 (y_f 288 208 Tryz.underlying210 sz208) <| y2 (y_load1 ag208 rfl (Rd.pt1 pkk (by exact woT_at (j := 0) (by omega) rfl))) ?_; refine y2 (y_len Tryz.underlying208 rfl) ?_; refine y2 (y_geq rfl rfl) ?_; refine yv (y_pickF rfl rfl) ?_; exact Hd.mn
 simp only [List.drop]; refine yv y_mv ?_; apply Hd.org (q := decide ((x.e 1).what ≠ 2)) 14 21 35 [(0,_),(1,_)] rfl sbq
 ·intro hg3_21
  try simp only [hyZ] at hg3_21
  simp only [List.take]; refine n1 <| n1 <| n1 <| n1 <| n1 <| n1 <| n1 <| n1 <| n1 <| n1 <| n1 <| n1 <| n1 <| yv (y_pickT rfl rfl) ?_; exact Hd.mn
 ·intro hg3_21
  try simp only [hyZ] at hg3_21
  simp only [List.take]; refine y2 y_mv <| y2 y_np <| y2 (y_f 288 208 Tryz.underlying210 sz208) <| y2 (y_load1 ag208 rfl (Rd.pt1 pkk (by exact woT_at (j := 0) (by omega) rfl))) ?_; refine y2 y_mv <| y2 (y_idxR Tryz.underlying208 sz191 rfl rfl (by omega) (by exact RdS.own pkk)) ?_; refine y2 (y_loadR1 ag191 rfl (by exact RdS.own pkk) (by exact pws_at hb)) ?_; refine y2 y_np <| y2 (y_f 0 197 Tryz.underlying199 sz197) <| y2 (y_idxA Tryz.underlying197 sz196 rfl rfl (by decide)) ?_; refine y2 (y_f 0 3 Tryz.underlying196 sz3) <| y2 (y_l1 ag3 rfl) <| y2 (y_neq rfl rfl) ?_; refine yv (y_pickF rfl rfl) ?_; exact Hd.mn
 simp only [List.drop]; refine yv y_as <| fk [(0,_),(1,_),(9,_)] K4 ?_; refine qz ?_ ?_ <;> intro hc1 <;> try simp only [hyZ] at hc1
 ·refine sr fun _ K5 => ?_
  refine yv y_as <| yv y_as <| fk [(4,_),(5,_)] K5 ?_; refine Hd.ret <| Hd.inBret <| Hd.thenRet ?_
  have h2 : ¬ ((x.e 1).what = 2) := by
   rcases hc1 with h | h
   ·omega
   ·exact h
  rw [if_neg h2, if_neg h2]; exact Hd.ret2 rfl () rfl rfl rfl (fun q s => wol_back hb q (wire_fold (k := 1) hi (by omega) q (Ent.sep enn q s)))
 refine Hd.skip <| Hd.inB <| Hd.toK K2 ?_; refine sr fun _ K6 => ?_
 refine yv y_mv <| yv y_np <| yv (y_f 288 208 Tryz.underlying210 sz208) <| yv (y_load1 ag208 rfl (Rd.pt1 pkk (by exact woT_at (j := 0) (by omega) rfl))) ?_; refine yv y_mv <| yv (y_idxR Tryz.underlying208 sz191 rfl rfl (by omega) (by exact RdS.own pkk)) ?_; refine yv (y_loadR1 ag191 rfl (by exact RdS.own pkk) (by exact pws_at hb)) ?_; refine yv y_as <| yv y_as <| fk [(4,_),(5,_)] K6 ?_; refine Hd.ret ?_; rw [if_pos hc1.2, if_pos hc1.2]; exact Hd.ret2 rfl () rfl rfl rfl (fun q s => wol_back hb q (wire_fold (k := 1) hi (by omega) q (Ent.sep enn q s)))
theorem outer0_ct (L : List SP) (wb : Nat) (w : WA) (i : WoI) (n : Int) (hn : n < 0 ∨ (i.rs.length : Int) ≤ n) : Ct Tryz.prog 111 #[.pointer (some ⟨wb, 0, none⟩), .int .i64 n] (WoL wb w i L) (fun _ : Unit => .tuple #[ptr none, .int .i64 116]) (fun _ : Unit => WoL wb w i L) := by
 refine Ct.o2 Tryz.func111 ?_; intro E
 show Hd E 43 _ _ _ _
 refine sr fun _ K1 => ?_
 refine yv y_as <| yv y_as <| fk [(0,_),(1,_)] K1 ?_; refine Hd.seq fun _ K2 => ?_
 refine Hd.block <| sr fun _ K3 => ?_
 refine yv y_mv <| callE rfl fk113 (wnone_ct _ wb w.at w i.rs.length i) sq ?_; intro _; refine yv y_as <| fk [(0,_),(1,_),(6,_)] K3 ?_; refine Hd.condF rfl ?_; refine sr fun _ K4 => ?_
 refine yv y_mv <| yv (y_lss rfl rfl) ?_; refine yv y_mv <| Hd.part (gd := 12) rfl (fun hg3_12 => ?_) (fun hg3_12 => ?_)
 ·try simp only [hyZ] at hg3_12
  refine n1 <| n1 <| n1 <| n1 <| n1 <| n1 <| n1 <| yv (y_pickT rfl rfl) ?_; refine yv y_mv <| Hd.part (gd := 21) rfl (fun hg3_21 => ?_) (fun hg3_21 => ?_)
  ·try simp only [hyZ] at hg3_21
   refine n1 <| n1 <| n1 <| n1 <| n1 <| n1 <| n1 <| n1 <| n1 <| n1 <| n1 <| n1 <| n1 <| yv (y_pickT rfl rfl) ?_; refine yv y_as <| fk [(0,_),(1,_),(9,_)] K4 ?_; refine qz ?_ ?_ <;> intro hc1 <;> try simp only [hyZ] at hc1
   ·refine sr fun _ K5 => ?_
    refine yv y_as <| yv y_as <| fk [(4,_),(5,_)] K5 ?_; refine Hd.ret <| Hd.inBret <| Hd.thenRet ?_; exact Hd.ret2 rfl () rfl rfl (by rfl) sq
   exfalso; simp at hc1
  try simp only [hyZ] at hg3_21
  exfalso; simp at hg3_21; done
 try simp only [hyZ] at hg3_12
 refine y2 y_mv <| y2 y_mv <| y2 y_np <| y2 (y_f 288 208 Tryz.underlying210 sz208) <| y2 (y_load1 ag208 rfl (Rd.pt1 pkk (by exact woT_at (j := 0) (by omega) rfl))) ?_; refine y2 (y_len Tryz.underlying208 rfl) ?_; refine y2 (y_geq rfl rfl) ?_; refine yv (y_pickF rfl rfl) ?_; refine yv y_mv <| Hd.part (gd := 21) rfl (fun hg3_21 => ?_) (fun hg3_21 => ?_)
 ·try simp only [hyZ] at hg3_21
  refine n1 <| n1 <| n1 <| n1 <| n1 <| n1 <| n1 <| n1 <| n1 <| n1 <| n1 <| n1 <| n1 <| yv (y_pickT rfl rfl) ?_; refine yv y_as <| fk [(0,_),(1,_),(9,_)] K4 ?_; refine qz ?_ ?_ <;> intro hc1 <;> try simp only [hyZ] at hc1
  ·refine sr fun _ K6 => ?_
   refine yv y_as <| yv y_as <| fk [(4,_),(5,_)] K6 ?_; refine Hd.ret <| Hd.inBret <| Hd.thenRet ?_; exact Hd.ret2 rfl () rfl rfl (by rfl) sq
  exfalso; simp at hc1
 try simp only [hyZ] at hg3_21
 exfalso; omega
theorem outer_ct (L : List SP) (wb : Nat) (w : WA) (i : WoI) (hw : WOk w) (hrs : i.rs.map Prod.snd = w.ws) (n : Int) :
  Ct Tryz.prog 111 #[.pointer (some ⟨wb, 0, none⟩), .int .i64 n] (WoL wb w i L) (fun _ : Unit => .tuple #[ptr (outB i w n), .int .i64 (outE w n)]) (fun _ => WoL wb w i L) := by
 have hrl : i.rs.length = w.ws.length := by rw [← hrs, List.length_map]
 by_cases h : n < 0 ∨ (i.rs.length : Int) ≤ n
 ·have e := outW_off (w := w) (n := n) (by rw [← hrl]; exact h)
  rw [show outB i w n = none by unfold outB; rw [e]; rfl, show outE w n = 116 by unfold outE; rw [e]; rfl]; exact outer0_ct L wb w i n h
 ·obtain ⟨k, rfl⟩ : ∃ k : Nat, n = (k : Int) := ⟨n.toNat, by omega⟩
  have hk : k < w.ws.length := by omega
  obtain ⟨b, hb⟩ := rs_at hrs (List.getElem?_eq_getElem hk)
  have e := outW_nat (w := w) (n := k) (List.getElem?_eq_getElem hk)
  have := outer1_ct L wb w i hw hrs k b _ hb
  have e1 : outB i w (k : Int) = if (w.ws[k].e 1).what = 2 then some b else none := by
   unfold outB; rw [e, Int.toNat_natCast, hb]
   by_cases h2 : (w.ws[k].e 1).what = 2
   ·rw [if_pos h2, if_pos h2]; rfl
   ·rw [if_neg h2, if_neg h2]; rfl
  have e2 : outE w (k : Int) = if (w.ws[k].e 1).what = 2 then 0 else 116 := by
   unfold outE; rw [e]
   by_cases h2 : (w.ws[k].e 1).what = 2
   ·rw [if_pos h2, if_pos h2]; rfl
   ·rw [if_neg h2, if_neg h2]; rfl
  rw [e1, e2]; exact this
theorem outE_no {w : WA} {n : Int} (h : outE w n ≠ 0) : outW w n = none := by
 unfold outE at h
 cases e : outW w n with
 | none => rfl
 | some x => rw [e] at h; exact absurd rfl h
theorem outE_yes {w : WA} {i : WoI} (hrs : i.rs.map Prod.snd = w.ws) {n : Int} (h : outE w n = 0) : ∃ (m b : Nat) (x : WireA), n = (m : Int) ∧ outW w n = some x ∧ w.ws[m]? = some x ∧ i.rs[m]? = some (b, x) ∧ (x.e 1).what = 2 ∧ outB i w n = some b := by
 unfold outE at h
 cases e : outW w n with
 | none => rw [e] at h; exact absurd h (by decide)
 | some x =>
  obtain ⟨h0, hx, h2⟩ := outW_some e
  obtain ⟨b, hb⟩ := rs_at hrs hx
  refine ⟨n.toNat, b, x, by omega, rfl, hx, hb, h2, ?_⟩; unfold outB; rw [e, hb]; rfl
theorem wput_ct (L : List SP) (wb : Nat) (w : WA) (n : Int) (ad : Option Addr) (m c : Nat) (bs : List UInt8) (hm : bs.length = m) (hR : RdS L 1 ad m (bsl bs)) (hml : m ≤ 70368744177664) (hmc : m ≤ c) : Ct Tryz.prog 52 #[.pointer (some ⟨wb, 0, none⟩), .int .i64 n, .slice ad m c] (WorldP wb w :: L) (fun _ : Unit => .tuple #[.int .i64 (putR w n bs).1.1, .int .i64 (putR w n bs).1.2]) (fun _ : Unit => WorldP wb (putR w n bs).2 :: L) := by
 refine Ct.o3 Tryz.func52 ?_; intro E
 show Hd E 44 _ _ _ _
 refine Hd.world .here (fun i hw hrs => ?_); refine sr fun _ K1 => ?_
 refine yv y_as <| yv y_as <| fk [(0,_),(1,_),(2,_)] K1 ?_; refine sr fun _ K2 => ?_
 refine yv y_mv <| yv y_mv <| callE rfl fk111 (outer_ct _ wb w i hw hrs n) sq ?_; intro _; refine yv y_mv <| yv (y_to (v' := ptr (outB i w n)) y_ex (by rfl)) ?_; refine yv (y_to (v' := .int .i64 (outE w n)) y_ex (by rfl)) ?_; refine yv y_as <| yv y_as <| fk [(2,_),(8,_),(9,_)] K2 ?_; refine Hd.seq fun _ K3 => ?_
 refine Hd.block <| sr fun _ K4 => ?_
 refine yv y_mv <| yv (y_neq rfl rfl) ?_; refine yv y_as <| fk [(2,_),(8,_),(9,_),(16,_)] K4 ?_; refine qz ?_ ?_ <;> intro hc0 <;> try simp only [hyZ] at hc0
 ·refine sr fun _ K5 => ?_
  refine yv y_mv <| yv y_as <| yv y_as <| fk [(6,_),(7,_)] K5 ?_; refine Hd.ret <| Hd.inBret <| Hd.thenRet ?_
  have e := outE_no hc0
  rw [show putR w n bs = ((0, 116), w) by unfold putR; rw [e]]; exact Hd.ret2 rfl () rfl rfl (by unfold outE; rw [e]; rfl) (Ent.sep (.ex i (.pure ⟨hw, hrs⟩ enn)))
 obtain ⟨k, b, x, rfl, hox, hx, hb, h2, hob⟩ := outE_yes hrs hc0
 have hwf := hw.wf x (List.mem_of_getElem? hx)
 have hrd : putR w k bs = if x.rs = true then ((0, 115), w) else if (x.e 1).shut = true ∨ (x.e 0).what = 3 then ((0, 114), w) else ((((putN x 1 bs : Nat) : Int), (0 : Int)), w.setW k (putW x 1 bs)) := by
  unfold putR; rw [hox]; rfl
 rw [hob]; refine Hd.wOut pkk hb ?_; refine Hd.wire .here 1 (by omega) (fun i2 hi => ?_); refine sr fun _ K6 => ?_
 refine yv y_mv <| yv y_np <| yv (y_f 14 4 Tryz.underlying199 sz4) <| yv (y_l1 ag4 rfl) <| yv y_as <| fk [(2,_),(8,_),(20,_)] K6 ?_; refine qz ?_ ?_ <;> intro hc1 <;> try simp only [hyZ] at hc1
 ·refine sr fun _ K7 => ?_
  refine yv y_as <| yv y_as <| fk [(6,_),(7,_)] K7 ?_; refine Hd.ret <| Hd.inBret <| Hd.thenRet ?_; rw [hrd, if_pos hc1]; exact Hd.ret2 rfl () rfl rfl rfl (fun q s => world_back (k := 1) hw hrs hb hi (by omega) q (Ent.sep enn q s))
 rw [if_neg (by rw [hc1]; simp)] at hrd; refine sr fun _ K8 => ?_
 refine yv y_mv <| yv y_np <| yv (y_f 0 197 Tryz.underlying199 sz197) <| yv (y_idxA Tryz.underlying197 sz196 rfl rfl (by decide)) ?_; refine yv (y_f 4 4 Tryz.underlying196 sz4) <| yv (y_l1 ag4 rfl) <| yv y_mv ?_; apply Hd.org 8 32 40 [(2,_),(8,_)] rfl sbq
 ·intro hg6_32
  try simp only [hyZ] at hg6_32
  simp only [List.take]; refine n1 <| n1 <| n1 <| n1 <| n1 <| n1 <| n1 <| yv (y_pickT rfl rfl) ?_; exact Hd.mn
 ·intro hg6_32
  try simp only [hyZ] at hg6_32
  simp only [List.take]; refine y2 y_mv <| y2 y_np <| y2 (y_f 0 197 Tryz.underlying199 sz197) <| y2 (y_idxA Tryz.underlying197 sz196 rfl rfl (by decide)) ?_; refine y2 (y_f 0 3 Tryz.underlying196 sz3) <| y2 (y_l1 ag3 rfl) <| y2 (y_eql rfl rfl) ?_; refine yv (y_pickF rfl rfl) ?_; exact Hd.mn
 simp only [List.drop]; refine yv y_as <| fk [(2,_),(8,_),(25,_)] K8 ?_; refine qz ?_ ?_ <;> intro hc2 <;> try simp only [hyZ] at hc2
 ·refine sr fun _ K9 => ?_
  refine yv y_as <| yv y_as <| fk [(6,_),(7,_)] K9 ?_; refine Hd.ret <| Hd.inBret <| Hd.thenRet ?_; rw [hrd, if_pos hc2]; exact Hd.ret2 rfl () rfl rfl rfl (fun q s => world_back (k := 1) hw hrs hb hi (by omega) q (Ent.sep enn q s))
 rw [if_neg (by rw [hc2.1]; simpa using hc2.2)] at hrd; refine Hd.skip <| Hd.inB <| Hd.toK K3 ?_; refine Hd.seq fun _ K10 => ?_
 refine Hd.heap (WireP b x :: WoR wb k w i L) (fun q s => wire_fold (k := 1) hi (by omega) q (Ent.sep enn q s)) ?_; refine Hd.region <| yv y_mv <| yv y_mv <| callE rfl fk112 (put_ct _ b x 1 (by omega) (hwf.ou h2).1 ad m c bs hm ?hD hml hmc) sq ?_
 case hD => exact RdS.mono hR sq
 intro _; refine yv y_as <| yv y_as <| fk [(6,_),(7,_)] K10 ?_; refine Hd.ret ?_; rw [hrd]; exact Hd.ret2 rfl () rfl rfl rfl (fun q s => world_fold' hw hrs hb (smW_put hwf (by omega) bs (hwf.ou h2).1) q (Ent.sep enn q s))
theorem wtake_ct (L : List SP) (wb : Nat) (w : WA) (n m : Int) : Ct Tryz.prog 125 #[.pointer (some ⟨wb, 0, none⟩), .int .i64 n, .int .i64 m] (WorldP wb w :: L) (fun q_ : Option Addr × Nat => .tuple #[.slice q_.1 (takR w n m).1.1.length q_.2, .int .i64 (takR w n m).1.2]) (fun q_ : Option Addr × Nat => own 5 1 q_.1 (takR w n m).1.1.length q_.2 (bsl (takR w n m).1.1) :: WorldP wb (takR w n m).2 :: L) := by
 refine Ct.o3 Tryz.func125 ?_; intro E
 show Hd E 31 _ _ _ _
 refine Hd.world .here (fun i hw hrs => ?_); refine sr fun _ K1 => ?_
 refine yv y_as <| yv y_as <| fk [(0,_),(1,_),(2,_)] K1 ?_; refine sr fun _ K2 => ?_
 refine yv y_mv <| yv y_mv <| callE rfl fk111 (outer_ct _ wb w i hw hrs n) sq ?_; intro _; refine yv y_mv <| yv (y_to (v' := ptr (outB i w n)) y_ex (by rfl)) ?_; refine yv (y_to (v' := .int .i64 (outE w n)) y_ex (by rfl)) ?_; refine yv y_as <| yv y_as <| fk [(2,_),(8,_),(9,_)] K2 ?_; refine Hd.seq fun _ K3 => ?_
 refine Hd.block <| sr fun _ K4 => ?_
 refine yv y_mv <| yv (y_neq rfl rfl) ?_; refine yv y_as <| fk [(2,_),(8,_),(9,_),(16,_)] K4 ?_; refine qz ?_ ?_ <;> intro hc0 <;> try simp only [hyZ] at hc0
 ·refine sr fun _ K5 => ?_
  refine yv y_mv <| yv y_as <| yv y_as <| fk [(6,_),(7,_)] K5 ?_; refine Hd.ret <| Hd.inBret <| Hd.thenRet ?_
  have e := outE_no hc0
  rw [show takR w n m = (([], 116), w) by unfold takR; rw [e]]; exact Hd.ret2 rfl (none, 0) rfl rfl (by unfold outE; rw [e]; rfl) (Ent.sep (.ownNil (.ex i (.pure ⟨hw, hrs⟩ enn))))
 obtain ⟨k, b, x, rfl, hox, hx, hb, h2, hob⟩ := outE_yes hrs hc0
 have hwf := hw.wf x (List.mem_of_getElem? hx)
 have hrd : takR w k m = if m < 0 then (([], 2), w) else if x.rs = true then (([], 115), w) else (((x.e 1).b.take m.toNat, 0), w.setW k (takeW x 1 m.toNat)) := by
  unfold takR; rw [hox]; rfl
 rw [hob]; refine Hd.wOut pkk hb ?_; refine Hd.wire .here 1 (by omega) (fun i2 hi => ?_); refine sr fun _ K6 => ?_
 refine yv y_mv <| yv (y_lss rfl rfl) ?_; refine yv y_as <| fk [(2,_),(8,_),(20,_)] K6 ?_; refine qz ?_ ?_ <;> intro hc1 <;> try simp only [hyZ] at hc1
 ·refine sr fun _ K7 => ?_
  refine yv y_as <| yv y_as <| fk [(6,_),(7,_)] K7 ?_; refine Hd.ret <| Hd.inBret <| Hd.thenRet ?_; rw [hrd, if_pos hc1]; exact Hd.ret2 rfl (none, 0) rfl rfl rfl (Ent.sep (.ownNil .same) |> fun h q s => h q (world_back (k := 1) hw hrs hb hi (by omega) q (Ent.sep enn q s)))
 rw [if_neg (by omega)] at hrd; refine sr fun _ K8 => ?_
 refine yv y_mv <| yv y_np <| yv (y_f 14 4 Tryz.underlying199 sz4) <| yv (y_l1 ag4 rfl) <| yv y_as <| fk [(2,_),(8,_),(23,_)] K8 ?_; refine qz ?_ ?_ <;> intro hc2 <;> try simp only [hyZ] at hc2
 ·refine sr fun _ K9 => ?_
  refine yv y_as <| yv y_as <| fk [(6,_),(7,_)] K9 ?_; refine Hd.ret <| Hd.inBret <| Hd.thenRet ?_; rw [hrd, if_pos hc2]; exact Hd.ret2 rfl (none, 0) rfl rfl rfl (Ent.sep (.ownNil .same) |> fun h q s => h q (world_back (k := 1) hw hrs hb hi (by omega) q (Ent.sep enn q s)))
 rw [if_neg (by rw [hc2]; simp)] at hrd; refine Hd.skip <| Hd.inB <| Hd.toK K3 ?_; refine Hd.seq fun _ K10 => ?_
 refine Hd.heap (WireP b x :: WoR wb k w i L) (fun q s => wire_fold (k := 1) hi (by omega) q (Ent.sep enn q s)) ?_; refine Hd.region <| yv y_mv <| yv y_mv <| callE rfl fk117 (take_ct _ b x 1 (by omega) (hwf.ou h2).2 m) sq ?_; rintro ⟨ad, c⟩; dsimp only; refine yv y_as <| yv y_as <| fk [(6,_),(7,_)] K10 ?_; refine Hd.ret ?_; rw [hrd]; exact Hd.ret2 rfl (ad, c) rfl rfl rfl (fun q s => Ent.sep (show Ent (WorldP wb (w.setW k (takeW x 1 m.toNat)) :: own 5 1 ad ((x.e 1).b.take m.toNat).length c (bsl ((x.e 1).b.take m.toNat)) :: L) (own 5 1 ad ((x.e 1).b.take m.toNat).length c (bsl ((x.e 1).b.take m.toNat)) :: WorldP wb (w.setW k (takeW x 1 m.toNat)) :: L) from enn) q (world_fold' hw hrs hb (smW_take hwf (by omega) (hwf.ou h2).2) q (Ent.sep enn q s)))
theorem pshut_ct (L : List SP) (wb : Nat) (w : WA) (n : Int) : Ct Tryz.prog 127 #[.pointer (some ⟨wb, 0, none⟩), .int .i64 n] (WorldP wb w :: L) (fun _ : Unit => .int .i64 (pshutR w n).1) (fun _ : Unit => WorldP wb (pshutR w n).2 :: L) := by
 refine Ct.o2 Tryz.func127 ?_; intro E
 show Hd E 18 _ _ _ _
 refine Hd.world .here (fun i hw hrs => ?_); refine sr fun _ K1 => ?_
 refine yv y_as <| fk [(0,_),(1,_)] K1 ?_; refine sr fun _ K2 => ?_
 refine yv y_mv <| yv y_mv <| callE rfl fk111 (outer_ct _ wb w i hw hrs n) sq ?_; intro _; refine yv y_mv <| yv (y_to (v' := ptr (outB i w n)) y_ex (by rfl)) ?_; refine yv (y_to (v' := .int .i64 (outE w n)) y_ex (by rfl)) ?_; refine yv y_as <| yv y_as <| fk [(5,_),(6,_)] K2 ?_; refine Hd.seq fun _ K3 => ?_
 refine sr fun _ K4 => ?_
 refine yv y_mv <| yv (y_eql rfl rfl) ?_; refine fk [(5,_),(6,_),(14,_)] K4 ?_; refine qz ?_ ?_ <;> intro hc0 <;> try simp only [hyZ] at hc0
 ·obtain ⟨k, b, x, rfl, hox, hx, hb, h2, hob⟩ := outE_yes hrs hc0
  have hwf := hw.wf x (List.mem_of_getElem? hx)
  have hrd : pshutR w k = (0, w.setW k (shutW x 1)) := by unfold pshutR; rw [hox]; rfl
  rw [hob]; refine Hd.wOut pkk hb ?_; refine Hd.region <| yv y_mv <| callE rfl fk120 (shut_ct _ b x 1 (by omega)) sq ?_; intro _; refine fk [(6,_)] K3 ?_; refine sr fun _ K5 => ?_
  refine yv y_mv <| yv y_as <| fk [(4,_)] K5 ?_; refine Hd.ret ?_; rw [hrd]; exact Hd.ret1 rfl () (by rw [hc0]; rfl) (fun q s => world_fold' hw hrs hb (smW_shut hwf) q (Ent.sep enn q s))
 refine qv K3 <| sr fun _ K6 => ?_
 refine yv y_mv <| yv y_as <| fk [(4,_)] K6 ?_; refine Hd.ret ?_
 have e := outE_no hc0
 rw [show pshutR w n = (116, w) by unfold pshutR; rw [e]]; exact Hd.ret1 rfl () (by unfold outE; rw [e]; rfl) (Ent.sep (.ex i (.pure ⟨hw, hrs⟩ enn)))
theorem out_free {w : WA} (h : WOk w) {n : Nat} {x : WireA} (hx : w.ws[n]? = some x) (h2 : (x.e 1).what = 2) : ∀ k, k < 2 → (x.e k).what = 1 → ((closeW x 1).e k).what = 1 := fun k hk e => by
 rw [(close_e x (by omega) hk).1]
 split
 ·rename_i e1; subst e1; rw [h2] at e; cases e
 ·exact e
theorem pclose_ok {w : WA} (h : WOk w) {n : Nat} {x : WireA} (hx : w.ws[n]? = some x) (h2 : (x.e 1).what = 2) : WOk (w.setW n (closeW x 1)) ∧ (w.setW n (closeW x 1)).at = w.at := by
 have hs := sbW_close (h.wf x (List.mem_of_getElem? hx)) (k := 1) (by omega)
 have h0 : n ∈ (w.setW n (closeW x 1)).ws.flatMap WireA.wt → ((closeW x 1).e 0).what = 0 := fun e => by
  have := (flatMap_set_sub (f := WireA.wt) (x' := closeW x 1) hx hs.wt).subset e
  obtain ⟨z, hz, hz0⟩ := h.wm n this
  rw [hx] at hz; obtain rfl := Option.some.inj hz; rw [(close_e x (by omega) (by omega)).1, if_neg (by omega)]; exact hz0
 exact ⟨h.setS hx hs h0, h.setS_at hx hs h0 (out_free h hx h2)⟩
theorem pclose_ct (L : List SP) (wb : Nat) (w : WA) (n : Int) : Ct Tryz.prog 129 #[.pointer (some ⟨wb, 0, none⟩), .int .i64 n] (WorldP wb w :: L) (fun _ : Unit => .int .i64 (pcloseR w n).1) (fun _ : Unit => WorldP wb (pcloseR w n).2 :: L) := by
 refine Ct.o2 Tryz.func129 ?_; intro E
 show Hd E 18 _ _ _ _
 refine Hd.world .here (fun i hw hrs => ?_); refine sr fun _ K1 => ?_
 refine yv y_as <| fk [(0,_),(1,_)] K1 ?_; refine sr fun _ K2 => ?_
 refine yv y_mv <| yv y_mv <| callE rfl fk111 (outer_ct _ wb w i hw hrs n) sq ?_; intro _; refine yv y_mv <| yv (y_to (v' := ptr (outB i w n)) y_ex (by rfl)) ?_; refine yv (y_to (v' := .int .i64 (outE w n)) y_ex (by rfl)) ?_; refine yv y_as <| yv y_as <| fk [(5,_),(6,_)] K2 ?_; refine Hd.seq fun _ K3 => ?_
 refine sr fun _ K4 => ?_
 refine yv y_mv <| yv (y_eql rfl rfl) ?_; refine fk [(5,_),(6,_),(14,_)] K4 ?_; refine qz ?_ ?_ <;> intro hc0 <;> try simp only [hyZ] at hc0
 ·obtain ⟨k, b, x, rfl, hox, hx, hb, h2, hob⟩ := outE_yes hrs hc0
  have hpk := pclose_ok hw hx h2
  have hrd : pcloseR w k = (0, w.setW k (closeW x 1)) := by unfold pcloseR; rw [hox]; rfl
  rw [hob]; refine Hd.wOut pkk hb ?_; refine Hd.region <| yv y_mv <| callE rfl fk122 (close_ct _ b x 1 (by omega)) sq ?_; intro _; refine fk [(6,_)] K3 ?_; refine sr fun _ K5 => ?_
  refine yv y_mv <| yv y_as <| fk [(4,_)] K5 ?_; refine Hd.ret ?_; rw [hrd]; exact Hd.ret1 rfl () (by rw [hc0]; rfl) (fun q s => world_put hrs hb hpk.1 hpk.2 q (Ent.sep enn q s))
 refine qv K3 <| sr fun _ K6 => ?_
 refine yv y_mv <| yv y_as <| fk [(4,_)] K6 ?_; refine Hd.ret ?_
 have e := outE_no hc0
 rw [show pcloseR w n = (116, w) by unfold pcloseR; rw [e]]; exact Hd.ret1 rfl () (by unfold outE; rw [e]; rfl) (Ent.sep (.ex i (.pure ⟨hw, hrs⟩ enn)))
theorem wshut_ct (L : List SP) (wb : Nat) (w : WA) (fd : Int) : Ct Tryz.prog 65 #[.pointer (some ⟨wb, 0, none⟩), .int .i64 fd] (WorldP wb w :: L) (fun _ : Unit => .int .i64 (shutR w fd).1) (fun _ : Unit => WorldP wb (shutR w fd).2 :: L) := by
 refine Ct.o2 Tryz.func65 ?_; intro E
 show Hd E 44 _ _ _ _
 refine Hd.world .here (fun i hw hrs => ?_); refine sr fun _ K1 => ?_
 refine yv y_as <| fk [(0,_),(1,_)] K1 ?_; refine sr fun _ K2 => ?_
 refine yv y_mv <| yv y_mv <| callE rfl fk101 (find_ct _ wb w i hw hrs fd) sq ?_; intro _; refine yv y_mv <| yv y_ex <| yv y_ex <| yv y_ex <| Hd.alloc zr190 (fun b5 => ?_); refine Hd.storeA (us := plc (w.at fd)) (by rw [plc_len]; exact sz190) rfl rfl rfl (plc_one _) pkk (by rw [plc_len]; rfl) ?_; refine yv (y_to (v' := ptr (wfb i (w.at fd))) y_as (by rfl)) ?_; refine yv (y_to (v' := .int .i64 (fdErr (w.at fd))) y_as (by rfl)) ?_; refine fk [(5,_),(6,_),(7,_)] K2 ?_; refine Hd.seq fun _ K3 => ?_
 refine Hd.block <| sr fun _ K4 => ?_
 refine yv y_mv <| yv (y_neq rfl rfl) ?_; refine yv y_as <| fk [(5,_),(6,_),(7,_),(15,_)] K4 ?_; refine qz ?_ ?_ <;> intro hc0 <;> try simp only [hyZ] at hc0
 ·refine sr fun _ K5 => ?_
  refine yv y_mv <| yv y_as <| fk [(4,_)] K5 ?_; refine Hd.ret <| Hd.inBret <| Hd.thenRet ?_
  have hno : w.at fd = none := by
   cases h : w.at fd with
   | none => rfl
   | some p => rw [h] at hc0; exact absurd rfl hc0
  rw [show shutR w fd = (110, w) by unfold shutR; rw [hno]]; exact Hd.ret1 rfl () (by rw [hno]; rfl) (Ent.sep (.ex i (.pure ⟨hw, hrs⟩ enn)))
 obtain ⟨m0, k, hnk⟩ : ∃ m k, w.at fd = some (m, k) := by
  cases h : w.at fd with
  | none => rw [h] at hc0; exact absurd hc0 (by decide)
  | some p => exact ⟨p.1, p.2, rfl⟩
 obtain ⟨hf0, hf1, hk, hn, x, hx, _, _⟩ := hw.at_lt hnk
 obtain ⟨b, hb⟩ := rs_at hrs hx
 have hwf := hw.wf x (List.mem_of_getElem? hx)
 have hrd : shutR w fd = if (x.e k).rd = false ∨ (x.e k).wr = false then (111, w) else (0, w.setW m0 (shutW x k)) := by unfold shutR; rw [hnk]; dsimp only; rw [hx]
 rw [hnk, wfb_eq hb]; refine Hd.wOut pkk hb ?_; refine Hd.wire .here k hk (fun i2 hi => ?_); refine Hd.seq fun _ K6 => ?_
 refine Hd.quiet mixed kq ?_; refine Hq.yv y_mv ?_; refine Hq.yv (y_f 2 3 Tryz.underlying190 sz3) ?_; refine Hq.yv (y_l1 ag3 rfl) ?_; refine Hq.yv y_np ?_; refine Hq.yv (y_f 0 197 Tryz.underlying199 sz197) ?_; refine Hq.yv (y_idxA Tryz.underlying197 sz196 rfl rfl (by omega)) ?_; refine Hq.yv (y_f 2 194 Tryz.underlying196 sz194) ?_; refine Hq.yv (y_load1 ag194 rfl (Rd.pt1 pkk (by exact enc_at 2 hk (by omega) (by omega) rfl))) ?_; refine Hq.yv (y_to (v' := .bool (!(x.e k).rd)) (y_eql_pointer Tryz.underlying194 rfl rfl) (by (show Value.bool (Option.isNone _) = _; rw [ptr_no, hi.rd k hk]))) ?_; refine Hq.yv y_mv ?_; apply Hq.org 10 29 39 [(5,_),(6,_)] rfl ⟨rfl, rfl, trivial⟩
 ·intro hg4_29
  try simp only [hyZ] at hg4_29
  simp only [List.take]; refine Hq.ng rfl rfl rfl ?_; refine Hq.ng rfl rfl rfl ?_; refine Hq.ng rfl rfl rfl ?_; refine Hq.ng rfl rfl rfl ?_; refine Hq.ng rfl rfl rfl ?_; refine Hq.ng rfl rfl rfl ?_; refine Hq.ng rfl rfl rfl ?_; refine Hq.ng rfl rfl rfl ?_; refine Hq.ng rfl rfl rfl ?_; refine Hq.yv (y_pickT rfl rfl) ?_; exact Hq.mend sbq
 ·intro hg4_29
  try simp only [hyZ] at hg4_29
  simp only [List.take]; refine Hq.yg rfl rfl y_mv ?_; refine Hq.yg rfl rfl (y_f 2 3 Tryz.underlying190 sz3) ?_; refine Hq.yg rfl rfl (y_l1 ag3 rfl) ?_; refine Hq.yg rfl rfl y_np ?_; refine Hq.yg rfl rfl (y_f 0 197 Tryz.underlying199 sz197) ?_; refine Hq.yg rfl rfl (y_idxA Tryz.underlying197 sz196 rfl rfl (by omega)) ?_; refine Hq.yg rfl rfl (y_f 3 4 Tryz.underlying196 sz4) ?_; refine Hq.yg rfl rfl (y_load1 ag4 rfl (Rd.pt1 pkk (by exact enc_at 3 hk (by omega) (by omega) rfl))) ?_; refine Hq.yg rfl rfl (y_not rfl) ?_; refine Hq.yv (y_pickF rfl rfl) ?_; exact Hq.mend sbq
 simp only [List.drop]; refine Hq.yv y_as ?_; refine Hq.nil ?_; refine sk [(5,_),(6,_),(19,_)] K6 ?_; refine qz ?_ ?_ <;> intro hc1 <;> try simp only [hyZ] at hc1
 ·refine sr fun _ K7 => ?_
  refine yv y_as <| fk [(4,_)] K7 ?_; refine Hd.ret <| Hd.inBret <| Hd.thenRet ?_; rw [hrd, if_pos hc1]; exact Hd.ret1 rfl () rfl (fun q s => world_back hw hrs hb hi hk q (Ent.sep enn q s))
 rw [if_neg (by rw [hc1.1, hc1.2]; simp)] at hrd; refine Hd.skip <| Hd.inB <| Hd.toK K3 ?_; refine Hd.seq fun _ K8 => ?_
 refine Hd.heap (WireP b x :: pt b5 (plc (some (m0, k))) 190 :: WoR wb m0 w i L) (fun q s => wire_fold hi hk q (Ent.sep enn q s)) ?_; refine Hd.region <| yv y_mv <| yv (y_f 2 3 Tryz.underlying190 sz3) <| yv (y_l1 ag3 rfl) <| callE rfl fk120 (shut_ct _ b x k hk) sq ?_; intro _; refine fk [] K8 ?_; refine sr fun _ K9 => ?_
 refine yv y_as <| fk [(4,_)] K9 ?_; refine Hd.ret ?_; rw [hrd]; exact Hd.ret1 rfl () rfl (fun q s => world_fold' hw hrs hb (smW_shut hwf) q (Ent.sep enn q s))
def optW : Option (Nat × WireA) → SP
 | none => pu True
 | some p => WireP p.1 p.2
theorem map_optW (rs : List (Nat × WireA)) : (rs.map some).map optW = rs.map fun p => WireP p.1 p.2 := by rw [List.map_map]; rfl
theorem wires_bag {rs : List (Nat × WireA)} {L : List SP} {h : PH} (s : sep (Wires rs :: L) h) : sep (Bag optW (rs.map some) :: L) h := by
 obtain ⟨h1, h2, d, s1, s2, ⟨x⟩, y⟩ := s
 exact ⟨h1, h2, d, s1, s2, ⟨by rw [map_optW]; exact x⟩, y⟩
theorem bag_wires {rs : List (Nat × WireA)} {L : List SP} {h : PH} (s : sep (Bag optW (rs.map some) :: L) h) : sep (Wires rs :: L) h := by
 obtain ⟨h1, h2, d, s1, s2, ⟨x⟩, y⟩ := s
 exact ⟨h1, h2, d, s1, s2, ⟨by rw [← map_optW]; exact x⟩, y⟩
theorem bag_take {os : List (Option (Nat × WireA))} {j b : Nat} {x : WireA} {L : List SP} {h : PH} (hj : os[j]? = some (some (b, x))) (s : sep (Bag optW os :: L) h) : sep (WireP b x :: Bag optW (os.set j none) :: L) h := by
 have h1 := bag_out hj s
 have hl := (List.getElem?_eq_some_iff.1 hj).1
 have h2 : sep (optW none :: Bag optW (os.take j) :: Bag optW (os.drop (j + 1)) :: WireP b x :: L) h := Ent.sep (show Ent (WireP b x :: Bag optW (os.take j) :: Bag optW (os.drop (j + 1)) :: L) (pu True :: Bag optW (os.take j) :: Bag optW (os.drop (j + 1)) :: WireP b x :: L) from .pure trivial enn) h h1
 exact Ent.sep enn h (bag_in hl h2)
theorem bag_give {os : List (Option (Nat × WireA))} {j b : Nat} {x : WireA} {L : List SP} {h : PH} (hj : os[j]? = some none) (s : sep (WireP b x :: Bag optW os :: L) h) : sep (Bag optW (os.set j (some (b, x))) :: L) h := by
 have hl := (List.getElem?_eq_some_iff.1 hj).1
 have h1 : sep (Bag optW os :: WireP b x :: L) h := Ent.sep enn h s
 have h2 := bag_out hj h1
 have h3 : sep (optW (some (b, x)) :: Bag optW (os.take j) :: Bag optW (os.drop (j + 1)) :: L) h := Ent.sep (show Ent (pu True :: Bag optW (os.take j) :: Bag optW (os.drop (j + 1)) :: WireP b x :: L) (WireP b x :: Bag optW (os.take j) :: Bag optW (os.drop (j + 1)) :: L) from enn) h h2
 exact bag_in hl h3
def clo1 (rs : List (Nat × WireA)) (n : Nat) : List (Nat × WireA) := match rs[n]? with
 | some p => rs.set n (p.1, closeW p.2 0)
 | none => rs
def closeL (rs : List (Nat × WireA)) (l : List Nat) : List (Nat × WireA) := l.foldl clo1 rs
theorem closeL_snoc (rs : List (Nat × WireA)) (l : List Nat) (n : Nat) : closeL rs (l ++ [n]) = clo1 (closeL rs l) n := by unfold closeL; rw [List.foldl_append]; rfl
theorem clo1_fst (rs : List (Nat × WireA)) (n : Nat) : (clo1 rs n).map Prod.fst = rs.map Prod.fst := by
 unfold clo1
 split
 ·rename_i p hp
  rw [List.map_set]; apply List.ext_getElem?; intro j
  by_cases e : n = j
  ·subst e
   rw [List.getElem?_set_self (by rw [List.length_map]; exact (List.getElem?_eq_some_iff.1 hp).1), List.getElem?_map, hp]; rfl
  ·rw [List.getElem?_set_ne e]
 ·rfl
theorem closeL_fst : ∀ (l : List Nat) (rs : List (Nat × WireA)), (closeL rs l).map Prod.fst = rs.map Prod.fst
 | [], _ => rfl
 | n :: t, rs => by
  show (closeL (clo1 rs n) t).map Prod.fst = _
  rw [closeL_fst t, clo1_fst]
theorem clo1_snd (rs : List (Nat × WireA)) (n : Nat) : (clo1 rs n).map Prod.snd = match (rs.map Prod.snd)[n]? with | some y => (rs.map Prod.snd).set n (closeW y 0) | none => rs.map Prod.snd := by
 unfold clo1; rw [List.getElem?_map]
 cases h : rs[n]? with
 | none => rfl
 | some p => show (rs.set n _).map Prod.snd = _; rw [List.map_set]; rfl
theorem closeL_snd : ∀ (l : List Nat) (rs : List (Nat × WireA)), (closeL rs l).map Prod.snd = closeAll (rs.map Prod.snd) l
 | [], _ => rfl
 | n :: t, rs => by
  show (closeL (clo1 rs n) t).map Prod.snd = closeAll _ t
  rw [closeL_snd t, clo1_snd]
  try rfl
theorem closeL_len (l : List Nat) (rs : List (Nat × WireA)) : (closeL rs l).length = rs.length := by
 have := congrArg List.length (closeL_fst l rs)
 rwa [List.length_map, List.length_map] at this
theorem closeAll_set : ∀ (l : List Nat) (ws : List WireA) {m : Nat} {X : WireA}, m ∉ l → closeAll (ws.set m X) l = (closeAll ws l).set m X
 | [], _, _, _, _ => rfl
 | n :: t, ws, m, X, h => by
  have hne : m ≠ n := fun e => h (e ▸ List.mem_cons_self)
  have ht : m ∉ t := fun e => h (List.mem_cons_of_mem _ e)
  show closeAll (match (ws.set m X)[n]? with | some y => (ws.set m X).set n (closeW y 0) | none => ws.set m X) t = (closeAll (match ws[n]? with | some y => ws.set n (closeW y 0) | none => ws) t).set m X
  rw [List.getElem?_set_ne hne]
  cases h2 : ws[n]? with
  | none => exact closeAll_set t ws ht
  | some y =>
   show closeAll ((ws.set m X).set n (closeW y 0)) t = (closeAll (ws.set n (closeW y 0)) t).set m X
   rw [List.set_comm _ _ hne, closeAll_set t _ ht]
theorem world_all {wb : Nat} {w w' : WA} {i : WoI} {rs' : List (Nat × WireA)} {t : Int → Option (Nat × Nat)} {L : List SP} (hok : WOk w') (hf : rs'.map Prod.fst = i.rs.map Prod.fst) (hws : rs'.map Prod.snd = w'.ws) (hat : w'.at = t) (hr : w' = { w with ws := w'.ws }) :
  ∀ h, sep (Wires rs' :: WoH wb t w i.rs.length i :: own 191 1 i.wa i.rs.length i.wc (pws i.rs) :: SigP i.sb w.hd w.ct :: L) h → sep (WorldP wb w' :: L) h := by
 intro h s
 have hl : rs'.length = i.rs.length := by have := congrArg List.length hf; rwa [List.length_map, List.length_map] at this
 have hp : pws rs' = pws i.rs := by
  have : ∀ l : List (Nat × WireA), pws l = (l.map Prod.fst).map fun b => ptr (some b) := fun l => by unfold pws; rw [List.map_map]; rfl
  rw [this, this, hf]
 have hsg : SigP i.sb w.hd w.ct = SigP i.sb w'.hd w'.ct := by rw [hr]
 refine Ent.sep (.ex { i with rs := rs' } (.pure ⟨hok, hws⟩ ?_)) h s; exact .eq pkk (pt_eq (show fdC t ++ woT w i.rs.length i = fdC w'.at ++ woT w' rs'.length { i with rs := rs' } by rw [hat, hl, hr])) (.eq pkk (own_eq3 hl.symm rfl hp.symm) (.pick pkk (.eq pkk hsg enn)))
abbrev WoS (wb : Nat) (t : Int → Option (Nat × Nat)) (w : WA) (i : WoI) (L : List SP) : List SP := WoH wb t w i.rs.length i :: own 191 1 i.wa i.rs.length i.wc (pws i.rs) :: SigP i.sb w.hd w.ct :: L
theorem wclose_ct (L : List SP) (wb : Nat) (w : WA) (fd : Int) : Ct Tryz.prog 67 #[.pointer (some ⟨wb, 0, none⟩), .int .i64 fd] (WorldP wb w :: L) (fun _ : Unit => .int .i64 (closeF w fd).1) (fun _ : Unit => WorldP wb (closeF w fd).2 :: L) := by
 refine Ct.o2 Tryz.func67 ?_; intro E
 show Hd E 51 _ _ _ _
 refine Hd.world .here (fun i hw hrs => ?_); refine sr fun _ K1 => ?_
 refine yv y_as <| fk [(0,_),(1,_)] K1 ?_; refine sr fun _ K2 => ?_
 refine yv y_mv <| yv y_mv <| callE rfl fk101 (find_ct _ wb w i hw hrs fd) sq ?_; intro _; refine yv y_mv <| yv y_ex <| yv y_ex <| yv y_ex <| Hd.alloc zr190 (fun b5 => ?_); refine Hd.storeA (us := plc (w.at fd)) (by rw [plc_len]; exact sz190) rfl rfl rfl (plc_one _) pkk (by rw [plc_len]; rfl) ?_; refine yv (y_to (v' := ptr (wfb i (w.at fd))) y_as (by rfl)) ?_; refine yv (y_to (v' := .int .i64 (fdErr (w.at fd))) y_as (by rfl)) ?_; refine fk [(0,_),(1,_),(5,_),(6,_),(7,_)] K2 ?_; refine Hd.seq fun _ K3 => ?_
 refine sr fun _ K4 => ?_
 refine yv y_mv <| yv (y_neq rfl rfl) ?_; refine fk [(0,_),(1,_),(5,_),(6,_),(7,_),(18,_)] K4 ?_; refine qz ?_ ?_ <;> intro hc0 <;> try simp only [hyZ] at hc0
 ·refine sr fun _ K5 => ?_
  refine yv y_mv <| yv y_as <| fk [(4,_)] K5 ?_; refine Hd.ret <| Hd.thenRet ?_
  have hno : w.at fd = none := by
   cases h : w.at fd with
   | none => rfl
   | some p => rw [h] at hc0; exact absurd rfl hc0
  rw [show closeF w fd = (110, w) by unfold closeF; rw [hno]]; exact Hd.ret1 rfl () (by rw [hno]; rfl) (Ent.sep (.ex i (.pure ⟨hw, hrs⟩ enn)))
 obtain ⟨m0, k, hnk⟩ : ∃ m k, w.at fd = some (m, k) := by
  cases h : w.at fd with
  | none => rw [h] at hc0; exact absurd hc0 (by decide)
  | some p => exact ⟨p.1, p.2, rfl⟩
 obtain ⟨hf0, hf1, hk, hn, x, hx, _, _⟩ := hw.at_lt hnk
 obtain ⟨b, hb⟩ := rs_at hrs hx
 have hm0 := hw.ns m0 x hx
 have hcl := closeF_ok hw fd
 have hrd : closeF w fd = (0, { w with ws := closeAll (w.ws.set m0 ((closeW x k).wts [])) x.wt }) := by unfold closeF; rw [hnk]; dsimp only; rw [hx]
 have hml : m0 < i.rs.length := (List.getElem?_eq_some_iff.1 hb).1
 have hwl := wt_le hw hx
 rw [hnk, wfb_eq hb]
 obtain ⟨f, hf⟩ : ∃ f : Nat, fd = (f : Int) := ⟨fd.toNat, by omega⟩
 subst hf
 have hf96 : f < 96 := by omega
 refine qv K3 <| sr fun _ K6 => ?_
 refine yv y_mv <| yv y_mv <| yv (y_build (cs := (plc none).toArray) (vs := []) rfl kq) ?_; refine yv y_np <| yv (y_f 0 207 Tryz.underlying210 sz207) <| yv (y_idxA Tryz.underlying207 sz190 rfl rfl (by omega)) ?_; refine Hd.store (us := plc none) sz190 rfl rfl rfl (plc_one _) pkk (by rw [List.length_append, fdC_len, plc_len]; omega) ?_; refine Hd.nil ?_; rw [show 0 + 0 + f * 3 = f * 3 by omega, show (plc none).length = 3 from rfl, fdC_set hf96]; refine Hd.heap (WireP b x :: Bag optW ((i.rs.map some).set m0 none) :: pt b5 (plc (some (m0, k))) 190 :: WoS wb (setT w.at f none) w i L) (fun q s => bag_take (by rw [List.getElem?_map, hb]; rfl) (wires_bag (Ent.sep enn q s))) ?_; refine sk [(0,_),(5,_),(6,_)] K6 ?_; refine sr fun _ K7 => ?_
 refine yv y_mv <| yv (y_f 2 3 Tryz.underlying190 sz3) <| yv (y_l1 ag3 rfl) <| callE rfl fk122 (close_ct _ b x k hk) sq ?_; intro _; refine fk [(0,_),(6,_)] K7 ?_; refine Hd.seq fun _ K8 => ?_
 refine Hd.seq fun _ K9 => ?_
 refine Hd.wire .here k hk (fun i2 hi => ?_); refine Hd.region <| yv y_mv <| yv y_np <| yv (y_f 16 44 Tryz.underlying199 sz44) <| yv (y_to (v' := .slice i2.wa x.wt.length i2.wc) (y_l1 ag44 rfl) (by rfl)) ?_; refine yv (y_len Tryz.underlying44 rfl) ?_; refine yv y_mv <| fk [(0,_),(6,_),(33,_),(34,_),(35,_)] K9 ?_; refine Hd.block <| Hd.loopK (ι := Nat) [(0,_),(6,_),(33,_),(34,_)] (fun j => [(35, .int .i64 (j : Int))]) (fun j => pu (j ≤ x.wt.length) :: Bag optW (((closeL i.rs (x.wt.take j)).map some).set m0 none) :: WireH b (closeW x k) i2 :: RgO (i2.p k) (closeW x k).cap ((closeW x k).e k).b :: RgO (i2.p (1 - k)) (closeW x k).cap ((closeW x k).e (1 - k)).b :: own 3 1 i2.wa x.wt.length i2.wc (nats x.wt) :: pt b5 (plc (some (m0, k))) 190 :: WoS wb (setT w.at f none) w i L) (fun j => x.wt.length - j) 0 sbq sbq (Ent.sep (.pure (Nat.zero_le _) (.eq pkk (show Bag optW ((i.rs.map some).set m0 none) = Bag optW (((closeL i.rs (x.wt.take 0)).map some).set m0 none) from rfl) (.pick pkk (.pick pkk (.pick pkk (.eq pkk (show own 3 1 i2.wa (closeW x k).wt.length i2.wc (nats (closeW x k).wt) = own 3 1 i2.wa x.wt.length i2.wc (nats x.wt) from rfl) enn))))))) ?_
 intro j
 try dsimp only
 refine Hd.pure (fun hp0 => ?_)
 try dsimp only at hp0
 refine sr fun _ K10 => ?_
 refine yv (y_lss rfl rfl) ?_; refine fk [(0,_),(6,_),(33,_),(34,_),(35,_),(36,_)] K10 ?_; refine Hd.seq fun _ K11 => ?_
 refine qz ?_ ?_ <;> intro hc1 <;> try simp only [hyZ] at hc1
 ·have hj : j < x.wt.length := by omega
  have hgj := nats_at hj
  obtain ⟨n, hn⟩ : ∃ n, n = x.wt.getD j 0 := ⟨_, rfl⟩
  have hnj : x.wt[j]? = some n := by rw [hn, List.getD_eq_getElem?_getD, List.getElem?_eq_getElem hj]; rfl
  have hnm : n ∈ x.wt := List.mem_of_getElem? hnj
  obtain ⟨y0, hy0, _⟩ := hw.wm n (List.mem_flatMap.2 ⟨x, List.mem_of_getElem? hx, hnm⟩)
  obtain ⟨bn, hbn⟩ := rs_at hrs hy0
  have hnl : n < i.rs.length := (List.getElem?_eq_some_iff.1 hbn).1
  have hnm0 : n ≠ m0 := fun e => hm0 (e ▸ hnm)
  obtain ⟨yn, hyn⟩ : ∃ yn, (closeL i.rs (x.wt.take j))[n]? = some (bn, yn) := by
   have h1 : (closeL i.rs (x.wt.take j))[n]? = some ((closeL i.rs (x.wt.take j))[n]'(by rw [closeL_len]; exact hnl)) := List.getElem?_eq_getElem _
   have h2 : ((closeL i.rs (x.wt.take j)).map Prod.fst)[n]? = some bn := by rw [closeL_fst, List.getElem?_map, hbn]; rfl
   rw [List.getElem?_map, h1] at h2; exact ⟨_, by rw [h1]; exact congrArg some (Prod.ext (Option.some.inj h2) rfl)⟩
  have htk : closeL i.rs (x.wt.take (j + 1)) = (closeL i.rs (x.wt.take j)).set n (bn, closeW yn 0) := by
   rw [List.take_add_one, hnj]
   show closeL i.rs (x.wt.take j ++ [n]) = _
   rw [closeL_snoc]; unfold clo1; rw [hyn]
  rw [← hn] at hgj; refine qv K11 <| Hd.seq fun _ K12 => ?_
  refine Hd.block <| sr fun _ K13 => ?_
  refine yv (y_idxR Tryz.underlying44 sz3 rfl rfl (by omega) (by exact RdS.own pkk)) ?_; refine yv (y_loadR1 ag3 rfl (RdS.own (ad := i2.wa) (us := nats x.wt) pkk) hgj) ?_; refine yv y_as <| fk [(0,_),(6,_),(9,_),(33,_),(34,_),(35,_)] K13 ?_; refine Hd.region <| yv y_mv <| yv y_np <| yv (y_f 288 208 Tryz.underlying210 sz208) <| yv (y_load1 ag208 rfl (Rd.pt1 pkk (by exact woT_at (j := 0) (by omega) rfl))) ?_; refine yv y_mv <| yv (y_idxR Tryz.underlying208 sz191 rfl rfl (by omega) (by exact RdS.own pkk)) ?_; refine yv (y_loadR1 ag191 rfl (by exact RdS.own pkk) (by exact pws_at hbn)) ?_; refine Hd.heap (WireP bn yn :: Bag optW ((((closeL i.rs (x.wt.take j)).map some).set m0 none).set n none) :: WireH b (closeW x k) i2 :: RgO (i2.p k) (closeW x k).cap ((closeW x k).e k).b :: RgO (i2.p (1 - k)) (closeW x k).cap ((closeW x k).e (1 - k)).b :: own 3 1 i2.wa x.wt.length i2.wc (nats x.wt) :: pt b5 (plc (some (m0, k))) 190 :: WoS wb (setT w.at f none) w i L) (fun q s => bag_take (by rw [List.getElem?_set_ne (Ne.symm hnm0), List.getElem?_map, hyn]; rfl) (Ent.sep enn q s)) ?_
  refine callE rfl fk122 (close_ct _ bn yn 0 (by omega)) sq ?_; intro _
  refine Hd.heap (Bag optW (((closeL i.rs (x.wt.take (j + 1))).map some).set m0 none) :: WireH b (closeW x k) i2 :: RgO (i2.p k) (closeW x k).cap ((closeW x k).e k).b :: RgO (i2.p (1 - k)) (closeW x k).cap ((closeW x k).e (1 - k)).b :: own 3 1 i2.wa x.wt.length i2.wc (nats x.wt) :: pt b5 (plc (some (m0, k))) 190 :: WoS wb (setT w.at f none) w i L) (fun q s => by
   have h1 := bag_give (j := n) (b := bn) (x := closeW yn 0) (by rw [List.getElem?_set_self (by simp [closeL_len]; exact hnl)]) s
   rw [List.set_set, List.set_comm _ _ (Ne.symm hnm0), show (List.map some (closeL i.rs (x.wt.take j))).set n (some (bn, closeW yn 0)) = (closeL i.rs (x.wt.take (j + 1))).map some by rw [htk, List.map_set]] at h1
   exact h1) ?_
  refine Hd.nil <| slots [(0,_),(6,_),(33,_),(34,_),(35,_)] sbq ?_; refine Hd.inB <| Hd.toK K12 ?_; refine Hd.region <| yv (y_addn rfl rfl (by simp only [InK]; omega)) ?_; refine yv y_mv <| Hd.nil <| slots [(0,_),(6,_),(33,_),(34,_),(35,_)] sbq ?_; refine thenN ?_; exact Hd.again (j + 1) (by omega) sbq (Ent.sep (.pure (by omega) enn))
 obtain rfl : j = x.wt.length := by omega
 rw [List.take_length]; refine Hd.exit <| Hd.thenExit <| Hd.thenExit <| Hd.inBexit <| Hd.toK K8 ?_; refine sr fun _ K14 => ?_
 refine yv y_mv <| yv y_np <| yv (y_f 16 44 Tryz.underlying199 sz44) <| Hd.store1 sz44 rfl rfl rfl pkk (by simp; done) ?_
 try simp only [hyS]
 refine Hd.nil ?_; rw [show (encW (closeW x k) i2).set (0 + 16) (.slice none 0 0) = encW ((closeW x k).wts []) { i2 with wa := none, wc := 0 } from rfl]; refine Hd.heap (WireP b ((closeW x k).wts []) :: Bag optW (((closeL i.rs x.wt).map some).set m0 none) :: WoS wb (setT w.at f none) w i L) (fun q s => wire_fold (x := (closeW x k).wts []) (i := { i2 with wa := none, wc := 0 }) (k := k) ⟨hi.rd⟩ hk q (Ent.sep (show Ent _ (pt b (encW ((closeW x k).wts []) { i2 with wa := none, wc := 0 }) 199 :: RgO (i2.p k) (closeW x k).cap ((closeW x k).e k).b :: RgO (i2.p (1 - k)) (closeW x k).cap ((closeW x k).e (1 - k)).b :: own 3 1 none 0 0 [] :: Bag optW (((closeL i.rs x.wt).map some).set m0 none) :: WoS wb (setT w.at f none) w i L) from .pick pkk (.pick pkk (.pick pkk (.ownNil enn)))) q s)) ?_; refine sk [] K14 ?_; refine sr fun _ K15 => ?_
 refine yv y_as <| fk [(4,_)] K15 ?_; refine Hd.ret ?_
 have hws : ((closeL i.rs x.wt).set m0 (b, (closeW x k).wts [])).map Prod.snd = closeAll (w.ws.set m0 ((closeW x k).wts [])) x.wt := by
  rw [List.map_set, closeL_snd, hrs, closeAll_set _ _ hm0]
 have hfs : ((closeL i.rs x.wt).set m0 (b, (closeW x k).wts [])).map Prod.fst = i.rs.map Prod.fst := by
  rw [List.map_set, closeL_fst]; apply List.ext_getElem?; intro j
  by_cases e : m0 = j
  ·subst e
   rw [List.getElem?_set_self (by rw [List.length_map]; exact hml), List.getElem?_map, hb]; rfl
  ·rw [List.getElem?_set_ne e]
 rw [hrd] at hcl ⊢
 exact Hd.ret1 rfl () rfl (fun q s => world_all hcl.1 hfs hws hcl.2.1 rfl q (bag_wires (by
  have h1 := bag_give (j := m0) (b := b) (x := (closeW x k).wts []) (by rw [List.getElem?_set_self (by simp [closeL_len]; exact hml)]) s
  rw [List.set_set, show (List.map some (closeL i.rs x.wt)).set m0 (some (b, (closeW x k).wts [])) = ((closeL i.rs x.wt).set m0 (b, (closeW x k).wts [])).map some by rw [List.map_set]] at h1
  exact h1)))
theorem free_itR (wb bx : Nat) (t : Int → Option (Nat × Nat)) : RX.ItR Tryz.prog 174 [.pointer (some ⟨bx, 0, none⟩)] encF (fun ys => ys = frees t) (fun ys => ys <+: frees t) wb 0 (fdC t)
  [pt bx [.pointer (some ⟨wb, 0, none⟩)] 38] [pt bx [.pointer (some ⟨wb, 0, none⟩)] 38] := by
 intro l J X hy hRd; refine Ct.of (vs := [.func (.yield l) #[] #[], .pointer (some ⟨bx, 0, none⟩)]) Tryz.func174 rfl rfl [(0, .func (.yield l) #[] #[]), (1, .pointer (some ⟨bx, 0, none⟩))] ⟨rfl, rfl, trivial⟩ ?_; intro E
 show Hd E 23 _ _ _ _
 refine Hd.heap (pt bx [.pointer (some ⟨wb, 0, none⟩)] 38 :: J []) (fun k h => by have := sep_app h; exact this) ?_; refine sr fun _ K1 => ?_
 refine yv (y_l1 ag38 rfl) <| yv y_np <| yv (y_f 0 207 Tryz.underlying210 sz207) <| yv (y_loadn (us := fdC t) ag207 rfl (hRd.mono (fun k s => by obtain ⟨_, _, _, _, b, _, y⟩ := s; exact y.up b)) (by rw [fdC_len]; exact sz207)) ?_; refine yv y_mv <| fk [(0,_),(8,_),(9,_)] K1 ?_; refine Hd.block <| Hd.loopK (ι := Nat) [(0,_),(8,_)] (fun i => [(9, .int .i64 (i : Int))]) (fun i => pu (i ≤ 96) :: pt bx [.pointer (some ⟨wb, 0, none⟩)] 38 :: J ((List.range i).filter fun fd : Nat => (t (fd : Int)).isNone)) (fun i => 96 - i) 0 sbq sbq (Ent.sep (.pure (by omega) enn)) ?_; intro i
 try dsimp only
 refine Hd.pure (fun hp0 => ?_)
 try dsimp only at hp0
 refine sr fun _ K2 => ?_
 refine yv (y_lss rfl rfl) ?_; refine fk [(0,_),(8,_),(9,_),(10,_)] K2 ?_; refine Hd.seq fun _ K3 => ?_
 refine qz ?_ ?_ <;> intro hc0 <;> try simp only [hyZ] at hc0
 ·have hi : i < 96 := by omega
  have hsf := range_succ_filter (fun fd : Nat => (t (fd : Int)).isNone) i
  refine qv K3 <| Hd.seq fun _ K4 => ?_
  refine Hd.block <| sr fun _ K5 => ?_
  refine yv y_mv <| yv (y_indexn (us := plc (t (i : Int))) Tryz.underlying207 ag190 sz190 rfl rfl hi (fdC_drop hi)) ?_; refine Hd.alloc zr190 (fun b4 => ?_); refine yv y_as <| Hd.storeA (us := plc (t (i : Int))) (by rw [plc_len]; exact sz190) rfl rfl rfl (plc_one _) pkk (by rw [plc_len]; rfl) ?_; refine fk [(0,_),(3,_),(4,_),(8,_),(9,_)] K5 ?_; refine sr fun _ K6 => ?_
  refine yv (y_f 0 4 Tryz.underlying190 sz4) <| yv (y_load1 ag4 rfl (Rd.pt1 pkk (by exact plc0 _))) ?_; refine yv (y_not rfl) <| yv y_mv <| Hd.part (gd := 16) rfl (fun hg3_16 => ?_) (fun hg3_16 => ?_)
  ·try simp only [hyZ] at hg3_16
   have hfr : (t (i : Int)).isNone = true := by cases h : t (i : Int) <;> simp [h] at hg3_16 ⊢
   rw [if_pos hfr] at hsf
   have hpr : ((List.range i).filter fun fd : Nat => (t (fd : Int)).isNone) ++ [i] <+: frees t := by rw [← hsf]; exact range_prefix _ hi
   refine y2 y_mv <| y2 y_mv <| Hd.unguard rfl rfl ?_; refine Hd.yield (pre := (List.range i).filter fun fd : Nat => (t (fd : Int)).isNone) (c := i) (M := [pt bx [.pointer (some ⟨wb, 0, none⟩)] 38]) hy rfl rfl hpr (fun k' h => sep_app (show sep ([pt bx [.pointer (some ⟨wb, 0, none⟩)] 38] ++ J ((List.range i).filter fun fd : Nat => (t (fd : Int)).isNone)) k' from Ent.sep (show Ent _ (pt bx [.pointer (some ⟨wb, 0, none⟩)] 38 :: J ((List.range i).filter fun fd : Nat => (t (fd : Int)).isNone)) from enn) k' h)) ?_; intro yb; refine y2 (y_not rfl) <| yv (y_pickT rfl rfl) ?_; refine fk [(0,_),(8,_),(9,_),(21,_)] K6 ?_; refine qz ?_ ?_ <;> intro hc1 <;> try simp only [hyZ] at hc1
   ·subst hc1
    simp only [cond_false]; refine Hd.ret <| Hd.inBret <| Hd.thenRet <| Hd.thenRet <| Hd.inBret ?_; exact Hd.ret0 rfl (((List.range i).filter fun fd : Nat => (t (fd : Int)).isNone) ++ [i], false) rfl (fun k' h => Ent.sep (.pure hpr .same) k' h)
   subst hc1; simp only [cond_true]; refine Hd.heap (pt bx [.pointer (some ⟨wb, 0, none⟩)] 38 :: J (((List.range i).filter fun fd : Nat => (t (fd : Int)).isNone) ++ [i])) (fun k' h => sep_app h) ?_; rw [← hsf]; refine Hd.skip <| Hd.inB <| Hd.toK K4 ?_; refine Hd.region <| yv (y_addn rfl rfl (by simp only [InK]; omega)) ?_; refine yv y_mv <| Hd.nil <| slots [(0,_),(8,_),(9,_)] sbq ?_; refine thenN ?_; exact Hd.again (i + 1) (by omega) sbq (Ent.sep (.pure (by omega) enn))
  try simp only [hyZ] at hg3_16
  have hfr : (t (i : Int)).isNone = false := by cases h : t (i : Int) <;> simp [h] at hg3_16 ⊢
  rw [if_neg (by rw [hfr]; simp)] at hsf; refine n1 <| n1 <| n1 <| n1 <| yv (y_pickF rfl rfl) ?_; refine fk [(0,_),(8,_),(9,_),(21,_)] K6 ?_; refine Hd.condF rfl ?_; refine Hd.skip <| Hd.inB <| Hd.toK K4 ?_; refine Hd.region <| yv (y_addn rfl rfl (by simp only [InK]; omega)) ?_; refine yv y_mv <| Hd.nil <| slots [(0,_),(8,_),(9,_)] sbq ?_; refine thenN ?_; rw [← hsf]; exact Hd.again (i + 1) (by omega) sbq (Ent.sep (.pure (by omega) enn))
 refine Hd.exit <| Hd.thenExit <| Hd.thenExit <| Hd.inBexit ?_
 obtain rfl : i = 96 := by omega
 exact Hd.end0 rfl (frees t, true) rfl (fun k' h => Ent.sep (.pure rfl .same) k' (sep_app (M := [pt bx [.pointer (some ⟨wb, 0, none⟩)] 38]) (N := J (frees t)) (Ent.sep enn k' h)))
theorem acc_yes {w : WA} (h : WOk w) {fd : Int} {m k a f : Nat} {x : WireA} {t fs : List Nat} (hm : w.at fd = some (m, k)) (hx : w.ws[m]? = some x) (hbl : x.bl ≠ 0) (hwt : x.wt = a :: t) (hfs : frees w.at = f :: fs) :
  ∃ y, (w.setW m (x.wts t)).ws[a]? = some y ∧ accR w fd = (((f : Int), (a : Int), 0), (w.setW m (x.wts t)).setW a (giveW y f)) ∧ WOk ((w.setW m (x.wts t)).setW a (giveW y f)) ∧ ((w.setW m (x.wts t)).setW a (giveW y f)).at = setT w.at (f : Int) (some (a, 0)) := by
 have hwf := h.wf x (List.mem_of_getElem? hx)
 have hs : SbW x (x.wts t) := sbW_wts hwf (by rw [hwt]; exact List.sublist_cons_self _ _)
 have hsub := flatMap_set_sub (f := WireA.wt) (x' := x.wts t) hx hs.wt
 have hm0 : m ∈ (w.setW m (x.wts t)).ws.flatMap WireA.wt → ((x.wts t).e 0).what = 0 := fun e => by
  obtain ⟨z, hz, hz0⟩ := h.wm m (hsub.subset e)
  rw [hx] at hz; obtain rfl := Option.some.inj hz; exact hz0
 have hat := h.setS_at hx hs hm0 (fun _ _ e => e)
 have hok := h.setS hx hs hm0
 obtain ⟨y0, hy0, hy00⟩ := h.wm a (List.mem_flatMap.2 ⟨x, List.mem_of_getElem? hx, by rw [hwt]; exact List.mem_cons_self⟩)
 have ham : a ≠ m := fun e => h.ns m x hx (by rw [hwt, ← e]; exact List.mem_cons_self)
 have hy : (w.setW m (x.wts t)).ws[a]? = some y0 := by rw [setW_ne ham]; exact hy0
 have hR : accR w fd = (((f : Int), (a : Int), 0), (w.setW m (x.wts t)).setW a (giveW y0 f)) := by
  unfold accR; rw [hm]; dsimp only; rw [hx]; dsimp only; rw [if_neg hbl, hwt]; dsimp only; rw [hfs]; dsimp only; rw [hy]
 have hamw : a ∉ (w.setW m (x.wts t)).ws.flatMap WireA.wt := by
  have hp2 := flatMap_set_app (f := WireA.wt) (bs := [a] ++ t) (l := (w.setW m (x.wts [])).ws) (n := m) (x := x.wts []) (x' := x) (setW_self hx) (by rw [hwt]; rfl)
  have hp3 := flatMap_set_app (f := WireA.wt) (bs := t) (l := (w.setW m (x.wts [])).ws) (n := m) (x := x.wts []) (x' := x.wts t) (setW_self hx) rfl
  have e1 : (w.setW m (x.wts [])).ws.set m x = w.ws := by
   show (w.ws.set m _).set m x = w.ws
   rw [List.set_set]
   obtain ⟨hl, e⟩ := List.getElem?_eq_some_iff.1 hx
   rw [← e, List.set_getElem_self]
  have e2 : (w.setW m (x.wts [])).ws.set m (x.wts t) = (w.setW m (x.wts t)).ws := by
   show (w.ws.set m _).set m _ = w.ws.set m _
   rw [List.set_set]
  rw [e1] at hp2; rw [e2] at hp3
  have hn := hp2.nodup_iff.1 h.wn
  intro hm
  have := hp3.mem_iff.1 hm
  rw [List.append_assoc] at hn; exact (List.nodup_cons.1 hn).1 this
 have hff := frees_mem.1 (show f ∈ frees w.at by rw [hfs]; exact List.mem_cons_self)
 have hg := hok.give (f := f) hy (by rw [hy00]; decide) hamw hff.1 (by rw [hat]; exact hff.2)
 exact ⟨y0, hy, hR, hg.1, by rw [hg.2, hat]⟩
theorem sep_trans {A B C : List SP} (f : ∀ q, sep A q → sep B q) (g : ∀ q, sep B q → sep C q) : ∀ q, sep A q → sep C q := fun q s => g q (f q s)
theorem wire_wts {b k : Nat} {x : WireA} {i : WI} {t : List Nat} {wa : Option Addr} {wc : Nat} {L : List SP} (hi : WIOk x i) (hk : k < 2) : ∀ h, sep (pt b (encW (x.wts t) { i with wa := wa, wc := wc }) 199 :: RgO (i.p k) x.cap (x.e k).b :: RgO (i.p (1 - k)) x.cap (x.e (1 - k)).b :: own 3 1 wa t.length wc (nats t) :: L) h → sep (WireP b (x.wts t) :: L) h := fun h s =>
 wire_fold (x := x.wts t) (i := { i with wa := wa, wc := wc }) (k := k) ⟨hi.rd⟩ hk h s
theorem wire_give {b f : Nat} {y : WireA} {i : WI} {L : List SP} (hi : WIOk y i) : ∀ h, sep (pt b (encW (giveW y f) i) 199 :: RgO (i.p 0) y.cap (y.e 0).b :: RgO (i.p (1 - 0)) y.cap (y.e (1 - 0)).b :: own 3 1 i.wa y.wt.length i.wc (nats y.wt) :: L) h → sep (WireP b (giveW y f) :: L) h := fun h s =>
 wire_fold (x := giveW y f) (i := i) (k := 0) ⟨fun j hj => by
  rcases (show j = 0 ∨ j = 1 by omega) with rfl | rfl
  ·rw [give0]; exact hi.rd 0 hj
  ·rw [give1]; exact hi.rd 1 hj⟩ (by omega) h s
theorem set_fst {rs : List (Nat × WireA)} {n b : Nat} {x x' : WireA} (h : rs[n]? = some (b, x)) : (rs.set n (b, x')).map Prod.fst = rs.map Prod.fst := by
 rw [List.map_set]; apply List.ext_getElem?; intro j
 by_cases e : n = j
 ·subst e
  rw [List.getElem?_set_self (by rw [List.length_map]; exact (List.getElem?_eq_some_iff.1 h).1), List.getElem?_map, h]; rfl
 ·rw [List.getElem?_set_ne e]
abbrev AcH (b2 b4 b5 b6 b7 b8 wb b m k : Nat) (w : WA) (i : WoI) (x : WireA) (L : List SP) : List SP := WireP b x :: pt b2 [.pointer (some ⟨wb, 0, none⟩)] 38 :: pt b4 [.int .i64 0] 3 :: pt b5 [.int .i64 0] 3 :: pt b6 [.int .i64 (fdErr (some (m, k)))] 35 :: pt b7 (plc (some (m, k))) 190 :: pt b8 [ptr (some b)] 191 :: WoR wb m w i L
theorem waccept_ct (L : List SP) (wb : Nat) (w : WA) (fd : Int) : Ct Tryz.prog 59 #[.pointer (some ⟨wb, 0, none⟩), .int .i64 fd] (WorldP wb w :: L) (fun _ : Unit => .tuple #[.int .i64 (accR w fd).1.1, .int .i64 (accR w fd).1.2.1, .int .i64 (accR w fd).1.2.2]) (fun _ : Unit => WorldP wb (accR w fd).2 :: L) := by
 refine Ct.o2M Tryz.func59 ?_; intro E
 show Hd E 79 _ _ _ _
 refine Hd.world .here (fun i hw hrs => ?_); refine sr fun _ K1 => ?_
 refine Hd.box rfl rfl (fun b2 => ?_); refine Hd.alloc zr3 (fun b4 => ?_); refine Hd.alloc zr3 (fun b5 => ?_); refine Hd.alloc zr35 (fun b6 => ?_); refine fk [(1,_),(2,_),(4,_),(5,_),(6,_)] K1 ?_; refine sr fun _ K2 => ?_
 refine yv (y_l1 ag38 rfl) <| yv y_mv <| callE rfl fk101 (find_ct _ wb w i hw hrs fd) sq ?_; intro _; refine yv y_mv <| yv (y_to (v' := .agg (plc (w.at fd)).toArray) y_ex (by rfl)) ?_; refine yv (y_to (v' := ptr (wfb i (w.at fd))) y_ex (by rfl)) ?_; refine yv (y_to (v' := .int .i64 (fdErr (w.at fd))) y_ex (by rfl)) ?_; refine Hd.alloc zr190 (fun b7 => ?_); refine Hd.alloc zr191 (fun b8 => ?_); refine Hd.storeA (us := plc (w.at fd)) (by rw [plc_len]; exact sz190) rfl rfl rfl (plc_one _) pkk (by rw [plc_len]; rfl) ?_; refine Hd.store1 sz191 rfl rfl rfl pkk (by decide) ?_
 try simp only [hyS]
 refine Hd.store1 sz35 rfl rfl rfl pkk (by decide) ?_
 try simp only [hyS]
 refine fk [(2,_),(4,_),(5,_),(6,_),(8,_)] K2 ?_; refine Hd.seq fun _ K3 => ?_
 refine Hd.block <| sr fun _ K4 => ?_
 refine yv (y_l1 ag35 rfl) <| yv (y_neq rfl rfl) ?_; refine yv y_as <| fk [(2,_),(4,_),(5,_),(6,_),(8,_),(18,_)] K4 ?_; refine qz ?_ ?_ <;> intro hc0 <;> try simp only [hyZ] at hc0
 ·have hno : w.at fd = none := by
   cases h : w.at fd with
   | none => rfl
   | some p => rw [h] at hc0; exact absurd rfl hc0
  refine Hd.seq fun _ K5 => ?_
  refine Hd.drawsH ([pt b6 [.int .i64 (fdErr (w.at fd))] 35]) (fun j => !([3].contains j)) mixed ?_; simp only [List.length, Nat.zero_add, Nat.reduceAdd]; refine tH 0 rfl (y_l1 ag35 rfl) <| qo 1 ?_; refine Hd.store1 sz3 rfl rfl rfl pkk (by decide) ?_
  try simp only [hyS]
  refine qk <| qo 2 ?_; refine Hd.store1 sz3 rfl rfl rfl pkk (by decide) ?_
  try simp only [hyS]
  refine qk <| qo 3 ?_; refine Hd.store1 sz35 rfl rfl rfl pkk (by simp; done) ?_
  try simp only [hyS]
  refine qn <| endH kq ?_; refine sk [(4,_),(5,_),(6,_)] K5 ?_; refine Hd.ret <| Hd.inBret <| Hd.thenRet ?_; rw [show accR w fd = ((0, 0, 110), w) by unfold accR; rw [hno]]; rw [hno]; exact Hd.retM (fun a fr => Lv.endC3 fr rfl () ag3 ag3 ag35 rfl rfl rfl (Rd.pt1 pkk rfl) (Rd.pt1 pkk rfl) (Rd.pt1 pkk rfl) rfl (Ent.sep (.ex i (.pure ⟨hw, hrs⟩ enn))))
 obtain ⟨m, k, hnk⟩ : ∃ m k, w.at fd = some (m, k) := by
  cases h : w.at fd with
  | none => rw [h] at hc0; exact absurd hc0 (by decide)
  | some p => exact ⟨p.1, p.2, rfl⟩
 obtain ⟨hf0, hf1, hk, hn, x, hx, _, _⟩ := hw.at_lt hnk
 obtain ⟨b, hb⟩ := rs_at hrs hx
 have hwf := hw.wf x (List.mem_of_getElem? hx)
 have hml : m < i.rs.length := (List.getElem?_eq_some_iff.1 hb).1
 rw [hnk, wfb_eq hb]; refine Hd.wOut pkk hb ?_; refine Hd.wire .here 0 (by omega) (fun i2 hi => ?_); refine sr fun _ K6 => ?_
 refine yv (y_l1 ag191 rfl) <| yv y_np <| yv (y_f 15 3 Tryz.underlying199 sz3) <| yv (y_l1 ag3 rfl) <| yv (y_eql rfl rfl) ?_; refine yv y_as <| fk [(2,_),(4,_),(5,_),(6,_),(8,_),(22,_)] K6 ?_; refine qz ?_ ?_ <;> intro hc1 <;> try simp only [hyZ] at hc1
 ·refine sr fun _ K7 => ?_
  refine Hd.store1 sz3 rfl rfl rfl pkk (by decide) ?_
  try simp only [hyS]
  refine Hd.store1 sz3 rfl rfl rfl pkk (by decide) ?_
  try simp only [hyS]
  refine Hd.store1 sz35 rfl rfl rfl pkk (by simp; done) ?_
  try simp only [hyS]
  refine fk [(4,_),(5,_),(6,_)] K7 ?_; refine Hd.ret <| Hd.inBret <| Hd.thenRet ?_; rw [show accR w fd = ((0, 0, 111), w) by unfold accR; rw [hnk]; dsimp only; rw [hx]; exact if_pos hc1]; exact Hd.retM (fun a fr => Lv.endC3 fr rfl () ag3 ag3 ag35 rfl rfl rfl (Rd.pt1 pkk rfl) (Rd.pt1 pkk rfl) (Rd.pt1 pkk rfl) rfl (fun q s => world_back (k := 0) hw hrs hb hi (by omega) q (Ent.sep enn q s)))
 refine sr fun _ K8 => ?_
 refine yv (y_l1 ag191 rfl) <| yv y_np <| yv (y_f 16 44 Tryz.underlying199 sz44) <| yv (y_l1 ag44 rfl) <| yv (y_len Tryz.underlying44 rfl) ?_; refine yv (y_eql rfl rfl) ?_; refine yv y_as <| fk [(2,_),(4,_),(5,_),(6,_),(8,_),(28,_)] K8 ?_; refine qz ?_ ?_ <;> intro hc2 <;> try simp only [hyZ] at hc2
 ·refine sr fun _ K9 => ?_
  refine Hd.store1 sz3 rfl rfl rfl pkk (by decide) ?_
  try simp only [hyS]
  refine Hd.store1 sz3 rfl rfl rfl pkk (by decide) ?_
  try simp only [hyS]
  refine Hd.store1 sz35 rfl rfl rfl pkk (by simp; done) ?_
  try simp only [hyS]
  refine fk [(4,_),(5,_),(6,_)] K9 ?_; refine Hd.ret <| Hd.inBret <| Hd.thenRet ?_
  have hnil : x.wt = [] := List.eq_nil_of_length_eq_zero (by omega)
  rw [show accR w fd = ((0, 0, 113), w) by unfold accR; rw [hnk]; dsimp only; rw [hx]; dsimp only; rw [if_neg hc1, hnil]]; exact Hd.retM (fun a fr => Lv.endC3 fr rfl () ag3 ag3 ag35 rfl rfl rfl (Rd.pt1 pkk rfl) (Rd.pt1 pkk rfl) (Rd.pt1 pkk rfl) rfl (fun q s => world_back (k := 0) hw hrs hb hi (by omega) q (Ent.sep enn q s)))
 obtain ⟨a, t, hwt⟩ : ∃ a t, x.wt = a :: t := by
  cases h : x.wt with
  | nil => rw [h] at hc2; exact absurd rfl hc2
  | cons a t => exact ⟨a, t, rfl⟩
 refine Hd.skip <| Hd.inB <| Hd.toK K3 ?_; refine Hd.seq fun _ K10 => ?_
 refine Hd.seq fun _ K11 => ?_
 refine Hd.heap (AcH b2 b4 b5 b6 b7 b8 wb b m k w i x L) (fun q s => wire_fold (k := 0) hi (by omega) q (Ent.sep enn q s)) ?_; refine Hd.region <| yv (y_l1 ag38 rfl) <| callE rfl fk115 (free_ct _ wb) sq ?_; intro bx; refine fk [(2,_),(4,_),(5,_),(6,_),(8,_),(36,_)] K11 ?_; refine Hd.block <| Hd.rangeR (enc := encF) (S := fun ys => ys = frees w.at) (Sp := fun ys => ys <+: frees w.at)
  (fun pre => pu (pre = []) :: AcH b2 b4 b5 b6 b7 b8 wb b m k w i x L) (fun j _ => [pu (j = none), pt b4 [.int .i64 (accR w fd).1.1] 3, pt b5 [.int .i64 (accR w fd).1.2.1] 3, pt b6 [.int .i64 (accR w fd).1.2.2] 35, WorldP wb (accR w fd).2] ++ L)
  rfl kq (fun _ => rfl) rfl (free_itR wb bx w.at) (Rd.pt pkk (fun j v e => by rw [Nat.zero_add, List.getElem?_append_left (List.getElem?_eq_some_iff.1 e).1]; exact e)) (by refine Ent.sep ?_; refine Ent.pure rfl ?_; exact Ent.swap (L := [_])) ?_ ?_ ?_
 ·intro E l' R pre f N hR hG
  unfold Rnd; simp only [List.cons_append, List.nil_append, pz, encF]; refine Hd.region <| yv y_as <| Hd.nil <| slots [(2,_),(4,_),(5,_),(6,_),(8,_),(9,_)] sbq ?_; refine thenN <| Hd.begin hR pkk ?_; refine Hd.block <| Hd.seq fun _ K12 => ?_
  refine Hd.pull (A := pu (pre = [])) pkk ?_; refine Hd.pure (fun hpn => ?_); subst hpn
  obtain ⟨fs, hfs0⟩ := hG
  have hfs : frees w.at = f :: fs := hfs0.symm
  have hf96 : f < 96 := (frees_mem.1 (show f ∈ frees w.at by rw [hfs]; exact List.mem_cons_self)).1
  obtain ⟨y, hy, hAR, hok, hat⟩ := acc_yes hw hnk hx hc1 hwt hfs
  have ham : a ≠ m := fun e => hw.ns m x hx (by rw [hwt, ← e]; exact List.mem_cons_self)
  have hyw : w.ws[a]? = some y := by rw [setW_ne ham] at hy; exact hy
  obtain ⟨ba, hba⟩ := rs_at hrs hyw
  have hal : a < i.rs.length := (List.getElem?_eq_some_iff.1 hba).1
  have hra : (i.rs.set m (b, x.wts t))[a]? = some (ba, y) := by rw [List.getElem?_set_ne (Ne.symm ham)]; exact hba
  have hwl : 0 < x.wt.length := by rw [hwt]; exact Nat.succ_pos _
  have hlt : x.wt.length - 1 = t.length := by rw [hwt]; rfl
  have hw0 : (nats x.wt)[0 * 1]? = some (.int .i64 (a : Int)) := by rw [hwt]; rfl
  refine Hd.wire pkk 0 (by omega) (fun i3 hi3 => ?_); refine Hd.region <| yv (y_l1 ag191 rfl) <| yv y_np <| yv (y_f 16 44 Tryz.underlying199 sz44) <| yv (y_l1 ag44 rfl) <| yv (y_idxR Tryz.underlying44 sz3 rfl rfl (by exact (show (0 : Nat) < _ by omega)) (by exact RdS.own pkk)) ?_; refine yv (y_loadR1 ag3 rfl (RdS.own (ad := i3.wa) (us := nats x.wt) pkk) hw0) ?_; refine Hd.store1 sz3 rfl rfl rfl pkk (by decide) ?_
  try simp only [hyS]
  refine fk [(2,_),(4,_),(5,_),(6,_),(8,_),(9,_)] K12 ?_; refine Hd.seq fun _ K13 => ?_
  refine Hd.tail 8 mixed kq ?_; simp only [List.take, List.drop]; refine Ht.yv (y_l1 ag191 rfl) ?_; refine Ht.yv (y_l1 ag191 rfl) ?_; refine Ht.yv y_np ?_; refine Ht.yv (y_f 16 44 Tryz.underlying199 sz44) ?_; refine Ht.yv (y_l1 ag44 rfl) ?_; refine Ht.yv (y_slo_oxx Tryz.underlying44 sz3 rfl rfl (by omega) (by omega)) ?_; refine Ht.yv y_np ?_; refine Ht.yv (y_f 16 44 Tryz.underlying199 sz44) ?_; refine Ht.nil ?_; refine Hd.store1 sz44 rfl rfl rfl pkk (by simp; done) ?_
  try simp only [hyS]
  refine Hd.nil ?_; simp only [show Int.toNat 1 = 1 from rfl]; refine Hd.ownDrop (e := 3) (ad := i3.wa) (m := x.wt.length) (cap := i3.wc) pkk 1 (nats [a]) (nats t) (by omega) (by rw [hwt]; rfl) rfl ?_; rw [hlt, show (encW x i3).set (0 + 16) (.slice (cutA i3.wa 1 1 i3.wc) t.length (i3.wc - 1)) = encW (x.wts t) { i3 with wa := cutA i3.wa 1 1 i3.wc, wc := i3.wc - 1 } from rfl]; refine Hd.heap (WireP b (x.wts t) :: _) (fun q s => wire_wts (k := 0) hi3 (by omega) q (by exact Ent.sep enn q s)) ?_; refine Hd.heap (Wires (i.rs.set m (b, x.wts t)) :: _) (fun q s => ws_in hml (by exact Ent.sep enn q s)) ?_; refine sk [(2,_),(4,_),(5,_),(6,_),(9,_)] K13 ?_; refine Hd.seq fun _ K14 => ?_
  refine Hd.quiet mixed kq ?_; refine Hq.yv (y_l1 ag38 rfl) ?_; refine Hq.yv y_np ?_; refine Hq.yv (y_f 288 208 Tryz.underlying210 sz208) ?_; refine Hq.yv (y_load1 ag208 rfl (Rd.pt1 pkk (by exact woT_at (j := 0) (by omega) rfl))) ?_; refine Hq.yv (y_l1 ag3 rfl) ?_; refine Hq.yv (y_idxR Tryz.underlying208 sz191 rfl rfl (by omega) (by exact RdS.own pkk)) ?_; refine Hq.yv (y_loadR1 ag191 rfl (by exact RdS.own pkk) (by exact pws_at hba)) ?_; refine Hq.yv y_as ?_; refine Hq.nil ?_; refine sk [(2,_),(4,_),(5,_),(6,_),(9,_),(10,_)] K14 ?_; refine Hd.seq fun _ K15 => ?_
  refine Hd.wOut pkk hra ?_; refine Hd.wire .here 0 (by omega) (fun i4 hi4 => ?_); refine Hd.drawsH ([]) (fun j => !(([1000] : List Nat).contains j)) mixed ?_; simp only [List.length, Nat.zero_add, Nat.reduceAdd]; refine tH 0 rfl y_mv <| tH 1 rfl y_mv <| tH 2 rfl y_mv <| tH 3 rfl y_np <| tH 4 rfl (y_f 0 197 Tryz.underlying199 sz197) <| tH 5 rfl (y_idxA Tryz.underlying197 sz196 rfl rfl (by decide)) ?_; refine tH 6 rfl (y_f 0 3 Tryz.underlying196 sz3) <| tH 8 rfl y_np <| tH 9 rfl (y_f 0 197 Tryz.underlying199 sz197) <| qo 7 ?_; refine Hd.store1 sz3 rfl rfl rfl pkk (by simp; done) ?_
  try simp only [hyS]
  refine qk <| tH 10 rfl (y_idxA Tryz.underlying197 sz196 rfl rfl (by decide)) ?_; refine tH 11 rfl (y_f 1 3 Tryz.underlying196 sz3) <| qo 12 ?_; refine Hd.store1 sz3 rfl rfl rfl pkk (by simp; done) ?_
  try simp only [hyS]
  refine qk <| endH kq ?_; refine Hd.heap (WireP ba (giveW y f) :: _) (fun q s => wire_give hi4 q (by exact Ent.sep (.eq pkk (pt_eq (by rfl)) enn) q s)) ?_; refine Hd.heap (Wires ((i.rs.set m (b, x.wts t)).set a (ba, giveW y f)) :: _) (fun q s => ws_in (by rw [List.length_set]; exact hal) (by exact Ent.sep enn q s)) ?_; refine sk [(2,_),(4,_),(5,_),(6,_),(9,_)] K15 ?_; refine Hd.seq fun _ K16 => ?_
  refine Hd.tail 7 mixed kq ?_; simp only [List.take, List.drop]; refine Ht.yv (y_l1 ag38 rfl) ?_; refine Ht.yv y_mv ?_; refine Ht.yv (y_l1 ag3 rfl) ?_; refine Ht.yv (y_build (vs := [(0,_),(1,_),(2,_)]) rfl (by exact bd59_73 ..)) ?_; refine Ht.yv y_np ?_; refine Ht.yv (y_f 0 207 Tryz.underlying210 sz207) ?_; refine Ht.yv (y_idxA Tryz.underlying207 sz190 rfl rfl (by omega)) ?_; refine Ht.nil ?_; refine Hd.store (us := plc (some (a, 0))) sz190 rfl rfl rfl (plc_one _) pkk (by rw [List.length_append, fdC_len, plc_len]; omega) ?_; refine Hd.nil ?_; rw [show 0 + 0 + f * 3 = f * 3 by omega, show (plc (some (a, 0))).length = 3 from rfl, fdC_set hf96]; refine sk [(4,_),(5,_),(6,_),(9,_)] K16 ?_; refine Hd.seq fun _ K17 => ?_
  refine Hd.drawsH ([pt b5 [.int .i64 (a : Int)] 3]) (fun j => !([3].contains j)) mixed ?_; simp only [List.length, Nat.zero_add, Nat.reduceAdd]; refine tH 0 rfl y_mv <| tH 1 rfl (y_l1 ag3 rfl) <| qo 2 ?_; refine Hd.store1 sz3 rfl rfl rfl pkk (by decide) ?_
  try simp only [hyS]
  refine qk <| qo 3 ?_; refine Hd.store1 sz3 rfl rfl rfl pkk (by simp; done) ?_
  try simp only [hyS]
  refine qn <| qo 4 ?_; refine Hd.store1 sz35 rfl rfl rfl pkk (by simp; done) ?_
  try simp only [hyS]
  refine qk <| endH kq ?_; refine sk [(4,_),(5,_),(6,_)] K17 ?_; refine Hd.ret <| Hd.inBret <| Hd.reR ?_; simp only [List.cons_append, List.nil_append]; rw [hAR]
  have hfs2 : ((i.rs.set m (b, x.wts t)).set a (ba, giveW y f)).map Prod.fst = i.rs.map Prod.fst := by rw [set_fst hra, set_fst hb]
  have hws2 : ((i.rs.set m (b, x.wts t)).set a (ba, giveW y f)).map Prod.snd = ((w.setW m (x.wts t)).setW a (giveW y f)).ws := by
   rw [List.map_set, List.map_set, hrs]; rfl
  dsimp only; refine sep_trans (Ent.sep (.pick pkk (.eq pkk (pt_eq (by rfl)) enn))) (sep_trans (world_all (w := w) (wb := wb) hok hfs2 hws2 hat rfl) (Ent.sep ?_)); exact .pick pkk (.pure (by trivial) enn)
 ·intro r0 ys hys
  obtain rfl : ys = frees w.at := hys
  simp only [List.cons_append, List.nil_append]; refine Hd.pure (fun hfn => ?_)
  try simp only [List.cons_append, List.nil_append]
  refine Hd.inB <| Hd.toK K10 ?_; refine sr fun _ K18 => ?_
  refine Hd.store1 sz3 rfl rfl rfl pkk (by decide) ?_
  try simp only [hyS]
  refine Hd.store1 sz3 rfl rfl rfl pkk (by decide) ?_
  try simp only [hyS]
  refine Hd.store1 sz35 rfl rfl rfl pkk (by simp; done) ?_
  try simp only [hyS]
  refine fk [(4,_),(5,_),(6,_)] K18 ?_; refine Hd.ret ?_; rw [show accR w fd = ((0, 0, 112), w) by unfold accR; rw [hnk]; dsimp only; rw [hx]; dsimp only; rw [if_neg hc1, hwt]; dsimp only; rw [hfn]]; exact Hd.retM (fun a fr => Lv.mark pkk (Lv.endC3 fr rfl () ag3 ag3 ag35 rfl rfl rfl (Rd.pt1 pkk rfl) (Rd.pt1 pkk rfl) (Rd.pt1 pkk rfl) rfl (fun q s => world_same hw hrs hb q (Ent.sep enn q s))))
 rintro r0_0 (_ | id0) pre0 hG0
 ·simp only [List.cons_append, List.nil_append]
  refine Hd.pure (fun _ => ?_)
  try simp only [List.cons_append, List.nil_append]
  refine Hd.ret <| Hd.inBret <| Hd.thenRet ?_; exact Hd.retM (fun a fr => Lv.mark pkk (Lv.endC3 fr rfl () ag3 ag3 ag35 rfl rfl rfl (Rd.pt1 pkk rfl) (Rd.pt1 pkk rfl) (Rd.pt1 pkk rfl) rfl sq))
 exact Hd.absurd (by simp)
end Wo
end Go.Proofs.YtbfddabjbkohdaaGreat
namespace Go.Proofs.YtbfddabjbkohdaaGreat
open Go.RX Fx
namespace Rf
open Wo
theorem rw_head {b n : Nat} {w : WA} {i : Rows_} {x x' : WireA} {j : RwI} {L : List SP} (hi : i.1.map Prod.fst = w.ws) (hn : i.1[n]? = some (x, j)) (hb : ∀ k, k < 2 → (x'.e k).b = (x.e k).b) (hw : x'.wt = x.wt) :
  ∀ h, sep (RwH b w i.1.length i.2.1 i.2.2 :: own 221 20 i.2.1 i.1.length i.2.2 ((i.1.set n (x', j)).flatMap encRW) :: Bag Sd i.1 :: L) h → sep (RwP b (w.setW n x') :: L) h := fun h s => by
 have e1 : Bag Sd i.1 = Bag Sd (i.1.set n (x', j)) := (bag_set hn (sd_same (p := (x, j)) (p' := (x', j)) hb hw rfl)).symm
 have hl : (i.1.set n (x', j)).length = i.1.length := List.length_set ..
 refine rw_fold (i := (i.1.set n (x', j), i.2)) (by show (i.1.set n (x', j)).map Prod.fst = w.ws.set n x'; rw [List.map_set, hi]) h (Ent.sep ?_ h s); exact .eq pkk (pt_eq (by show _ = RwC (w.setW n x') (i.1.set n (x', j)).length i.2.1 i.2.2; rw [hl]; rfl)) (.eq pkk (own_eq3 hl.symm rfl rfl) (.eq pkk e1 enn))
theorem rw_put {b n : Nat} {w : WA} {i : Rows_} {x' : WireA} {j' : RwI} {L : List SP} (hi : i.1.map Prod.fst = w.ws) (hn : n < i.1.length) :
  ∀ h, sep (Sd (x', j') :: RwH b w i.1.length i.2.1 i.2.2 :: own 221 20 i.2.1 i.1.length i.2.2 ((i.1.set n (x', j')).flatMap encRW) :: Bag Sd (i.1.take n) :: Bag Sd (i.1.drop (n + 1)) :: L) h → sep (RwP b (w.setW n x') :: L) h := fun h s => by
 have hl : (i.1.set n (x', j')).length = i.1.length := List.length_set ..
 have h1 : sep (Sd (x', j') :: Bag Sd (i.1.take n) :: Bag Sd (i.1.drop (n + 1)) :: RwH b w i.1.length i.2.1 i.2.2 :: own 221 20 i.2.1 i.1.length i.2.2 ((i.1.set n (x', j')).flatMap encRW) :: L) h := Ent.sep enn h s
 have h2 := bag_in hn h1
 refine rw_fold (i := (i.1.set n (x', j'), i.2)) (by show (i.1.set n (x', j')).map Prod.fst = w.ws.set n x'; rw [List.map_set, hi]) h (Ent.sep ?_ h h2); exact .eq pkk (pt_eq (by show _ = RwC (w.setW n x') (i.1.set n (x', j')).length i.2.1 i.2.2; rw [hl]; rfl)) (.eq pkk (own_eq3 hl.symm rfl rfl) enn)
def atN : Option (Nat × Nat) → Int
 | none => -1
 | some p => (p.1 : Int)
def atK : Option (Nat × Nat) → Int
 | none => -1
 | some p => (p.2 : Int)
theorem rat_ct (L : List SP) (b : Nat) (w : WA) (hw : WOk w) (fd : Int) : Ct Tryz.prog 116 #[.pointer (some ⟨b, 0, none⟩), .int .i64 fd] (RwP b w :: L) (fun _ : Unit => .tuple #[.int .i64 (atN (w.at fd)), .int .i64 (atK (w.at fd))]) (fun _ : Unit => RwP b w :: L) := by
 refine Ct.o2 Tryz.func116 ?_; intro E
 show Hd E 50 _ _ _ _
 refine Hd.rw .here (fun i hi => ?_)
 have hrl := rows_n hi
 have hwl := hw.len
 refine sr fun _ K1 => ?_
 refine yv y_as <| yv y_as <| fk [(0,_),(1,_)] K1 ?_; refine Hd.seq fun _ K2 => ?_
 refine sr fun _ K3 => ?_
 refine yv y_as <| fk [(0,_),(1,_),(6,_)] K3 ?_; refine Hd.block <| Hd.loopK (ι := Nat) [(0,_),(1,_)] (fun n => [(6, .int .i64 (n : Int))]) (fun n => pu (n ≤ w.ws.length ∧ ∀ m y, m < n → w.ws[m]? = some y → atE y fd = none) :: RwL b w i L) (fun n => w.ws.length - n) 0 sbq sbq (Ent.sep (.pure ⟨Nat.zero_le _, fun _ _ h => absurd h (Nat.not_lt_zero _)⟩ enn)) ?_; intro n
 try dsimp only
 refine Hd.pure (fun hp0 => ?_)
 try dsimp only at hp0
 refine Hd.seq fun _ K4 => ?_
 refine sr fun _ K5 => ?_
 refine yv y_mv <| yv y_mv <| yv y_np <| yv (y_f 0 129 Tryz.underlying133 sz129) <| yv (y_l1 ag129 rfl) <| yv (y_len Tryz.underlying129 rfl) ?_; refine yv (y_lss rfl rfl) ?_; refine fk [(0,_),(1,_),(6,_),(14,_)] K5 ?_; refine qz ?_ ?_ <;> intro hc0 <;> try simp only [hyZ] at hc0
 ·have hn : n < w.ws.length := by omega
  obtain ⟨x, hx⟩ : ∃ x, w.ws[n]? = some x := ⟨_, List.getElem?_eq_getElem hn⟩
  obtain ⟨j, hrow⟩ := row_at hi hx
  refine qv K4 <| Hd.seq fun _ K6 => ?_
  refine Hd.block <| sr fun _ K7 => ?_
  refine yv y_as <| fk [(0,_),(1,_),(6,_),(7,_)] K7 ?_; refine Hd.block <| Hd.loopK (ι := Nat) [(0,_),(1,_),(6,_)] (fun k => [(7, .int .i64 (k : Int))]) (fun k => pu (k ≤ 2 ∧ ∀ q, q < k → ¬ ((x.e q).what = 1 ∧ (x.e q).fd = fd)) :: RwL b w i L) (fun k => 2 - k) 0 sbq sbq (Ent.sep (.pure ⟨Nat.zero_le _, fun _ h => absurd h (Nat.not_lt_zero _)⟩ enn)) ?_; intro k
  try dsimp only
  refine Hd.pure (fun hp1 => ?_)
  try dsimp only at hp1
  refine Hd.seq fun _ K8 => ?_
  refine sr fun _ K9 => ?_
  refine yv y_mv <| yv (y_lss rfl rfl) ?_; refine fk [(0,_),(1,_),(6,_),(7,_),(18,_)] K9 ?_; refine qz ?_ ?_ <;> intro hc1 <;> try simp only [hyZ] at hc1
  ·have hk : k < 2 := by omega
   refine qv K8 <| Hd.seq fun _ K10 => ?_
   refine Hd.block <| sr fun _ K11 => ?_
   refine yv y_mv <| yv y_np <| yv (y_f 0 129 Tryz.underlying133 sz129) <| yv (y_l1 ag129 rfl) <| yv y_mv <| yv y_mv <| yv (y_idxR Tryz.underlying129 sz221 rfl rfl (by omega) (by exact RdS.own pkk)) ?_; refine yv (y_fR 0 219 Tryz.underlying221 sz219) ?_; refine yv (y_idxAR Tryz.underlying219 sz218 rfl rfl (by omega)) ?_; refine yv (y_fR 0 3 Tryz.underlying218 sz3) ?_; refine yv (y_rc ag3 rfl hrow hk 0 rfl) ?_; refine yv (y_eql rfl rfl) ?_; refine yv y_mv ?_; apply Hd.andg 14 33 47 [(0,_),(1,_),(6,_),(7,_)] rfl sbq
   ·intro hg7_33
    try simp only [hyZ] at hg7_33
    simp only [List.take]; refine y2 y_mv <| y2 y_np <| y2 (y_f 0 129 Tryz.underlying133 sz129) <| y2 (y_l1 ag129 rfl) <| y2 y_mv <| y2 y_mv <| y2 (y_idxR Tryz.underlying129 sz221 rfl rfl (by omega) (by exact RdS.own pkk)) ?_; refine y2 (y_fR 0 219 Tryz.underlying221 sz219) ?_; refine y2 (y_idxAR Tryz.underlying219 sz218 rfl rfl (by omega)) ?_; refine y2 (y_fR 1 3 Tryz.underlying218 sz3) ?_; refine y2 (y_rc ag3 rfl hrow hk 1 rfl) ?_; refine y2 y_mv <| y2 (y_eql rfl rfl) ?_; refine yv (y_pickT rfl rfl) ?_; exact Hd.mn
   ·intro hg7_33
    try simp only [hyZ] at hg7_33
    simp only [List.take]; refine n1 <| n1 <| n1 <| n1 <| n1 <| n1 <| n1 <| n1 <| n1 <| n1 <| n1 <| n1 <| n1 <| yv (y_pickF rfl rfl) ?_; exact Hd.mn
   simp only [List.drop]; refine fk [(0,_),(1,_),(6,_),(7,_),(47,_)] K11 ?_; refine qz ?_ ?_ <;> intro hc2 <;> try simp only [hyZ] at hc2
   ·refine sr fun _ K12 => ?_
    refine yv y_mv <| yv y_mv <| yv y_as <| yv y_as <| fk [(4,_),(5,_)] K12 ?_; refine Hd.ret <| Hd.inBret <| Hd.thenRet <| Hd.thenRet <| Hd.inBret <| Hd.inBret <| Hd.thenRet <| Hd.thenRet <| Hd.inBret <| Hd.thenRet ?_
    have e : w.at fd = some (n, k) := (atW_iff hw.uq).2 ⟨hk, x, hx, hc2⟩
    rw [e]; exact Hd.ret2 rfl () rfl rfl rfl (rw_fold hi)
   refine Hd.skip <| Hd.inB <| Hd.toK K10 ?_; refine Hd.region <| yv y_mv <| yv (y_addn rfl rfl (by simp only [InK]; omega)) ?_; refine yv y_as <| Hd.nil <| slots [(0,_),(1,_),(6,_),(7,_)] sbq ?_; refine thenN ?_
   have hne : ∀ q, q < k + 1 → ¬ ((x.e q).what = 1 ∧ (x.e q).fd = fd) := by
    intro q hq
    rcases (show q < k ∨ q = k by omega) with h | rfl
    ·exact hp1.2 q h
    ·rintro ⟨h1, h2⟩
     rcases hc2 with h | h
     ·exact h h1
     ·exact h h2
   exact Hd.again (k + 1) (by omega) sbq (Ent.sep (.pure ⟨hk, hne⟩ enn))
  have hk2 : k = 2 := by omega
  refine Hd.exit <| Hd.thenExit <| Hd.thenExit <| Hd.inBexit <| Hd.inB <| Hd.toK K6 ?_; refine Hd.region <| yv y_mv <| yv (y_addn rfl rfl (by simp only [InK]; omega)) ?_; refine yv y_as <| Hd.nil <| slots [(0,_),(1,_),(6,_)] sbq ?_; refine thenN ?_
  have hne : ∀ m y, m < n + 1 → w.ws[m]? = some y → atE y fd = none := by
   intro m y hm hy
   rcases (show m < n ∨ m = n by omega) with h | rfl
   ·exact hp0.2 m y h hy
   ·rw [hx] at hy; obtain rfl := Option.some.inj hy
    exact atE_no fun q hq => hp1.2 q (by omega)
  exact Hd.again (n + 1) (by omega) sbq (Ent.sep (.pure ⟨hn, hne⟩ enn))
 refine Hd.exit <| Hd.thenExit <| Hd.thenExit <| Hd.inBexit <| Hd.toK K2 ?_; refine sr fun _ K13 => ?_
 refine yv y_as <| yv y_as <| fk [(4,_),(5,_)] K13 ?_; refine Hd.ret ?_
 have e : w.at fd = none := atW_none.2 fun y hy => by
  obtain ⟨m, hm, e⟩ := List.getElem_of_mem hy
  exact hp0.2 m y (by omega) (by rw [List.getElem?_eq_getElem hm, e])
 rw [e]; exact Hd.ret2 rfl () rfl rfl rfl (rw_fold hi)
theorem rset_inn {rs : List Row} {n k o : Nat} {x : WireA} {j : RwI} {v : Int} (h : rs[n]? = some (x, j)) (hk : k < 2) (ho : o = n * 20 + k * 8 + 6) : (rs.flatMap encRW).set o (.int .u64 v) = (rs.set n (x.up k fun e => { e with inn := v }, j)).flatMap encRW :=
 rset h hk (j := 6) (by decide) ho (by rw [up_at]; rfl) (by rw [up_ne _ _ (by omega)]) rfl
theorem rset_out {rs : List Row} {n k o : Nat} {x : WireA} {j : RwI} {v : Int} (h : rs[n]? = some (x, j)) (hk : k < 2) (ho : o = n * 20 + k * 8 + 7) : (rs.flatMap encRW).set o (.int .u64 v) = (rs.set n (x.up k fun e => { e with out := v }, j)).flatMap encRW :=
 rset h hk (j := 7) (by decide) ho (by rw [up_at]; rfl) (by rw [up_ne _ _ (by omega)]) rfl
theorem rset_shut {rs : List Row} {n k o : Nat} {x : WireA} {j : RwI} {v : Bool} (h : rs[n]? = some (x, j)) (hk : k < 2) (ho : o = n * 20 + k * 8 + 5) : (rs.flatMap encRW).set o (.bool v) = (rs.set n (x.up k fun e => { e with shut := v }, j)).flatMap encRW :=
 rset h hk (j := 5) (by decide) ho (by rw [up_at]; rfl) (by rw [up_ne _ _ (by omega)]) rfl
theorem rset_what {rs : List Row} {n k o : Nat} {x : WireA} {j : RwI} {v : Int} (h : rs[n]? = some (x, j)) (hk : k < 2) (ho : o = n * 20 + k * 8 + 0) : (rs.flatMap encRW).set o (.int .i64 v) = (rs.set n (x.up k fun e => { e with what := v }, j)).flatMap encRW :=
 rset h hk (j := 0) (by decide) ho (by rw [up_at]; rfl) (by rw [up_ne _ _ (by omega)]) rfl
theorem row_set {rs : List Row} {n : Nat} {p q : Row} (h : rs[n]? = some p) : (rs.set n q)[n]? = some q := by
 rw [List.getElem?_set_self (List.getElem?_eq_some_iff.1 h).1]
theorem up_b (x : WireA) (k : Nat) {f : EndA → EndA} (hf : ∀ e, (f e).b = e.b) (j : Nat) : ((x.up k f).e j).b = (x.e j).b := by
 by_cases e : j = k
 ·subst e; rw [up_at]; exact hf _
 ·rw [up_ne _ _ e]
abbrev OwS (i : Rows_) (rs : List Row) : SP := own 221 20 i.2.1 i.1.length i.2.2 (rs.flatMap encRW)
theorem rrise_ct (L : List SP) (b : Nat) (w : WA) (n : Nat) (x : WireA) (hx : w.ws[n]? = some x) (k : Nat) (hk : k < 2) (vi vo : Bool) : Ct Tryz.prog 176 #[.pointer (some ⟨b, 0, none⟩), .int .i64 (n : Int), .int .i64 (k : Int), .bool vi, .bool vo] (RwP b w :: L) (fun _ : Unit => .tuple #[]) (fun _ : Unit => RwP b (w.setW n (x.up k (riseE vi vo))) :: L) := by
 refine Ct.o5 Tryz.func176 ?_; intro E
 show Hd E 70 _ _ _ _
 refine Hd.rw .here (fun i hi => ?_)
 have hrl := rows_n hi
 obtain ⟨j, hrow⟩ := row_at hi hx
 have hn : n < i.1.length := (List.getElem?_eq_some_iff.1 hrow).1
 have hrow2 : (i.1.set n (x.up k (riseE vi false), j))[n]? = some (x.up k (riseE vi false), j) := row_set hrow
 refine Hd.cutK (ι := Unit) [(0,_),(1,_),(2,_),(4,_)] (fun _ => []) (fun _ => RwH b w i.1.length i.2.1 i.2.2 :: OwS i (i.1.set n (x.up k (riseE vi false), j)) :: Bag Sd i.1 :: L) ?_ ?_ ⟨rfl, rfl, rfl, rfl, trivial⟩
 ·refine sr fun _ K1 => ?_
  refine yv y_mv <| yv y_mv ?_; apply Hd.andg 12 11 23 [(0,_),(1,_),(2,_),(4,_)] rfl sbq
  ·intro hg0_11
   try simp only [hyZ] at hg0_11
   simp only [List.take]; refine y2 y_mv <| y2 y_np <| y2 (y_f 0 129 Tryz.underlying133 sz129) <| y2 (y_l1 ag129 rfl) <| y2 y_mv <| y2 y_mv <| y2 (y_idxR Tryz.underlying129 sz221 rfl rfl (by omega) (by exact RdS.own pkk)) ?_; refine y2 (y_fR 0 219 Tryz.underlying221 sz219) ?_; refine y2 (y_idxAR Tryz.underlying219 sz218 rfl rfl (by omega)) ?_; refine y2 (y_fR 2 4 Tryz.underlying218 sz4) ?_; refine y2 (y_rc ag4 rfl hrow hk 2 rfl) ?_; refine yv (y_pickT rfl rfl) ?_; exact Hd.mn
  ·intro hg0_11
   try simp only [hyZ] at hg0_11
   simp only [List.take]; refine n1 <| n1 <| n1 <| n1 <| n1 <| n1 <| n1 <| n1 <| n1 <| n1 <| n1 <| yv (y_pickF rfl rfl) ?_; exact Hd.mn
  simp only [List.drop]; refine fk [(0,_),(1,_),(2,_),(4,_),(23,_)] K1 ?_; refine qz ?_ ?_ <;> intro hc0 <;> try simp only [hyZ] at hc0
  ·have h2 : x.up k (fun e => { e with inn := IntKind.u64.wrap ((x.e k).inn + 1) }) = x.up k (riseE vi false) := up_eq (by simp [riseE, hc0.1, hc0.2])
   refine Hd.drawsH ([RwH b w i.1.length i.2.1 i.2.2, OwR i]) (fun j => !([16].contains j)) mixed ?_; simp only [List.length, Nat.zero_add, Nat.reduceAdd]; refine tH 0 rfl y_mv <| tH 1 rfl y_np <| tH 2 rfl (y_f 0 129 Tryz.underlying133 sz129) <| tH 3 rfl (y_l1 ag129 rfl) <| tH 4 rfl y_mv <| tH 5 rfl y_mv <| tH 6 rfl (y_idxR Tryz.underlying129 sz221 rfl rfl (by omega) (by exact RdS.own pkk)) ?_; refine tH 7 rfl (y_fR 0 219 Tryz.underlying221 sz219) ?_; refine tH 8 rfl (y_idxAR Tryz.underlying219 sz218 rfl rfl (by omega)) ?_; refine tH 9 rfl (y_fR 6 30 Tryz.underlying218 sz30) ?_; refine tH 10 rfl (y_rc ag30 rfl hrow hk 6 rfl) ?_; refine tH 11 rfl (y_add rfl rfl) ?_; refine qo 12 ?_; refine yv (y_idxR Tryz.underlying129 sz221 rfl rfl (by omega) (by exact RdS.own pkk)) ?_; refine qk <| qo 13 ?_; refine yv (y_fR 0 219 Tryz.underlying221 sz219) ?_
   refine qk <| qo 14 ?_; refine yv (y_idxAR Tryz.underlying219 sz218 rfl rfl (by omega)) ?_; refine qk <| tH 15 rfl (y_fR 6 30 Tryz.underlying218 sz30) ?_; refine qo 16 ?_; refine Hd.storeO1 sz30 rfl rfl rfl pkk (by rw [rows_len encRW_len]; omega) ?_
   try simp only [hyS]
   refine qn <| endH kq ?_; rw [rset_inn hrow hk (by omega)]; refine slots [(0,_),(1,_),(2,_),(4,_)] sbq ?_; refine thenN ?_; exact Hd.meet () sbq (Ent.sep (.pick pkk (.eq pkk (own_eq3 rfl rfl (by rw [h2])) enn)))
  have h2 : x.up k (riseE vi false) = x := up_id (by
   have h : (vi && (x.e k).rd) = false := by rcases hc0 with h | h <;> simp [h]
   unfold riseE; rw [if_neg (by rw [h]; simp), if_neg (by simp)])
  have h3 : i.1.set n (x, j) = i.1 := by
   obtain ⟨hl, e⟩ := List.getElem?_eq_some_iff.1 hrow
   rw [← e, List.set_getElem_self]
  refine Hd.skip <| thenN ?_; exact Hd.meet () sbq (Ent.sep (.pick pkk (.eq pkk (own_eq3 rfl rfl (by rw [h2, h3])) enn)))
 intro _; refine sr fun _ K2 => ?_
 refine yv y_mv <| yv y_mv ?_; apply Hd.andg 12 41 53 [(0,_),(1,_),(2,_)] rfl sbq
 ·intro hg2_41
  try simp only [hyZ] at hg2_41
  simp only [List.take]; refine y2 y_mv <| y2 y_np <| y2 (y_f 0 129 Tryz.underlying133 sz129) <| y2 (y_l1 ag129 rfl) <| y2 y_mv <| y2 y_mv <| y2 (y_idxR Tryz.underlying129 sz221 rfl rfl (by omega) (by exact RdS.own pkk)) ?_; refine y2 (y_fR 0 219 Tryz.underlying221 sz219) ?_; refine y2 (y_idxAR Tryz.underlying219 sz218 rfl rfl (by omega)) ?_; refine y2 (y_fR 3 4 Tryz.underlying218 sz4) ?_; refine y2 (y_to (v' := .bool (x.e k).wr) (y_rc ag4 rfl hrow2 hk 3 rfl) (by (rw [up_at]; rfl))) ?_; refine yv (y_pickT rfl rfl) ?_; exact Hd.mn
 ·intro hg2_41
  try simp only [hyZ] at hg2_41
  simp only [List.take]; refine n1 <| n1 <| n1 <| n1 <| n1 <| n1 <| n1 <| n1 <| n1 <| n1 <| n1 <| yv (y_pickF rfl rfl) ?_; exact Hd.mn
 simp only [List.drop]; refine fk [(0,_),(1,_),(2,_),(53,_)] K2 ?_; refine qz ?_ ?_ <;> intro hc1 <;> try simp only [hyZ] at hc1
 ·refine Hd.drawsH ([RwH b w i.1.length i.2.1 i.2.2, OwS i (i.1.set n (x.up k (riseE vi false), j))]) (fun j => !([16].contains j)) mixed ?_
  simp only [List.length, Nat.zero_add, Nat.reduceAdd]; refine tH 0 rfl y_mv <| tH 1 rfl y_np <| tH 2 rfl (y_f 0 129 Tryz.underlying133 sz129) <| tH 3 rfl (y_l1 ag129 rfl) <| tH 4 rfl y_mv <| tH 5 rfl y_mv <| tH 6 rfl (y_idxR Tryz.underlying129 sz221 rfl rfl (by omega) (by exact RdS.own pkk)) ?_; refine tH 7 rfl (y_fR 0 219 Tryz.underlying221 sz219) ?_; refine tH 8 rfl (y_idxAR Tryz.underlying219 sz218 rfl rfl (by omega)) ?_; refine tH 9 rfl (y_fR 7 30 Tryz.underlying218 sz30) ?_; refine tH 10 rfl (y_to (v' := .int .u64 (x.e k).out) (y_rc ag30 rfl hrow2 hk 7 rfl) (by (rw [up_at]; simp [riseE]))) ?_; refine tH 11 rfl (y_add rfl rfl) ?_; refine qo 12 ?_; refine yv (y_idxR Tryz.underlying129 sz221 rfl rfl (by omega) (by exact RdS.own pkk)) ?_; refine qk <| qo 13 ?_; refine yv (y_fR 0 219 Tryz.underlying221 sz219) ?_; refine qk <| qo 14 ?_
  refine yv (y_idxAR Tryz.underlying219 sz218 rfl rfl (by omega)) ?_; refine qk <| tH 15 rfl (y_fR 7 30 Tryz.underlying218 sz30) ?_; refine qo 16 ?_; refine Hd.storeO1 sz30 rfl rfl rfl pkk (by rw [rows_len encRW_len, List.length_set]; omega) ?_
  try simp only [hyS]
  refine qn <| endH kq ?_; rw [rset_out hrow2 hk (by omega), List.set_set, up_up]; refine slots [] sbq ?_
  have h2 : (x.up k fun e => { riseE vi false e with out := IntKind.u64.wrap ((x.e k).out + 1) }) = x.up k (riseE vi vo) := up_eq (by simp [riseE, hc1.1, hc1.2])
  rw [h2]; exact Hd.end0 rfl () rfl (fun q s => rw_head (x' := x.up k (riseE vi vo)) hi hrow (fun j _ => up_b x k (f := riseE vi vo) (fun _ => rfl) j) rfl q (Ent.sep enn q s))
 refine Hd.skip ?_
 have h2 : x.up k (riseE vi false) = x.up k (riseE vi vo) := up_eq (by
  have h : (vo && (x.e k).wr) = false := by rcases hc1 with h | h <;> simp [h]
  unfold riseE; congr 1; rw [if_neg (by simp), if_neg (by rw [h]; simp)])
 rw [h2]; exact Hd.end0 rfl () rfl (fun q s => rw_head (x' := x.up k (riseE vi vo)) hi hrow (fun j _ => up_b x k (f := riseE vi vo) (fun _ => rfl) j) rfl q (Ent.sep enn q s))
theorem setW_setW {w : WA} {n : Nat} {x y : WireA} : (w.setW n x).setW n y = w.setW n y := by
 show ({ w with ws := _ } : WA) = { w with ws := _ }
 congr 1
 show (w.ws.set n x).set n y = _
 rw [List.set_set]
theorem rshut_ct (L : List SP) (b : Nat) (w : WA) (n : Nat) (x : WireA) (hx : w.ws[n]? = some x) (k : Nat) (hk : k < 2) : Ct Tryz.prog 121 #[.pointer (some ⟨b, 0, none⟩), .int .i64 (n : Int), .int .i64 (k : Int)] (RwP b w :: L) (fun _ : Unit => .tuple #[]) (fun _ : Unit => RwP b (w.setW n (shutW x k)) :: L) := by
 refine Ct.o3 Tryz.func121 ?_; intro E
 show Hd E 33 _ _ _ _
 refine Hd.rw .here (fun i hi => ?_)
 have hrl := rows_n hi
 obtain ⟨j, hrow⟩ := row_at hi hx
 have hn : n < i.1.length := (List.getElem?_eq_some_iff.1 hrow).1
 have hk1 : 1 - k < 2 := by omega
 refine sr fun _ K1 => ?_
 refine yv y_mv <| yv y_np <| yv (y_f 0 129 Tryz.underlying133 sz129) <| yv (y_l1 ag129 rfl) <| yv y_mv <| yv y_mv <| yv (y_idxR Tryz.underlying129 sz221 rfl rfl (by omega) (by exact RdS.own pkk)) ?_; refine yv (y_fR 0 219 Tryz.underlying221 sz219) ?_; refine yv (y_idxAR Tryz.underlying219 sz218 rfl rfl (by omega)) ?_; refine yv (y_fR 5 4 Tryz.underlying218 sz4) ?_; refine yv (y_rc ag4 rfl hrow hk 5 rfl) ?_; refine yv (y_not rfl) <| fk [(0,_),(1,_),(2,_),(17,_)] K1 ?_; refine qz ?_ ?_ <;> intro hc0 <;> try simp only [hyZ] at hc0
 ·refine sr fun _ K2 => ?_
  refine yv y_mv <| yv y_np <| yv (y_f 0 129 Tryz.underlying133 sz129) <| yv (y_l1 ag129 rfl) <| yv y_mv <| yv y_mv <| yv (y_idxR Tryz.underlying129 sz221 rfl rfl (by omega) (by exact RdS.own pkk)) ?_; refine yv (y_fR 0 219 Tryz.underlying221 sz219) ?_; refine yv (y_idxAR Tryz.underlying219 sz218 rfl rfl (by omega)) ?_; refine yv (y_fR 5 4 Tryz.underlying218 sz4) ?_; refine Hd.storeO1 sz4 rfl rfl rfl pkk (by rw [rows_len encRW_len]; omega) ?_
  try simp only [hyS]
  refine Hd.nil ?_; rw [rset_shut hrow hk (by omega)]; refine Hd.heap (RwP b (w.setW n (x.up k fun e => { e with shut := true })) :: L) (fun q s => rw_head (x' := x.up k fun e => { e with shut := true }) hi hrow (fun j _ => up_b x k (f := fun e => { e with shut := true }) (fun _ => rfl) j) rfl q (Ent.sep enn q s)) ?_; refine sk [(0,_),(1,_),(2,_)] K2 ?_; refine Hd.region <| yv y_mv <| yv y_mv <| yv y_mv <| yv (y_to (v' := .int .i64 ((1 - k : Nat) : Int)) (y_subn rfl rfl (by simp only [InK]; omega)) (by (congr 1; omega))) ?_; refine callE rfl fk176 (rrise_ct _ b _ n _ (setW_self hx) (1 - k) hk1 true false) sq ?_; intro _; rw [setW_setW]; refine Hd.nil <| slots [] sbq ?_; rw [show shutW x k = (x.up k fun e => { e with shut := true }).up (1 - k) (riseE true false) from if_neg (by simpa using hc0)]; exact Hd.end0 rfl () rfl sq
 refine Hd.skip ?_; rw [show shutW x k = x from if_pos (by simpa using hc0), setW_same hx]; exact Hd.end0 rfl () rfl (rw_fold hi)
theorem rclose_ct (L : List SP) (b : Nat) (w : WA) (n : Nat) (x : WireA) (hx : w.ws[n]? = some x) (k : Nat) (hk : k < 2) : Ct Tryz.prog 123 #[.pointer (some ⟨b, 0, none⟩), .int .i64 (n : Int), .int .i64 (k : Int)] (RwP b w :: L) (fun _ : Unit => .tuple #[]) (fun _ : Unit => RwP b (w.setW n (closeW x k)) :: L) := by
 refine Ct.o3 Tryz.func123 ?_; intro E
 show Hd E 33 _ _ _ _
 refine Hd.rw .here (fun i hi => ?_)
 have hrl := rows_n hi
 obtain ⟨j, hrow⟩ := row_at hi hx
 have hn : n < i.1.length := (List.getElem?_eq_some_iff.1 hrow).1
 have hk1 : 1 - k < 2 := by omega
 refine sr fun _ K1 => ?_
 refine yv y_mv <| yv y_mv <| yv y_mv <| yv (y_to (v' := .int .i64 ((1 - k : Nat) : Int)) (y_subn rfl rfl (by simp only [InK]; omega)) (by (congr 1; omega))) ?_; refine yv y_mv <| yv y_np <| yv (y_f 0 129 Tryz.underlying133 sz129) <| yv (y_l1 ag129 rfl) <| yv y_mv <| yv y_mv <| yv (y_idxR Tryz.underlying129 sz221 rfl rfl (by omega) (by exact RdS.own pkk)) ?_; refine yv (y_fR 0 219 Tryz.underlying221 sz219) ?_; refine yv (y_idxAR Tryz.underlying219 sz218 rfl rfl (by omega)) ?_; refine yv (y_fR 5 4 Tryz.underlying218 sz4) ?_; refine yv (y_rc ag4 rfl hrow hk 5 rfl) ?_; refine yv (y_not rfl) <| Hd.heap (RwP b w :: L) (rw_fold hi) ?_; refine callE rfl fk176 (rrise_ct _ b w n x hx (1 - k) hk1 (!(x.e k).shut) true) sq ?_; intro _; refine fk [(0,_),(1,_),(2,_)] K1 ?_; refine Hd.rw .here (fun i' hi' => ?_)
 have hx1 : (w.setW n (x.up (1 - k) (riseE (!(x.e k).shut) true))).ws[n]? = some (x.up (1 - k) (riseE (!(x.e k).shut) true)) := setW_self hx
 have hrl' := rows_n hi'
 obtain ⟨j', hrow'⟩ := row_at hi' hx1
 have hn' : n < i'.1.length := (List.getElem?_eq_some_iff.1 hrow').1
 refine Hd.region <| yv y_mv <| yv y_np <| yv (y_f 0 129 Tryz.underlying133 sz129) <| yv (y_l1 ag129 rfl) <| yv y_mv <| yv y_mv <| yv (y_idxR Tryz.underlying129 sz221 rfl rfl (by omega) (by exact RdS.own pkk)) ?_; refine yv (y_fR 0 219 Tryz.underlying221 sz219) ?_; refine yv (y_idxAR Tryz.underlying219 sz218 rfl rfl (by omega)) ?_; refine yv (y_fR 0 3 Tryz.underlying218 sz3) ?_; refine Hd.storeO1 sz3 rfl rfl rfl pkk (by rw [rows_len encRW_len]; omega) ?_
 try simp only [hyS]
 refine Hd.nil <| slots [] sbq ?_; rw [rset_what hrow' hk (by omega)]
 have e : w.setW n (closeW x k) = (w.setW n (x.up (1 - k) (riseE (!(x.e k).shut) true))).setW n ((x.up (1 - k) (riseE (!(x.e k).shut) true)).up k fun e => { e with what := 3 }) := by rw [setW_setW]; rfl
 rw [e]; exact Hd.end0 rfl () rfl (fun q s => rw_head (x' := (x.up (1 - k) (riseE (!(x.e k).shut) true)).up k fun e => { e with what := 3 }) hi' hrow' (fun j _ => up_b _ k (f := fun e => { e with what := 3 }) (fun _ => rfl) j) rfl q (Ent.sep enn q s))
theorem router1_ct (L : List SP) (b : Nat) (w : WA) (n : Nat) (x : WireA) (hx : w.ws[n]? = some x) : Ct Tryz.prog 177 #[.pointer (some ⟨b, 0, none⟩), .int .i64 (n : Int)] (RwP b w :: L) (fun _ : Unit => .bool (decide ((x.e 1).what = 2))) (fun _ : Unit => RwP b w :: L) := by
 refine Ct.o2 Tryz.func177 ?_; intro E
 show Hd E 29 _ _ _ _
 refine Hd.rw .here (fun i hi => ?_)
 have hrl := rows_n hi
 obtain ⟨j, hrow⟩ := row_at hi hx
 have hn : n < i.1.length := (List.getElem?_eq_some_iff.1 hrow).1
 refine sr fun _ K1 => ?_
 refine yv y_as <| fk [(0,_),(1,_)] K1 ?_; refine sr fun _ K2 => ?_
 refine yv y_mv <| yv (y_geq rfl rfl) ?_; refine yv y_mv ?_; apply Hd.andg 8 7 15 [(0,_),(1,_)] rfl sbq
 ·intro hg1_7
  try simp only [hyZ] at hg1_7
  simp only [List.take]; refine y2 y_mv <| y2 y_mv <| y2 y_np <| y2 (y_f 0 129 Tryz.underlying133 sz129) <| y2 (y_l1 ag129 rfl) <| y2 (y_len Tryz.underlying129 rfl) ?_; refine y2 (y_lss rfl rfl) ?_; refine yv (y_pickT rfl rfl) ?_; exact Hd.mn
 ·intro hg1_7
  try simp only [hyZ] at hg1_7
  simp only [List.take]; refine n1 <| n1 <| n1 <| n1 <| n1 <| n1 <| n1 <| yv (y_pickF rfl rfl) ?_; exact Hd.mn
 simp only [List.drop]; refine yv y_mv ?_; apply Hd.andg (q := decide ((x.e 1).what = 2)) 12 16 28 [] rfl sbq
 ·intro hg1_16
  try simp only [hyZ] at hg1_16
  simp only [List.take]; refine y2 y_mv <| y2 y_np <| y2 (y_f 0 129 Tryz.underlying133 sz129) <| y2 (y_l1 ag129 rfl) <| y2 y_mv <| y2 (y_idxR Tryz.underlying129 sz221 rfl rfl (by omega) (by exact RdS.own pkk)) ?_; refine y2 (y_fR 0 219 Tryz.underlying221 sz219) ?_; refine y2 (y_idxAR Tryz.underlying219 sz218 rfl rfl (by decide)) ?_; refine y2 (y_f 0 3 Tryz.underlying218 sz3) <| y2 (y_rc (o := n * 20 + 0 + 1 * 8 + 0) ag3 rfl hrow (show 1 < 2 from Nat.lt_succ_self 1) 0 rfl) ?_; refine y2 (y_eql rfl rfl) ?_; refine yv (y_pickT rfl rfl) ?_; exact Hd.mn
 ·intro hg1_16
  try simp only [hyZ] at hg1_16
  simp only [List.take]; refine n1 <| n1 <| n1 <| n1 <| n1 <| n1 <| n1 <| n1 <| n1 <| n1 <| n1 <| yv (y_pickF rfl rfl) ?_; exact Hd.mn
 simp only [List.drop]; refine yv (y_to (v' := .bool (decide ((x.e 1).what = 2))) y_as (by (congr 1; simp; omega))) ?_; refine fk [(4,_)] K2 ?_; refine Hd.ret ?_; exact Hd.ret1 rfl () rfl (rw_fold hi)
theorem router0_ct (L : List SP) (b : Nat) (w : WA) (n : Int) (hn : n < 0 ∨ (w.ws.length : Int) ≤ n) : Ct Tryz.prog 177 #[.pointer (some ⟨b, 0, none⟩), .int .i64 n] (RwP b w :: L) (fun _ : Unit => .bool false) (fun _ : Unit => RwP b w :: L) := by
 refine Ct.o2 Tryz.func177 ?_; intro E
 show Hd E 29 _ _ _ _
 refine Hd.rw .here (fun i hi => ?_)
 have hrl := rows_n hi
 refine sr fun _ K1 => ?_
 refine yv y_as <| fk [(0,_),(1,_)] K1 ?_; refine sr fun _ K2 => ?_
 refine yv y_mv <| yv (y_geq rfl rfl) ?_; refine yv y_mv <| Hd.part (gd := 7) rfl (fun hg1_7 => ?_) (fun hg1_7 => ?_)
 ·try simp only [hyZ] at hg1_7
  refine y2 y_mv <| y2 y_mv <| y2 y_np <| y2 (y_f 0 129 Tryz.underlying133 sz129) <| y2 (y_l1 ag129 rfl) <| y2 (y_len Tryz.underlying129 rfl) ?_; refine y2 (y_lss rfl rfl) ?_; refine yv (y_pickT rfl rfl) ?_; refine yv y_mv <| Hd.part (gd := 16) rfl (fun hg1_16 => ?_) (fun hg1_16 => ?_)
  ·try simp only [hyZ] at hg1_16
   exfalso; omega
  try simp only [hyZ] at hg1_16
  refine n1 <| n1 <| n1 <| n1 <| n1 <| n1 <| n1 <| n1 <| n1 <| n1 <| n1 <| yv (y_pickF rfl rfl) ?_; refine yv y_as <| fk [(4,_)] K2 ?_; refine Hd.ret ?_; exact Hd.ret1 rfl () rfl (rw_fold hi)
 try simp only [hyZ] at hg1_7
 refine n1 <| n1 <| n1 <| n1 <| n1 <| n1 <| n1 <| yv (y_pickF rfl rfl) ?_; refine yv y_mv <| Hd.part (gd := 16) rfl (fun hg1_16 => ?_) (fun hg1_16 => ?_)
 ·try simp only [hyZ] at hg1_16
  exfalso; simp at hg1_16; done
 try simp only [hyZ] at hg1_16
 refine n1 <| n1 <| n1 <| n1 <| n1 <| n1 <| n1 <| n1 <| n1 <| n1 <| n1 <| yv (y_pickF rfl rfl) ?_; refine yv y_as <| fk [(4,_)] K2 ?_; refine Hd.ret ?_; exact Hd.ret1 rfl () rfl (rw_fold hi)
theorem router_ct (L : List SP) (b : Nat) (w : WA) (n : Int) :
  Ct Tryz.prog 177 #[.pointer (some ⟨b, 0, none⟩), .int .i64 n] (RwP b w :: L) (fun _ : Unit => .bool (outW w n).isSome) (fun _ => RwP b w :: L) := by
 by_cases h : n < 0 ∨ (w.ws.length : Int) ≤ n
 ·rw [outW_off h]
  exact router0_ct L b w n h
 ·obtain ⟨k, rfl⟩ : ∃ k : Nat, n = (k : Int) := ⟨n.toNat, by omega⟩
  have hx : w.ws[k]? = some w.ws[k] := List.getElem?_eq_getElem (by omega)
  have := router1_ct L b w k _ hx
  rw [outW_nat hx]
  by_cases h2 : (w.ws[k].e 1).what = 2
  ·rw [if_pos h2]; rw [decide_eq_true h2] at this; exact this
  ·rw [if_neg h2]; rw [decide_eq_false h2] at this; exact this
def RwI.upB (j : RwI) (k : Nat) (a : Option Addr) (c : Nat) : RwI := { j with a := fun q => if q = k then a else j.a q, c := fun q => if q = k then c else j.c q }
theorem upB_a (j : RwI) (k : Nat) (a : Option Addr) (c : Nat) : (j.upB k a c).a k = a ∧ (j.upB k a c).c k = c := ⟨if_pos rfl, if_pos rfl⟩
theorem upB_ne (j : RwI) {k q : Nat} (a : Option Addr) (c : Nat) (h : q ≠ k) : (j.upB k a c).a q = j.a q ∧ (j.upB k a c).c q = j.c q := ⟨if_neg h, if_neg h⟩
theorem rset_b {rs : List Row} {n k o m c : Nat} {x : WireA} {j : RwI} {l : List UInt8} {a : Option Addr} (h : rs[n]? = some (x, j)) (hk : k < 2) (ho : o = n * 20 + k * 8 + 4) (hl : l.length = m) : (rs.flatMap encRW).set o (.slice a m c) = (rs.set n (x.up k fun e => { e with b := l }, j.upB k a c)).flatMap encRW := by
 refine rset h hk (j := 4) (by decide) ho ?_ ?_ rfl
 ·rw [up_at, (upB_a j k a c).1, (upB_a j k a c).2, ← hl]; rfl
 ·rw [up_ne _ _ (by omega), (upB_ne j a c (by omega : 1 - k ≠ k)).1, (upB_ne j a c (by omega : 1 - k ≠ k)).2]
theorem sd_b {k c : Nat} {x : WireA} {j : RwI} {l : List UInt8} {a : Option Addr} {L : List SP} (hk : k < 2) : ∀ h, sep (own 5 1 a l.length c (bsl l) :: SdB (x, j) (1 - k) :: SdW (x, j) :: L) h → sep (Sd (x.up k fun e => { e with b := l }, j.upB k a c) :: L) h := fun h s => by
 refine sd_fold hk h ?_; unfold SdL SdB; dsimp only; rw [up_at, up_ne _ _ (by omega : 1 - k ≠ k), (upB_a j k a c).1, (upB_a j k a c).2, (upB_ne j a c (by omega : 1 - k ≠ k)).1, (upB_ne j a c (by omega : 1 - k ≠ k)).2]; exact s
theorem rget_ct (L : List SP) (b : Nat) (w : WA) (n : Nat) (x : WireA) (hx : w.ws[n]? = some x) (k : Nat) (hk : k < 2) (many : Int) (hm : 0 ≤ many) : Ct Tryz.prog 118 #[.pointer (some ⟨b, 0, none⟩), .int .i64 (n : Int), .int .i64 (k : Int), .int .i64 many] (RwP b w :: L) (fun q_ : Option Addr × Nat => .slice q_.1 ((x.e k).b.take many.toNat).length q_.2) (fun q_ : Option Addr × Nat => own 5 1 q_.1 ((x.e k).b.take many.toNat).length ((x.e k).b.take many.toNat).length (bsl ((x.e k).b.take many.toNat)) :: RwP b (w.setW n (takeW x k many.toNat)) :: L) := by
 refine Ct.o4 Tryz.func118 ?_; intro E
 show Hd E 50 _ _ _ _
 refine Hd.rw .here (fun i hi => ?_)
 have hrl := rows_n hi
 obtain ⟨j, hrow⟩ := row_at hi hx
 have hn : n < i.1.length := (List.getElem?_eq_some_iff.1 hrow).1
 have hk1 : 1 - k < 2 := by omega
 refine Hd.bagOut pkk hrow ?_; refine Hd.sd .here k hk ?_
 obtain ⟨bs, hbs⟩ : ∃ bs, bs = (x.e k).b := ⟨_, rfl⟩
 obtain ⟨kn, hkn⟩ : ∃ q, q = min many.toNat bs.length := ⟨_, rfl⟩
 have htk : bs.take many.toNat = bs.take kn := by
  rw [hkn]
  rcases Nat.le_total many.toNat bs.length with h | h
  ·rw [Nat.min_eq_left h]
  ·rw [Nat.min_eq_right h, List.take_length, List.take_of_length_le h]
 have hdk : bs.drop many.toNat = bs.drop kn := by
  rw [hkn]
  rcases Nat.le_total many.toNat bs.length with h | h
  ·rw [Nat.min_eq_left h]
  ·rw [Nat.min_eq_right h, List.drop_length, List.drop_of_length_le h]
 have hkl : kn ≤ bs.length := by omega
 have htl : (bs.take kn).length = kn := by rw [List.length_take]; omega
 refine Hd.ownCap (e := 5) (ad := j.a k) (m := (x.e k).b.length) (cap := j.c k) pkk (fun hcap => ?_); rw [← hbs] at hcap
 have hkc : kn ≤ j.c k := by omega
 have ex : takeW x k many.toNat = (x.up k fun e => { e with b := bs.drop kn }).up (1 - k) (riseE false (decide (0 < kn))) := by
  unfold takeW; rw [← hbs, htk, htl, show (x.up k fun e => { e with b := e.b.drop many.toNat }) = x.up k fun e => { e with b := bs.drop kn } from up_eq (by rw [← hbs, hdk])]
 rw [← hbs, htk, htl, ex]; refine sr fun _ K1 => ?_
 refine yv y_as <| fk [(0,_),(1,_),(2,_),(3,_)] K1 ?_; refine sr fun _ K2 => ?_
 refine yv y_mv <| yv y_np <| yv (y_f 0 129 Tryz.underlying133 sz129) <| yv (y_l1 ag129 rfl) <| yv y_mv <| yv y_mv <| yv (y_idxR Tryz.underlying129 sz221 rfl rfl (by omega) (by exact RdS.own pkk)) ?_; refine yv (y_fR 0 219 Tryz.underlying221 sz219) ?_; refine yv (y_idxAR Tryz.underlying219 sz218 rfl rfl (by omega)) ?_; refine yv (y_fR 4 31 Tryz.underlying218 sz31) ?_; refine yv (y_to (v' := .slice (j.a k) bs.length (j.c k)) (y_rc ag31 rfl hrow hk 4 rfl) (by (rw [hbs]))) ?_; refine yv y_as <| fk [(0,_),(1,_),(2,_),(3,_),(9,_)] K2 ?_; refine Hd.cutK (ι := Unit) [(0,_),(1,_),(2,_),(9,_)] (fun _ => [(3, .int .i64 (kn : Int))]) (fun _ => SdL (x, j) k (Bag Sd (i.1.take n) :: Bag Sd (i.1.drop (n + 1)) :: RwH b w i.1.length i.2.1 i.2.2 :: OwR i :: L)) ?_ ?_ ⟨rfl, rfl, rfl, rfl, trivial⟩
 ·refine sr fun _ K3 => ?_
  refine yv y_mv <| yv y_mv <| yv (y_len Tryz.underlying31 rfl) ?_; refine yv (y_gtr rfl rfl) ?_; refine fk [(0,_),(1,_),(2,_),(3,_),(9,_),(24,_)] K3 ?_; refine qz ?_ ?_ <;> intro hc0 <;> try simp only [hyZ] at hc0
  ·refine Hd.region ?_
   refine yv y_mv <| yv (y_len Tryz.underlying31 rfl) ?_; refine yv y_as <| Hd.nil <| slots [(0,_),(1,_),(2,_),(3,_),(9,_)] sbq ?_; refine thenN ?_; exact Hd.meet () ⟨congrArg (fun z => some (Value.int .i64 z)) (by omega), by repeat (first | exact trivial | refine ⟨rfl, ?_⟩)⟩ sq
  refine Hd.skip <| thenN ?_; exact Hd.meet () ⟨congrArg (fun z => some (Value.int .i64 z)) (by omega), by repeat (first | exact trivial | refine ⟨rfl, ?_⟩)⟩ sq
 intro _; refine Hd.seq fun _ K4 => ?_
 refine Hd.drawsH ([RwH b w i.1.length i.2.1 i.2.2, OwR i]) (fun j => !([13].contains j)) mixed ?_; simp only [List.length, Nat.zero_add, Nat.reduceAdd]; refine tH 0 rfl y_mv <| tH 1 rfl y_np <| tH 2 rfl (y_f 0 129 Tryz.underlying133 sz129) <| tH 3 rfl (y_l1 ag129 rfl) <| tH 4 rfl y_mv <| tH 5 rfl y_mv <| tH 6 rfl y_mv <| tH 7 rfl y_mv <| tH 8 rfl (y_slo_oxxN Tryz.underlying31 sz5 rfl rfl (by omega)) ?_; refine qo 9 ?_; refine yv (y_idxR Tryz.underlying129 sz221 rfl rfl (by omega) (by exact RdS.own pkk)) ?_; refine qk <| qo 10 ?_; refine yv (y_fR 0 219 Tryz.underlying221 sz219) ?_; refine qk <| qo 11 ?_; refine yv (y_idxAR Tryz.underlying219 sz218 rfl rfl (by omega)) ?_; refine qk <| tH 12 rfl (y_fR 4 31 Tryz.underlying218 sz31) ?_; refine qo 13 ?_; refine Hd.storeO1 sz31 rfl rfl rfl pkk (by rw [rows_len encRW_len]; omega) ?_
 try simp only [hyS]
 refine qn <| endH kq ?_; rw [rset_b (l := bs.drop kn) hrow hk (by omega) (by rw [List.length_drop])]; refine Hd.ownSplit (e := 5) (ad := j.a k) (m := (x.e k).b.length) (cap := j.c k) (us := bsl (x.e k).b) pkk kn (bsl (bs.take kn)) (bsl (bs.drop kn)) (by rw [← hbs]; exact hkl) (by rw [← hbs]; unfold bsl; rw [← List.map_append, List.take_append_drop]) (by unfold bsl; rw [List.length_map, htl, Nat.mul_one]) ?_; refine Hd.heap (RwP b (w.setW n (x.up k fun e => { e with b := bs.drop kn })) :: own 5 1 (j.a k) kn kn (bsl (bs.take kn)) :: L) (sep_trans (sep_trans (Ent.sep (.eq pkk (own_eq3 (by rw [List.length_drop, ← hbs]) rfl rfl) enn)) (sd_b (l := bs.drop kn) (a := cutA (j.a k) 1 kn (j.c k)) (c := j.c k - kn) hk)) (sep_trans sq (rw_put hi hn))) ?_; refine sk [(0,_),(1,_),(2,_),(3,_),(9,_)] K4 ?_; refine sr fun _ K5 => ?_
 refine yv y_mv <| yv y_mv <| yv y_mv <| yv (y_to (v' := .int .i64 ((1 - k : Nat) : Int)) (y_subn rfl rfl (by simp only [InK]; omega)) (by (congr 1; omega))) ?_; refine yv y_mv <| yv (y_to (v' := .bool (decide (0 < kn))) (y_gtr rfl rfl) (by (congr 1; simp only [decide_eq_decide]; omega))) ?_; refine callE rfl fk176 (rrise_ct _ b _ n _ (setW_self hx) (1 - k) hk1 false (decide (0 < kn))) sq ?_; intro _; rw [setW_setW]; refine fk [(3,_),(9,_)] K5 ?_; refine sr fun _ K6 => ?_
 refine yv y_mv <| yv y_mv <| yv (y_slo_xoxN Tryz.underlying31 sz5 rfl rfl (by omega)) ?_; refine yv y_as <| fk [(8,_)] K6 ?_; refine Hd.ret ?_; exact Hd.ret1 rfl (j.a k, j.c k) rfl sq
theorem rfill_ct (L : List SP) (b : Nat) (w : WA) (n : Nat) (x : WireA) (hx : w.ws[n]? = some x) (hwf : WfW x) (k : Nat) (hk : k < 2) (ad : Option Addr) (m c : Nat) (bs : List UInt8) (hm : bs.length = m) (hR : RdS L 1 ad m (bsl bs)) (hml : m ≤ 70368744177664) (hmc : m ≤ c) : Ct Tryz.prog 119 #[.pointer (some ⟨b, 0, none⟩), .int .i64 (n : Int), .int .i64 (k : Int), .slice ad m c] (RwP b w :: L) (fun _ : Unit => .int .i64 (putN x k bs : Nat)) (fun _ : Unit => RwP b (w.setW n (putW x k bs)) :: L) := by
 refine Ct.o4 Tryz.func119 ?_; intro E
 show Hd E 78 _ _ _ _
 refine Hd.rw .here (fun i hi => ?_)
 have hrl := rows_n hi
 obtain ⟨j, hrow⟩ := row_at hi hx
 have hn : n < i.1.length := (List.getElem?_eq_some_iff.1 hrow).1
 have hk1 : 1 - k < 2 := by omega
 have hle := hwf.le (1 - k) hk1
 have hcp := hwf.cap
 refine Hd.bagOut pkk hrow ?_; refine Hd.sd .here (1 - k) hk1 ?_
 obtain ⟨kn, hkn⟩ : ∃ q, q = putN x k bs := ⟨_, rfl⟩
 have hkn2 : kn = min m (x.cap - (x.e (1 - k)).b.length) := by rw [hkn, ← hm]; rfl
 have htl : (bs.take kn).length = kn := by rw [List.length_take, hm]; omega
 have hRk : RdS L 1 ad kn (bsl (bs.take kn)) := by
  have := RdS.head (l := kn) hR (by omega)
  rwa [Nat.mul_one, bsl_take] at this
 have ex : putW x k bs = (x.up (1 - k) fun e => { e with b := (x.e (1 - k)).b ++ bs.take kn }).up (1 - k) (riseE (decide (0 < kn)) false) := by
  unfold putW; rw [← hkn, show (x.up (1 - k) fun e => { e with b := e.b ++ bs.take kn }) = x.up (1 - k) fun e => { e with b := (x.e (1 - k)).b ++ bs.take kn } from up_eq rfl]
 rw [← hkn, ex]; refine sr fun _ K1 => ?_
 refine yv y_as <| fk [(0,_),(1,_),(2,_),(3,_)] K1 ?_; refine Hd.seq fun _ K2 => ?_
 refine Hd.quiet mixed kq ?_; refine Hq.yv y_mv ?_; refine Hq.yv y_np ?_; refine Hq.yv (y_f 0 129 Tryz.underlying133 sz129) ?_; refine Hq.yv (y_l1 ag129 rfl) ?_; refine Hq.yv y_mv ?_; refine Hq.yv (y_idxR Tryz.underlying129 sz221 rfl rfl (by omega) (by exact RdS.own pkk)) ?_; refine Hq.yv (y_fR 16 3 Tryz.underlying221 sz3) ?_; refine Hq.yv (y_to (v' := .int .i64 (x.cap : Int)) (y_rw ag3 rfl hrow 16 rfl) (by rfl)) ?_; refine Hq.yv y_mv ?_; refine Hq.yv y_np ?_; refine Hq.yv (y_f 0 129 Tryz.underlying133 sz129) ?_; refine Hq.yv (y_l1 ag129 rfl) ?_; refine Hq.yv y_mv ?_; refine Hq.yv y_mv ?_; refine Hq.yv (y_to (v' := .int .i64 ((1 - k : Nat) : Int)) (y_subn rfl rfl (by simp only [InK]; omega)) (by (congr 1; omega))) ?_; refine Hq.yv (y_idxR Tryz.underlying129 sz221 rfl rfl (by omega) (by exact RdS.own pkk)) ?_; refine Hq.yv (y_fR 0 219 Tryz.underlying221 sz219) ?_; refine Hq.yv (y_idxAR Tryz.underlying219 sz218 rfl rfl (by omega)) ?_
 refine Hq.yv (y_fR 4 31 Tryz.underlying218 sz31) ?_; refine Hq.yv (y_rc ag31 rfl hrow hk1 4 rfl) ?_; refine Hq.yv (y_len Tryz.underlying31 rfl) ?_; refine Hq.yv (y_to (v' := .int .i64 ((x.cap - (x.e (1 - k)).b.length : Nat) : Int)) (y_subn rfl rfl (by simp only [InK]; omega)) (by (congr 1; omega))) ?_; refine Hq.yv y_as ?_; refine Hq.nil ?_; refine sk [(0,_),(1,_),(2,_),(3,_),(9,_)] K2 ?_; refine sr fun _ K3 => ?_
 refine yv y_mv <| yv (y_len Tryz.underlying31 rfl) ?_; refine yv y_as <| fk [(0,_),(1,_),(2,_),(3,_),(9,_),(10,_)] K3 ?_; refine Hd.cutK (ι := Unit) [(0,_),(1,_),(2,_),(3,_)] (fun _ => [(10, .int .i64 (kn : Int))]) (fun _ => SdL (x, j) (1 - k) (Bag Sd (i.1.take n) :: Bag Sd (i.1.drop (n + 1)) :: RwH b w i.1.length i.2.1 i.2.2 :: OwR i :: L)) ?_ ?_ ⟨rfl, rfl, rfl, rfl, trivial⟩
 ·refine sr fun _ K4 => ?_
  refine yv y_mv <| yv y_mv <| yv (y_gtr rfl rfl) ?_; refine fk [(0,_),(1,_),(2,_),(3,_),(9,_),(10,_),(38,_)] K4 ?_; refine qz ?_ ?_ <;> intro hc0 <;> try simp only [hyZ] at hc0
  ·refine Hd.region ?_
   refine yv y_mv <| yv y_as <| Hd.nil <| slots [(0,_),(1,_),(2,_),(3,_),(10,_)] sbq ?_; refine thenN ?_; exact Hd.meet () ⟨congrArg (fun z => some (Value.int .i64 z)) (by omega), by repeat (first | exact trivial | refine ⟨rfl, ?_⟩)⟩ sq
  refine Hd.skip <| thenN ?_; exact Hd.meet () ⟨congrArg (fun z => some (Value.int .i64 z)) (by omega), by repeat (first | exact trivial | refine ⟨rfl, ?_⟩)⟩ sq
 intro _; refine sr fun _ K5 => ?_
 refine yv y_as <| fk [(0,_),(1,_),(2,_),(3,_),(10,_),(11,_)] K5 ?_; refine Hd.seq fun _ K6 => ?_
 refine Hd.ownNil 5 1 none ?_; refine Hd.region <| yv y_mv <| yv y_mv <| yv y_np <| yv (y_f 0 129 Tryz.underlying133 sz129) <| yv (y_l1 ag129 rfl) <| yv y_mv <| yv y_mv <| yv (y_to (v' := .int .i64 ((1 - k : Nat) : Int)) (y_subn rfl rfl (by simp only [InK]; omega)) (by (congr 1; omega))) ?_; refine yv (y_idxR Tryz.underlying129 sz221 rfl rfl (by omega) (by exact RdS.own pkk)) ?_; refine yv (y_fR 0 219 Tryz.underlying221 sz219) ?_; refine yv (y_idxAR Tryz.underlying219 sz218 rfl rfl (by omega)) ?_; refine yv (y_fR 4 31 Tryz.underlying218 sz31) ?_; refine yv (y_rc ag31 rfl hrow hk1 4 rfl) ?_; refine Hd.append Tryz.underlying31 ty5 rfl rfl rfl pkk (by first | exact RdS.rd (Rd.pt pkk (fun j v e => by simpa using e)) rfl | (exact RdS.own pkk)) (by simp [Value.oneCell']; done) (by simp only [maxLen]; omega) (by omega) (fun ad53 cap53 => ?_)
 refine yv y_as <| fk [(0,_),(1,_),(2,_),(3,_),(10,_),(11,_)] K6 ?_; refine Hd.seq fun _ K7 => ?_
 refine Hd.drawsH ([RwH b w i.1.length i.2.1 i.2.2, OwR i]) (fun j => !([16].contains j)) mixed ?_; simp only [List.length, Nat.zero_add, Nat.reduceAdd]; refine tH 0 rfl y_mv <| tH 1 rfl y_np <| tH 2 rfl (y_f 0 129 Tryz.underlying133 sz129) <| tH 3 rfl (y_l1 ag129 rfl) <| tH 4 rfl y_mv <| tH 5 rfl y_mv <| tH 6 rfl (y_to (v' := .int .i64 ((1 - k : Nat) : Int)) (y_subn rfl rfl (by simp only [InK]; omega)) (by (congr 1; omega))) ?_; refine tH 7 rfl y_mv <| tH 8 rfl y_mv <| tH 9 rfl y_mv <| tH 10 rfl (y_slo_xoxN Tryz.underlying31 sz5 rfl rfl (by omega)) ?_; refine Hd.eitherH 11 12 rfl rfl kq ?_ ?_
 ·refine Hd.append Tryz.underlying31 ty5 rfl rfl rfl pkk (by exact RdS.mono hRk sq) (by exact B_one) (by simp only [maxLen]; omega) (by omega) (fun ad65 cap65 => ?_)
  refine qk <| qo 12 ?_; refine yv (y_idxR Tryz.underlying129 sz221 rfl rfl (by omega) (by exact RdS.own pkk)) ?_; refine qk <| qo 13 ?_; refine yv (y_fR 0 219 Tryz.underlying221 sz219) ?_; refine qk <| qo 14 ?_; refine yv (y_idxAR Tryz.underlying219 sz218 rfl rfl (by omega)) ?_; refine qk <| tH 15 rfl (y_fR 4 31 Tryz.underlying218 sz31) ?_; refine qo 16 ?_; refine Hd.storeO1 sz31 rfl rfl rfl pkk (by rw [rows_len encRW_len]; omega) ?_
  try simp only [hyS]
  refine qn <| endH kq ?_; rw [rset_b (l := (x.e (1 - k)).b ++ bs.take kn) hrow hk1 (by omega) (by rw [List.length_append, htl])]; refine Hd.heap (RwP b (w.setW n (x.up (1 - k) fun e => { e with b := (x.e (1 - k)).b ++ bs.take kn })) :: L) (sep_trans (sep_trans (Ent.sep (.eq pkk (own_eq3 (by rw [List.length_append, htl]) rfl (by unfold bsl; simp)) (.pick pkk (.pick pkk .same)))) (sd_b (l := (x.e (1 - k)).b ++ bs.take kn) (a := ad65) (c := cap65) hk1)) (sep_trans sq (rw_put hi hn))) ?_; refine sk [(0,_),(1,_),(2,_),(10,_)] K7 ?_; refine sr fun _ K8 => ?_
  refine yv y_mv <| yv y_mv <| yv y_mv <| yv (y_to (v' := .int .i64 ((1 - k : Nat) : Int)) (y_subn rfl rfl (by simp only [InK]; omega)) (by (congr 1; omega))) ?_; refine yv y_mv <| yv (y_to (v' := .bool (decide (0 < kn))) (y_gtr rfl rfl) (by (congr 1; simp only [decide_eq_decide]; omega))) ?_; refine callE rfl fk176 (rrise_ct _ b _ n _ (setW_self hx) (1 - k) hk1 (decide (0 < kn)) false) sq ?_; intro _; rw [setW_setW]; refine fk [(10,_)] K8 ?_; refine sr fun _ K9 => ?_
  refine yv y_mv <| yv y_as <| fk [(8,_)] K9 ?_; refine Hd.ret ?_; exact Hd.ret1 rfl () rfl sq
 refine yv (y_idxR Tryz.underlying129 sz221 rfl rfl (by omega) (by exact RdS.own pkk)) ?_; refine qk <| Hd.eitherH 11 13 rfl rfl kq ?_ ?_
 ·refine Hd.append Tryz.underlying31 ty5 rfl rfl rfl pkk (by exact RdS.mono hRk sq) (by exact B_one) (by simp only [maxLen]; omega) (by omega) (fun ad65 cap65 => ?_)
  refine qk <| qo 13 ?_; refine yv (y_fR 0 219 Tryz.underlying221 sz219) ?_; refine qk <| qo 14 ?_; refine yv (y_idxAR Tryz.underlying219 sz218 rfl rfl (by omega)) ?_; refine qk <| tH 15 rfl (y_fR 4 31 Tryz.underlying218 sz31) ?_; refine qo 16 ?_; refine Hd.storeO1 sz31 rfl rfl rfl pkk (by rw [rows_len encRW_len]; omega) ?_
  try simp only [hyS]
  refine qn <| endH kq ?_; rw [rset_b (l := (x.e (1 - k)).b ++ bs.take kn) hrow hk1 (by omega) (by rw [List.length_append, htl])]; refine Hd.heap (RwP b (w.setW n (x.up (1 - k) fun e => { e with b := (x.e (1 - k)).b ++ bs.take kn })) :: L) (sep_trans (sep_trans (Ent.sep (.eq pkk (own_eq3 (by rw [List.length_append, htl]) rfl (by unfold bsl; simp)) (.pick pkk (.pick pkk .same)))) (sd_b (l := (x.e (1 - k)).b ++ bs.take kn) (a := ad65) (c := cap65) hk1)) (sep_trans sq (rw_put hi hn))) ?_; refine sk [(0,_),(1,_),(2,_),(10,_)] K7 ?_; refine sr fun _ K10 => ?_
  refine yv y_mv <| yv y_mv <| yv y_mv <| yv (y_to (v' := .int .i64 ((1 - k : Nat) : Int)) (y_subn rfl rfl (by simp only [InK]; omega)) (by (congr 1; omega))) ?_; refine yv y_mv <| yv (y_to (v' := .bool (decide (0 < kn))) (y_gtr rfl rfl) (by (congr 1; simp only [decide_eq_decide]; omega))) ?_; refine callE rfl fk176 (rrise_ct _ b _ n _ (setW_self hx) (1 - k) hk1 (decide (0 < kn)) false) sq ?_; intro _; rw [setW_setW]; refine fk [(10,_)] K10 ?_; refine sr fun _ K11 => ?_
  refine yv y_mv <| yv y_as <| fk [(8,_)] K11 ?_; refine Hd.ret ?_; exact Hd.ret1 rfl () rfl sq
 refine yv (y_fR 0 219 Tryz.underlying221 sz219) ?_; refine qk <| qo 11 ?_; refine Hd.append Tryz.underlying31 ty5 rfl rfl rfl pkk (by exact RdS.mono hRk sq) (by exact B_one) (by simp only [maxLen]; omega) (by omega) (fun ad65 cap65 => ?_); refine qk <| qo 14 ?_; refine yv (y_idxAR Tryz.underlying219 sz218 rfl rfl (by omega)) ?_; refine qk <| tH 15 rfl (y_fR 4 31 Tryz.underlying218 sz31) ?_; refine qo 16 ?_; refine Hd.storeO1 sz31 rfl rfl rfl pkk (by rw [rows_len encRW_len]; omega) ?_
 try simp only [hyS]
 refine qn <| endH kq ?_; rw [rset_b (l := (x.e (1 - k)).b ++ bs.take kn) hrow hk1 (by omega) (by rw [List.length_append, htl])]; refine Hd.heap (RwP b (w.setW n (x.up (1 - k) fun e => { e with b := (x.e (1 - k)).b ++ bs.take kn })) :: L) (sep_trans (sep_trans (Ent.sep (.eq pkk (own_eq3 (by rw [List.length_append, htl]) rfl (by unfold bsl; simp)) (.pick pkk (.pick pkk .same)))) (sd_b (l := (x.e (1 - k)).b ++ bs.take kn) (a := ad65) (c := cap65) hk1)) (sep_trans sq (rw_put hi hn))) ?_; refine sk [(0,_),(1,_),(2,_),(10,_)] K7 ?_; refine sr fun _ K12 => ?_
 refine yv y_mv <| yv y_mv <| yv y_mv <| yv (y_to (v' := .int .i64 ((1 - k : Nat) : Int)) (y_subn rfl rfl (by simp only [InK]; omega)) (by (congr 1; omega))) ?_; refine yv y_mv <| yv (y_to (v' := .bool (decide (0 < kn))) (y_gtr rfl rfl) (by (congr 1; simp only [decide_eq_decide]; omega))) ?_; refine callE rfl fk176 (rrise_ct _ b _ n _ (setW_self hx) (1 - k) hk1 (decide (0 < kn)) false) sq ?_; intro _; rw [setW_setW]; refine fk [(10,_)] K12 ?_; refine sr fun _ K13 => ?_
 refine yv y_mv <| yv y_as <| fk [(8,_)] K13 ?_; refine Hd.ret ?_; exact Hd.ret1 rfl () rfl sq
end Rf
end Go.Proofs.YtbfddabjbkohdaaGreat
namespace Go.Proofs.YtbfddabjbkohdaaGreat
open Go.RX Fx
namespace Wo
def wireN : Option (Nat × Nat) → Int
 | none => 0
 | some (n, _) => (n : Int)
theorem plc1 (o : Option (Nat × Nat)) : (plc o)[1]? = some (.int .i64 (wireN o)) := by
 cases o with
 | none => rfl
 | some p => obtain ⟨n, k⟩ := p; rfl
theorem wwire_ct (L : List SP) (wb : Nat) (w : WA) (fd : Int) : Ct Tryz.prog 71 #[.pointer (some ⟨wb, 0, none⟩), .int .i64 fd] (WorldP wb w :: L) (fun _ : Unit => .tuple #[.int .i64 (wireN (w.at fd)), .int .i64 (fdErr (w.at fd))]) (fun _ : Unit => WorldP wb w :: L) := by
 refine Ct.o2 Tryz.func71 ?_; intro E
 show Hd E 19 _ _ _ _
 refine Hd.world .here (fun i hw hrs => ?_); refine sr fun _ K1 => ?_
 refine yv y_as <| yv y_as <| fk [(0,_),(1,_)] K1 ?_; refine sr fun _ K2 => ?_
 refine yv y_mv <| yv y_mv <| callE rfl fk101 (find_ct _ wb w i hw hrs fd) sq ?_; intro _; refine yv y_mv <| yv y_ex <| yv y_ex <| yv y_ex <| Hd.alloc zr190 (fun b6 => ?_); refine Hd.storeA (us := plc (w.at fd)) (by rw [plc_len]; exact sz190) rfl rfl rfl (plc_one _) pkk (by rw [plc_len]; rfl) ?_; refine yv y_as <| yv y_as <| fk [(6,_),(8,_)] K2 ?_; refine sr fun _ K3 => ?_
 refine yv (y_f 1 3 Tryz.underlying190 sz3) <| yv (y_load1 ag3 rfl (Rd.pt1 pkk (by exact plc1 _))) ?_; refine yv y_mv <| yv y_as <| yv y_as <| fk [(4,_),(5,_)] K3 ?_; refine Hd.ret ?_; exact Hd.ret2 rfl () rfl rfl rfl (Ent.sep (.ex i (.pure ⟨hw, hrs⟩ enn)))
end Wo
end Go.Proofs.YtbfddabjbkohdaaGreat
