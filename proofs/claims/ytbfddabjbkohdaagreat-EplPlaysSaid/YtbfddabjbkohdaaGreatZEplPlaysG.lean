/-
  Worlds: Accept. The document's world: at, rise, shut, close, outer. The document's world: get, fill, free. The document's world: Shut, PeerShut, PeerClose, Wire, Put, Take. The document's world: Read, Write. Worlds: Pass, Reset, Close. The document's world: Pass, Reset. Loops, and ways that meet, in which ranges over functions stand: each leaves a mark; the marks are kept beside. No program is named here. Signals: which are pending; Handle, Raise, Take.
-/
import Derived.Test.YtbfddabjbkohdaaGreatZEplPlaysF
set_option linter.unusedSimpArgs false
set_option linter.unusedVariables false
set_option linter.unnecessarySimpa false
namespace Go.Proofs.YtbfddabjbkohdaaGreat
set_option maxHeartbeats 2000000
open Go.RX.Hd (yv y2 n1 fk sk sr tH callE heldK onlyH endH thenN slots)
open Go.RX Fx
namespace Wo
set_option maxRecDepth 8000
theorem free_itR (wb bx : Nat) (t : Int → Option (Nat × Nat)) : RX.ItR Tryz.prog 174 [.pointer (some ⟨bx, 0, none⟩)] encF (fun ys => ys = frees t) (fun ys => ys <+: frees t) wb 0 (fdC t)
  [pt bx [.pointer (some ⟨wb, 0, none⟩)] 38] [pt bx [.pointer (some ⟨wb, 0, none⟩)] 38] := by
 intro l J X hy hRd; refine Ct.of (vs := [.func (.yield l) #[] #[], .pointer (some ⟨bx, 0, none⟩)]) Tryz.func174 rfl rfl [(0, .func (.yield l) #[] #[]), (1, .pointer (some ⟨bx, 0, none⟩))] ⟨rfl, rfl, trivial⟩ ?_; intro E
 show Hd E 23 _ _ _ _
 refine Hd.heap (pt bx [.pointer (some ⟨wb, 0, none⟩)] 38 :: J []) (fun k h => by have := sep_app h; exact this) ?_; refine sr fun _ hK1 => ?_
 refine yv (y_l1 ag38 rfl) ?_; refine yv y_np <| yv (y_f 0 207 Tryz.underlying210 sz207) ?_; refine yv (y_loadn (us := fdC t) ag207 rfl (hRd.mono (fun k s => by obtain ⟨_, _, _, _, b, _, y⟩ := s; exact y.up b)) (by rw [fdC_len]; exact sz207)) ?_; refine yv y_mv <| fk [(0, _), (8, _), (9, _)] hK1 ?_; refine Hd.block <| Hd.loopK (ι := Nat) [(0, _), (8, _)] (fun i => [(9, .int .i64 (i : Int))]) (fun i => pu (i ≤ 96) :: pt bx [.pointer (some ⟨wb, 0, none⟩)] 38 :: J ((List.range i).filter fun fd : Nat => (t (fd : Int)).isNone)) (fun i => 96 - i) 0 sbq sbq (Ent.sep (.pure (by omega) enn)) ?_; intro i
 try dsimp only
 refine Hd.pure (fun hp0 => ?_)
 try dsimp only at hp0
 refine sr fun _ hK2 => ?_
 refine yv (y_lss rfl rfl) ?_; refine fk [(0, _), (8, _), (9, _), (10, _)] hK2 ?_; refine Hd.seq fun _ hK3 => ?_
 refine Hd.cond rfl (fun hc0 => ?_) (fun hc0 => ?_)
 ·try simp only [hyZ] at hc0
  have hi : i < 96 := by omega
  have hsf := range_succ_filter (fun fd : Nat => (t (fd : Int)).isNone) i
  refine Hd.skip <| Hd.toK hK3 ?_; refine Hd.seq fun _ hK4 => ?_
  refine Hd.block <| sr fun _ hK5 => ?_
  refine yv y_mv <| yv (y_indexn (us := plc (t (i : Int))) Tryz.underlying207 ag190 sz190 rfl rfl hi (fdC_drop hi)) ?_; refine Hd.alloc zr190 (fun b4 => ?_); refine yv y_as <| Hd.storeA (us := plc (t (i : Int))) (by rw [plc_len]; exact sz190) rfl rfl rfl (plc_one _) pkk (by rw [plc_len]; rfl) ?_; refine fk [(0, _), (3, _), (4, _), (8, _), (9, _)] hK5 ?_; refine sr fun _ hK6 => ?_
  refine yv (y_f 0 4 Tryz.underlying190 sz4) ?_; refine yv (y_load1 ag4 rfl (Rd.pt1 pkk (by exact plc0 _))) ?_; refine yv (y_not rfl) ?_; refine yv y_mv <| Hd.part (gd := 16) rfl (fun hg3_16 => ?_) (fun hg3_16 => ?_)
  ·try simp only [hyZ] at hg3_16
   have hfr : (t (i : Int)).isNone = true := by cases h : t (i : Int) <;> simp [h] at hg3_16 ⊢
   rw [if_pos hfr] at hsf
   have hpr : ((List.range i).filter fun fd : Nat => (t (fd : Int)).isNone) ++ [i] <+: frees t := by rw [← hsf]; exact range_prefix _ hi
   refine y2 y_mv <| y2 y_mv <| Hd.unguard rfl rfl ?_; refine Hd.yield (pre := (List.range i).filter fun fd : Nat => (t (fd : Int)).isNone) (c := i) (M := [pt bx [.pointer (some ⟨wb, 0, none⟩)] 38]) hy rfl rfl hpr (fun k' h => sep_app (show sep ([pt bx [.pointer (some ⟨wb, 0, none⟩)] 38] ++ J ((List.range i).filter fun fd : Nat => (t (fd : Int)).isNone)) k' from Ent.sep (show Ent _ (pt bx [.pointer (some ⟨wb, 0, none⟩)] 38 :: J ((List.range i).filter fun fd : Nat => (t (fd : Int)).isNone)) from enn) k' h)) ?_; intro yb; refine y2 (y_not rfl) ?_; refine yv (y_pickT rfl rfl) ?_; refine fk [(0, _), (8, _), (9, _), (21, _)] hK6 ?_; refine Hd.cond rfl (fun hc1 => ?_) (fun hc1 => ?_)
   ·try simp only [hyZ] at hc1
    subst hc1; simp only [cond_false]; refine Hd.ret <| Hd.inBret <| Hd.thenRet <| Hd.thenRet <| Hd.inBret ?_; exact Hd.ret0 rfl (((List.range i).filter fun fd : Nat => (t (fd : Int)).isNone) ++ [i], false) rfl (fun k' h => Ent.sep (.pure hpr .same) k' h)
   ·try simp only [hyZ] at hc1
    subst hc1; simp only [cond_true]; refine Hd.heap (pt bx [.pointer (some ⟨wb, 0, none⟩)] 38 :: J (((List.range i).filter fun fd : Nat => (t (fd : Int)).isNone) ++ [i])) (fun k' h => sep_app h) ?_; rw [← hsf]; refine Hd.skip <| Hd.inB <| Hd.toK hK4 ?_; refine Hd.region <| yv (y_addn rfl rfl (by simp only [InK]; omega)) ?_; refine yv y_mv <| Hd.nil <| slots [(0, _), (8, _), (9, _)] sbq ?_; refine thenN ?_; exact Hd.again (i + 1) (by omega) sbq (Ent.sep (.pure (by omega) enn))
  ·try simp only [hyZ] at hg3_16
   have hfr : (t (i : Int)).isNone = false := by cases h : t (i : Int) <;> simp [h] at hg3_16 ⊢
   rw [if_neg (by rw [hfr]; simp)] at hsf; refine n1 <| n1 <| n1 <| n1 <| yv (y_pickF rfl rfl) ?_; refine fk [(0, _), (8, _), (9, _), (21, _)] hK6 ?_; refine Hd.condF rfl ?_; refine Hd.skip <| Hd.inB <| Hd.toK hK4 ?_; refine Hd.region <| yv (y_addn rfl rfl (by simp only [InK]; omega)) ?_; refine yv y_mv <| Hd.nil <| slots [(0, _), (8, _), (9, _)] sbq ?_; refine thenN ?_; rw [← hsf]; exact Hd.again (i + 1) (by omega) sbq (Ent.sep (.pure (by omega) enn))
 ·try simp only [hyZ] at hc0
  refine Hd.exit <| Hd.thenExit <| Hd.thenExit <| Hd.inBexit ?_
  obtain rfl : i = 96 := by omega
  exact Hd.end0 rfl (frees t, true) rfl (fun k' h => Ent.sep (.pure rfl .same) k' (sep_app (M := [pt bx [.pointer (some ⟨wb, 0, none⟩)] 38]) (N := J (frees t)) (Ent.sep enn k' h)))
theorem acc_yes {w : WA} (h : WOk w) {fd : Int} {m k a f : Nat} {x : WireA} {t fs : List Nat} (hm : w.at fd = some (m, k)) (hx : w.ws[m]? = some x) (hbl : x.bl ≠ 0) (hwt : x.wt = a :: t) (hfs : frees w.at = f :: fs) :
  ∃ y, (w.setW m (x.wts t)).ws[a]? = some y ∧ accR w fd = (((f : Int), (a : Int), 0), (w.setW m (x.wts t)).setW a (giveW y f)) ∧ WOk ((w.setW m (x.wts t)).setW a (giveW y f)) ∧ ((w.setW m (x.wts t)).setW a (giveW y f)).at = setT w.at (f : Int) (some (a, 0)) := by
 have hwf := h.wf x (List.mem_of_getElem? hx)
 have hs : SbW x (x.wts t) := sbW_wts hwf (by rw [hwt]; exact List.sublist_cons_self _ _)
 have hsub := flatMap_set_sub (f := WireA.wt) (x' := x.wts t) hx hs.wt
 have hm0 : m ∈ (w.setW m (x.wts t)).ws.flatMap WireA.wt → ((x.wts t).e 0).what = 0 := fun e => by
  obtain ⟨z, hz, hz0⟩ := h.wm m (hsub.subset e)
  rw [hx] at hz; obtain rfl := Option.some.inj hz; exact hz0
 have hat := h.setS_at hx hs hm0 (fun _ _ e => e)
 have hok := h.setS hx hs hm0
 obtain ⟨y0, hy0, hy00⟩ := h.wm a (List.mem_flatMap.2 ⟨x, List.mem_of_getElem? hx, by rw [hwt]; exact List.mem_cons_self⟩)
 have ham : a ≠ m := fun e => h.ns m x hx (by rw [hwt, ← e]; exact List.mem_cons_self)
 have hy : (w.setW m (x.wts t)).ws[a]? = some y0 := by rw [setW_ne ham]; exact hy0
 have hR : accR w fd = (((f : Int), (a : Int), 0), (w.setW m (x.wts t)).setW a (giveW y0 f)) := by
  unfold accR; rw [hm]; dsimp only; rw [hx]; dsimp only; rw [if_neg hbl, hwt]; dsimp only; rw [hfs]; dsimp only; rw [hy]
 have hamw : a ∉ (w.setW m (x.wts t)).ws.flatMap WireA.wt := by
  have hp2 := flatMap_set_app (f := WireA.wt) (bs := [a] ++ t) (l := (w.setW m (x.wts [])).ws) (n := m) (x := x.wts []) (x' := x) (setW_self hx) (by rw [hwt]; rfl)
  have hp3 := flatMap_set_app (f := WireA.wt) (bs := t) (l := (w.setW m (x.wts [])).ws) (n := m) (x := x.wts []) (x' := x.wts t) (setW_self hx) rfl
  have e1 : (w.setW m (x.wts [])).ws.set m x = w.ws := by
   show (w.ws.set m _).set m x = w.ws
   rw [List.set_set]
   obtain ⟨hl, e⟩ := List.getElem?_eq_some_iff.1 hx
   rw [← e, List.set_getElem_self]
  have e2 : (w.setW m (x.wts [])).ws.set m (x.wts t) = (w.setW m (x.wts t)).ws := by
   show (w.ws.set m _).set m _ = w.ws.set m _
   rw [List.set_set]
  rw [e1] at hp2; rw [e2] at hp3
  have hn := hp2.nodup_iff.1 h.wn
  intro hm
  have := hp3.mem_iff.1 hm
  rw [List.append_assoc] at hn; exact (List.nodup_cons.1 hn).1 this
 have hff := frees_mem.1 (show f ∈ frees w.at by rw [hfs]; exact List.mem_cons_self)
 have hg := hok.give (f := f) hy (by rw [hy00]; decide) hamw hff.1 (by rw [hat]; exact hff.2)
 exact ⟨y0, hy, hR, hg.1, by rw [hg.2, hat]⟩
theorem sep_trans {A B C : List SP} (f : ∀ q, sep A q → sep B q) (g : ∀ q, sep B q → sep C q) : ∀ q, sep A q → sep C q := fun q s => g q (f q s)
theorem wire_wts {b k : Nat} {x : WireA} {i : WI} {t : List Nat} {wa : Option Addr} {wc : Nat} {L : List SP} (hi : WIOk x i) (hk : k < 2) : ∀ h, sep (pt b (encW (x.wts t) { i with wa := wa, wc := wc }) 199 :: RgO (i.p k) x.cap (x.e k).b :: RgO (i.p (1 - k)) x.cap (x.e (1 - k)).b :: own 3 1 wa t.length wc (nats t) :: L) h → sep (WireP b (x.wts t) :: L) h := fun h s =>
 wire_fold (x := x.wts t) (i := { i with wa := wa, wc := wc }) (k := k) ⟨hi.rd⟩ hk h s
theorem wire_give {b f : Nat} {y : WireA} {i : WI} {L : List SP} (hi : WIOk y i) : ∀ h, sep (pt b (encW (giveW y f) i) 199 :: RgO (i.p 0) y.cap (y.e 0).b :: RgO (i.p (1 - 0)) y.cap (y.e (1 - 0)).b :: own 3 1 i.wa y.wt.length i.wc (nats y.wt) :: L) h → sep (WireP b (giveW y f) :: L) h := fun h s =>
 wire_fold (x := giveW y f) (i := i) (k := 0) ⟨fun j hj => by
  rcases (show j = 0 ∨ j = 1 by omega) with rfl | rfl
  ·rw [give0]; exact hi.rd 0 hj
  ·rw [give1]; exact hi.rd 1 hj⟩ (by omega) h s
theorem set_fst {rs : List (Nat × WireA)} {n b : Nat} {x x' : WireA} (h : rs[n]? = some (b, x)) : (rs.set n (b, x')).map Prod.fst = rs.map Prod.fst := by
 rw [List.map_set]; apply List.ext_getElem?; intro j
 by_cases e : n = j
 ·subst e
  rw [List.getElem?_set_self (by rw [List.length_map]; exact (List.getElem?_eq_some_iff.1 h).1), List.getElem?_map, h]; rfl
 ·rw [List.getElem?_set_ne e]
abbrev AcH (b2 b4 b5 b6 b7 b8 wb b m k : Nat) (w : WA) (i : WoI) (x : WireA) (L : List SP) : List SP := WireP b x :: pt b2 [.pointer (some ⟨wb, 0, none⟩)] 38 :: pt b4 [.int .i64 0] 3 :: pt b5 [.int .i64 0] 3 :: pt b6 [.int .i64 (fdErr (some (m, k)))] 35 :: pt b7 (plc (some (m, k))) 190 :: pt b8 [ptr (some b)] 191 :: WoR wb m w i L
theorem waccept_ct (L : List SP) (wb : Nat) (w : WA) (fd : Int) : Ct Tryz.prog 59 #[.pointer (some ⟨wb, 0, none⟩), .int .i64 fd] (WorldP wb w :: L) (fun _ : Unit => .tuple #[.int .i64 (accR w fd).1.1, .int .i64 (accR w fd).1.2.1, .int .i64 (accR w fd).1.2.2]) (fun _ : Unit => WorldP wb (accR w fd).2 :: L) := by
 refine Ct.o2M Tryz.func59 ?_; intro E
 show Hd E 79 _ _ _ _
 refine Hd.world .here (fun i hw hrs => ?_); refine sr fun _ hK1 => ?_
 refine Hd.box rfl rfl (fun b2 => ?_); refine Hd.alloc zr3 (fun b4 => ?_); refine Hd.alloc zr3 (fun b5 => ?_); refine Hd.alloc zr35 (fun b6 => ?_); refine fk [(1, _), (2, _), (4, _), (5, _), (6, _)] hK1 ?_; refine sr fun _ hK2 => ?_
 refine yv (y_l1 ag38 rfl) ?_; refine yv y_mv <| callE rfl fk101 (find_ct _ wb w i hw hrs fd) sq ?_; intro _; refine yv y_mv <| yv (y_to (v' := .agg (plc (w.at fd)).toArray) y_ex (by rfl)) ?_; refine yv (y_to (v' := ptr (wfb i (w.at fd))) y_ex (by rfl)) ?_; refine yv (y_to (v' := .int .i64 (fdErr (w.at fd))) y_ex (by rfl)) ?_; refine Hd.alloc zr190 (fun b7 => ?_); refine Hd.alloc zr191 (fun b8 => ?_); refine Hd.storeA (us := plc (w.at fd)) (by rw [plc_len]; exact sz190) rfl rfl rfl (plc_one _) pkk (by rw [plc_len]; rfl) ?_; refine Hd.store1 sz191 rfl rfl rfl pkk (by decide) ?_
 try simp only [hyS]
 refine Hd.store1 sz35 rfl rfl rfl pkk (by decide) ?_
 try simp only [hyS]
 refine fk [(2, _), (4, _), (5, _), (6, _), (8, _)] hK2 ?_; refine Hd.seq fun _ hK3 => ?_
 refine Hd.block <| sr fun _ hK4 => ?_
 refine yv (y_l1 ag35 rfl) ?_; refine yv (y_neq rfl rfl) ?_; refine yv y_as <| fk [(2, _), (4, _), (5, _), (6, _), (8, _), (18, _)] hK4 ?_; refine Hd.cond rfl (fun hc0 => ?_) (fun hc0 => ?_)
 ·try simp only [hyZ] at hc0
  have hno : w.at fd = none := by
   cases h : w.at fd with
   | none => rfl
   | some p => rw [h] at hc0; exact absurd rfl hc0
  refine Hd.seq fun _ hK5 => ?_
  refine Hd.drawsH ([pt b6 [.int .i64 (fdErr (w.at fd))] 35]) (fun j => !([3].contains j)) mixed ?_; simp only [List.length, Nat.zero_add, Nat.reduceAdd]; refine tH 0 rfl (y_l1 ag35 rfl) ?_; refine onlyH 1 rfl kq ?_; refine Hd.store1 sz3 rfl rfl rfl pkk (by decide) ?_
  try simp only [hyS]
  refine Hd.nil <| thenN <| heldK (J := (fun j => !([3].contains j))) (i := 1) sq ?_; refine onlyH 2 rfl kq ?_; refine Hd.store1 sz3 rfl rfl rfl pkk (by decide) ?_
  try simp only [hyS]
  refine Hd.nil <| thenN <| heldK (J := (fun j => !([3].contains j))) (i := 2) sq ?_; refine onlyH 3 rfl kq ?_; refine Hd.store1 sz35 rfl rfl rfl pkk (by simp; done) ?_
  try simp only [hyS]
  refine Hd.nil <| thenN <| Hd.heldN (J := (fun j => !([3].contains j))) (i := 3) rfl ?_; refine endH kq ?_; refine sk [(4, _), (5, _), (6, _)] hK5 ?_; refine Hd.ret <| Hd.inBret <| Hd.thenRet ?_; rw [show accR w fd = ((0, 0, 110), w) by unfold accR; rw [hno]]; rw [hno]; exact Hd.retM (fun a fr => Lv.endC3 fr rfl () ag3 ag3 ag35 rfl rfl rfl (Rd.pt1 pkk rfl) (Rd.pt1 pkk rfl) (Rd.pt1 pkk rfl) rfl (Ent.sep (.ex i (.pure ⟨hw, hrs⟩ enn))))
 ·try simp only [hyZ] at hc0
  obtain ⟨m, k, hnk⟩ : ∃ m k, w.at fd = some (m, k) := by
   cases h : w.at fd with
   | none => rw [h] at hc0; exact absurd hc0 (by decide)
   | some p => exact ⟨p.1, p.2, rfl⟩
  obtain ⟨hf0, hf1, hk, hn, x, hx, _, _⟩ := hw.at_lt hnk
  obtain ⟨b, hb⟩ := rs_at hrs hx
  have hwf := hw.wf x (List.mem_of_getElem? hx)
  have hml : m < i.rs.length := (List.getElem?_eq_some_iff.1 hb).1
  rw [hnk, wfb_eq hb]; refine Hd.wOut pkk hb ?_; refine Hd.wire .here 0 (by omega) (fun i2 hi => ?_); refine sr fun _ hK6 => ?_
  refine yv (y_l1 ag191 rfl) ?_; refine yv y_np <| yv (y_f 15 3 Tryz.underlying199 sz3) ?_; refine yv (y_l1 ag3 rfl) ?_; refine yv (y_eql rfl rfl) ?_; refine yv y_as <| fk [(2, _), (4, _), (5, _), (6, _), (8, _), (22, _)] hK6 ?_; refine Hd.cond rfl (fun hc1 => ?_) (fun hc1 => ?_)
  ·try simp only [hyZ] at hc1
   refine sr fun _ hK7 => ?_
   refine Hd.store1 sz3 rfl rfl rfl pkk (by decide) ?_
   try simp only [hyS]
   refine Hd.store1 sz3 rfl rfl rfl pkk (by decide) ?_
   try simp only [hyS]
   refine Hd.store1 sz35 rfl rfl rfl pkk (by simp; done) ?_
   try simp only [hyS]
   refine fk [(4, _), (5, _), (6, _)] hK7 ?_; refine Hd.ret <| Hd.inBret <| Hd.thenRet ?_; rw [show accR w fd = ((0, 0, 111), w) by unfold accR; rw [hnk]; dsimp only; rw [hx]; exact if_pos hc1]; exact Hd.retM (fun a fr => Lv.endC3 fr rfl () ag3 ag3 ag35 rfl rfl rfl (Rd.pt1 pkk rfl) (Rd.pt1 pkk rfl) (Rd.pt1 pkk rfl) rfl (fun q s => world_back (k := 0) hw hrs hb hi (by omega) q (Ent.sep enn q s)))
  ·try simp only [hyZ] at hc1
   refine sr fun _ hK8 => ?_
   refine yv (y_l1 ag191 rfl) ?_; refine yv y_np <| yv (y_f 16 44 Tryz.underlying199 sz44) ?_; refine yv (y_l1 ag44 rfl) ?_; refine yv (y_len Tryz.underlying44 rfl) ?_; refine yv (y_eql rfl rfl) ?_; refine yv y_as <| fk [(2, _), (4, _), (5, _), (6, _), (8, _), (28, _)] hK8 ?_; refine Hd.cond rfl (fun hc2 => ?_) (fun hc2 => ?_)
   ·try simp only [hyZ] at hc2
    refine sr fun _ hK9 => ?_
    refine Hd.store1 sz3 rfl rfl rfl pkk (by decide) ?_
    try simp only [hyS]
    refine Hd.store1 sz3 rfl rfl rfl pkk (by decide) ?_
    try simp only [hyS]
    refine Hd.store1 sz35 rfl rfl rfl pkk (by simp; done) ?_
    try simp only [hyS]
    refine fk [(4, _), (5, _), (6, _)] hK9 ?_; refine Hd.ret <| Hd.inBret <| Hd.thenRet ?_
    have hnil : x.wt = [] := List.eq_nil_of_length_eq_zero (by omega)
    rw [show accR w fd = ((0, 0, 113), w) by unfold accR; rw [hnk]; dsimp only; rw [hx]; dsimp only; rw [if_neg hc1, hnil]]; exact Hd.retM (fun a fr => Lv.endC3 fr rfl () ag3 ag3 ag35 rfl rfl rfl (Rd.pt1 pkk rfl) (Rd.pt1 pkk rfl) (Rd.pt1 pkk rfl) rfl (fun q s => world_back (k := 0) hw hrs hb hi (by omega) q (Ent.sep enn q s)))
   ·try simp only [hyZ] at hc2
    obtain ⟨a, t, hwt⟩ : ∃ a t, x.wt = a :: t := by
     cases h : x.wt with
     | nil => rw [h] at hc2; exact absurd rfl hc2
     | cons a t => exact ⟨a, t, rfl⟩
    refine Hd.skip <| Hd.inB <| Hd.toK hK3 ?_; refine Hd.seq fun _ hK10 => ?_
    refine Hd.seq fun _ hK11 => ?_
    refine Hd.heap (AcH b2 b4 b5 b6 b7 b8 wb b m k w i x L) (fun q s => wire_fold (k := 0) hi (by omega) q (Ent.sep enn q s)) ?_; refine Hd.region <| yv (y_l1 ag38 rfl) ?_; refine callE rfl fk115 (free_ct _ wb) sq ?_; intro bx; refine fk [(2, _), (4, _), (5, _), (6, _), (8, _), (36, _)] hK11 ?_; refine Hd.block <| Hd.rangeR (enc := encF) (S := fun ys => ys = frees w.at) (Sp := fun ys => ys <+: frees w.at)
     (fun pre => pu (pre = []) :: AcH b2 b4 b5 b6 b7 b8 wb b m k w i x L) (fun j _ => [pu (j = none), pt b4 [.int .i64 (accR w fd).1.1] 3, pt b5 [.int .i64 (accR w fd).1.2.1] 3, pt b6 [.int .i64 (accR w fd).1.2.2] 35, WorldP wb (accR w fd).2] ++ L)
     rfl kq (fun _ => rfl) rfl (free_itR wb bx w.at) (Rd.pt pkk (fun j v e => by rw [Nat.zero_add, List.getElem?_append_left (List.getElem?_eq_some_iff.1 e).1]; exact e)) (by refine Ent.sep ?_; refine Ent.pure rfl ?_; exact Ent.swap (L := [_])) ?_ ?_ ?_
    ·intro E l' R pre f N hR hG
     unfold Rnd; simp only [List.cons_append, List.nil_append, pz, encF]; refine Hd.region <| yv y_as <| Hd.nil <| slots [(2, _), (4, _), (5, _), (6, _), (8, _), (9, _)] sbq ?_; refine thenN <| Hd.begin hR pkk ?_; refine Hd.block <| Hd.seq fun _ hK12 => ?_
     refine Hd.pull (A := pu (pre = [])) pkk ?_; refine Hd.pure (fun hpn => ?_); subst hpn
     obtain ⟨fs, hfs0⟩ := hG
     have hfs : frees w.at = f :: fs := hfs0.symm
     have hf96 : f < 96 := (frees_mem.1 (show f ∈ frees w.at by rw [hfs]; exact List.mem_cons_self)).1
     obtain ⟨y, hy, hAR, hok, hat⟩ := acc_yes hw hnk hx hc1 hwt hfs
     have ham : a ≠ m := fun e => hw.ns m x hx (by rw [hwt, ← e]; exact List.mem_cons_self)
     have hyw : w.ws[a]? = some y := by rw [setW_ne ham] at hy; exact hy
     obtain ⟨ba, hba⟩ := rs_at hrs hyw
     have hal : a < i.rs.length := (List.getElem?_eq_some_iff.1 hba).1
     have hra : (i.rs.set m (b, x.wts t))[a]? = some (ba, y) := by rw [List.getElem?_set_ne (Ne.symm ham)]; exact hba
     have hwl : 0 < x.wt.length := by rw [hwt]; exact Nat.succ_pos _
     have hlt : x.wt.length - 1 = t.length := by rw [hwt]; rfl
     have hw0 : (nats x.wt)[0 * 1]? = some (.int .i64 (a : Int)) := by rw [hwt]; rfl
     refine Hd.wire pkk 0 (by omega) (fun i3 hi3 => ?_); refine Hd.region <| yv (y_l1 ag191 rfl) ?_; refine yv y_np <| yv (y_f 16 44 Tryz.underlying199 sz44) ?_; refine yv (y_l1 ag44 rfl) ?_; refine yv (y_idxR Tryz.underlying44 sz3 rfl rfl (by exact (show (0 : Nat) < _ by omega)) (by exact RdS.own pkk)) ?_; refine yv (y_loadR1 ag3 rfl (RdS.own (ad := i3.wa) (us := nats x.wt) pkk) hw0) ?_; refine Hd.store1 sz3 rfl rfl rfl pkk (by decide) ?_
     try simp only [hyS]
     refine fk [(2, _), (4, _), (5, _), (6, _), (8, _), (9, _)] hK12 ?_; refine Hd.seq fun _ hK13 => ?_
     refine Hd.tail 8 mixed kq ?_; simp only [List.take, List.drop]; refine Ht.yv (y_l1 ag191 rfl) ?_; refine Ht.yv (y_l1 ag191 rfl) ?_; refine Ht.yv y_np ?_; refine Ht.yv (y_f 16 44 Tryz.underlying199 sz44) ?_; refine Ht.yv (y_l1 ag44 rfl) ?_; refine Ht.yv (y_slo_oxx Tryz.underlying44 sz3 rfl rfl (by omega) (by omega)) ?_; refine Ht.yv y_np ?_; refine Ht.yv (y_f 16 44 Tryz.underlying199 sz44) ?_; refine Ht.nil ?_; refine Hd.store1 sz44 rfl rfl rfl pkk (by simp; done) ?_
     try simp only [hyS]
     refine Hd.nil ?_; simp only [show Int.toNat 1 = 1 from rfl]; refine Hd.ownDrop (e := 3) (ad := i3.wa) (m := x.wt.length) (cap := i3.wc) pkk 1 (nats [a]) (nats t) (by omega) (by rw [hwt]; rfl) rfl ?_; rw [hlt, show (encW x i3).set (0 + 16) (.slice (cutA i3.wa 1 1 i3.wc) t.length (i3.wc - 1)) = encW (x.wts t) { i3 with wa := cutA i3.wa 1 1 i3.wc, wc := i3.wc - 1 } from rfl]; refine Hd.heap (WireP b (x.wts t) :: _) (fun q s => wire_wts (k := 0) hi3 (by omega) q (by exact Ent.sep enn q s)) ?_; refine Hd.heap (Wires (i.rs.set m (b, x.wts t)) :: _) (fun q s => ws_in hml (by exact Ent.sep enn q s)) ?_; refine sk [(2, _), (4, _), (5, _), (6, _), (9, _)] hK13 ?_; refine Hd.seq fun _ hK14 => ?_
     refine Hd.quiet mixed kq ?_; refine Hq.yv (y_l1 ag38 rfl) ?_; refine Hq.yv y_np ?_; refine Hq.yv (y_f 288 208 Tryz.underlying210 sz208) ?_; refine Hq.yv (y_load1 ag208 rfl (Rd.pt1 pkk (by exact woT_at (j := 0) (by omega) rfl))) ?_; refine Hq.yv (y_l1 ag3 rfl) ?_; refine Hq.yv (y_idxR Tryz.underlying208 sz191 rfl rfl (by omega) (by exact RdS.own pkk)) ?_; refine Hq.yv (y_loadR1 ag191 rfl (by exact RdS.own pkk) (by exact pws_at hba)) ?_; refine Hq.yv y_as ?_; refine Hq.nil ?_; refine sk [(2, _), (4, _), (5, _), (6, _), (9, _), (10, _)] hK14 ?_; refine Hd.seq fun _ hK15 => ?_
     refine Hd.wOut pkk hra ?_; refine Hd.wire .here 0 (by omega) (fun i4 hi4 => ?_); refine Hd.drawsH ([]) (fun j => !(([1000] : List Nat).contains j)) mixed ?_; simp only [List.length, Nat.zero_add, Nat.reduceAdd]; refine tH 0 rfl y_mv ?_; refine tH 1 rfl y_mv ?_; refine tH 2 rfl y_mv ?_; refine tH 3 rfl y_np ?_; refine tH 4 rfl (y_f 0 197 Tryz.underlying199 sz197) ?_; refine tH 5 rfl (y_idxA Tryz.underlying197 sz196 rfl rfl (by decide)) ?_; refine tH 6 rfl (y_f 0 3 Tryz.underlying196 sz3) ?_; refine tH 8 rfl y_np ?_; refine tH 9 rfl (y_f 0 197 Tryz.underlying199 sz197) ?_; refine onlyH 7 rfl kq ?_; refine Hd.store1 sz3 rfl rfl rfl pkk (by simp; done) ?_
     try simp only [hyS]
     refine Hd.nil <| thenN <| heldK (J := (fun j => !(([1000] : List Nat).contains j))) (i := 7) sq ?_; refine tH 10 rfl (y_idxA Tryz.underlying197 sz196 rfl rfl (by decide)) ?_; refine tH 11 rfl (y_f 1 3 Tryz.underlying196 sz3) ?_; refine onlyH 12 rfl kq ?_; refine Hd.store1 sz3 rfl rfl rfl pkk (by simp; done) ?_
     try simp only [hyS]
     refine Hd.nil <| thenN <| heldK (J := (fun j => !(([1000] : List Nat).contains j))) (i := 12) sq ?_; refine endH kq ?_; refine Hd.heap (WireP ba (giveW y f) :: _) (fun q s => wire_give hi4 q (by exact Ent.sep (.eq pkk (pt_eq (by rfl)) enn) q s)) ?_; refine Hd.heap (Wires ((i.rs.set m (b, x.wts t)).set a (ba, giveW y f)) :: _) (fun q s => ws_in (by rw [List.length_set]; exact hal) (by exact Ent.sep enn q s)) ?_; refine sk [(2, _), (4, _), (5, _), (6, _), (9, _)] hK15 ?_; refine Hd.seq fun _ hK16 => ?_
     refine Hd.tail 7 mixed kq ?_; simp only [List.take, List.drop]; refine Ht.yv (y_l1 ag38 rfl) ?_; refine Ht.yv y_mv ?_; refine Ht.yv (y_l1 ag3 rfl) ?_; refine Ht.yv (y_build (vs := [(0, _), (1, _), (2, _)]) rfl (by exact bd59_73 ..)) ?_; refine Ht.yv y_np ?_; refine Ht.yv (y_f 0 207 Tryz.underlying210 sz207) ?_; refine Ht.yv (y_idxA Tryz.underlying207 sz190 rfl rfl (by omega)) ?_; refine Ht.nil ?_; refine Hd.store (us := plc (some (a, 0))) sz190 rfl rfl rfl (plc_one _) pkk (by rw [List.length_append, fdC_len, plc_len]; omega) ?_; refine Hd.nil ?_; rw [show 0 + 0 + f * 3 = f * 3 by omega, show (plc (some (a, 0))).length = 3 from rfl, fdC_set hf96]; refine sk [(4, _), (5, _), (6, _), (9, _)] hK16 ?_; refine Hd.seq fun _ hK17 => ?_
     refine Hd.drawsH ([pt b5 [.int .i64 (a : Int)] 3]) (fun j => !([3].contains j)) mixed ?_; simp only [List.length, Nat.zero_add, Nat.reduceAdd]; refine tH 0 rfl y_mv ?_; refine tH 1 rfl (y_l1 ag3 rfl) ?_; refine onlyH 2 rfl kq ?_; refine Hd.store1 sz3 rfl rfl rfl pkk (by decide) ?_
     try simp only [hyS]
     refine Hd.nil <| thenN <| heldK (J := (fun j => !([3].contains j))) (i := 2) sq ?_; refine onlyH 3 rfl kq ?_; refine Hd.store1 sz3 rfl rfl rfl pkk (by simp; done) ?_
     try simp only [hyS]
     refine Hd.nil <| thenN <| Hd.heldN (J := (fun j => !([3].contains j))) (i := 3) rfl ?_; refine onlyH 4 rfl kq ?_; refine Hd.store1 sz35 rfl rfl rfl pkk (by simp; done) ?_
     try simp only [hyS]
     refine Hd.nil <| thenN <| heldK (J := (fun j => !([3].contains j))) (i := 4) sq ?_; refine endH kq ?_; refine sk [(4, _), (5, _), (6, _)] hK17 ?_; refine Hd.ret <| Hd.inBret <| Hd.reR ?_; simp only [List.cons_append, List.nil_append]; rw [hAR]
     have hfs2 : ((i.rs.set m (b, x.wts t)).set a (ba, giveW y f)).map Prod.fst = i.rs.map Prod.fst := by rw [set_fst hra, set_fst hb]
     have hws2 : ((i.rs.set m (b, x.wts t)).set a (ba, giveW y f)).map Prod.snd = ((w.setW m (x.wts t)).setW a (giveW y f)).ws := by
      rw [List.map_set, List.map_set, hrs]; rfl
     dsimp only; refine sep_trans (Ent.sep (.pick pkk (.eq pkk (pt_eq (by rfl)) enn))) (sep_trans (world_all (w := w) (wb := wb) hok hfs2 hws2 hat rfl) (Ent.sep ?_)); exact .pick pkk (.pure (by trivial) enn)
    ·intro r0 ys hys
     obtain rfl : ys = frees w.at := hys
     simp only [List.cons_append, List.nil_append]; refine Hd.pure (fun hfn => ?_)
     try simp only [List.cons_append, List.nil_append]
     refine Hd.inB <| Hd.toK hK10 ?_; refine sr fun _ hK18 => ?_
     refine Hd.store1 sz3 rfl rfl rfl pkk (by decide) ?_
     try simp only [hyS]
     refine Hd.store1 sz3 rfl rfl rfl pkk (by decide) ?_
     try simp only [hyS]
     refine Hd.store1 sz35 rfl rfl rfl pkk (by simp; done) ?_
     try simp only [hyS]
     refine fk [(4, _), (5, _), (6, _)] hK18 ?_; refine Hd.ret ?_; rw [show accR w fd = ((0, 0, 112), w) by unfold accR; rw [hnk]; dsimp only; rw [hx]; dsimp only; rw [if_neg hc1, hwt]; dsimp only; rw [hfn]]; exact Hd.retM (fun a fr => Lv.mark pkk (Lv.endC3 fr rfl () ag3 ag3 ag35 rfl rfl rfl (Rd.pt1 pkk rfl) (Rd.pt1 pkk rfl) (Rd.pt1 pkk rfl) rfl (fun q s => world_same hw hrs hb q (Ent.sep enn q s))))
    ·rintro r0_0 (_ | id0) pre0 hG0
     ·simp only [List.cons_append, List.nil_append]
      refine Hd.pure (fun _ => ?_)
      try simp only [List.cons_append, List.nil_append]
      refine Hd.ret <| Hd.inBret <| Hd.thenRet ?_; exact Hd.retM (fun a fr => Lv.mark pkk (Lv.endC3 fr rfl () ag3 ag3 ag35 rfl rfl rfl (Rd.pt1 pkk rfl) (Rd.pt1 pkk rfl) (Rd.pt1 pkk rfl) rfl sq))
     ·exact Hd.absurd (by simp)
end Wo
end Go.Proofs.YtbfddabjbkohdaaGreat
namespace Go.Proofs.YtbfddabjbkohdaaGreat
set_option maxHeartbeats 2000000
open Go.RX.Hd (yv y2 n1 fk sk sr tH callE heldK onlyH endH thenN slots)
open Go.RX Fx
namespace Rf
open Wo
set_option maxRecDepth 8000
theorem rw_head {b n : Nat} {w : WA} {i : Rows_} {x x' : WireA} {j : RwI} {L : List SP} (hi : i.1.map Prod.fst = w.ws) (hn : i.1[n]? = some (x, j)) (hb : ∀ k, k < 2 → (x'.e k).b = (x.e k).b) (hw : x'.wt = x.wt) :
  ∀ h, sep (RwH b w i.1.length i.2.1 i.2.2 :: own 221 20 i.2.1 i.1.length i.2.2 ((i.1.set n (x', j)).flatMap encRW) :: Bag Sd i.1 :: L) h → sep (RwP b (w.setW n x') :: L) h := fun h s => by
 have e1 : Bag Sd i.1 = Bag Sd (i.1.set n (x', j)) := (bag_set hn (sd_same (p := (x, j)) (p' := (x', j)) hb hw rfl)).symm
 have hl : (i.1.set n (x', j)).length = i.1.length := List.length_set ..
 refine rw_fold (i := (i.1.set n (x', j), i.2)) (by show (i.1.set n (x', j)).map Prod.fst = w.ws.set n x'; rw [List.map_set, hi]) h (Ent.sep ?_ h s); exact .eq pkk (pt_eq (by show _ = RwC (w.setW n x') (i.1.set n (x', j)).length i.2.1 i.2.2; rw [hl]; rfl)) (.eq pkk (own_eq3 hl.symm rfl rfl) (.eq pkk e1 enn))
theorem rw_put {b n : Nat} {w : WA} {i : Rows_} {x' : WireA} {j' : RwI} {L : List SP} (hi : i.1.map Prod.fst = w.ws) (hn : n < i.1.length) :
  ∀ h, sep (Sd (x', j') :: RwH b w i.1.length i.2.1 i.2.2 :: own 221 20 i.2.1 i.1.length i.2.2 ((i.1.set n (x', j')).flatMap encRW) :: Bag Sd (i.1.take n) :: Bag Sd (i.1.drop (n + 1)) :: L) h → sep (RwP b (w.setW n x') :: L) h := fun h s => by
 have hl : (i.1.set n (x', j')).length = i.1.length := List.length_set ..
 have h1 : sep (Sd (x', j') :: Bag Sd (i.1.take n) :: Bag Sd (i.1.drop (n + 1)) :: RwH b w i.1.length i.2.1 i.2.2 :: own 221 20 i.2.1 i.1.length i.2.2 ((i.1.set n (x', j')).flatMap encRW) :: L) h := Ent.sep enn h s
 have h2 := bag_in hn h1
 refine rw_fold (i := (i.1.set n (x', j'), i.2)) (by show (i.1.set n (x', j')).map Prod.fst = w.ws.set n x'; rw [List.map_set, hi]) h (Ent.sep ?_ h h2); exact .eq pkk (pt_eq (by show _ = RwC (w.setW n x') (i.1.set n (x', j')).length i.2.1 i.2.2; rw [hl]; rfl)) (.eq pkk (own_eq3 hl.symm rfl rfl) enn)
def atN : Option (Nat × Nat) → Int
 | none => -1
 | some p => (p.1 : Int)
def atK : Option (Nat × Nat) → Int
 | none => -1
 | some p => (p.2 : Int)
theorem rat_ct (L : List SP) (b : Nat) (w : WA) (hw : WOk w) (fd : Int) : Ct Tryz.prog 116 #[.pointer (some ⟨b, 0, none⟩), .int .i64 fd] (RwP b w :: L) (fun _ : Unit => .tuple #[.int .i64 (atN (w.at fd)), .int .i64 (atK (w.at fd))]) (fun _ : Unit => RwP b w :: L) := by
 refine Ct.o2 Tryz.func116 ?_; intro E
 show Hd E 50 _ _ _ _
 refine Hd.rw .here (fun i hi => ?_)
 have hrl := rows_n hi
 have hwl := hw.len
 refine sr fun _ hK1 => ?_
 refine yv y_as <| yv y_as <| fk [(0, _), (1, _)] hK1 ?_; refine Hd.seq fun _ hK2 => ?_
 refine sr fun _ hK3 => ?_
 refine yv y_as <| fk [(0, _), (1, _), (6, _)] hK3 ?_; refine Hd.block <| Hd.loopK (ι := Nat) [(0, _), (1, _)] (fun n => [(6, .int .i64 (n : Int))]) (fun n => pu (n ≤ w.ws.length ∧ ∀ m y, m < n → w.ws[m]? = some y → atE y fd = none) :: RwL b w i L) (fun n => w.ws.length - n) 0 sbq sbq (Ent.sep (.pure ⟨Nat.zero_le _, fun _ _ h => absurd h (Nat.not_lt_zero _)⟩ enn)) ?_; intro n
 try dsimp only
 refine Hd.pure (fun hp0 => ?_)
 try dsimp only at hp0
 refine Hd.seq fun _ hK4 => ?_
 refine sr fun _ hK5 => ?_
 refine yv y_mv <| yv y_mv <| yv y_np <| yv (y_f 0 129 Tryz.underlying133 sz129) ?_; refine yv (y_l1 ag129 rfl) ?_; refine yv (y_len Tryz.underlying129 rfl) ?_; refine yv (y_lss rfl rfl) ?_; refine fk [(0, _), (1, _), (6, _), (14, _)] hK5 ?_; refine Hd.cond rfl (fun hc0 => ?_) (fun hc0 => ?_)
 ·try simp only [hyZ] at hc0
  have hn : n < w.ws.length := by omega
  obtain ⟨x, hx⟩ : ∃ x, w.ws[n]? = some x := ⟨_, List.getElem?_eq_getElem hn⟩
  obtain ⟨j, hrow⟩ := row_at hi hx
  refine Hd.skip <| Hd.toK hK4 ?_; refine Hd.seq fun _ hK6 => ?_
  refine Hd.block <| sr fun _ hK7 => ?_
  refine yv y_as <| fk [(0, _), (1, _), (6, _), (7, _)] hK7 ?_; refine Hd.block <| Hd.loopK (ι := Nat) [(0, _), (1, _), (6, _)] (fun k => [(7, .int .i64 (k : Int))]) (fun k => pu (k ≤ 2 ∧ ∀ q, q < k → ¬ ((x.e q).what = 1 ∧ (x.e q).fd = fd)) :: RwL b w i L) (fun k => 2 - k) 0 sbq sbq (Ent.sep (.pure ⟨Nat.zero_le _, fun _ h => absurd h (Nat.not_lt_zero _)⟩ enn)) ?_; intro k
  try dsimp only
  refine Hd.pure (fun hp1 => ?_)
  try dsimp only at hp1
  refine Hd.seq fun _ hK8 => ?_
  refine sr fun _ hK9 => ?_
  refine yv y_mv <| yv (y_lss rfl rfl) ?_; refine fk [(0, _), (1, _), (6, _), (7, _), (18, _)] hK9 ?_; refine Hd.cond rfl (fun hc1 => ?_) (fun hc1 => ?_)
  ·try simp only [hyZ] at hc1
   have hk : k < 2 := by omega
   refine Hd.skip <| Hd.toK hK8 ?_; refine Hd.seq fun _ hK10 => ?_
   refine Hd.block <| sr fun _ hK11 => ?_
   refine yv y_mv <| yv y_np <| yv (y_f 0 129 Tryz.underlying133 sz129) ?_; refine yv (y_l1 ag129 rfl) ?_; refine yv y_mv <| yv y_mv <| yv (y_idxR Tryz.underlying129 sz221 rfl rfl (by omega) (by exact RdS.own pkk)) ?_; refine yv (y_fR 0 219 Tryz.underlying221 sz219) ?_; refine yv (y_idxAR Tryz.underlying219 sz218 rfl rfl (by omega)) ?_; refine yv (y_fR 0 3 Tryz.underlying218 sz3) ?_; refine yv (y_rc ag3 rfl hrow hk 0 rfl) ?_; refine yv (y_eql rfl rfl) ?_; refine yv y_mv ?_; apply Hd.andg 14 33 47 [(0, _), (1, _), (6, _), (7, _)] rfl sbq
   ·intro hg7_33
    try simp only [hyZ] at hg7_33
    simp only [List.take]; refine y2 y_mv <| y2 y_np <| y2 (y_f 0 129 Tryz.underlying133 sz129) ?_; refine y2 (y_l1 ag129 rfl) ?_; refine y2 y_mv <| y2 y_mv <| y2 (y_idxR Tryz.underlying129 sz221 rfl rfl (by omega) (by exact RdS.own pkk)) ?_; refine y2 (y_fR 0 219 Tryz.underlying221 sz219) ?_; refine y2 (y_idxAR Tryz.underlying219 sz218 rfl rfl (by omega)) ?_; refine y2 (y_fR 1 3 Tryz.underlying218 sz3) ?_; refine y2 (y_rc ag3 rfl hrow hk 1 rfl) ?_; refine y2 y_mv <| y2 (y_eql rfl rfl) ?_; refine yv (y_pickT rfl rfl) ?_; refine Hd.nil ?_; exact Hd.mq
   ·intro _
    simp only [List.take]; refine n1 <| n1 <| n1 <| n1 <| n1 <| n1 <| n1 <| n1 <| n1 <| n1 <| n1 <| n1 <| n1 <| yv (y_pickF rfl rfl) ?_; refine Hd.nil ?_; exact Hd.mq
   simp only [List.drop]; refine fk [(0, _), (1, _), (6, _), (7, _), (47, _)] hK11 ?_; refine Hd.cond rfl (fun hc2 => ?_) (fun hc2 => ?_)
   ·try simp only [hyZ] at hc2
    refine sr fun _ hK12 => ?_
    refine yv y_mv <| yv y_mv <| yv y_as <| yv y_as <| fk [(4, _), (5, _)] hK12 ?_; refine Hd.ret <| Hd.inBret <| Hd.thenRet <| Hd.thenRet <| Hd.inBret <| Hd.inBret <| Hd.thenRet <| Hd.thenRet <| Hd.inBret <| Hd.thenRet ?_
    have e : w.at fd = some (n, k) := (atW_iff hw.uq).2 ⟨hk, x, hx, hc2⟩
    rw [e]; exact Hd.ret2 rfl () rfl rfl rfl (rw_fold hi)
   ·try simp only [hyZ] at hc2
    refine Hd.skip <| Hd.inB <| Hd.toK hK10 ?_; refine Hd.region <| yv y_mv <| yv (y_addn rfl rfl (by simp only [InK]; omega)) ?_; refine yv y_as <| Hd.nil <| slots [(0, _), (1, _), (6, _), (7, _)] sbq ?_; refine thenN ?_
    have hne : ∀ q, q < k + 1 → ¬ ((x.e q).what = 1 ∧ (x.e q).fd = fd) := by
     intro q hq
     rcases (show q < k ∨ q = k by omega) with h | rfl
     ·exact hp1.2 q h
     ·rintro ⟨h1, h2⟩
      rcases hc2 with h | h
      ·exact h h1
      ·exact h h2
    exact Hd.again (k + 1) (by omega) sbq (Ent.sep (.pure ⟨hk, hne⟩ enn))
  ·try simp only [hyZ] at hc1
   have hk2 : k = 2 := by omega
   refine Hd.exit <| Hd.thenExit <| Hd.thenExit <| Hd.inBexit <| Hd.inB <| Hd.toK hK6 ?_; refine Hd.region <| yv y_mv <| yv (y_addn rfl rfl (by simp only [InK]; omega)) ?_; refine yv y_as <| Hd.nil <| slots [(0, _), (1, _), (6, _)] sbq ?_; refine thenN ?_
   have hne : ∀ m y, m < n + 1 → w.ws[m]? = some y → atE y fd = none := by
    intro m y hm hy
    rcases (show m < n ∨ m = n by omega) with h | rfl
    ·exact hp0.2 m y h hy
    ·rw [hx] at hy; obtain rfl := Option.some.inj hy
     exact atE_no fun q hq => hp1.2 q (by omega)
   exact Hd.again (n + 1) (by omega) sbq (Ent.sep (.pure ⟨hn, hne⟩ enn))
 ·try simp only [hyZ] at hc0
  refine Hd.exit <| Hd.thenExit <| Hd.thenExit <| Hd.inBexit <| Hd.toK hK2 ?_; refine sr fun _ hK13 => ?_
  refine yv y_as <| yv y_as <| fk [(4, _), (5, _)] hK13 ?_; refine Hd.ret ?_
  have e : w.at fd = none := atW_none.2 fun y hy => by
   obtain ⟨m, hm, e⟩ := List.getElem_of_mem hy
   exact hp0.2 m y (by omega) (by rw [List.getElem?_eq_getElem hm, e])
  rw [e]; exact Hd.ret2 rfl () rfl rfl rfl (rw_fold hi)
theorem rset_inn {rs : List Row} {n k o : Nat} {x : WireA} {j : RwI} {v : Int} (h : rs[n]? = some (x, j)) (hk : k < 2) (ho : o = n * 20 + k * 8 + 6) : (rs.flatMap encRW).set o (.int .u64 v) = (rs.set n (x.up k fun e => { e with inn := v }, j)).flatMap encRW :=
 rset h hk (j := 6) (by decide) ho (by rw [up_at]; rfl) (by rw [up_ne _ _ (by omega)]) rfl
theorem rset_out {rs : List Row} {n k o : Nat} {x : WireA} {j : RwI} {v : Int} (h : rs[n]? = some (x, j)) (hk : k < 2) (ho : o = n * 20 + k * 8 + 7) : (rs.flatMap encRW).set o (.int .u64 v) = (rs.set n (x.up k fun e => { e with out := v }, j)).flatMap encRW :=
 rset h hk (j := 7) (by decide) ho (by rw [up_at]; rfl) (by rw [up_ne _ _ (by omega)]) rfl
theorem rset_shut {rs : List Row} {n k o : Nat} {x : WireA} {j : RwI} {v : Bool} (h : rs[n]? = some (x, j)) (hk : k < 2) (ho : o = n * 20 + k * 8 + 5) : (rs.flatMap encRW).set o (.bool v) = (rs.set n (x.up k fun e => { e with shut := v }, j)).flatMap encRW :=
 rset h hk (j := 5) (by decide) ho (by rw [up_at]; rfl) (by rw [up_ne _ _ (by omega)]) rfl
theorem rset_what {rs : List Row} {n k o : Nat} {x : WireA} {j : RwI} {v : Int} (h : rs[n]? = some (x, j)) (hk : k < 2) (ho : o = n * 20 + k * 8 + 0) : (rs.flatMap encRW).set o (.int .i64 v) = (rs.set n (x.up k fun e => { e with what := v }, j)).flatMap encRW :=
 rset h hk (j := 0) (by decide) ho (by rw [up_at]; rfl) (by rw [up_ne _ _ (by omega)]) rfl
theorem row_set {rs : List Row} {n : Nat} {p q : Row} (h : rs[n]? = some p) : (rs.set n q)[n]? = some q := by
 rw [List.getElem?_set_self (List.getElem?_eq_some_iff.1 h).1]
theorem up_b (x : WireA) (k : Nat) {f : EndA → EndA} (hf : ∀ e, (f e).b = e.b) (j : Nat) : ((x.up k f).e j).b = (x.e j).b := by
 by_cases e : j = k
 ·subst e; rw [up_at]; exact hf _
 ·rw [up_ne _ _ e]
abbrev OwS (i : Rows_) (rs : List Row) : SP := own 221 20 i.2.1 i.1.length i.2.2 (rs.flatMap encRW)
theorem rrise_ct (L : List SP) (b : Nat) (w : WA) (n : Nat) (x : WireA) (hx : w.ws[n]? = some x) (k : Nat) (hk : k < 2) (vi vo : Bool) : Ct Tryz.prog 176 #[.pointer (some ⟨b, 0, none⟩), .int .i64 (n : Int), .int .i64 (k : Int), .bool vi, .bool vo] (RwP b w :: L) (fun _ : Unit => .tuple #[]) (fun _ : Unit => RwP b (w.setW n (x.up k (riseE vi vo))) :: L) := by
 refine Ct.o5 Tryz.func176 ?_; intro E
 show Hd E 70 _ _ _ _
 refine Hd.rw .here (fun i hi => ?_)
 have hrl := rows_n hi
 obtain ⟨j, hrow⟩ := row_at hi hx
 have hn : n < i.1.length := (List.getElem?_eq_some_iff.1 hrow).1
 have hrow2 : (i.1.set n (x.up k (riseE vi false), j))[n]? = some (x.up k (riseE vi false), j) := row_set hrow
 refine Hd.cutK (ι := Unit) [(0, _), (1, _), (2, _), (4, _)] (fun _ => []) (fun _ => RwH b w i.1.length i.2.1 i.2.2 :: OwS i (i.1.set n (x.up k (riseE vi false), j)) :: Bag Sd i.1 :: L) ?_ ?_ ⟨rfl, rfl, rfl, rfl, trivial⟩
 ·refine sr fun _ hK1 => ?_
  refine yv y_mv <| yv y_mv ?_; apply Hd.andg 12 11 23 [(0, _), (1, _), (2, _), (4, _)] rfl sbq
  ·intro hg0_11
   try simp only [hyZ] at hg0_11
   simp only [List.take]; refine y2 y_mv <| y2 y_np <| y2 (y_f 0 129 Tryz.underlying133 sz129) ?_; refine y2 (y_l1 ag129 rfl) ?_; refine y2 y_mv <| y2 y_mv <| y2 (y_idxR Tryz.underlying129 sz221 rfl rfl (by omega) (by exact RdS.own pkk)) ?_; refine y2 (y_fR 0 219 Tryz.underlying221 sz219) ?_; refine y2 (y_idxAR Tryz.underlying219 sz218 rfl rfl (by omega)) ?_; refine y2 (y_fR 2 4 Tryz.underlying218 sz4) ?_; refine y2 (y_rc ag4 rfl hrow hk 2 rfl) ?_; refine yv (y_pickT rfl rfl) ?_; refine Hd.nil ?_; exact Hd.mq
  ·intro _
   simp only [List.take]; refine n1 <| n1 <| n1 <| n1 <| n1 <| n1 <| n1 <| n1 <| n1 <| n1 <| n1 <| yv (y_pickF rfl rfl) ?_; refine Hd.nil ?_; exact Hd.mq
  simp only [List.drop]; refine fk [(0, _), (1, _), (2, _), (4, _), (23, _)] hK1 ?_; refine Hd.cond rfl (fun hc0 => ?_) (fun hc0 => ?_)
  ·try simp only [hyZ] at hc0
   have h2 : x.up k (fun e => { e with inn := IntKind.u64.wrap ((x.e k).inn + 1) }) = x.up k (riseE vi false) := up_eq (by simp [riseE, hc0.1, hc0.2])
   refine Hd.drawsH ([RwH b w i.1.length i.2.1 i.2.2, OwR i]) (fun j => !([16].contains j)) mixed ?_; simp only [List.length, Nat.zero_add, Nat.reduceAdd]; refine tH 0 rfl y_mv ?_; refine tH 1 rfl y_np ?_; refine tH 2 rfl (y_f 0 129 Tryz.underlying133 sz129) ?_; refine tH 3 rfl (y_l1 ag129 rfl) ?_; refine tH 4 rfl y_mv ?_; refine tH 5 rfl y_mv ?_; refine tH 6 rfl (y_idxR Tryz.underlying129 sz221 rfl rfl (by omega) (by exact RdS.own pkk)) ?_; refine tH 7 rfl (y_fR 0 219 Tryz.underlying221 sz219) ?_; refine tH 8 rfl (y_idxAR Tryz.underlying219 sz218 rfl rfl (by omega)) ?_; refine tH 9 rfl (y_fR 6 30 Tryz.underlying218 sz30) ?_; refine tH 10 rfl (y_rc ag30 rfl hrow hk 6 rfl) ?_; refine tH 11 rfl (y_add rfl rfl) ?_; refine onlyH 12 rfl kq ?_; refine yv (y_idxR Tryz.underlying129 sz221 rfl rfl (by omega) (by exact RdS.own pkk)) ?_; refine Hd.nil <| thenN <| heldK (J := (fun j => !([16].contains j))) (i := 12) sq ?_
   refine onlyH 13 rfl kq ?_; refine yv (y_fR 0 219 Tryz.underlying221 sz219) ?_; refine Hd.nil <| thenN <| heldK (J := (fun j => !([16].contains j))) (i := 13) sq ?_; refine onlyH 14 rfl kq ?_; refine yv (y_idxAR Tryz.underlying219 sz218 rfl rfl (by omega)) ?_; refine Hd.nil <| thenN <| heldK (J := (fun j => !([16].contains j))) (i := 14) sq ?_; refine tH 15 rfl (y_fR 6 30 Tryz.underlying218 sz30) ?_; refine onlyH 16 rfl kq ?_; refine Hd.storeO1 sz30 rfl rfl rfl pkk (by rw [rows_len encRW_len]; omega) ?_
   try simp only [hyS]
   refine Hd.nil <| thenN <| Hd.heldN (J := (fun j => !([16].contains j))) (i := 16) rfl ?_; refine endH kq ?_; rw [rset_inn hrow hk (by omega)]; refine slots [(0, _), (1, _), (2, _), (4, _)] sbq ?_; refine thenN ?_; exact Hd.meet () sbq (Ent.sep (.pick pkk (.eq pkk (own_eq3 rfl rfl (by rw [h2])) enn)))
  ·try simp only [hyZ] at hc0
   have h2 : x.up k (riseE vi false) = x := up_id (by
    have h : (vi && (x.e k).rd) = false := by rcases hc0 with h | h <;> simp [h]
    unfold riseE; rw [if_neg (by rw [h]; simp), if_neg (by simp)])
   have h3 : i.1.set n (x, j) = i.1 := by
    obtain ⟨hl, e⟩ := List.getElem?_eq_some_iff.1 hrow
    rw [← e, List.set_getElem_self]
   refine Hd.skip <| thenN ?_; exact Hd.meet () sbq (Ent.sep (.pick pkk (.eq pkk (own_eq3 rfl rfl (by rw [h2, h3])) enn)))
 ·intro _
  refine sr fun _ hK2 => ?_
  refine yv y_mv <| yv y_mv ?_; apply Hd.andg 12 41 53 [(0, _), (1, _), (2, _)] rfl sbq
  ·intro hg2_41
   try simp only [hyZ] at hg2_41
   simp only [List.take]; refine y2 y_mv <| y2 y_np <| y2 (y_f 0 129 Tryz.underlying133 sz129) ?_; refine y2 (y_l1 ag129 rfl) ?_; refine y2 y_mv <| y2 y_mv <| y2 (y_idxR Tryz.underlying129 sz221 rfl rfl (by omega) (by exact RdS.own pkk)) ?_; refine y2 (y_fR 0 219 Tryz.underlying221 sz219) ?_; refine y2 (y_idxAR Tryz.underlying219 sz218 rfl rfl (by omega)) ?_; refine y2 (y_fR 3 4 Tryz.underlying218 sz4) ?_; refine y2 (y_to (v' := .bool (x.e k).wr) (y_rc ag4 rfl hrow2 hk 3 rfl) (by (rw [up_at]; rfl))) ?_; refine yv (y_pickT rfl rfl) ?_; refine Hd.nil ?_; exact Hd.mq
  ·intro _
   simp only [List.take]; refine n1 <| n1 <| n1 <| n1 <| n1 <| n1 <| n1 <| n1 <| n1 <| n1 <| n1 <| yv (y_pickF rfl rfl) ?_; refine Hd.nil ?_; exact Hd.mq
  simp only [List.drop]; refine fk [(0, _), (1, _), (2, _), (53, _)] hK2 ?_; refine Hd.cond rfl (fun hc1 => ?_) (fun hc1 => ?_)
  ·try simp only [hyZ] at hc1
   refine Hd.drawsH ([RwH b w i.1.length i.2.1 i.2.2, OwS i (i.1.set n (x.up k (riseE vi false), j))]) (fun j => !([16].contains j)) mixed ?_; simp only [List.length, Nat.zero_add, Nat.reduceAdd]; refine tH 0 rfl y_mv ?_; refine tH 1 rfl y_np ?_; refine tH 2 rfl (y_f 0 129 Tryz.underlying133 sz129) ?_; refine tH 3 rfl (y_l1 ag129 rfl) ?_; refine tH 4 rfl y_mv ?_; refine tH 5 rfl y_mv ?_; refine tH 6 rfl (y_idxR Tryz.underlying129 sz221 rfl rfl (by omega) (by exact RdS.own pkk)) ?_; refine tH 7 rfl (y_fR 0 219 Tryz.underlying221 sz219) ?_; refine tH 8 rfl (y_idxAR Tryz.underlying219 sz218 rfl rfl (by omega)) ?_; refine tH 9 rfl (y_fR 7 30 Tryz.underlying218 sz30) ?_; refine tH 10 rfl (y_to (v' := .int .u64 (x.e k).out) (y_rc ag30 rfl hrow2 hk 7 rfl) (by (rw [up_at]; simp [riseE]))) ?_; refine tH 11 rfl (y_add rfl rfl) ?_; refine onlyH 12 rfl kq ?_; refine yv (y_idxR Tryz.underlying129 sz221 rfl rfl (by omega) (by exact RdS.own pkk)) ?_
   refine Hd.nil <| thenN <| heldK (J := (fun j => !([16].contains j))) (i := 12) sq ?_; refine onlyH 13 rfl kq ?_; refine yv (y_fR 0 219 Tryz.underlying221 sz219) ?_; refine Hd.nil <| thenN <| heldK (J := (fun j => !([16].contains j))) (i := 13) sq ?_; refine onlyH 14 rfl kq ?_; refine yv (y_idxAR Tryz.underlying219 sz218 rfl rfl (by omega)) ?_; refine Hd.nil <| thenN <| heldK (J := (fun j => !([16].contains j))) (i := 14) sq ?_; refine tH 15 rfl (y_fR 7 30 Tryz.underlying218 sz30) ?_; refine onlyH 16 rfl kq ?_; refine Hd.storeO1 sz30 rfl rfl rfl pkk (by rw [rows_len encRW_len, List.length_set]; omega) ?_
   try simp only [hyS]
   refine Hd.nil <| thenN <| Hd.heldN (J := (fun j => !([16].contains j))) (i := 16) rfl ?_; refine endH kq ?_; rw [rset_out hrow2 hk (by omega), List.set_set, up_up]; refine slots [] sbq ?_
   have h2 : (x.up k fun e => { riseE vi false e with out := IntKind.u64.wrap ((x.e k).out + 1) }) = x.up k (riseE vi vo) := up_eq (by simp [riseE, hc1.1, hc1.2])
   rw [h2]; exact Hd.end0 rfl () rfl (fun q s => rw_head (x' := x.up k (riseE vi vo)) hi hrow (fun j _ => up_b x k (f := riseE vi vo) (fun _ => rfl) j) rfl q (Ent.sep enn q s))
  ·try simp only [hyZ] at hc1
   refine Hd.skip ?_
   have h2 : x.up k (riseE vi false) = x.up k (riseE vi vo) := up_eq (by
    have h : (vo && (x.e k).wr) = false := by rcases hc1 with h | h <;> simp [h]
    unfold riseE; congr 1; rw [if_neg (by simp), if_neg (by rw [h]; simp)])
   rw [h2]; exact Hd.end0 rfl () rfl (fun q s => rw_head (x' := x.up k (riseE vi vo)) hi hrow (fun j _ => up_b x k (f := riseE vi vo) (fun _ => rfl) j) rfl q (Ent.sep enn q s))
theorem setW_setW {w : WA} {n : Nat} {x y : WireA} : (w.setW n x).setW n y = w.setW n y := by
 show ({ w with ws := _ } : WA) = { w with ws := _ }
 congr 1
 show (w.ws.set n x).set n y = _
 rw [List.set_set]
theorem rshut_ct (L : List SP) (b : Nat) (w : WA) (n : Nat) (x : WireA) (hx : w.ws[n]? = some x) (k : Nat) (hk : k < 2) : Ct Tryz.prog 121 #[.pointer (some ⟨b, 0, none⟩), .int .i64 (n : Int), .int .i64 (k : Int)] (RwP b w :: L) (fun _ : Unit => .tuple #[]) (fun _ : Unit => RwP b (w.setW n (shutW x k)) :: L) := by
 refine Ct.o3 Tryz.func121 ?_; intro E
 show Hd E 33 _ _ _ _
 refine Hd.rw .here (fun i hi => ?_)
 have hrl := rows_n hi
 obtain ⟨j, hrow⟩ := row_at hi hx
 have hn : n < i.1.length := (List.getElem?_eq_some_iff.1 hrow).1
 have hk1 : 1 - k < 2 := by omega
 refine sr fun _ hK1 => ?_
 refine yv y_mv <| yv y_np <| yv (y_f 0 129 Tryz.underlying133 sz129) ?_; refine yv (y_l1 ag129 rfl) ?_; refine yv y_mv <| yv y_mv <| yv (y_idxR Tryz.underlying129 sz221 rfl rfl (by omega) (by exact RdS.own pkk)) ?_; refine yv (y_fR 0 219 Tryz.underlying221 sz219) ?_; refine yv (y_idxAR Tryz.underlying219 sz218 rfl rfl (by omega)) ?_; refine yv (y_fR 5 4 Tryz.underlying218 sz4) ?_; refine yv (y_rc ag4 rfl hrow hk 5 rfl) ?_; refine yv (y_not rfl) ?_; refine fk [(0, _), (1, _), (2, _), (17, _)] hK1 ?_; refine Hd.cond rfl (fun hc0 => ?_) (fun hc0 => ?_)
 ·try simp only [hyZ] at hc0
  refine sr fun _ hK2 => ?_
  refine yv y_mv <| yv y_np <| yv (y_f 0 129 Tryz.underlying133 sz129) ?_; refine yv (y_l1 ag129 rfl) ?_; refine yv y_mv <| yv y_mv <| yv (y_idxR Tryz.underlying129 sz221 rfl rfl (by omega) (by exact RdS.own pkk)) ?_; refine yv (y_fR 0 219 Tryz.underlying221 sz219) ?_; refine yv (y_idxAR Tryz.underlying219 sz218 rfl rfl (by omega)) ?_; refine yv (y_fR 5 4 Tryz.underlying218 sz4) ?_; refine Hd.storeO1 sz4 rfl rfl rfl pkk (by rw [rows_len encRW_len]; omega) ?_
  try simp only [hyS]
  refine Hd.nil ?_; rw [rset_shut hrow hk (by omega)]; refine Hd.heap (RwP b (w.setW n (x.up k fun e => { e with shut := true })) :: L) (fun q s => rw_head (x' := x.up k fun e => { e with shut := true }) hi hrow (fun j _ => up_b x k (f := fun e => { e with shut := true }) (fun _ => rfl) j) rfl q (Ent.sep enn q s)) ?_; refine sk [(0, _), (1, _), (2, _)] hK2 ?_; refine Hd.region <| yv y_mv <| yv y_mv <| yv y_mv <| yv (y_to (v' := .int .i64 ((1 - k : Nat) : Int)) (y_subn rfl rfl (by simp only [InK]; omega)) (by (congr 1; omega))) ?_; refine callE rfl fk176 (rrise_ct _ b _ n _ (setW_self hx) (1 - k) hk1 true false) sq ?_; intro _; rw [setW_setW]; refine Hd.nil <| slots [] sbq ?_; rw [show shutW x k = (x.up k fun e => { e with shut := true }).up (1 - k) (riseE true false) from if_neg (by simpa using hc0)]; exact Hd.end0 rfl () rfl sq
 ·try simp only [hyZ] at hc0
  refine Hd.skip ?_; rw [show shutW x k = x from if_pos (by simpa using hc0), setW_same hx]; exact Hd.end0 rfl () rfl (rw_fold hi)
theorem rclose_ct (L : List SP) (b : Nat) (w : WA) (n : Nat) (x : WireA) (hx : w.ws[n]? = some x) (k : Nat) (hk : k < 2) : Ct Tryz.prog 123 #[.pointer (some ⟨b, 0, none⟩), .int .i64 (n : Int), .int .i64 (k : Int)] (RwP b w :: L) (fun _ : Unit => .tuple #[]) (fun _ : Unit => RwP b (w.setW n (closeW x k)) :: L) := by
 refine Ct.o3 Tryz.func123 ?_; intro E
 show Hd E 33 _ _ _ _
 refine Hd.rw .here (fun i hi => ?_)
 have hrl := rows_n hi
 obtain ⟨j, hrow⟩ := row_at hi hx
 have hn : n < i.1.length := (List.getElem?_eq_some_iff.1 hrow).1
 have hk1 : 1 - k < 2 := by omega
 refine sr fun _ hK1 => ?_
 refine yv y_mv <| yv y_mv <| yv y_mv <| yv (y_to (v' := .int .i64 ((1 - k : Nat) : Int)) (y_subn rfl rfl (by simp only [InK]; omega)) (by (congr 1; omega))) ?_; refine yv y_mv <| yv y_np <| yv (y_f 0 129 Tryz.underlying133 sz129) ?_; refine yv (y_l1 ag129 rfl) ?_; refine yv y_mv <| yv y_mv <| yv (y_idxR Tryz.underlying129 sz221 rfl rfl (by omega) (by exact RdS.own pkk)) ?_; refine yv (y_fR 0 219 Tryz.underlying221 sz219) ?_; refine yv (y_idxAR Tryz.underlying219 sz218 rfl rfl (by omega)) ?_; refine yv (y_fR 5 4 Tryz.underlying218 sz4) ?_; refine yv (y_rc ag4 rfl hrow hk 5 rfl) ?_; refine yv (y_not rfl) ?_; refine Hd.heap (RwP b w :: L) (rw_fold hi) ?_; refine callE rfl fk176 (rrise_ct _ b w n x hx (1 - k) hk1 (!(x.e k).shut) true) sq ?_; intro _; refine fk [(0, _), (1, _), (2, _)] hK1 ?_; refine Hd.rw .here (fun i' hi' => ?_)
 have hx1 : (w.setW n (x.up (1 - k) (riseE (!(x.e k).shut) true))).ws[n]? = some (x.up (1 - k) (riseE (!(x.e k).shut) true)) := setW_self hx
 have hrl' := rows_n hi'
 obtain ⟨j', hrow'⟩ := row_at hi' hx1
 have hn' : n < i'.1.length := (List.getElem?_eq_some_iff.1 hrow').1
 refine Hd.region <| yv y_mv <| yv y_np <| yv (y_f 0 129 Tryz.underlying133 sz129) ?_; refine yv (y_l1 ag129 rfl) ?_; refine yv y_mv <| yv y_mv <| yv (y_idxR Tryz.underlying129 sz221 rfl rfl (by omega) (by exact RdS.own pkk)) ?_; refine yv (y_fR 0 219 Tryz.underlying221 sz219) ?_; refine yv (y_idxAR Tryz.underlying219 sz218 rfl rfl (by omega)) ?_; refine yv (y_fR 0 3 Tryz.underlying218 sz3) ?_; refine Hd.storeO1 sz3 rfl rfl rfl pkk (by rw [rows_len encRW_len]; omega) ?_
 try simp only [hyS]
 refine Hd.nil <| slots [] sbq ?_; rw [rset_what hrow' hk (by omega)]
 have e : w.setW n (closeW x k) = (w.setW n (x.up (1 - k) (riseE (!(x.e k).shut) true))).setW n ((x.up (1 - k) (riseE (!(x.e k).shut) true)).up k fun e => { e with what := 3 }) := by rw [setW_setW]; rfl
 rw [e]; exact Hd.end0 rfl () rfl (fun q s => rw_head (x' := (x.up (1 - k) (riseE (!(x.e k).shut) true)).up k fun e => { e with what := 3 }) hi' hrow' (fun j _ => up_b _ k (f := fun e => { e with what := 3 }) (fun _ => rfl) j) rfl q (Ent.sep enn q s))
theorem router1_ct (L : List SP) (b : Nat) (w : WA) (n : Nat) (x : WireA) (hx : w.ws[n]? = some x) : Ct Tryz.prog 177 #[.pointer (some ⟨b, 0, none⟩), .int .i64 (n : Int)] (RwP b w :: L) (fun _ : Unit => .bool (decide ((x.e 1).what = 2))) (fun _ : Unit => RwP b w :: L) := by
 refine Ct.o2 Tryz.func177 ?_; intro E
 show Hd E 29 _ _ _ _
 refine Hd.rw .here (fun i hi => ?_)
 have hrl := rows_n hi
 obtain ⟨j, hrow⟩ := row_at hi hx
 have hn : n < i.1.length := (List.getElem?_eq_some_iff.1 hrow).1
 refine sr fun _ hK1 => ?_
 refine yv y_as <| fk [(0, _), (1, _)] hK1 ?_; refine sr fun _ hK2 => ?_
 refine yv y_mv <| yv (y_geq rfl rfl) ?_; refine yv y_mv ?_; apply Hd.andg 8 7 15 [(0, _), (1, _)] rfl sbq
 ·intro _
  simp only [List.take]; refine y2 y_mv <| y2 y_mv <| y2 y_np <| y2 (y_f 0 129 Tryz.underlying133 sz129) ?_; refine y2 (y_l1 ag129 rfl) ?_; refine y2 (y_len Tryz.underlying129 rfl) ?_; refine y2 (y_lss rfl rfl) ?_; refine yv (y_pickT rfl rfl) ?_; refine Hd.nil ?_; exact Hd.mq
 ·intro _
  simp only [List.take]; refine n1 <| n1 <| n1 <| n1 <| n1 <| n1 <| n1 <| yv (y_pickF rfl rfl) ?_; refine Hd.nil ?_; exact Hd.mq
 simp only [List.drop]; refine yv y_mv ?_; apply Hd.andg (q := decide ((x.e 1).what = 2)) 12 16 28 [] rfl sbq
 ·intro hg1_16
  try simp only [hyZ] at hg1_16
  simp only [List.take]; refine y2 y_mv <| y2 y_np <| y2 (y_f 0 129 Tryz.underlying133 sz129) ?_; refine y2 (y_l1 ag129 rfl) ?_; refine y2 y_mv <| y2 (y_idxR Tryz.underlying129 sz221 rfl rfl (by omega) (by exact RdS.own pkk)) ?_; refine y2 (y_fR 0 219 Tryz.underlying221 sz219) ?_; refine y2 (y_idxAR Tryz.underlying219 sz218 rfl rfl (by decide)) ?_; refine y2 (y_f 0 3 Tryz.underlying218 sz3) ?_; refine y2 (y_rc (o := n * 20 + 0 + 1 * 8 + 0) ag3 rfl hrow (show 1 < 2 from Nat.lt_succ_self 1) 0 rfl) ?_; refine y2 (y_eql rfl rfl) ?_; refine yv (y_pickT rfl rfl) ?_; refine Hd.nil ?_; exact Hd.mq
 ·intro _
  simp only [List.take]; refine n1 <| n1 <| n1 <| n1 <| n1 <| n1 <| n1 <| n1 <| n1 <| n1 <| n1 <| yv (y_pickF rfl rfl) ?_; refine Hd.nil ?_; exact Hd.mq
 simp only [List.drop]; refine yv (y_to (v' := .bool (decide ((x.e 1).what = 2))) y_as (by (congr 1; simp; omega))) ?_; refine fk [(4, _)] hK2 ?_; refine Hd.ret ?_; exact Hd.ret1 rfl () rfl (rw_fold hi)
theorem router0_ct (L : List SP) (b : Nat) (w : WA) (n : Int) (hn : n < 0 ∨ (w.ws.length : Int) ≤ n) : Ct Tryz.prog 177 #[.pointer (some ⟨b, 0, none⟩), .int .i64 n] (RwP b w :: L) (fun _ : Unit => .bool false) (fun _ : Unit => RwP b w :: L) := by
 refine Ct.o2 Tryz.func177 ?_; intro E
 show Hd E 29 _ _ _ _
 refine Hd.rw .here (fun i hi => ?_)
 have hrl := rows_n hi
 refine sr fun _ hK1 => ?_
 refine yv y_as <| fk [(0, _), (1, _)] hK1 ?_; refine sr fun _ hK2 => ?_
 refine yv y_mv <| yv (y_geq rfl rfl) ?_; refine yv y_mv <| Hd.part (gd := 7) rfl (fun hg1_7 => ?_) (fun hg1_7 => ?_)
 ·try simp only [hyZ] at hg1_7
  refine y2 y_mv <| y2 y_mv <| y2 y_np <| y2 (y_f 0 129 Tryz.underlying133 sz129) ?_; refine y2 (y_l1 ag129 rfl) ?_; refine y2 (y_len Tryz.underlying129 rfl) ?_; refine y2 (y_lss rfl rfl) ?_; refine yv (y_pickT rfl rfl) ?_; refine yv y_mv <| Hd.part (gd := 16) rfl (fun hg1_16 => ?_) (fun hg1_16 => ?_)
  ·try simp only [hyZ] at hg1_16
   exfalso; omega
  ·try simp only [hyZ] at hg1_16
   refine n1 <| n1 <| n1 <| n1 <| n1 <| n1 <| n1 <| n1 <| n1 <| n1 <| n1 <| yv (y_pickF rfl rfl) ?_; refine yv y_as <| fk [(4, _)] hK2 ?_; refine Hd.ret ?_; exact Hd.ret1 rfl () rfl (rw_fold hi)
 ·try simp only [hyZ] at hg1_7
  refine n1 <| n1 <| n1 <| n1 <| n1 <| n1 <| n1 <| yv (y_pickF rfl rfl) ?_; refine yv y_mv <| Hd.part (gd := 16) rfl (fun hg1_16 => ?_) (fun hg1_16 => ?_)
  ·try simp only [hyZ] at hg1_16
   exfalso; simp at hg1_16; done
  ·try simp only [hyZ] at hg1_16
   refine n1 <| n1 <| n1 <| n1 <| n1 <| n1 <| n1 <| n1 <| n1 <| n1 <| n1 <| yv (y_pickF rfl rfl) ?_; refine yv y_as <| fk [(4, _)] hK2 ?_; refine Hd.ret ?_; exact Hd.ret1 rfl () rfl (rw_fold hi)
theorem router_ct (L : List SP) (b : Nat) (w : WA) (n : Int) :
  Ct Tryz.prog 177 #[.pointer (some ⟨b, 0, none⟩), .int .i64 n] (RwP b w :: L) (fun _ : Unit => .bool (outW w n).isSome) (fun _ => RwP b w :: L) := by
 by_cases h : n < 0 ∨ (w.ws.length : Int) ≤ n
 ·rw [outW_off h]
  exact router0_ct L b w n h
 ·obtain ⟨k, rfl⟩ : ∃ k : Nat, n = (k : Int) := ⟨n.toNat, by omega⟩
  have hx : w.ws[k]? = some w.ws[k] := List.getElem?_eq_getElem (by omega)
  have := router1_ct L b w k _ hx
  rw [outW_nat hx]
  by_cases h2 : (w.ws[k].e 1).what = 2
  ·rw [if_pos h2]; rw [decide_eq_true h2] at this; exact this
  ·rw [if_neg h2]; rw [decide_eq_false h2] at this; exact this
def RwI.upB (j : RwI) (k : Nat) (a : Option Addr) (c : Nat) : RwI := { j with a := fun q => if q = k then a else j.a q, c := fun q => if q = k then c else j.c q }
theorem upB_a (j : RwI) (k : Nat) (a : Option Addr) (c : Nat) : (j.upB k a c).a k = a ∧ (j.upB k a c).c k = c := ⟨if_pos rfl, if_pos rfl⟩
theorem upB_ne (j : RwI) {k q : Nat} (a : Option Addr) (c : Nat) (h : q ≠ k) : (j.upB k a c).a q = j.a q ∧ (j.upB k a c).c q = j.c q := ⟨if_neg h, if_neg h⟩
theorem rset_b {rs : List Row} {n k o m c : Nat} {x : WireA} {j : RwI} {l : List UInt8} {a : Option Addr} (h : rs[n]? = some (x, j)) (hk : k < 2) (ho : o = n * 20 + k * 8 + 4) (hl : l.length = m) : (rs.flatMap encRW).set o (.slice a m c) = (rs.set n (x.up k fun e => { e with b := l }, j.upB k a c)).flatMap encRW := by
 refine rset h hk (j := 4) (by decide) ho ?_ ?_ rfl
 ·rw [up_at, (upB_a j k a c).1, (upB_a j k a c).2, ← hl]; rfl
 ·rw [up_ne _ _ (by omega), (upB_ne j a c (by omega : 1 - k ≠ k)).1, (upB_ne j a c (by omega : 1 - k ≠ k)).2]
theorem sd_b {k c : Nat} {x : WireA} {j : RwI} {l : List UInt8} {a : Option Addr} {L : List SP} (hk : k < 2) : ∀ h, sep (own 5 1 a l.length c (bsl l) :: SdB (x, j) (1 - k) :: SdW (x, j) :: L) h → sep (Sd (x.up k fun e => { e with b := l }, j.upB k a c) :: L) h := fun h s => by
 refine sd_fold hk h ?_; unfold SdL SdB; dsimp only; rw [up_at, up_ne _ _ (by omega : 1 - k ≠ k), (upB_a j k a c).1, (upB_a j k a c).2, (upB_ne j a c (by omega : 1 - k ≠ k)).1, (upB_ne j a c (by omega : 1 - k ≠ k)).2]; exact s
theorem rget_ct (L : List SP) (b : Nat) (w : WA) (n : Nat) (x : WireA) (hx : w.ws[n]? = some x) (k : Nat) (hk : k < 2) (many : Int) (hm : 0 ≤ many) : Ct Tryz.prog 118 #[.pointer (some ⟨b, 0, none⟩), .int .i64 (n : Int), .int .i64 (k : Int), .int .i64 many] (RwP b w :: L) (fun q_ : Option Addr × Nat => .slice q_.1 ((x.e k).b.take many.toNat).length q_.2) (fun q_ : Option Addr × Nat => own 5 1 q_.1 ((x.e k).b.take many.toNat).length ((x.e k).b.take many.toNat).length (bsl ((x.e k).b.take many.toNat)) :: RwP b (w.setW n (takeW x k many.toNat)) :: L) := by
 refine Ct.o4 Tryz.func118 ?_; intro E
 show Hd E 50 _ _ _ _
 refine Hd.rw .here (fun i hi => ?_)
 have hrl := rows_n hi
 obtain ⟨j, hrow⟩ := row_at hi hx
 have hn : n < i.1.length := (List.getElem?_eq_some_iff.1 hrow).1
 have hk1 : 1 - k < 2 := by omega
 refine Hd.bagOut pkk hrow ?_; refine Hd.sd .here k hk ?_
 obtain ⟨bs, hbs⟩ : ∃ bs, bs = (x.e k).b := ⟨_, rfl⟩
 obtain ⟨kn, hkn⟩ : ∃ q, q = min many.toNat bs.length := ⟨_, rfl⟩
 have htk : bs.take many.toNat = bs.take kn := by
  rw [hkn]
  rcases Nat.le_total many.toNat bs.length with h | h
  ·rw [Nat.min_eq_left h]
  ·rw [Nat.min_eq_right h, List.take_length, List.take_of_length_le h]
 have hdk : bs.drop many.toNat = bs.drop kn := by
  rw [hkn]
  rcases Nat.le_total many.toNat bs.length with h | h
  ·rw [Nat.min_eq_left h]
  ·rw [Nat.min_eq_right h, List.drop_length, List.drop_of_length_le h]
 have hkl : kn ≤ bs.length := by omega
 have htl : (bs.take kn).length = kn := by rw [List.length_take]; omega
 refine Hd.ownCap (e := 5) (ad := j.a k) (m := (x.e k).b.length) (cap := j.c k) pkk (fun hcap => ?_); rw [← hbs] at hcap
 have hkc : kn ≤ j.c k := by omega
 have ex : takeW x k many.toNat = (x.up k fun e => { e with b := bs.drop kn }).up (1 - k) (riseE false (decide (0 < kn))) := by
  unfold takeW; rw [← hbs, htk, htl, show (x.up k fun e => { e with b := e.b.drop many.toNat }) = x.up k fun e => { e with b := bs.drop kn } from up_eq (by rw [← hbs, hdk])]
 rw [← hbs, htk, htl, ex]; refine sr fun _ hK1 => ?_
 refine yv y_as <| fk [(0, _), (1, _), (2, _), (3, _)] hK1 ?_; refine sr fun _ hK2 => ?_
 refine yv y_mv <| yv y_np <| yv (y_f 0 129 Tryz.underlying133 sz129) ?_; refine yv (y_l1 ag129 rfl) ?_; refine yv y_mv <| yv y_mv <| yv (y_idxR Tryz.underlying129 sz221 rfl rfl (by omega) (by exact RdS.own pkk)) ?_; refine yv (y_fR 0 219 Tryz.underlying221 sz219) ?_; refine yv (y_idxAR Tryz.underlying219 sz218 rfl rfl (by omega)) ?_; refine yv (y_fR 4 31 Tryz.underlying218 sz31) ?_; refine yv (y_to (v' := .slice (j.a k) bs.length (j.c k)) (y_rc ag31 rfl hrow hk 4 rfl) (by (rw [hbs]))) ?_; refine yv y_as <| fk [(0, _), (1, _), (2, _), (3, _), (9, _)] hK2 ?_; refine Hd.cutK (ι := Unit) [(0, _), (1, _), (2, _), (9, _)] (fun _ => [(3, .int .i64 (kn : Int))]) (fun _ => SdL (x, j) k (Bag Sd (i.1.take n) :: Bag Sd (i.1.drop (n + 1)) :: RwH b w i.1.length i.2.1 i.2.2 :: OwR i :: L)) ?_ ?_ ⟨rfl, rfl, rfl, rfl, trivial⟩
 ·refine sr fun _ hK3 => ?_
  refine yv y_mv <| yv y_mv <| yv (y_len Tryz.underlying31 rfl) ?_; refine yv (y_gtr rfl rfl) ?_; refine fk [(0, _), (1, _), (2, _), (3, _), (9, _), (24, _)] hK3 ?_; refine Hd.cond rfl (fun hc0 => ?_) (fun hc0 => ?_)
  ·try simp only [hyZ] at hc0
   refine Hd.region <| yv y_mv <| yv (y_len Tryz.underlying31 rfl) ?_; refine yv y_as <| Hd.nil <| slots [(0, _), (1, _), (2, _), (3, _), (9, _)] sbq ?_; refine thenN ?_; exact Hd.meet () ⟨congrArg (fun z => some (Value.int .i64 z)) (by omega), by repeat (first | exact trivial | refine ⟨rfl, ?_⟩)⟩ sq
  ·try simp only [hyZ] at hc0
   refine Hd.skip <| thenN ?_; exact Hd.meet () ⟨congrArg (fun z => some (Value.int .i64 z)) (by omega), by repeat (first | exact trivial | refine ⟨rfl, ?_⟩)⟩ sq
 ·intro _
  refine Hd.seq fun _ hK4 => ?_
  refine Hd.drawsH ([RwH b w i.1.length i.2.1 i.2.2, OwR i]) (fun j => !([13].contains j)) mixed ?_; simp only [List.length, Nat.zero_add, Nat.reduceAdd]; refine tH 0 rfl y_mv ?_; refine tH 1 rfl y_np ?_; refine tH 2 rfl (y_f 0 129 Tryz.underlying133 sz129) ?_; refine tH 3 rfl (y_l1 ag129 rfl) ?_; refine tH 4 rfl y_mv ?_; refine tH 5 rfl y_mv ?_; refine tH 6 rfl y_mv ?_; refine tH 7 rfl y_mv ?_; refine tH 8 rfl (y_slo_oxxN Tryz.underlying31 sz5 rfl rfl (by omega)) ?_; refine onlyH 9 rfl kq ?_; refine yv (y_idxR Tryz.underlying129 sz221 rfl rfl (by omega) (by exact RdS.own pkk)) ?_; refine Hd.nil <| thenN <| heldK (J := (fun j => !([13].contains j))) (i := 9) sq ?_; refine onlyH 10 rfl kq ?_; refine yv (y_fR 0 219 Tryz.underlying221 sz219) ?_; refine Hd.nil <| thenN <| heldK (J := (fun j => !([13].contains j))) (i := 10) sq ?_; refine onlyH 11 rfl kq ?_; refine yv (y_idxAR Tryz.underlying219 sz218 rfl rfl (by omega)) ?_
  refine Hd.nil <| thenN <| heldK (J := (fun j => !([13].contains j))) (i := 11) sq ?_; refine tH 12 rfl (y_fR 4 31 Tryz.underlying218 sz31) ?_; refine onlyH 13 rfl kq ?_; refine Hd.storeO1 sz31 rfl rfl rfl pkk (by rw [rows_len encRW_len]; omega) ?_
  try simp only [hyS]
  refine Hd.nil <| thenN <| Hd.heldN (J := (fun j => !([13].contains j))) (i := 13) rfl ?_; refine endH kq ?_; rw [rset_b (l := bs.drop kn) hrow hk (by omega) (by rw [List.length_drop])]; refine Hd.ownSplit (e := 5) (ad := j.a k) (m := (x.e k).b.length) (cap := j.c k) (us := bsl (x.e k).b) pkk kn (bsl (bs.take kn)) (bsl (bs.drop kn)) (by rw [← hbs]; exact hkl) (by rw [← hbs]; unfold bsl; rw [← List.map_append, List.take_append_drop]) (by unfold bsl; rw [List.length_map, htl, Nat.mul_one]) ?_; refine Hd.heap (RwP b (w.setW n (x.up k fun e => { e with b := bs.drop kn })) :: own 5 1 (j.a k) kn kn (bsl (bs.take kn)) :: L) (sep_trans (sep_trans (Ent.sep (.eq pkk (own_eq3 (by rw [List.length_drop, ← hbs]) rfl rfl) enn)) (sd_b (l := bs.drop kn) (a := cutA (j.a k) 1 kn (j.c k)) (c := j.c k - kn) hk)) (sep_trans sq (rw_put hi hn))) ?_; refine sk [(0, _), (1, _), (2, _), (3, _), (9, _)] hK4 ?_
  refine sr fun _ hK5 => ?_
  refine yv y_mv <| yv y_mv <| yv y_mv <| yv (y_to (v' := .int .i64 ((1 - k : Nat) : Int)) (y_subn rfl rfl (by simp only [InK]; omega)) (by (congr 1; omega))) ?_; refine yv y_mv <| yv (y_to (v' := .bool (decide (0 < kn))) (y_gtr rfl rfl) (by (congr 1; simp only [decide_eq_decide]; omega))) ?_; refine callE rfl fk176 (rrise_ct _ b _ n _ (setW_self hx) (1 - k) hk1 false (decide (0 < kn))) sq ?_; intro _; rw [setW_setW]; refine fk [(3, _), (9, _)] hK5 ?_; refine sr fun _ hK6 => ?_
  refine yv y_mv <| yv y_mv <| yv (y_slo_xoxN Tryz.underlying31 sz5 rfl rfl (by omega)) ?_; refine yv y_as <| fk [(8, _)] hK6 ?_; refine Hd.ret ?_; exact Hd.ret1 rfl (j.a k, j.c k) rfl sq
theorem rfill_ct (L : List SP) (b : Nat) (w : WA) (n : Nat) (x : WireA) (hx : w.ws[n]? = some x) (hwf : WfW x) (k : Nat) (hk : k < 2) (ad : Option Addr) (m c : Nat) (bs : List UInt8) (hm : bs.length = m) (hR : RdS L 1 ad m (bsl bs)) (hml : m ≤ 70368744177664) (hmc : m ≤ c) : Ct Tryz.prog 119 #[.pointer (some ⟨b, 0, none⟩), .int .i64 (n : Int), .int .i64 (k : Int), .slice ad m c] (RwP b w :: L) (fun _ : Unit => .int .i64 (putN x k bs : Nat)) (fun _ : Unit => RwP b (w.setW n (putW x k bs)) :: L) := by
 refine Ct.o4 Tryz.func119 ?_; intro E
 show Hd E 78 _ _ _ _
 refine Hd.rw .here (fun i hi => ?_)
 have hrl := rows_n hi
 obtain ⟨j, hrow⟩ := row_at hi hx
 have hn : n < i.1.length := (List.getElem?_eq_some_iff.1 hrow).1
 have hk1 : 1 - k < 2 := by omega
 have hle := hwf.le (1 - k) hk1
 have hcp := hwf.cap
 refine Hd.bagOut pkk hrow ?_; refine Hd.sd .here (1 - k) hk1 ?_
 obtain ⟨kn, hkn⟩ : ∃ q, q = putN x k bs := ⟨_, rfl⟩
 have hkn2 : kn = min m (x.cap - (x.e (1 - k)).b.length) := by rw [hkn, ← hm]; rfl
 have htl : (bs.take kn).length = kn := by rw [List.length_take, hm]; omega
 have hRk : RdS L 1 ad kn (bsl (bs.take kn)) := by
  have := RdS.head (l := kn) hR (by omega)
  rwa [Nat.mul_one, bsl_take] at this
 have ex : putW x k bs = (x.up (1 - k) fun e => { e with b := (x.e (1 - k)).b ++ bs.take kn }).up (1 - k) (riseE (decide (0 < kn)) false) := by
  unfold putW; rw [← hkn, show (x.up (1 - k) fun e => { e with b := e.b ++ bs.take kn }) = x.up (1 - k) fun e => { e with b := (x.e (1 - k)).b ++ bs.take kn } from up_eq rfl]
 rw [← hkn, ex]; refine sr fun _ hK1 => ?_
 refine yv y_as <| fk [(0, _), (1, _), (2, _), (3, _)] hK1 ?_; refine Hd.seq fun _ hK2 => ?_
 refine Hd.quiet mixed kq ?_; refine Hq.yv y_mv ?_; refine Hq.yv y_np ?_; refine Hq.yv (y_f 0 129 Tryz.underlying133 sz129) ?_; refine Hq.yv (y_l1 ag129 rfl) ?_; refine Hq.yv y_mv ?_; refine Hq.yv (y_idxR Tryz.underlying129 sz221 rfl rfl (by omega) (by exact RdS.own pkk)) ?_; refine Hq.yv (y_fR 16 3 Tryz.underlying221 sz3) ?_; refine Hq.yv (y_to (v' := .int .i64 (x.cap : Int)) (y_rw ag3 rfl hrow 16 rfl) (by rfl)) ?_; refine Hq.yv y_mv ?_; refine Hq.yv y_np ?_; refine Hq.yv (y_f 0 129 Tryz.underlying133 sz129) ?_; refine Hq.yv (y_l1 ag129 rfl) ?_; refine Hq.yv y_mv ?_; refine Hq.yv y_mv ?_; refine Hq.yv (y_to (v' := .int .i64 ((1 - k : Nat) : Int)) (y_subn rfl rfl (by simp only [InK]; omega)) (by (congr 1; omega))) ?_; refine Hq.yv (y_idxR Tryz.underlying129 sz221 rfl rfl (by omega) (by exact RdS.own pkk)) ?_; refine Hq.yv (y_fR 0 219 Tryz.underlying221 sz219) ?_; refine Hq.yv (y_idxAR Tryz.underlying219 sz218 rfl rfl (by omega)) ?_
 refine Hq.yv (y_fR 4 31 Tryz.underlying218 sz31) ?_; refine Hq.yv (y_rc ag31 rfl hrow hk1 4 rfl) ?_; refine Hq.yv (y_len Tryz.underlying31 rfl) ?_; refine Hq.yv (y_to (v' := .int .i64 ((x.cap - (x.e (1 - k)).b.length : Nat) : Int)) (y_subn rfl rfl (by simp only [InK]; omega)) (by (congr 1; omega))) ?_; refine Hq.yv y_as ?_; refine Hq.nil ?_; refine sk [(0, _), (1, _), (2, _), (3, _), (9, _)] hK2 ?_; refine sr fun _ hK3 => ?_
 refine yv y_mv <| yv (y_len Tryz.underlying31 rfl) ?_; refine yv y_as <| fk [(0, _), (1, _), (2, _), (3, _), (9, _), (10, _)] hK3 ?_; refine Hd.cutK (ι := Unit) [(0, _), (1, _), (2, _), (3, _)] (fun _ => [(10, .int .i64 (kn : Int))]) (fun _ => SdL (x, j) (1 - k) (Bag Sd (i.1.take n) :: Bag Sd (i.1.drop (n + 1)) :: RwH b w i.1.length i.2.1 i.2.2 :: OwR i :: L)) ?_ ?_ ⟨rfl, rfl, rfl, rfl, trivial⟩
 ·refine sr fun _ hK4 => ?_
  refine yv y_mv <| yv y_mv <| yv (y_gtr rfl rfl) ?_; refine fk [(0, _), (1, _), (2, _), (3, _), (9, _), (10, _), (38, _)] hK4 ?_; refine Hd.cond rfl (fun hc0 => ?_) (fun hc0 => ?_)
  ·try simp only [hyZ] at hc0
   refine Hd.region <| yv y_mv <| yv y_as <| Hd.nil <| slots [(0, _), (1, _), (2, _), (3, _), (10, _)] sbq ?_; refine thenN ?_; exact Hd.meet () ⟨congrArg (fun z => some (Value.int .i64 z)) (by omega), by repeat (first | exact trivial | refine ⟨rfl, ?_⟩)⟩ sq
  ·try simp only [hyZ] at hc0
   refine Hd.skip <| thenN ?_; exact Hd.meet () ⟨congrArg (fun z => some (Value.int .i64 z)) (by omega), by repeat (first | exact trivial | refine ⟨rfl, ?_⟩)⟩ sq
 ·intro _
  refine sr fun _ hK5 => ?_
  refine yv y_as <| fk [(0, _), (1, _), (2, _), (3, _), (10, _), (11, _)] hK5 ?_; refine Hd.seq fun _ hK6 => ?_
  refine Hd.ownNil 5 1 none ?_; refine Hd.region <| yv y_mv <| yv y_mv <| yv y_np <| yv (y_f 0 129 Tryz.underlying133 sz129) ?_; refine yv (y_l1 ag129 rfl) ?_; refine yv y_mv <| yv y_mv <| yv (y_to (v' := .int .i64 ((1 - k : Nat) : Int)) (y_subn rfl rfl (by simp only [InK]; omega)) (by (congr 1; omega))) ?_; refine yv (y_idxR Tryz.underlying129 sz221 rfl rfl (by omega) (by exact RdS.own pkk)) ?_; refine yv (y_fR 0 219 Tryz.underlying221 sz219) ?_; refine yv (y_idxAR Tryz.underlying219 sz218 rfl rfl (by omega)) ?_; refine yv (y_fR 4 31 Tryz.underlying218 sz31) ?_; refine yv (y_rc ag31 rfl hrow hk1 4 rfl) ?_; refine Hd.append Tryz.underlying31 ty5 rfl rfl rfl pkk (by first | exact RdS.rd (Rd.pt pkk (fun j v e => by simpa using e)) rfl | (exact RdS.own pkk)) (by simp [Value.oneCell']; done) (by simp only [maxLen]; omega) (by omega) (fun ad53 cap53 => ?_)
  refine yv y_as <| fk [(0, _), (1, _), (2, _), (3, _), (10, _), (11, _)] hK6 ?_; refine Hd.seq fun _ hK7 => ?_
  refine Hd.drawsH ([RwH b w i.1.length i.2.1 i.2.2, OwR i]) (fun j => !([16].contains j)) mixed ?_; simp only [List.length, Nat.zero_add, Nat.reduceAdd]; refine tH 0 rfl y_mv ?_; refine tH 1 rfl y_np ?_; refine tH 2 rfl (y_f 0 129 Tryz.underlying133 sz129) ?_; refine tH 3 rfl (y_l1 ag129 rfl) ?_; refine tH 4 rfl y_mv ?_; refine tH 5 rfl y_mv ?_; refine tH 6 rfl (y_to (v' := .int .i64 ((1 - k : Nat) : Int)) (y_subn rfl rfl (by simp only [InK]; omega)) (by (congr 1; omega))) ?_; refine tH 7 rfl y_mv ?_; refine tH 8 rfl y_mv ?_; refine tH 9 rfl y_mv ?_; refine tH 10 rfl (y_slo_xoxN Tryz.underlying31 sz5 rfl rfl (by omega)) ?_; refine Hd.eitherH 11 12 rfl rfl kq ?_ ?_
  ·refine Hd.append Tryz.underlying31 ty5 rfl rfl rfl pkk (by exact RdS.mono hRk sq) (by exact B_one) (by simp only [maxLen]; omega) (by omega) (fun ad65 cap65 => ?_)
   refine Hd.nil <| thenN <| heldK (J := (fun j => !([16].contains j))) (i := 11) sq ?_; refine onlyH 12 rfl kq ?_; refine yv (y_idxR Tryz.underlying129 sz221 rfl rfl (by omega) (by exact RdS.own pkk)) ?_; refine Hd.nil <| thenN <| heldK (J := (fun j => !([16].contains j))) (i := 12) sq ?_; refine onlyH 13 rfl kq ?_; refine yv (y_fR 0 219 Tryz.underlying221 sz219) ?_; refine Hd.nil <| thenN <| heldK (J := (fun j => !([16].contains j))) (i := 13) sq ?_; refine onlyH 14 rfl kq ?_; refine yv (y_idxAR Tryz.underlying219 sz218 rfl rfl (by omega)) ?_; refine Hd.nil <| thenN <| heldK (J := (fun j => !([16].contains j))) (i := 14) sq ?_; refine tH 15 rfl (y_fR 4 31 Tryz.underlying218 sz31) ?_; refine onlyH 16 rfl kq ?_; refine Hd.storeO1 sz31 rfl rfl rfl pkk (by rw [rows_len encRW_len]; omega) ?_
   try simp only [hyS]
   refine Hd.nil <| thenN <| Hd.heldN (J := (fun j => !([16].contains j))) (i := 16) rfl ?_; refine endH kq ?_; rw [rset_b (l := (x.e (1 - k)).b ++ bs.take kn) hrow hk1 (by omega) (by rw [List.length_append, htl])]; refine Hd.heap (RwP b (w.setW n (x.up (1 - k) fun e => { e with b := (x.e (1 - k)).b ++ bs.take kn })) :: L) (sep_trans (sep_trans (Ent.sep (.eq pkk (own_eq3 (by rw [List.length_append, htl]) rfl (by unfold bsl; simp)) (.pick pkk (.pick pkk .same)))) (sd_b (l := (x.e (1 - k)).b ++ bs.take kn) (a := ad65) (c := cap65) hk1)) (sep_trans sq (rw_put hi hn))) ?_; refine sk [(0, _), (1, _), (2, _), (10, _)] hK7 ?_; refine sr fun _ hK8 => ?_
   refine yv y_mv <| yv y_mv <| yv y_mv <| yv (y_to (v' := .int .i64 ((1 - k : Nat) : Int)) (y_subn rfl rfl (by simp only [InK]; omega)) (by (congr 1; omega))) ?_; refine yv y_mv <| yv (y_to (v' := .bool (decide (0 < kn))) (y_gtr rfl rfl) (by (congr 1; simp only [decide_eq_decide]; omega))) ?_; refine callE rfl fk176 (rrise_ct _ b _ n _ (setW_self hx) (1 - k) hk1 (decide (0 < kn)) false) sq ?_; intro _; rw [setW_setW]; refine fk [(10, _)] hK8 ?_; refine sr fun _ hK9 => ?_
   refine yv y_mv <| yv y_as <| fk [(8, _)] hK9 ?_; refine Hd.ret ?_; exact Hd.ret1 rfl () rfl sq
  ·refine yv (y_idxR Tryz.underlying129 sz221 rfl rfl (by omega) (by exact RdS.own pkk)) ?_
   refine Hd.nil <| thenN <| heldK (J := (fun j => !([16].contains j))) (i := 12) sq ?_; refine Hd.eitherH 11 13 rfl rfl kq ?_ ?_
   ·refine Hd.append Tryz.underlying31 ty5 rfl rfl rfl pkk (by exact RdS.mono hRk sq) (by exact B_one) (by simp only [maxLen]; omega) (by omega) (fun ad65 cap65 => ?_)
    refine Hd.nil <| thenN <| heldK (J := (fun j => !([16].contains j))) (i := 11) sq ?_; refine onlyH 13 rfl kq ?_; refine yv (y_fR 0 219 Tryz.underlying221 sz219) ?_; refine Hd.nil <| thenN <| heldK (J := (fun j => !([16].contains j))) (i := 13) sq ?_; refine onlyH 14 rfl kq ?_; refine yv (y_idxAR Tryz.underlying219 sz218 rfl rfl (by omega)) ?_; refine Hd.nil <| thenN <| heldK (J := (fun j => !([16].contains j))) (i := 14) sq ?_; refine tH 15 rfl (y_fR 4 31 Tryz.underlying218 sz31) ?_; refine onlyH 16 rfl kq ?_; refine Hd.storeO1 sz31 rfl rfl rfl pkk (by rw [rows_len encRW_len]; omega) ?_
    try simp only [hyS]
    refine Hd.nil <| thenN <| Hd.heldN (J := (fun j => !([16].contains j))) (i := 16) rfl ?_; refine endH kq ?_; rw [rset_b (l := (x.e (1 - k)).b ++ bs.take kn) hrow hk1 (by omega) (by rw [List.length_append, htl])]; refine Hd.heap (RwP b (w.setW n (x.up (1 - k) fun e => { e with b := (x.e (1 - k)).b ++ bs.take kn })) :: L) (sep_trans (sep_trans (Ent.sep (.eq pkk (own_eq3 (by rw [List.length_append, htl]) rfl (by unfold bsl; simp)) (.pick pkk (.pick pkk .same)))) (sd_b (l := (x.e (1 - k)).b ++ bs.take kn) (a := ad65) (c := cap65) hk1)) (sep_trans sq (rw_put hi hn))) ?_; refine sk [(0, _), (1, _), (2, _), (10, _)] hK7 ?_; refine sr fun _ hK10 => ?_
    refine yv y_mv <| yv y_mv <| yv y_mv <| yv (y_to (v' := .int .i64 ((1 - k : Nat) : Int)) (y_subn rfl rfl (by simp only [InK]; omega)) (by (congr 1; omega))) ?_; refine yv y_mv <| yv (y_to (v' := .bool (decide (0 < kn))) (y_gtr rfl rfl) (by (congr 1; simp only [decide_eq_decide]; omega))) ?_; refine callE rfl fk176 (rrise_ct _ b _ n _ (setW_self hx) (1 - k) hk1 (decide (0 < kn)) false) sq ?_; intro _; rw [setW_setW]; refine fk [(10, _)] hK10 ?_; refine sr fun _ hK11 => ?_
    refine yv y_mv <| yv y_as <| fk [(8, _)] hK11 ?_; refine Hd.ret ?_; exact Hd.ret1 rfl () rfl sq
   ·refine yv (y_fR 0 219 Tryz.underlying221 sz219) ?_
    refine Hd.nil <| thenN <| heldK (J := (fun j => !([16].contains j))) (i := 13) sq ?_; refine onlyH 11 rfl kq ?_; refine Hd.append Tryz.underlying31 ty5 rfl rfl rfl pkk (by exact RdS.mono hRk sq) (by exact B_one) (by simp only [maxLen]; omega) (by omega) (fun ad65 cap65 => ?_); refine Hd.nil <| thenN <| heldK (J := (fun j => !([16].contains j))) (i := 11) sq ?_; refine onlyH 14 rfl kq ?_; refine yv (y_idxAR Tryz.underlying219 sz218 rfl rfl (by omega)) ?_; refine Hd.nil <| thenN <| heldK (J := (fun j => !([16].contains j))) (i := 14) sq ?_; refine tH 15 rfl (y_fR 4 31 Tryz.underlying218 sz31) ?_; refine onlyH 16 rfl kq ?_; refine Hd.storeO1 sz31 rfl rfl rfl pkk (by rw [rows_len encRW_len]; omega) ?_
    try simp only [hyS]
    refine Hd.nil <| thenN <| Hd.heldN (J := (fun j => !([16].contains j))) (i := 16) rfl ?_; refine endH kq ?_; rw [rset_b (l := (x.e (1 - k)).b ++ bs.take kn) hrow hk1 (by omega) (by rw [List.length_append, htl])]; refine Hd.heap (RwP b (w.setW n (x.up (1 - k) fun e => { e with b := (x.e (1 - k)).b ++ bs.take kn })) :: L) (sep_trans (sep_trans (Ent.sep (.eq pkk (own_eq3 (by rw [List.length_append, htl]) rfl (by unfold bsl; simp)) (.pick pkk (.pick pkk .same)))) (sd_b (l := (x.e (1 - k)).b ++ bs.take kn) (a := ad65) (c := cap65) hk1)) (sep_trans sq (rw_put hi hn))) ?_; refine sk [(0, _), (1, _), (2, _), (10, _)] hK7 ?_; refine sr fun _ hK12 => ?_
    refine yv y_mv <| yv y_mv <| yv y_mv <| yv (y_to (v' := .int .i64 ((1 - k : Nat) : Int)) (y_subn rfl rfl (by simp only [InK]; omega)) (by (congr 1; omega))) ?_; refine yv y_mv <| yv (y_to (v' := .bool (decide (0 < kn))) (y_gtr rfl rfl) (by (congr 1; simp only [decide_eq_decide]; omega))) ?_; refine callE rfl fk176 (rrise_ct _ b _ n _ (setW_self hx) (1 - k) hk1 (decide (0 < kn)) false) sq ?_; intro _; rw [setW_setW]; refine fk [(10, _)] hK12 ?_; refine sr fun _ hK13 => ?_
    refine yv y_mv <| yv y_as <| fk [(8, _)] hK13 ?_; refine Hd.ret ?_; exact Hd.ret1 rfl () rfl sq
theorem atN_no {o : Option (Nat × Nat)} (h : atN o < 0) : o = none := by
 cases o with
 | none => rfl
 | some p => simp only [atN] at h; omega
theorem atN_yes {o : Option (Nat × Nat)} (h : 0 ≤ atN o) : ∃ n k, o = some (n, k) := by
 cases o with
 | none => simp only [atN] at h; omega
 | some p => exact ⟨p.1, p.2, rfl⟩
theorem rShut_ct (L : List SP) (b : Nat) (w : WA) (hw : WOk w) (fd : Int) : Ct Tryz.prog 66 #[.pointer (some ⟨b, 0, none⟩), .int .i64 fd] (RwP b w :: L) (fun _ : Unit => .int .i64 (shutR w fd).1) (fun _ : Unit => RwP b (shutR w fd).2 :: L) := by
 refine Ct.o2 Tryz.func66 ?_; intro E
 show Hd E 45 _ _ _ _
 refine sr fun _ hK1 => ?_
 refine yv y_as <| fk [(0, _), (1, _)] hK1 ?_; refine sr fun _ hK2 => ?_
 refine yv y_mv <| yv y_mv <| callE rfl fk116 (rat_ct _ b w hw fd) sq ?_; intro _; refine yv y_mv <| yv y_ex <| yv y_ex <| yv y_as <| yv y_as <| fk [(0, _), (5, _), (6, _)] hK2 ?_; refine Hd.seq fun _ hK3 => ?_
 refine sr fun _ hK4 => ?_
 refine yv y_mv <| yv (y_lss rfl rfl) ?_; refine fk [(0, _), (5, _), (6, _), (14, _)] hK4 ?_; refine Hd.cond rfl (fun hc0 => ?_) (fun hc0 => ?_)
 ·try simp only [hyZ] at hc0
  have hno := atN_no hc0
  refine sr fun _ hK5 => ?_
  refine yv y_as <| fk [(4, _)] hK5 ?_; refine Hd.ret <| Hd.thenRet ?_; rw [show shutR w fd = (110, w) by unfold shutR; rw [hno]]; exact Hd.ret1 rfl () rfl sq
 ·try simp only [hyZ] at hc0
  obtain ⟨n, k, hnk⟩ := atN_yes (by omega)
  obtain ⟨_, _, hk, _, x, hx, _, _⟩ := hw.at_lt hnk
  rw [show atN (w.at fd) = (n : Int) by rw [hnk]; rfl, show atK (w.at fd) = (k : Int) by rw [hnk]; rfl]; refine Hd.rw .here (fun i hi => ?_)
  have hrl := rows_n hi
  obtain ⟨j, hrow⟩ := row_at hi hx
  have hn : n < i.1.length := (List.getElem?_eq_some_iff.1 hrow).1
  refine Hd.skip <| Hd.toK hK3 ?_; refine Hd.seq fun _ hK6 => ?_
  refine sr fun _ hK7 => ?_
  refine yv y_mv <| yv y_np <| yv (y_f 0 129 Tryz.underlying133 sz129) ?_; refine yv (y_l1 ag129 rfl) ?_; refine yv y_mv <| yv y_mv <| yv (y_idxR Tryz.underlying129 sz221 rfl rfl (by omega) (by exact RdS.own pkk)) ?_; refine yv (y_fR 0 219 Tryz.underlying221 sz219) ?_; refine yv (y_idxAR Tryz.underlying219 sz218 rfl rfl (by omega)) ?_; refine yv (y_fR 2 4 Tryz.underlying218 sz4) ?_; refine yv (y_rc ag4 rfl hrow hk 2 rfl) ?_; refine yv (y_not rfl) ?_; refine yv y_mv ?_; apply Hd.org 13 27 40 [(0, _), (5, _), (6, _)] rfl sbq
  ·intro _
   simp only [List.take]; refine n1 <| n1 <| n1 <| n1 <| n1 <| n1 <| n1 <| n1 <| n1 <| n1 <| n1 <| n1 <| yv (y_pickT rfl rfl) ?_; refine Hd.nil ?_; exact Hd.mq
  ·intro hg4_27
   try simp only [hyZ] at hg4_27
   simp only [List.take]; refine y2 y_mv <| y2 y_np <| y2 (y_f 0 129 Tryz.underlying133 sz129) ?_; refine y2 (y_l1 ag129 rfl) ?_; refine y2 y_mv <| y2 y_mv <| y2 (y_idxR Tryz.underlying129 sz221 rfl rfl (by omega) (by exact RdS.own pkk)) ?_; refine y2 (y_fR 0 219 Tryz.underlying221 sz219) ?_; refine y2 (y_idxAR Tryz.underlying219 sz218 rfl rfl (by omega)) ?_; refine y2 (y_fR 3 4 Tryz.underlying218 sz4) ?_; refine y2 (y_rc ag4 rfl hrow hk 3 rfl) ?_; refine y2 (y_not rfl) ?_; refine yv (y_pickF rfl rfl) ?_; refine Hd.nil ?_; exact Hd.mq
  simp only [List.drop]; refine fk [(0, _), (5, _), (6, _), (40, _)] hK7 ?_; refine Hd.cond rfl (fun hc1 => ?_) (fun hc1 => ?_)
  ·try simp only [hyZ] at hc1
   have h1 : (x.e k).rd = false ∨ (x.e k).wr = false := by simpa using hc1
   refine sr fun _ hK8 => ?_
   refine yv y_as <| fk [(4, _)] hK8 ?_; refine Hd.ret <| Hd.thenRet ?_; rw [show shutR w fd = (111, w) by unfold shutR; rw [hnk]; dsimp only; rw [hx]; exact if_pos h1]; exact Hd.ret1 rfl () rfl (rw_fold hi)
  ·try simp only [hyZ] at hc1
   have h1 : ¬ ((x.e k).rd = false ∨ (x.e k).wr = false) := by
    rintro (h | h) <;> simp [h] at hc1
   refine Hd.skip <| Hd.toK hK6 ?_; refine sr fun _ hK9 => ?_
   refine yv y_mv <| yv y_mv <| yv y_mv <| Hd.heap (RwP b w :: L) (rw_fold hi) ?_; refine callE rfl fk121 (rshut_ct _ b w n x hx k hk) sq ?_; intro _; refine fk [] hK9 ?_; refine sr fun _ hK10 => ?_
   refine yv y_as <| fk [(4, _)] hK10 ?_; refine Hd.ret ?_; rw [show shutR w fd = (0, w.setW n (shutW x k)) by unfold shutR; rw [hnk]; dsimp only; rw [hx]; exact if_neg h1]; exact Hd.ret1 rfl () rfl sq
theorem rPshut_ct (L : List SP) (b : Nat) (w : WA) (n : Int) : Ct Tryz.prog 128 #[.pointer (some ⟨b, 0, none⟩), .int .i64 n] (RwP b w :: L) (fun _ : Unit => .int .i64 (pshutR w n).1) (fun _ : Unit => RwP b (pshutR w n).2 :: L) := by
 refine Ct.o2 Tryz.func128 ?_; intro E
 show Hd E 14 _ _ _ _
 refine sr fun _ hK1 => ?_
 refine yv y_as <| fk [(0, _), (1, _)] hK1 ?_; refine sr fun _ hK2 => ?_
 refine yv y_mv <| yv y_mv <| callE rfl fk177 (router_ct _ b w n) sq ?_; intro _; refine yv y_as <| fk [(0, _), (1, _), (5, _)] hK2 ?_; refine Hd.seq fun _ hK3 => ?_
 refine sr fun _ hK4 => ?_
 refine yv y_mv <| yv (y_not rfl) ?_; refine fk [(0, _), (1, _), (10, _)] hK4 ?_; refine Hd.cond rfl (fun hc0 => ?_) (fun hc0 => ?_)
 ·try simp only [hyZ] at hc0
  refine sr fun _ hK5 => ?_
  refine yv y_as <| fk [(4, _)] hK5 ?_; refine Hd.ret <| Hd.thenRet ?_
  have hno : outW w n = none := by cases h : outW w n with | none => rfl | some y => rw [h] at hc0; simp at hc0
  rw [show pshutR w n = (116, w) by unfold pshutR; rw [hno]]; exact Hd.ret1 rfl () rfl sq
 ·try simp only [hyZ] at hc0
  obtain ⟨x, ho⟩ : ∃ x, outW w n = some x := by cases h : outW w n with | none => rw [h] at hc0; simp at hc0 | some y => exact ⟨y, rfl⟩
  obtain ⟨h0, hx, _⟩ := outW_some ho
  obtain ⟨k, rfl⟩ : ∃ k : Nat, n = (k : Int) := ⟨n.toNat, by omega⟩
  rw [Int.toNat_natCast] at hx; refine Hd.skip <| Hd.toK hK3 ?_; refine sr fun _ hK6 => ?_
  refine yv y_mv <| yv y_mv <| callE rfl fk121 (rshut_ct _ b w k x hx 1 (by decide)) sq ?_; intro _; refine fk [] hK6 ?_; refine sr fun _ hK7 => ?_
  refine yv y_as <| fk [(4, _)] hK7 ?_; refine Hd.ret ?_; rw [show pshutR w (k : Int) = (0, w.setW k (shutW x 1)) by unfold pshutR; rw [ho]; rfl]; exact Hd.ret1 rfl () rfl sq
theorem rPclose_ct (L : List SP) (b : Nat) (w : WA) (n : Int) : Ct Tryz.prog 130 #[.pointer (some ⟨b, 0, none⟩), .int .i64 n] (RwP b w :: L) (fun _ : Unit => .int .i64 (pcloseR w n).1) (fun _ : Unit => RwP b (pcloseR w n).2 :: L) := by
 refine Ct.o2 Tryz.func130 ?_; intro E
 show Hd E 14 _ _ _ _
 refine sr fun _ hK1 => ?_
 refine yv y_as <| fk [(0, _), (1, _)] hK1 ?_; refine sr fun _ hK2 => ?_
 refine yv y_mv <| yv y_mv <| callE rfl fk177 (router_ct _ b w n) sq ?_; intro _; refine yv y_as <| fk [(0, _), (1, _), (5, _)] hK2 ?_; refine Hd.seq fun _ hK3 => ?_
 refine sr fun _ hK4 => ?_
 refine yv y_mv <| yv (y_not rfl) ?_; refine fk [(0, _), (1, _), (10, _)] hK4 ?_; refine Hd.cond rfl (fun hc0 => ?_) (fun hc0 => ?_)
 ·try simp only [hyZ] at hc0
  refine sr fun _ hK5 => ?_
  refine yv y_as <| fk [(4, _)] hK5 ?_; refine Hd.ret <| Hd.thenRet ?_
  have hno : outW w n = none := by cases h : outW w n with | none => rfl | some y => rw [h] at hc0; simp at hc0
  rw [show pcloseR w n = (116, w) by unfold pcloseR; rw [hno]]; exact Hd.ret1 rfl () rfl sq
 ·try simp only [hyZ] at hc0
  obtain ⟨x, ho⟩ : ∃ x, outW w n = some x := by cases h : outW w n with | none => rw [h] at hc0; simp at hc0 | some y => exact ⟨y, rfl⟩
  obtain ⟨h0, hx, _⟩ := outW_some ho
  obtain ⟨k, rfl⟩ : ∃ k : Nat, n = (k : Int) := ⟨n.toNat, by omega⟩
  rw [Int.toNat_natCast] at hx; refine Hd.skip <| Hd.toK hK3 ?_; refine sr fun _ hK6 => ?_
  refine yv y_mv <| yv y_mv <| callE rfl fk123 (rclose_ct _ b w k x hx 1 (by decide)) sq ?_; intro _; refine fk [] hK6 ?_; refine sr fun _ hK7 => ?_
  refine yv y_as <| fk [(4, _)] hK7 ?_; refine Hd.ret ?_; rw [show pcloseR w (k : Int) = (0, w.setW k (closeW x 1)) by unfold pcloseR; rw [ho]; rfl]; exact Hd.ret1 rfl () rfl sq
theorem rWire_ct (L : List SP) (b : Nat) (w : WA) (hw : WOk w) (fd : Int) : Ct Tryz.prog 79 #[.pointer (some ⟨b, 0, none⟩), .int .i64 fd] (RwP b w :: L) (fun _ : Unit => .tuple #[.int .i64 (wireN (w.at fd)), .int .i64 (fdErr (w.at fd))]) (fun _ : Unit => RwP b w :: L) := by
 refine Ct.o2 Tryz.func79 ?_; intro E
 show Hd E 17 _ _ _ _
 refine sr fun _ hK1 => ?_
 refine yv y_as <| yv y_as <| fk [(0, _), (1, _)] hK1 ?_; refine sr fun _ hK2 => ?_
 refine yv y_mv <| yv y_mv <| callE rfl fk116 (rat_ct _ b w hw fd) sq ?_; intro _; refine yv y_mv <| yv y_ex <| yv y_ex <| yv y_as <| yv y_as <| fk [(6, _)] hK2 ?_; refine Hd.seq fun _ hK3 => ?_
 refine sr fun _ hK4 => ?_
 refine yv y_mv <| yv (y_lss rfl rfl) ?_; refine fk [(6, _), (15, _)] hK4 ?_; refine Hd.cond rfl (fun hc0 => ?_) (fun hc0 => ?_)
 ·try simp only [hyZ] at hc0
  refine sr fun _ hK5 => ?_
  refine yv y_as <| yv y_as <| fk [(4, _), (5, _)] hK5 ?_; refine Hd.ret <| Hd.thenRet ?_
  have hno := atN_no hc0
  rw [hno]; exact Hd.ret2 rfl () rfl rfl rfl sq
 ·try simp only [hyZ] at hc0
  refine Hd.skip <| Hd.toK hK3 ?_; refine sr fun _ hK6 => ?_
  refine yv y_mv <| yv y_as <| yv y_as <| fk [(4, _), (5, _)] hK6 ?_; refine Hd.ret ?_
  obtain ⟨n, k, hnk⟩ := atN_yes (by omega)
  rw [hnk]; exact Hd.ret2 rfl () rfl rfl rfl sq
theorem rPut_ct (L : List SP) (b : Nat) (w : WA) (hw : WOk w) (n : Int) (ad : Option Addr) (m c : Nat) (bs : List UInt8) (hm : bs.length = m) (hR : RdS L 1 ad m (bsl bs)) (hml : m ≤ 70368744177664) (hmc : m ≤ c) : Ct Tryz.prog 124 #[.pointer (some ⟨b, 0, none⟩), .int .i64 n, .slice ad m c] (RwP b w :: L) (fun _ : Unit => .tuple #[.int .i64 (putR w n bs).1.1, .int .i64 (putR w n bs).1.2]) (fun _ : Unit => RwP b (putR w n bs).2 :: L) := by
 refine Ct.o3 Tryz.func124 ?_; intro E
 show Hd E 49 _ _ _ _
 refine sr fun _ hK1 => ?_
 refine yv y_as <| yv y_as <| fk [(0, _), (1, _), (2, _)] hK1 ?_; refine sr fun _ hK2 => ?_
 refine yv y_mv <| yv y_mv <| callE rfl fk177 (router_ct _ b w n) sq ?_; intro _; refine yv y_as <| fk [(0, _), (1, _), (2, _), (8, _)] hK2 ?_; refine Hd.seq fun _ hK3 => ?_
 refine sr fun _ hK4 => ?_
 refine yv y_mv <| yv (y_not rfl) ?_; refine fk [(0, _), (1, _), (2, _), (13, _)] hK4 ?_; refine Hd.cond rfl (fun hc0 => ?_) (fun hc0 => ?_)
 ·try simp only [hyZ] at hc0
  refine sr fun _ hK5 => ?_
  refine yv y_as <| yv y_as <| fk [(6, _), (7, _)] hK5 ?_; refine Hd.ret <| Hd.thenRet ?_
  have hno : outW w n = none := by cases h : outW w n with | none => rfl | some y => rw [h] at hc0; simp at hc0
  rw [show putR w n bs = ((0, 116), w) by unfold putR; rw [hno]]; exact Hd.ret2 rfl () rfl rfl rfl sq
 ·try simp only [hyZ] at hc0
  obtain ⟨x, ho⟩ : ∃ x, outW w n = some x := by cases h : outW w n with | none => rw [h] at hc0; simp at hc0 | some y => exact ⟨y, rfl⟩
  obtain ⟨h0, hx, _⟩ := outW_some ho
  obtain ⟨k, rfl⟩ : ∃ k : Nat, n = (k : Int) := ⟨n.toNat, by omega⟩
  rw [Int.toNat_natCast] at hx
  have hwf := hw.wf x (List.mem_of_getElem? hx)
  refine Hd.rw .here (fun i hi => ?_)
  have hrl := rows_n hi
  obtain ⟨j, hrow⟩ := row_at hi hx
  have hn : k < i.1.length := (List.getElem?_eq_some_iff.1 hrow).1
  refine Hd.skip <| Hd.toK hK3 ?_; refine Hd.seq fun _ hK6 => ?_
  refine sr fun _ hK7 => ?_
  refine yv y_mv <| yv y_np <| yv (y_f 0 129 Tryz.underlying133 sz129) ?_; refine yv (y_l1 ag129 rfl) ?_; refine yv y_mv <| yv (y_idxR Tryz.underlying129 sz221 rfl rfl (by omega) (by exact RdS.own pkk)) ?_; refine yv (y_fR 17 4 Tryz.underlying221 sz4) ?_; refine yv (y_rw ag4 rfl hrow 17 rfl) ?_; refine fk [(0, _), (1, _), (2, _), (21, _)] hK7 ?_; refine Hd.cond rfl (fun hc1 => ?_) (fun hc1 => ?_)
  ·try simp only [hyZ] at hc1
   refine sr fun _ hK8 => ?_
   refine yv y_as <| yv y_as <| fk [(6, _), (7, _)] hK8 ?_; refine Hd.ret <| Hd.thenRet ?_; rw [show putR w (k : Int) bs = ((0, 115), w) by unfold putR; rw [ho]; exact if_pos hc1]; exact Hd.ret2 rfl () rfl rfl rfl (rw_fold hi)
  ·try simp only [hyZ] at hc1
   refine Hd.skip <| Hd.toK hK6 ?_; refine Hd.seq fun _ hK9 => ?_
   refine sr fun _ hK10 => ?_
   refine yv y_mv <| yv y_np <| yv (y_f 0 129 Tryz.underlying133 sz129) ?_; refine yv (y_l1 ag129 rfl) ?_; refine yv y_mv <| yv (y_idxR Tryz.underlying129 sz221 rfl rfl (by omega) (by exact RdS.own pkk)) ?_; refine yv (y_fR 0 219 Tryz.underlying221 sz219) ?_; refine yv (y_idxAR Tryz.underlying219 sz218 rfl rfl (by decide)) ?_; refine yv (y_f 5 4 Tryz.underlying218 sz4) ?_; refine yv (y_rc (o := k * 20 + 0 + 1 * 8 + 5) ag4 rfl hrow (show 1 < 2 from Nat.lt_succ_self 1) 5 rfl) ?_; refine yv y_mv ?_; apply Hd.org 12 32 44 [(0, _), (1, _), (2, _)] rfl sbq
   ·intro _
    simp only [List.take]; refine n1 <| n1 <| n1 <| n1 <| n1 <| n1 <| n1 <| n1 <| n1 <| n1 <| n1 <| yv (y_pickT rfl rfl) ?_; refine Hd.nil ?_; exact Hd.mq
   ·intro hg6_32
    try simp only [hyZ] at hg6_32
    simp only [List.take]; refine y2 y_mv <| y2 y_np <| y2 (y_f 0 129 Tryz.underlying133 sz129) ?_; refine y2 (y_l1 ag129 rfl) ?_; refine y2 y_mv <| y2 (y_idxR Tryz.underlying129 sz221 rfl rfl (by omega) (by exact RdS.own pkk)) ?_; refine y2 (y_fR 0 219 Tryz.underlying221 sz219) ?_; refine y2 (y_idxAR Tryz.underlying219 sz218 rfl rfl (by decide)) ?_; refine y2 (y_fR 0 3 Tryz.underlying218 sz3) ?_; refine y2 (y_rc (o := k * 20 + 0 + 0 * 8 + 0) ag3 rfl hrow (show 0 < 2 from Nat.succ_pos 1) 0 rfl) ?_; refine y2 (y_eql rfl rfl) ?_; refine yv (y_pickF rfl rfl) ?_; refine Hd.nil ?_; exact Hd.mq
   simp only [List.drop]; refine fk [(0, _), (1, _), (2, _), (44, _)] hK10 ?_; refine Hd.cond rfl (fun hc2 => ?_) (fun hc2 => ?_)
   ·try simp only [hyZ] at hc2
    have h2 : (x.e 1).shut = true ∨ (x.e 0).what = 3 := by simpa using hc2
    refine sr fun _ hK11 => ?_
    refine yv y_as <| yv y_as <| fk [(6, _), (7, _)] hK11 ?_; refine Hd.ret <| Hd.thenRet ?_; rw [show putR w (k : Int) bs = ((0, 114), w) by unfold putR; rw [ho]; dsimp only; rw [if_neg (by rw [hc1]; decide), if_pos h2]]; exact Hd.ret2 rfl () rfl rfl rfl (rw_fold hi)
   ·try simp only [hyZ] at hc2
    have h2 : ¬ ((x.e 1).shut = true ∨ (x.e 0).what = 3) := by
     rintro (h | h) <;> simp [h] at hc2
    refine Hd.skip <| Hd.toK hK9 ?_; refine sr fun _ hK12 => ?_
    refine yv y_mv <| yv y_mv <| yv y_mv <| Hd.heap (RwP b w :: L) (rw_fold hi) ?_; refine callE rfl fk119 (rfill_ct L b w k x hx hwf 1 (by decide) ad m c bs hm hR hml hmc) sq ?_; intro _; refine yv y_as <| yv y_as <| fk [(6, _), (7, _)] hK12 ?_; refine Hd.ret ?_; rw [show putR w (k : Int) bs = ((((putN x 1 bs : Nat) : Int), 0), w.setW k (putW x 1 bs)) by unfold putR; rw [ho]; dsimp only; rw [if_neg (by rw [hc1]; decide), if_neg h2]; rfl]; exact Hd.ret2 rfl () rfl rfl rfl sq
theorem rTake_ct (L : List SP) (b : Nat) (w : WA) (n many : Int) : Ct Tryz.prog 126 #[.pointer (some ⟨b, 0, none⟩), .int .i64 n, .int .i64 many] (RwP b w :: L) (fun q_ : Option Addr × Nat => .tuple #[.slice q_.1 (takR w n many).1.1.length q_.2, .int .i64 (takR w n many).1.2]) (fun q_ : Option Addr × Nat => own 5 1 q_.1 (takR w n many).1.1.length (takR w n many).1.1.length (bsl (takR w n many).1.1) :: RwP b (takR w n many).2 :: L) := by
 refine Ct.o3 Tryz.func126 ?_; intro E
 show Hd E 28 _ _ _ _
 refine sr fun _ hK1 => ?_
 refine yv y_as <| yv y_as <| fk [(0, _), (1, _), (2, _)] hK1 ?_; refine sr fun _ hK2 => ?_
 refine yv y_mv <| yv y_mv <| callE rfl fk177 (router_ct _ b w n) sq ?_; intro _; refine yv y_as <| fk [(0, _), (1, _), (2, _), (8, _)] hK2 ?_; refine Hd.seq fun _ hK3 => ?_
 refine sr fun _ hK4 => ?_
 refine yv y_mv <| yv (y_not rfl) ?_; refine fk [(0, _), (1, _), (2, _), (13, _)] hK4 ?_; refine Hd.cond rfl (fun hc0 => ?_) (fun hc0 => ?_)
 ·try simp only [hyZ] at hc0
  refine sr fun _ hK5 => ?_
  refine yv y_as <| yv y_as <| fk [(6, _), (7, _)] hK5 ?_; refine Hd.ret <| Hd.thenRet ?_
  have hno : outW w n = none := by cases h : outW w n with | none => rfl | some y => rw [h] at hc0; simp at hc0
  rw [show takR w n many = (([], 116), w) by unfold takR; rw [hno]]; exact Hd.ret2 rfl (none, 0) rfl rfl rfl (Ent.sep (.ownNil .same))
 ·try simp only [hyZ] at hc0
  obtain ⟨x, ho⟩ : ∃ x, outW w n = some x := by cases h : outW w n with | none => rw [h] at hc0; simp at hc0 | some y => exact ⟨y, rfl⟩
  obtain ⟨h0, hx, _⟩ := outW_some ho
  obtain ⟨k, rfl⟩ : ∃ k : Nat, n = (k : Int) := ⟨n.toNat, by omega⟩
  rw [Int.toNat_natCast] at hx; refine Hd.skip <| Hd.toK hK3 ?_; refine Hd.seq fun _ hK6 => ?_
  refine sr fun _ hK7 => ?_
  refine yv y_mv <| yv (y_lss rfl rfl) ?_; refine fk [(0, _), (1, _), (2, _), (15, _)] hK7 ?_; refine Hd.cond rfl (fun hc1 => ?_) (fun hc1 => ?_)
  ·try simp only [hyZ] at hc1
   refine sr fun _ hK8 => ?_
   refine yv y_as <| yv y_as <| fk [(6, _), (7, _)] hK8 ?_; refine Hd.ret <| Hd.thenRet ?_; rw [show takR w (k : Int) many = (([], 2), w) by unfold takR; rw [ho]; exact if_pos hc1]; exact Hd.ret2 rfl (none, 0) rfl rfl rfl (Ent.sep (.ownNil .same))
  ·try simp only [hyZ] at hc1
   refine Hd.rw .here (fun i hi => ?_)
   have hrl := rows_n hi
   obtain ⟨j, hrow⟩ := row_at hi hx
   have hn : k < i.1.length := (List.getElem?_eq_some_iff.1 hrow).1
   refine Hd.skip <| Hd.toK hK6 ?_; refine Hd.seq fun _ hK9 => ?_
   refine sr fun _ hK10 => ?_
   refine yv y_mv <| yv y_np <| yv (y_f 0 129 Tryz.underlying133 sz129) ?_; refine yv (y_l1 ag129 rfl) ?_; refine yv y_mv <| yv (y_idxR Tryz.underlying129 sz221 rfl rfl (by omega) (by exact RdS.own pkk)) ?_; refine yv (y_fR 17 4 Tryz.underlying221 sz4) ?_; refine yv (y_rw ag4 rfl hrow 17 rfl) ?_; refine fk [(0, _), (1, _), (2, _), (23, _)] hK10 ?_; refine Hd.cond rfl (fun hc2 => ?_) (fun hc2 => ?_)
   ·try simp only [hyZ] at hc2
    refine sr fun _ hK11 => ?_
    refine yv y_as <| yv y_as <| fk [(6, _), (7, _)] hK11 ?_; refine Hd.ret <| Hd.thenRet ?_; rw [show takR w (k : Int) many = (([], 115), w) by unfold takR; rw [ho]; dsimp only; rw [if_neg (by omega), if_pos hc2]]; exact Hd.ret2 rfl (none, 0) rfl rfl rfl (fun q s => Ent.sep (.ownNil .same) q (rw_fold hi q s))
   ·try simp only [hyZ] at hc2
    refine Hd.skip <| Hd.toK hK9 ?_; refine sr fun _ hK12 => ?_
    refine yv y_mv <| yv y_mv <| yv y_mv <| Hd.heap (RwP b w :: L) (rw_fold hi) ?_; refine callE rfl fk118 (rget_ct _ b w k x hx 1 (by decide) many (by omega)) sq ?_; rintro ⟨ad, c⟩; dsimp only; refine yv y_as <| yv y_as <| fk [(6, _), (7, _)] hK12 ?_; refine Hd.ret ?_; rw [show takR w (k : Int) many = (((x.e 1).b.take many.toNat, 0), w.setW k (takeW x 1 many.toNat)) by unfold takR; rw [ho]; dsimp only; rw [if_neg (by omega), if_neg (by rw [hc2]; decide)]; rfl]; exact Hd.ret2 rfl (ad, c) rfl rfl rfl sq
theorem rRead_ct (L : List SP) (b : Nat) (w : WA) (hw : WOk w) (fd many : Int) : Ct Tryz.prog 62 #[.pointer (some ⟨b, 0, none⟩), .int .i64 fd, .int .i64 many] (RwP b w :: L) (fun q_ : Option Addr × Nat => .tuple #[.slice q_.1 (readR w fd many).1.1.length q_.2, .bool (readR w fd many).1.2.1, .int .i64 (readR w fd many).1.2.2]) (fun q_ : Option Addr × Nat => own 5 1 q_.1 (readR w fd many).1.1.length (readR w fd many).1.1.length (bsl (readR w fd many).1.1) :: RwP b (readR w fd many).2 :: L) := by
 refine Ct.o3 Tryz.func62 ?_; intro E
 show Hd E 86 _ _ _ _
 refine sr fun _ hK1 => ?_
 refine yv y_as <| yv y_as <| yv y_as <| fk [(0, _), (1, _), (2, _)] hK1 ?_; refine sr fun _ hK2 => ?_
 refine yv y_mv <| yv y_mv <| callE rfl fk116 (rat_ct _ b w hw fd) sq ?_; intro _; refine yv y_mv <| yv y_ex <| yv y_ex <| yv y_as <| yv y_as <| fk [(0, _), (2, _), (9, _), (10, _)] hK2 ?_; refine Hd.seq fun _ hK3 => ?_
 refine sr fun _ hK4 => ?_
 refine yv y_mv <| yv (y_lss rfl rfl) ?_; refine fk [(0, _), (2, _), (9, _), (10, _), (18, _)] hK4 ?_; refine Hd.cond rfl (fun hc0 => ?_) (fun hc0 => ?_)
 ·try simp only [hyZ] at hc0
  have hno := atN_no hc0
  refine sr fun _ hK5 => ?_
  refine yv y_as <| yv y_as <| yv y_as <| fk [(6, _), (7, _), (8, _)] hK5 ?_; refine Hd.ret <| Hd.thenRet ?_; rw [show readR w fd many = (([], false, 110), w) by unfold readR; rw [hno]]; exact Hd.ret3 rfl (none, 0) rfl rfl rfl rfl (Ent.sep (.ownNil .same))
 ·try simp only [hyZ] at hc0
  obtain ⟨n, k, hnk⟩ := atN_yes (by omega)
  obtain ⟨_, _, hk, _, x, hx, _, _⟩ := hw.at_lt hnk
  rw [show atN (w.at fd) = (n : Int) by rw [hnk]; rfl, show atK (w.at fd) = (k : Int) by rw [hnk]; rfl]
  have hk1 : 1 - k < 2 := by omega
  refine Hd.rw .here (fun i hi => ?_)
  have hrl := rows_n hi
  obtain ⟨j, hrow⟩ := row_at hi hx
  have hn : n < i.1.length := (List.getElem?_eq_some_iff.1 hrow).1
  have hr : readR w fd many = (if (x.e k).rd = false then (([], false, 111), w) else if many < 1 then (([], false, 2), w) else if x.rs = true then (([], false, 115), w)
    else if (x.e k).b ≠ [] then (((x.e k).b.take many.toNat, false, 0), w.setW n (takeW x k many.toNat))
    else if silentW x k = true then (([], true, 0), w) else (([], false, 113), w)) := by unfold readR; rw [hnk]; dsimp only; rw [hx]
  refine Hd.skip <| Hd.toK hK3 ?_; refine Hd.seq fun _ hK6 => ?_
  refine sr fun _ hK7 => ?_
  refine yv y_mv <| yv y_np <| yv (y_f 0 129 Tryz.underlying133 sz129) ?_; refine yv (y_l1 ag129 rfl) ?_; refine yv y_mv <| yv y_mv <| yv (y_idxR Tryz.underlying129 sz221 rfl rfl (by omega) (by exact RdS.own pkk)) ?_; refine yv (y_fR 0 219 Tryz.underlying221 sz219) ?_; refine yv (y_idxAR Tryz.underlying219 sz218 rfl rfl (by omega)) ?_; refine yv (y_fR 2 4 Tryz.underlying218 sz4) ?_; refine yv (y_rc ag4 rfl hrow hk 2 rfl) ?_; refine yv (y_not rfl) ?_; refine fk [(0, _), (2, _), (9, _), (10, _), (30, _)] hK7 ?_; refine Hd.cond rfl (fun hc1 => ?_) (fun hc1 => ?_)
  ·try simp only [hyZ] at hc1
   have h1 : (x.e k).rd = false := by simpa using hc1
   refine sr fun _ hK8 => ?_
   refine yv y_as <| yv y_as <| yv y_as <| fk [(6, _), (7, _), (8, _)] hK8 ?_; refine Hd.ret <| Hd.thenRet ?_; rw [hr, if_pos h1]; exact Hd.ret3 rfl (none, 0) rfl rfl rfl rfl (fun q s => Ent.sep (.ownNil .same) q (rw_fold hi q s))
  ·try simp only [hyZ] at hc1
   have h1 : ¬ ((x.e k).rd = false) := by simpa using hc1
   refine Hd.skip <| Hd.toK hK6 ?_; refine Hd.seq fun _ hK9 => ?_
   refine sr fun _ hK10 => ?_
   refine yv y_mv <| yv (y_lss rfl rfl) ?_; refine fk [(0, _), (2, _), (9, _), (10, _), (32, _)] hK10 ?_; refine Hd.cond rfl (fun hc2 => ?_) (fun hc2 => ?_)
   ·try simp only [hyZ] at hc2
    refine sr fun _ hK11 => ?_
    refine yv y_as <| yv y_as <| yv y_as <| fk [(6, _), (7, _), (8, _)] hK11 ?_; refine Hd.ret <| Hd.thenRet ?_; rw [hr, if_neg h1, if_pos hc2]; exact Hd.ret3 rfl (none, 0) rfl rfl rfl rfl (fun q s => Ent.sep (.ownNil .same) q (rw_fold hi q s))
   ·try simp only [hyZ] at hc2
    have h2 : ¬ (many < 1) := by omega
    refine Hd.skip <| Hd.toK hK9 ?_; refine Hd.seq fun _ hK12 => ?_
    refine sr fun _ hK13 => ?_
    refine yv y_mv <| yv y_np <| yv (y_f 0 129 Tryz.underlying133 sz129) ?_; refine yv (y_l1 ag129 rfl) ?_; refine yv y_mv <| yv (y_idxR Tryz.underlying129 sz221 rfl rfl (by omega) (by exact RdS.own pkk)) ?_; refine yv (y_fR 17 4 Tryz.underlying221 sz4) ?_; refine yv (y_rw ag4 rfl hrow 17 rfl) ?_; refine fk [(0, _), (2, _), (9, _), (10, _), (40, _)] hK13 ?_; refine Hd.cond rfl (fun hc3 => ?_) (fun hc3 => ?_)
    ·try simp only [hyZ] at hc3
     refine sr fun _ hK14 => ?_
     refine yv y_as <| yv y_as <| yv y_as <| fk [(6, _), (7, _), (8, _)] hK14 ?_; refine Hd.ret <| Hd.thenRet ?_; rw [hr, if_neg h1, if_neg h2, if_pos hc3]; exact Hd.ret3 rfl (none, 0) rfl rfl rfl rfl (fun q s => Ent.sep (.ownNil .same) q (rw_fold hi q s))
    ·try simp only [hyZ] at hc3
     have h3 : ¬ (x.rs = true) := by rw [hc3]; decide
     refine Hd.skip <| Hd.toK hK12 ?_; refine Hd.seq fun _ hK15 => ?_
     refine sr fun _ hK16 => ?_
     refine yv y_mv <| yv y_np <| yv (y_f 0 129 Tryz.underlying133 sz129) ?_; refine yv (y_l1 ag129 rfl) ?_; refine yv y_mv <| yv y_mv <| yv (y_idxR Tryz.underlying129 sz221 rfl rfl (by omega) (by exact RdS.own pkk)) ?_; refine yv (y_fR 0 219 Tryz.underlying221 sz219) ?_; refine yv (y_idxAR Tryz.underlying219 sz218 rfl rfl (by omega)) ?_; refine yv (y_fR 4 31 Tryz.underlying218 sz31) ?_; refine yv (y_rc ag31 rfl hrow hk 4 rfl) ?_; refine yv (y_len Tryz.underlying31 rfl) ?_; refine yv (y_gtr rfl rfl) ?_; refine fk [(0, _), (2, _), (9, _), (10, _), (53, _)] hK16 ?_; refine Hd.cond rfl (fun hc4 => ?_) (fun hc4 => ?_)
     ·try simp only [hyZ] at hc4
      have h4 : (x.e k).b ≠ [] := fun h => by rw [h] at hc4; simp at hc4
      refine sr fun _ hK17 => ?_
      refine yv y_mv <| yv y_mv <| yv y_mv <| yv y_mv <| Hd.heap (RwP b w :: L) (rw_fold hi) ?_; refine callE rfl fk118 (rget_ct _ b w n x hx k hk many (by omega)) sq ?_; rintro ⟨ad, c⟩; dsimp only; refine yv y_as <| yv y_as <| yv y_as <| fk [(6, _), (7, _), (8, _)] hK17 ?_; refine Hd.ret <| Hd.thenRet ?_; rw [hr, if_neg h1, if_neg h2, if_neg h3, if_pos h4]; exact Hd.ret3 rfl (ad, c) rfl rfl rfl rfl sq
     ·try simp only [hyZ] at hc4
      have h4 : ¬ ((x.e k).b ≠ []) := fun h => h (List.eq_nil_of_length_eq_zero (by omega))
      refine Hd.skip <| Hd.toK hK15 ?_; refine Hd.seq fun _ hK18 => ?_
      refine sr fun _ hK19 => ?_
      refine yv y_mv <| yv y_np <| yv (y_f 0 129 Tryz.underlying133 sz129) ?_; refine yv (y_l1 ag129 rfl) ?_; refine yv y_mv <| yv y_mv <| yv (y_to (v' := .int .i64 ((1 - k : Nat) : Int)) (y_subn rfl rfl (by simp only [InK]; omega)) (by (congr 1; omega))) ?_; refine yv (y_idxR Tryz.underlying129 sz221 rfl rfl (by omega) (by exact RdS.own pkk)) ?_; refine yv (y_fR 0 219 Tryz.underlying221 sz219) ?_; refine yv (y_idxAR Tryz.underlying219 sz218 rfl rfl (by omega)) ?_; refine yv (y_fR 0 3 Tryz.underlying218 sz3) ?_; refine yv (y_rc ag3 rfl hrow hk1 0 rfl) ?_; refine yv (y_eql rfl rfl) ?_; refine yv y_mv ?_; apply Hd.org 13 72 85 [] rfl sbq
      ·intro _
       simp only [List.take]; refine n1 <| n1 <| n1 <| n1 <| n1 <| n1 <| n1 <| n1 <| n1 <| n1 <| n1 <| n1 <| yv (y_pickT rfl rfl) ?_; refine Hd.nil ?_; exact Hd.mq
      ·intro hg12_72
       try simp only [hyZ] at hg12_72
       simp only [List.take]; refine y2 y_mv <| y2 y_np <| y2 (y_f 0 129 Tryz.underlying133 sz129) ?_; refine y2 (y_l1 ag129 rfl) ?_; refine y2 y_mv <| y2 y_mv <| y2 (y_to (v' := .int .i64 ((1 - k : Nat) : Int)) (y_subn rfl rfl (by simp only [InK]; omega)) (by (congr 1; omega))) ?_; refine y2 (y_idxR Tryz.underlying129 sz221 rfl rfl (by omega) (by exact RdS.own pkk)) ?_; refine y2 (y_fR 0 219 Tryz.underlying221 sz219) ?_; refine y2 (y_idxAR Tryz.underlying219 sz218 rfl rfl (by omega)) ?_; refine y2 (y_fR 5 4 Tryz.underlying218 sz4) ?_; refine y2 (y_rc ag4 rfl hrow hk1 5 rfl) ?_; refine yv (y_pickF rfl rfl) ?_; refine Hd.nil ?_; exact Hd.mq
      simp only [List.drop]; refine fk [(85, _)] hK19 ?_; refine Hd.cond rfl (fun hc5 => ?_) (fun hc5 => ?_)
      ·try simp only [hyZ] at hc5
       have h5 : silentW x k = true := by unfold silentW; simpa using hc5
       refine sr fun _ hK20 => ?_
       refine yv y_as <| yv y_as <| yv y_as <| fk [(6, _), (7, _), (8, _)] hK20 ?_; refine Hd.ret <| Hd.thenRet ?_; rw [hr, if_neg h1, if_neg h2, if_neg h3, if_neg h4, if_pos h5]; exact Hd.ret3 rfl (none, 0) rfl rfl rfl rfl (fun q s => Ent.sep (.ownNil .same) q (rw_fold hi q s))
      ·try simp only [hyZ] at hc5
       have h5 : ¬ (silentW x k = true) := by unfold silentW; simp [hc5.1, hc5.2]
       refine Hd.skip <| Hd.toK hK18 ?_; refine sr fun _ hK21 => ?_
       refine yv y_as <| yv y_as <| yv y_as <| fk [(6, _), (7, _), (8, _)] hK21 ?_; refine Hd.ret ?_; rw [hr, if_neg h1, if_neg h2, if_neg h3, if_neg h4, if_neg h5]; exact Hd.ret3 rfl (none, 0) rfl rfl rfl rfl (fun q s => Ent.sep (.ownNil .same) q (rw_fold hi q s))
theorem rWrite_ct (L : List SP) (b : Nat) (w : WA) (hw : WOk w) (fd : Int) (ad : Option Addr) (m c : Nat) (bs : List UInt8) (hm : bs.length = m) (hR : RdS L 1 ad m (bsl bs)) (hml : m ≤ 70368744177664) (hmc : m ≤ c) : Ct Tryz.prog 64 #[.pointer (some ⟨b, 0, none⟩), .int .i64 fd, .slice ad m c] (RwP b w :: L) (fun _ : Unit => .tuple #[.int .i64 (writeR w fd bs).1.1, .int .i64 (writeR w fd bs).1.2]) (fun _ : Unit => RwP b (writeR w fd bs).2 :: L) := by
 refine Ct.o3 Tryz.func64 ?_; intro E
 show Hd E 76 _ _ _ _
 refine sr fun _ hK1 => ?_
 refine yv y_as <| yv y_as <| fk [(0, _), (1, _), (2, _)] hK1 ?_; refine sr fun _ hK2 => ?_
 refine yv y_mv <| yv y_mv <| callE rfl fk116 (rat_ct _ b w hw fd) sq ?_; intro _; refine yv y_mv <| yv y_ex <| yv y_ex <| yv y_as <| yv y_as <| fk [(0, _), (2, _), (8, _), (9, _)] hK2 ?_; refine Hd.seq fun _ hK3 => ?_
 refine sr fun _ hK4 => ?_
 refine yv y_mv <| yv (y_lss rfl rfl) ?_; refine fk [(0, _), (2, _), (8, _), (9, _), (18, _)] hK4 ?_; refine Hd.cond rfl (fun hc0 => ?_) (fun hc0 => ?_)
 ·try simp only [hyZ] at hc0
  have hno := atN_no hc0
  refine sr fun _ hK5 => ?_
  refine yv y_as <| yv y_as <| fk [(6, _), (7, _)] hK5 ?_; refine Hd.ret <| Hd.thenRet ?_; rw [show writeR w fd bs = ((0, 110), w) by unfold writeR; rw [hno]]; exact Hd.ret2 rfl () rfl rfl rfl sq
 ·try simp only [hyZ] at hc0
  obtain ⟨n, k, hnk⟩ := atN_yes (by omega)
  obtain ⟨_, _, hk, _, x, hx, _, _⟩ := hw.at_lt hnk
  have hwf := hw.wf x (List.mem_of_getElem? hx)
  rw [show atN (w.at fd) = (n : Int) by rw [hnk]; rfl, show atK (w.at fd) = (k : Int) by rw [hnk]; rfl]
  have hk1 : 1 - k < 2 := by omega
  refine Hd.rw .here (fun i hi => ?_)
  have hrl := rows_n hi
  obtain ⟨j, hrow⟩ := row_at hi hx
  have hn : n < i.1.length := (List.getElem?_eq_some_iff.1 hrow).1
  have hr : writeR w fd bs = (if (x.e k).wr = false then ((0, 111), w) else if x.rs = true then ((0, 115), w) else if (x.e k).shut = true ∨ (x.e (1 - k)).what = 3 then ((0, 114), w)
    else if bs.length = 0 then ((0, 0), w) else if putN x k bs = 0 then ((0, 113), w) else ((((putN x k bs : Nat) : Int), 0), w.setW n (putW x k bs))) := by unfold writeR; rw [hnk]; dsimp only; rw [hx]
  refine Hd.skip <| Hd.toK hK3 ?_; refine Hd.seq fun _ hK6 => ?_
  refine sr fun _ hK7 => ?_
  refine yv y_mv <| yv y_np <| yv (y_f 0 129 Tryz.underlying133 sz129) ?_; refine yv (y_l1 ag129 rfl) ?_; refine yv y_mv <| yv y_mv <| yv (y_idxR Tryz.underlying129 sz221 rfl rfl (by omega) (by exact RdS.own pkk)) ?_; refine yv (y_fR 0 219 Tryz.underlying221 sz219) ?_; refine yv (y_idxAR Tryz.underlying219 sz218 rfl rfl (by omega)) ?_; refine yv (y_fR 3 4 Tryz.underlying218 sz4) ?_; refine yv (y_rc ag4 rfl hrow hk 3 rfl) ?_; refine yv (y_not rfl) ?_; refine fk [(0, _), (2, _), (8, _), (9, _), (30, _)] hK7 ?_; refine Hd.cond rfl (fun hc1 => ?_) (fun hc1 => ?_)
  ·try simp only [hyZ] at hc1
   have h1 : (x.e k).wr = false := by simpa using hc1
   refine sr fun _ hK8 => ?_
   refine yv y_as <| yv y_as <| fk [(6, _), (7, _)] hK8 ?_; refine Hd.ret <| Hd.thenRet ?_; rw [hr, if_pos h1]; exact Hd.ret2 rfl () rfl rfl rfl (rw_fold hi)
  ·try simp only [hyZ] at hc1
   have h1 : ¬ ((x.e k).wr = false) := by simpa using hc1
   refine Hd.skip <| Hd.toK hK6 ?_; refine Hd.seq fun _ hK9 => ?_
   refine sr fun _ hK10 => ?_
   refine yv y_mv <| yv y_np <| yv (y_f 0 129 Tryz.underlying133 sz129) ?_; refine yv (y_l1 ag129 rfl) ?_; refine yv y_mv <| yv (y_idxR Tryz.underlying129 sz221 rfl rfl (by omega) (by exact RdS.own pkk)) ?_; refine yv (y_fR 17 4 Tryz.underlying221 sz4) ?_; refine yv (y_rw ag4 rfl hrow 17 rfl) ?_; refine fk [(0, _), (2, _), (8, _), (9, _), (38, _)] hK10 ?_; refine Hd.cond rfl (fun hc2 => ?_) (fun hc2 => ?_)
   ·try simp only [hyZ] at hc2
    refine sr fun _ hK11 => ?_
    refine yv y_as <| yv y_as <| fk [(6, _), (7, _)] hK11 ?_; refine Hd.ret <| Hd.thenRet ?_; rw [hr, if_neg h1, if_pos hc2]; exact Hd.ret2 rfl () rfl rfl rfl (rw_fold hi)
   ·try simp only [hyZ] at hc2
    have h2 : ¬ (x.rs = true) := by rw [hc2]; decide
    refine Hd.skip <| Hd.toK hK9 ?_; refine Hd.seq fun _ hK12 => ?_
    refine sr fun _ hK13 => ?_
    refine yv y_mv <| yv y_np <| yv (y_f 0 129 Tryz.underlying133 sz129) ?_; refine yv (y_l1 ag129 rfl) ?_; refine yv y_mv <| yv y_mv <| yv (y_idxR Tryz.underlying129 sz221 rfl rfl (by omega) (by exact RdS.own pkk)) ?_; refine yv (y_fR 0 219 Tryz.underlying221 sz219) ?_; refine yv (y_idxAR Tryz.underlying219 sz218 rfl rfl (by omega)) ?_; refine yv (y_fR 5 4 Tryz.underlying218 sz4) ?_; refine yv (y_rc ag4 rfl hrow hk 5 rfl) ?_; refine yv y_mv ?_; apply Hd.org 14 50 64 [(0, _), (2, _), (8, _), (9, _)] rfl sbq
    ·intro _
     simp only [List.take]; refine n1 <| n1 <| n1 <| n1 <| n1 <| n1 <| n1 <| n1 <| n1 <| n1 <| n1 <| n1 <| n1 <| yv (y_pickT rfl rfl) ?_; refine Hd.nil ?_; exact Hd.mq
    ·intro hg8_50
     try simp only [hyZ] at hg8_50
     simp only [List.take]; refine y2 y_mv <| y2 y_np <| y2 (y_f 0 129 Tryz.underlying133 sz129) ?_; refine y2 (y_l1 ag129 rfl) ?_; refine y2 y_mv <| y2 y_mv <| y2 (y_to (v' := .int .i64 ((1 - k : Nat) : Int)) (y_subn rfl rfl (by simp only [InK]; omega)) (by (congr 1; omega))) ?_; refine y2 (y_idxR Tryz.underlying129 sz221 rfl rfl (by omega) (by exact RdS.own pkk)) ?_; refine y2 (y_fR 0 219 Tryz.underlying221 sz219) ?_; refine y2 (y_idxAR Tryz.underlying219 sz218 rfl rfl (by omega)) ?_; refine y2 (y_fR 0 3 Tryz.underlying218 sz3) ?_; refine y2 (y_rc ag3 rfl hrow hk1 0 rfl) ?_; refine y2 (y_eql rfl rfl) ?_; refine yv (y_pickF rfl rfl) ?_; refine Hd.nil ?_; exact Hd.mq
    simp only [List.drop]; refine fk [(0, _), (2, _), (8, _), (9, _), (64, _)] hK13 ?_; refine Hd.cond rfl (fun hc3 => ?_) (fun hc3 => ?_)
    ·try simp only [hyZ] at hc3
     have h3 : (x.e k).shut = true ∨ (x.e (1 - k)).what = 3 := by simpa using hc3
     refine sr fun _ hK14 => ?_
     refine yv y_as <| yv y_as <| fk [(6, _), (7, _)] hK14 ?_; refine Hd.ret <| Hd.thenRet ?_; rw [hr, if_neg h1, if_neg h2, if_pos h3]; exact Hd.ret2 rfl () rfl rfl rfl (rw_fold hi)
    ·try simp only [hyZ] at hc3
     have h3 : ¬ ((x.e k).shut = true ∨ (x.e (1 - k)).what = 3) := by
      rintro (h | h) <;> simp [h] at hc3
     refine Hd.skip <| Hd.toK hK12 ?_; refine Hd.seq fun _ hK15 => ?_
     refine sr fun _ hK16 => ?_
     refine yv y_mv <| yv (y_len Tryz.underlying31 rfl) ?_; refine yv (y_eql rfl rfl) ?_; refine fk [(0, _), (2, _), (8, _), (9, _), (67, _)] hK16 ?_; refine Hd.cond rfl (fun hc4 => ?_) (fun hc4 => ?_)
     ·try simp only [hyZ] at hc4
      have h4 : bs.length = 0 := by omega
      refine sr fun _ hK17 => ?_
      refine yv y_as <| yv y_as <| fk [(6, _), (7, _)] hK17 ?_; refine Hd.ret <| Hd.thenRet ?_; rw [hr, if_neg h1, if_neg h2, if_neg h3, if_pos h4]; exact Hd.ret2 rfl () rfl rfl rfl (rw_fold hi)
     ·try simp only [hyZ] at hc4
      have h4 : ¬ (bs.length = 0) := by omega
      refine Hd.skip <| Hd.toK hK15 ?_; refine sr fun _ hK18 => ?_
      refine yv y_mv <| yv y_mv <| yv y_mv <| yv y_mv <| Hd.heap (RwP b w :: L) (rw_fold hi) ?_; refine callE rfl fk119 (rfill_ct L b w n x hx hwf k hk ad m c bs hm hR hml hmc) sq ?_; intro _; refine yv y_as <| fk [(10, _)] hK18 ?_; refine Hd.seq fun _ hK19 => ?_
      refine sr fun _ hK20 => ?_
      refine yv y_mv <| yv (y_eql rfl rfl) ?_; refine fk [(10, _), (74, _)] hK20 ?_; refine Hd.cond rfl (fun hc5 => ?_) (fun hc5 => ?_)
      ·try simp only [hyZ] at hc5
       have h5 : putN x k bs = 0 := by omega
       refine sr fun _ hK21 => ?_
       refine yv y_as <| yv y_as <| fk [(6, _), (7, _)] hK21 ?_; refine Hd.ret <| Hd.thenRet ?_; rw [hr, if_neg h1, if_neg h2, if_neg h3, if_neg h4, if_pos h5]; exact Hd.ret2 rfl () rfl rfl rfl (Ent.sep (.eq pkk (by rw [putW_zero h5, setW_same hx]) enn))
      ·try simp only [hyZ] at hc5
       have h5 : ¬ (putN x k bs = 0) := by omega
       refine Hd.skip <| Hd.toK hK19 ?_; refine sr fun _ hK22 => ?_
       refine yv y_mv <| yv y_as <| yv y_as <| fk [(6, _), (7, _)] hK22 ?_; refine Hd.ret ?_; rw [hr, if_neg h1, if_neg h2, if_neg h3, if_neg h4, if_neg h5]; exact Hd.ret2 rfl () rfl rfl rfl sq
end Rf
end Go.Proofs.YtbfddabjbkohdaaGreat
namespace Go.Proofs.YtbfddabjbkohdaaGreat
set_option maxHeartbeats 2000000
open Go.RX.Hd (yv y2 n1 fk sk sr tH callE heldK onlyH endH thenN slots)
open Go.RX Fx
namespace Wo
set_option maxRecDepth 8000
theorem pass_ct (L : List SP) (wb : Nat) (w : WA) (n : Int) (hn : 0 ≤ n ∧ n ≤ 18446744073709551615) (h0 : 0 ≤ w.now ∧ w.now ≤ 18446744073709551615) : Ct Tryz.prog 135 #[.pointer (some ⟨wb, 0, none⟩), .int .u64 n] (WorldP wb w :: L) (fun _ : Unit => .tuple #[]) (fun _ : Unit => WorldP wb (passR w n) :: L) := by
 refine Ct.o2 Tryz.func135 ?_; intro E
 show Hd E 21 _ _ _ _
 refine Hd.world .here (fun i hw hrs => ?_); refine sr fun _ hK1 => ?_
 refine yv y_mv <| callE rfl fk113 (wnone_ct _ wb w.at w i.rs.length i) sq ?_; intro _; refine yv (y_not rfl) ?_; refine fk [(0, _), (1, _), (6, _)] hK1 ?_; refine Hd.condT rfl ?_; refine Hd.tail 14 mixed kq ?_; simp only [List.take, List.drop]; refine Ht.yv y_mv ?_; refine Ht.yv y_np ?_; refine Ht.yv (y_f 290 30 Tryz.underlying210 sz30) ?_; refine Ht.yv (y_load1 ag30 rfl (Rd.pt1 pkk (by exact woT_at (j := 2) (by omega) rfl))) ?_; refine Ht.yv y_mv ?_; refine Ht.yv y_mv ?_; refine Ht.yv y_np ?_; refine Ht.yv (y_f 290 30 Tryz.underlying210 sz30) ?_; refine Ht.yv (y_load1 ag30 rfl (Rd.pt1 pkk (by exact woT_at (j := 2) (by omega) rfl))) ?_; refine Ht.yv (y_subn rfl rfl (by simp only [InK]; omega)) ?_; refine Ht.yv (y_min rfl rfl) ?_; refine Ht.yv (y_to (v' := .int .u64 (w.now + min n (18446744073709551615 - w.now))) (y_addn rfl rfl (by simp only [InK]; omega)) (by (congr 1))) ?_; refine Ht.yv y_np ?_
 refine Ht.yv (y_f 290 30 Tryz.underlying210 sz30) ?_; refine Ht.nil ?_; refine Hd.store1 sz30 rfl rfl rfl pkk (by rw [List.length_append, fdC_len]; simp; omega) ?_
 try simp only [hyS]
 refine Hd.nil <| slots [] sbq ?_
 have e : (fdC w.at ++ woT w i.rs.length i).set (0 + 290) (.int .u64 (w.now + min n (18446744073709551615 - w.now))) = fdC (passR w n).at ++ woT (passR w n) i.rs.length i := by
  rw [List.set_append_right _ _ (by rw [fdC_len]; decide), fdC_len]; rfl
 exact Hd.end0 rfl () rfl (fun q s => Ent.sep (.ex i (.pure ⟨(pass_ok hw n hn.1).1, hrs⟩ (.eq pkk (pt_eq e) enn))) q s)
def rstW (x : WireA) (k : Nat) : WireA := { x with rs := true, e := fun j => if j < k then riseE true true { x.e j with b := [] } else x.e j }
theorem rst_same (x : WireA) (k j : Nat) : ((rstW x k).e j).rd = (x.e j).rd := by
 show (if j < k then riseE true true { x.e j with b := [] } else x.e j).rd = _
 split <;> rfl
theorem rst_up {x : WireA} {k : Nat} : ((rstW x k).up k fun e => { e with b := [] }).up k (riseE true true) = rstW x (k + 1) := by
 rw [up_up]; unfold rstW WireA.up; dsimp only
 congr 1
 funext j
 by_cases h : j = k
 ·subst h
  rw [if_pos rfl, if_neg (Nat.lt_irrefl j), if_pos (Nat.lt_succ_self j)]
 ·rw [if_neg h]
  by_cases h2 : j < k
  ·rw [if_pos h2, if_pos (by omega)]
  ·rw [if_neg h2, if_neg (by omega)]
theorem wreset_ct (L : List SP) (wb : Nat) (w : WA) (n : Int) : Ct Tryz.prog 131 #[.pointer (some ⟨wb, 0, none⟩), .int .i64 n] (WorldP wb w :: L) (fun _ : Unit => .int .i64 (resetR w n).1) (fun _ : Unit => WorldP wb (resetR w n).2 :: L) := by
 refine Ct.o2 Tryz.func131 ?_; intro E
 show Hd E 41 _ _ _ _
 refine Hd.world .here (fun i hw hrs => ?_); refine sr fun _ hK1 => ?_
 refine yv y_as <| fk [(0, _), (1, _)] hK1 ?_; refine sr fun _ hK2 => ?_
 refine yv y_mv <| yv y_mv <| callE rfl fk111 (outer_ct _ wb w i hw hrs n) sq ?_; intro _; refine yv y_mv <| yv (y_to (v' := ptr (outB i w n)) y_ex (by rfl)) ?_; refine yv (y_to (v' := .int .i64 (outE w n)) y_ex (by rfl)) ?_; refine yv y_as <| yv y_as <| fk [(5, _), (6, _)] hK2 ?_; refine Hd.seq fun _ hK3 => ?_
 refine sr fun _ hK4 => ?_
 refine yv y_mv <| yv (y_neq rfl rfl) ?_; refine yv y_mv <| Hd.part (gd := 16) rfl (fun hg2_16 => ?_) (fun hg2_16 => ?_)
 ·try simp only [hyZ] at hg2_16
  have e := outE_no hg2_16
  refine n1 <| n1 <| n1 <| n1 <| yv (y_pickT rfl rfl) ?_; refine fk [(5, _), (6, _), (21, _)] hK4 ?_; refine Hd.condT rfl ?_; refine sr fun _ hK5 => ?_
  refine yv y_mv <| yv y_as <| fk [(4, _)] hK5 ?_; refine Hd.ret <| Hd.thenRet ?_; rw [show resetR w n = (116, w) by unfold resetR; rw [e]]; exact Hd.ret1 rfl () (by unfold outE; rw [e]; rfl) (Ent.sep (.ex i (.pure ⟨hw, hrs⟩ enn)))
 ·try simp only [hyZ] at hg2_16
  obtain ⟨k, b, x, rfl, hox, hx, hb, h2, hob⟩ := outE_yes hrs hg2_16
  have hwf := hw.wf x (List.mem_of_getElem? hx)
  have hrd : resetR w k = (0, if x.rs = true then w else w.setW k (resetW x)) := by unfold resetR; rw [hox]; rfl
  rw [hob]; refine Hd.wOut pkk hb ?_; refine Hd.wire .here 0 (by omega) (fun i2 hi => ?_); refine y2 y_mv <| y2 y_np <| y2 (y_f 14 4 Tryz.underlying199 sz4) ?_; refine y2 (y_l1 ag4 rfl) ?_; refine yv (y_pickF rfl rfl) ?_; refine fk [(5, _), (6, _), (21, _)] hK4 ?_; refine Hd.cond rfl (fun hc0 => ?_) (fun hc0 => ?_)
  ·try simp only [hyZ] at hc0
   refine sr fun _ hK6 => ?_
   refine yv y_mv <| yv y_as <| fk [(4, _)] hK6 ?_; refine Hd.ret <| Hd.thenRet ?_; rw [hrd, if_pos hc0]; exact Hd.ret1 rfl () (by rw [hg2_16]; rfl) (fun q s => world_back (k := 0) hw hrs hb hi (by omega) q (Ent.sep enn q s))
  ·try simp only [hyZ] at hc0
   rw [if_neg (by rw [hc0]; simp)] at hrd; refine Hd.skip <| Hd.toK hK3 ?_; refine sr fun _ hK7 => ?_
   refine yv y_mv <| yv y_np <| yv (y_f 14 4 Tryz.underlying199 sz4) ?_; refine Hd.store1 sz4 rfl rfl rfl pkk (by simp; done) ?_
   try simp only [hyS]
   refine Hd.nil <| Hd.heap (WireP b (rstW x 0) :: WoR wb k w i L) (fun q s => Ent.sep (.ex (i2, 0) (.pure ⟨⟨fun j hj => by rw [rst_same]; exact hi.rd j hj⟩, by omega⟩ (.eq pkk (pt_eq (by rfl)) (.eq pkk (show RgO (i2.p 0) x.cap (x.e 0).b = RgO (i2.p 0) (rstW x 0).cap ((rstW x 0).e 0).b from rfl) (.eq pkk (show RgO (i2.p (1 - 0)) x.cap (x.e (1 - 0)).b = RgO (i2.p (1 - 0)) (rstW x 0).cap ((rstW x 0).e (1 - 0)).b from rfl) (.eq pkk (show own 3 1 i2.wa x.wt.length i2.wc (nats x.wt) = own 3 1 i2.wa (rstW x 0).wt.length i2.wc (nats (rstW x 0).wt) from rfl) enn)))))) q s) ?_; refine sk [(5, _)] hK7 ?_; refine Hd.seq fun _ hK8 => ?_
   refine sr fun _ hK9 => ?_
   refine yv y_mv <| fk [(5, _), (26, _)] hK9 ?_; refine Hd.block <| Hd.loopK (ι := Nat) [(5, _)] (fun j => [(26, .int .i64 (j : Int))]) (fun j => pu (j ≤ 2) :: WireP b (rstW x j) :: WoR wb k w i L) (fun j => 2 - j) 0 sbq sbq (Ent.sep (.pure (by omega) enn)) ?_; intro j
   try dsimp only
   refine Hd.pure (fun hp0 => ?_)
   try dsimp only at hp0
   refine sr fun _ hK10 => ?_
   refine yv (y_lss rfl rfl) ?_; refine fk [(5, _), (26, _), (27, _)] hK10 ?_; refine Hd.seq fun _ hK11 => ?_
   refine Hd.cond rfl (fun hc1 => ?_) (fun hc1 => ?_)
   ·try simp only [hyZ] at hc1
    have hj : j < 2 := by omega
    have hrj : ((rstW x j).e j).rd = true := by
     rw [rst_same]
     rcases (show j = 0 ∨ j = 1 by omega) with rfl | rfl
     ·exact (hwf.ou h2).1
     ·exact (hwf.ou h2).2
    refine Hd.skip <| Hd.toK hK11 ?_; refine Hd.seq fun _ hK12 => ?_
    refine Hd.block <| sr fun _ hK13 => ?_
    refine yv y_mv <| yv y_as <| fk [(5, _), (7, _), (26, _)] hK13 ?_; refine Hd.seq fun _ hK14 => ?_
    refine Hd.wireR .here j hj hrj (fun i3 rb hi3 hrb => ?_); refine Hd.region <| yv y_mv <| yv y_mv <| yv y_np <| yv (y_f 0 197 Tryz.underlying199 sz197) ?_; refine yv (y_idxA Tryz.underlying197 sz196 rfl rfl (by omega)) ?_; refine yv (y_f 2 194 Tryz.underlying196 sz194) ?_; refine yv (y_to (v' := .pointer (some ⟨rb, 0, none⟩)) (y_load1 ag194 rfl (Rd.pt1 pkk (by exact enc_at 2 hj (by omega) (by omega) rfl))) (by (show ptr (i3.p j) = _; rw [hrb]; rfl))) ?_; refine callE rfl fk178 (rclear_ct _ rb (rstW x j).cap ((rstW x j).e j).b) sq ?_; intro _; refine Hd.heap (WireP b ((rstW x j).up j fun e => { e with b := [] }) :: WoR wb k w i L) (fun q s => wire_ring (l' := []) hi3 hj hrb q (Ent.sep enn q s)) ?_; refine fk [(5, _), (7, _), (26, _)] hK14 ?_; refine Hd.region <| yv y_mv <| yv y_mv <| callE rfl fk173 (came_ct _ b ((rstW x j).up j fun e => { e with b := [] }) j hj true true) sq ?_
    intro _; rw [rst_up]; refine Hd.nil <| slots [(5, _), (26, _)] sbq ?_; refine Hd.inB <| Hd.toK hK12 ?_; refine Hd.region <| yv (y_addn rfl rfl (by simp only [InK]; omega)) ?_; refine yv y_mv <| Hd.nil <| slots [(5, _), (26, _)] sbq ?_; refine thenN ?_; exact Hd.again (j + 1) (by omega) sbq (Ent.sep (.pure (by omega) enn))
   ·try simp only [hyZ] at hc1
    obtain rfl : j = 2 := by omega
    refine Hd.exit <| Hd.thenExit <| Hd.thenExit <| Hd.inBexit <| Hd.toK hK8 ?_; refine sr fun _ hK15 => ?_
    refine yv y_as <| fk [(4, _)] hK15 ?_; refine Hd.ret ?_; rw [hrd]; exact Hd.ret1 rfl () rfl (fun q s => world_fold' hw hrs hb (smW_reset x) q (Ent.sep enn q s))
end Wo
end Go.Proofs.YtbfddabjbkohdaaGreat
namespace Go.Proofs.YtbfddabjbkohdaaGreat
set_option maxHeartbeats 2000000
open Go.RX.Hd (yv y2 n1 fk sk sr tH callE heldK onlyH endH thenN slots)
open Go.RX Fx
namespace Rf
open Wo
set_option maxRecDepth 8000
theorem rPass_ct (L : List SP) (b : Nat) (w : WA) (n : Int) (hn : 0 ≤ n ∧ n ≤ 18446744073709551615) (h0 : 0 ≤ w.now ∧ w.now ≤ 18446744073709551615) : Ct Tryz.prog 136 #[.pointer (some ⟨b, 0, none⟩), .int .u64 n] (RwP b w :: L) (fun _ : Unit => .tuple #[]) (fun _ : Unit => RwP b (passR w n) :: L) := by
 refine Ct.o2 Tryz.func136 ?_; intro E
 show Hd E 23 _ _ _ _
 refine Hd.rw .here (fun i hi => ?_); refine Hd.seq fun _ hK1 => ?_
 refine sr fun _ hK2 => ?_
 refine yv y_mv <| yv y_mv <| yv y_np <| yv (y_f 1 30 Tryz.underlying133 sz30) ?_; refine yv (y_l1 ag30 rfl) ?_; refine yv (y_subn rfl rfl (by simp only [InK]; omega)) ?_; refine yv (y_gtr rfl rfl) ?_; refine fk [(0, _), (1, _), (10, _)] hK2 ?_; refine Hd.cond rfl (fun hc0 => ?_) (fun hc0 => ?_)
 ·try simp only [hyZ] at hc0
  refine sr fun _ hK3 => ?_
  refine yv y_mv <| yv y_np <| yv (y_f 1 30 Tryz.underlying133 sz30) ?_; refine Hd.store1 sz30 rfl rfl rfl pkk (by simp; done) ?_
  try simp only [hyS]
  refine fk [] hK3 ?_; refine Hd.ret <| Hd.thenRet ?_
  have e : (18446744073709551615 : Int) = w.now + min n (18446744073709551615 - w.now) := by omega
  exact Hd.ret0 rfl () rfl (fun q s => rw_fold (w := passR w n) hi q (Ent.sep (.eq pkk (pt_eq (by show _ = RwC (passR w n) i.1.length i.2.1 i.2.2; unfold passR; rw [← e]; rfl)) enn) q s))
 ·try simp only [hyZ] at hc0
  refine Hd.skip <| Hd.toK hK1 ?_; refine Hd.region <| yv y_mv <| yv y_mv <| yv y_np <| yv (y_f 1 30 Tryz.underlying133 sz30) ?_; refine yv (y_l1 ag30 rfl) ?_; refine yv y_mv <| yv (y_addn rfl rfl (by simp only [InK]; omega)) ?_; refine yv y_np <| yv (y_f 1 30 Tryz.underlying133 sz30) ?_; refine Hd.store1 sz30 rfl rfl rfl pkk (by simp; done) ?_
  try simp only [hyS]
  refine Hd.nil <| slots [] sbq ?_
  have e : w.now + n = w.now + min n (18446744073709551615 - w.now) := by omega
  exact Hd.end0 rfl () rfl (fun q s => rw_fold (w := passR w n) hi q (Ent.sep (.eq pkk (pt_eq (by show _ = RwC (passR w n) i.1.length i.2.1 i.2.2; unfold passR; rw [← e]; rfl)) enn) q s))
theorem rst0_e (x : WireA) (k : Nat) : (rstW x 0).e k = x.e k := by unfold rstW; simp
theorem rset_rs {rs : List Row} {n o : Nat} {x : WireA} {j : RwI} (h : rs[n]? = some (x, j)) (ho : o = n * 20 + 17) : (rs.flatMap encRW).set o (.bool true) = (rs.set n (rstW x 0, j)).flatMap encRW := by
 subst ho; refine rows_set (j := 17) encRW_len (by omega) ?_ h (by omega)
 rfl
theorem rReset_ct (L : List SP) (b : Nat) (w : WA) (n : Int) : Ct Tryz.prog 132 #[.pointer (some ⟨b, 0, none⟩), .int .i64 n] (RwP b w :: L) (fun _ : Unit => .int .i64 (resetR w n).1) (fun _ : Unit => RwP b (resetR w n).2 :: L) := by
 refine Ct.o2 Tryz.func132 ?_; intro E
 show Hd E 45 _ _ _ _
 refine sr fun _ hK1 => ?_
 refine yv y_as <| fk [(0, _), (1, _)] hK1 ?_; refine sr fun _ hK2 => ?_
 refine yv y_mv <| yv y_mv <| callE rfl fk177 (router_ct _ b w n) sq ?_; intro _; refine yv y_as <| fk [(0, _), (1, _), (5, _)] hK2 ?_; refine Hd.seq fun _ hK3 => ?_
 refine sr fun _ hK4 => ?_
 refine yv y_mv <| yv (y_not rfl) ?_; refine fk [(0, _), (1, _), (11, _)] hK4 ?_; refine Hd.cond rfl (fun hc0 => ?_) (fun hc0 => ?_)
 ·try simp only [hyZ] at hc0
  refine sr fun _ hK5 => ?_
  refine yv y_as <| fk [(4, _)] hK5 ?_; refine Hd.ret <| Hd.thenRet ?_
  have hno : outW w n = none := by cases h : outW w n with | none => rfl | some y => rw [h] at hc0; simp at hc0
  rw [show resetR w n = (116, w) by unfold resetR; rw [hno]]; exact Hd.ret1 rfl () rfl sq
 ·try simp only [hyZ] at hc0
  obtain ⟨x, ho⟩ : ∃ x, outW w n = some x := by cases h : outW w n with | none => rw [h] at hc0; simp at hc0 | some y => exact ⟨y, rfl⟩
  obtain ⟨h0, hx, _⟩ := outW_some ho
  obtain ⟨q, rfl⟩ : ∃ q : Nat, n = (q : Int) := ⟨n.toNat, by omega⟩
  rw [Int.toNat_natCast] at hx; refine Hd.rw .here (fun i hi => ?_)
  have hrl := rows_n hi
  obtain ⟨j, hrow⟩ := row_at hi hx
  have hn : q < i.1.length := (List.getElem?_eq_some_iff.1 hrow).1
  refine Hd.skip <| Hd.toK hK3 ?_; refine Hd.seq fun _ hK6 => ?_
  refine sr fun _ hK7 => ?_
  refine yv y_mv <| yv y_np <| yv (y_f 0 129 Tryz.underlying133 sz129) ?_; refine yv (y_l1 ag129 rfl) ?_; refine yv y_mv <| yv (y_idxR Tryz.underlying129 sz221 rfl rfl (by omega) (by exact RdS.own pkk)) ?_; refine yv (y_fR 17 4 Tryz.underlying221 sz4) ?_; refine yv (y_rw ag4 rfl hrow 17 rfl) ?_; refine fk [(0, _), (1, _), (19, _)] hK7 ?_; refine Hd.cond rfl (fun hc1 => ?_) (fun hc1 => ?_)
  ·try simp only [hyZ] at hc1
   refine sr fun _ hK8 => ?_
   refine yv y_as <| fk [(4, _)] hK8 ?_; refine Hd.ret <| Hd.thenRet ?_; rw [show resetR w (q : Int) = (0, w) by unfold resetR; rw [ho]; show (0, if x.rs = true then w else _) = _; rw [if_pos hc1]]; exact Hd.ret1 rfl () rfl (rw_fold hi)
  ·try simp only [hyZ] at hc1
   refine Hd.skip <| Hd.toK hK6 ?_; refine sr fun _ hK9 => ?_
   refine yv y_mv <| yv y_np <| yv (y_f 0 129 Tryz.underlying133 sz129) ?_; refine yv (y_l1 ag129 rfl) ?_; refine yv y_mv <| yv (y_idxR Tryz.underlying129 sz221 rfl rfl (by omega) (by exact RdS.own pkk)) ?_; refine yv (y_fR 17 4 Tryz.underlying221 sz4) ?_; refine Hd.storeO1 sz4 rfl rfl rfl pkk (by rw [rows_len encRW_len]; omega) ?_
   try simp only [hyS]
   refine Hd.nil ?_; rw [rset_rs hrow (by omega)]; refine Hd.heap (RwP b (w.setW q (rstW x 0)) :: L) (fun p s => rw_head (x' := rstW x 0) hi hrow (fun k _ => by rw [rst0_e]) rfl p (Ent.sep enn p s)) ?_; refine sk [(0, _), (1, _)] hK9 ?_; refine Hd.seq fun _ hK10 => ?_
   refine sr fun _ hK11 => ?_
   refine yv y_as <| fk [(0, _), (1, _), (6, _)] hK11 ?_; refine Hd.block <| Hd.loopK (ι := Nat) [(0, _), (1, _)] (fun k => [(6, .int .i64 (k : Int))]) (fun k => pu (k ≤ 2) :: RwP b (w.setW q (rstW x k)) :: L) (fun k => 2 - k) 0 sbq sbq (Ent.sep (.pure (by omega) enn)) ?_; intro k
   try dsimp only
   refine Hd.pure (fun hp0 => ?_)
   try dsimp only at hp0
   refine Hd.seq fun _ hK12 => ?_
   refine sr fun _ hK13 => ?_
   refine yv y_mv <| yv (y_lss rfl rfl) ?_; refine fk [(0, _), (1, _), (6, _), (28, _)] hK13 ?_; refine Hd.cond rfl (fun hc2 => ?_) (fun hc2 => ?_)
   ·try simp only [hyZ] at hc2
    have hk : k < 2 := by omega
    have hx2 : (w.setW q (rstW x k)).ws[q]? = some (rstW x k) := setW_self hx
    refine Hd.rw .here (fun i' hi' => ?_)
    have hrl' := rows_n hi'
    obtain ⟨j', hrow'⟩ := row_at hi' hx2
    have hn' : q < i'.1.length := (List.getElem?_eq_some_iff.1 hrow').1
    refine Hd.bagOut pkk hrow' ?_; refine Hd.sd .here k hk ?_; refine Hd.skip <| Hd.toK hK12 ?_; refine Hd.seq fun _ hK14 => ?_
    refine Hd.block <| sr fun _ hK15 => ?_
    refine yv y_mv <| yv y_np <| yv (y_f 0 129 Tryz.underlying133 sz129) ?_; refine yv (y_l1 ag129 rfl) ?_; refine yv y_mv <| yv y_mv <| yv (y_idxR Tryz.underlying129 sz221 rfl rfl (by omega) (by exact RdS.own pkk)) ?_; refine yv (y_fR 0 219 Tryz.underlying221 sz219) ?_; refine yv (y_idxAR Tryz.underlying219 sz218 rfl rfl (by omega)) ?_; refine yv (y_fR 4 31 Tryz.underlying218 sz31) ?_; refine Hd.storeO1 sz31 rfl rfl rfl pkk (by rw [rows_len encRW_len]; omega) ?_
    try simp only [hyS]
    refine Hd.nil ?_; rw [rset_b (l := []) (m := 0) (o := q * 20 + 0 + k * 8 + 4) hrow' hk (by omega) rfl]; refine Hd.heap (RwP b ((w.setW q (rstW x k)).setW q ((rstW x k).up k fun e => { e with b := [] })) :: L) (sep_trans (sep_trans (Ent.sep (.ownNil (.pick pkk (.pick pkk .same)))) (sd_b (l := []) (a := none) (c := 0) hk)) (sep_trans sq (rw_put hi' hn'))) ?_; rw [setW_setW]; refine sk [(0, _), (1, _), (6, _)] hK15 ?_; refine Hd.region <| yv y_mv <| yv y_mv <| yv y_mv <| callE rfl fk176 (rrise_ct _ b _ q _ (setW_self hx) k hk true true) sq ?_; intro _; rw [setW_setW, rst_up]; refine Hd.nil <| slots [(0, _), (1, _), (6, _)] sbq ?_; refine Hd.inB <| Hd.toK hK14 ?_; refine Hd.region <| yv y_mv <| yv (y_addn rfl rfl (by simp only [InK]; omega)) ?_; refine yv y_as <| Hd.nil <| slots [(0, _), (1, _), (6, _)] sbq ?_; refine thenN ?_
    exact Hd.again (k + 1) (by omega) sbq (Ent.sep (.pure (by omega) enn))
   ·try simp only [hyZ] at hc2
    obtain rfl : k = 2 := by omega
    refine Hd.exit <| Hd.thenExit <| Hd.thenExit <| Hd.inBexit <| Hd.toK hK10 ?_; refine sr fun _ hK16 => ?_
    refine yv y_as <| fk [(4, _)] hK16 ?_; refine Hd.ret ?_
    have e : rstW x 2 = resetW x := rfl
    rw [show resetR w (q : Int) = (0, w.setW q (resetW x)) by unfold resetR; rw [ho]; show (0, if x.rs = true then w else _) = _; rw [if_neg (by rw [hc1]; decide)]; rfl, ← e]; exact Hd.ret1 rfl () rfl sq
end Rf
end Go.Proofs.YtbfddabjbkohdaaGreat
namespace Go.RX
section
variable {E : World} {n : Nat} {ds : List Deferred} {st : List (Nat × Value)} {L L' : List SP} {r : Option Nat} {P : Program} {Q : Exit → Act → World → Prop}
def MkS : List Nat → SP
 | [] => pu True
 | r0 :: rs => RX.ex fun _ : Unit => [ob r0 (.deferred (some [])), MkS rs]
theorem MkS.cons {r0 : Nat} {rs : List Nat} {L : List SP} : ∀ k, sep (ob r0 (.deferred (some [])) :: MkS rs :: L) k → sep (MkS (r0 :: rs) :: L) k :=
 fun k s => Ent.sep (.ex () (.pick (.here) (.pick .here .same))) k s
end
end Go.RX
namespace Go.Proofs.YtbfddabjbkohdaaGreat
set_option maxHeartbeats 2000000
open Go.RX.Hd (yv y2 n1 fk sk sr tH callE heldK onlyH endH thenN slots)
open Go.RX Fx
namespace Wo
set_option maxRecDepth 8000
def mayE (s : Int) : Int := if 1 ≤ s ∧ s ≤ 31 then 0 else 100
theorem mayE_0 {s : Int} : mayE s = 0 ↔ 1 ≤ s ∧ s ≤ 31 := by unfold mayE; split <;> simp_all
theorem is_ct (L : List SP) (s : Int) : Ct Tryz.prog 215 #[.int .i64 s] (L) (fun _ : Unit => .bool (decide (s ≥ 1) && decide (s ≤ 31))) (fun _ : Unit => L) := by
 refine Ct.o1 Tryz.func215 ?_; intro E
 show Hd E 9 _ _ _ _
 refine sr fun _ hK1 => ?_
 refine yv y_as <| fk [(0, _)] hK1 ?_; refine sr fun _ hK2 => ?_
 refine yv y_mv <| yv (y_geq rfl rfl) ?_; refine yv y_mv ?_; apply Hd.andg 3 5 8 [] rfl sbq
 ·intro _
  simp only [List.take]; refine y2 y_mv <| y2 (y_leq rfl rfl) ?_; refine yv (y_pickT rfl rfl) ?_; refine Hd.nil ?_; exact Hd.mq
 ·intro _
  simp only [List.take]; refine n1 <| n1 <| yv (y_pickF rfl rfl) ?_; refine Hd.nil ?_; exact Hd.mq
 simp only [List.drop]; refine yv y_as <| fk [(2, _)] hK2 ?_; refine Hd.ret ?_; exact Hd.ret1 rfl () (by rfl) sq
theorem may_ct (L : List SP) (sb : Nat) (s : Int) : Ct Tryz.prog 197 #[.pointer (some ⟨sb, 0, none⟩), .int .i64 s] (L) (fun _ : Unit => .int .i64 (mayE s)) (fun _ : Unit => L) := by
 refine Ct.o2 Tryz.func197 ?_; intro E
 show Hd E 12 _ _ _ _
 refine sr fun _ hK1 => ?_
 refine yv y_as <| fk [(0, _), (1, _)] hK1 ?_; refine Hd.seq fun _ hK2 => ?_
 refine Hd.block <| sr fun _ hK3 => ?_
 refine yv y_mv <| yv (y_eql_pointer Tryz.underlying205 rfl rfl) ?_; refine yv y_as <| fk [(1, _), (5, _)] hK3 ?_; refine Hd.condF rfl ?_; refine sr fun _ hK4 => ?_
 refine yv y_mv <| callE rfl fk215 (is_ct _ s) sq ?_; intro _; refine yv (y_not rfl) ?_; refine yv y_as <| fk [(8, _)] hK4 ?_; refine Hd.cond rfl (fun hc1 => ?_) (fun hc1 => ?_)
 ·try simp only [hyZ] at hc1
  refine sr fun _ hK5 => ?_
  refine yv y_as <| fk [(4, _)] hK5 ?_; refine Hd.ret <| Hd.inBret <| Hd.thenRet ?_; rw [show mayE s = 100 from if_neg (by omega)]; exact Hd.ret1 rfl () rfl sq
 ·try simp only [hyZ] at hc1
  refine Hd.skip <| Hd.inB <| Hd.toK hK2 ?_; refine sr fun _ hK6 => ?_
  refine yv y_as <| fk [(4, _)] hK6 ?_; refine Hd.ret ?_; rw [show mayE s = 0 from if_pos (by omega)]; exact Hd.ret1 rfl () rfl sq
abbrev SgV (hd : List Bool) (ct : List Int) : List Value := hd.map .bool ++ ct.map (Value.int .i64)
theorem sg_hd {hd : List Bool} {ct : List Int} {s o : Nat} (hl : hd.length = 32) (hs : s < 32) (ho : o = s) : (SgV hd ct)[o]? = some (.bool (hd.getD s false)) := by
 subst ho; rw [List.getElem?_append_left (by rw [List.length_map]; omega), List.getElem?_map, List.getD_eq_getElem?_getD, List.getElem?_eq_getElem (by omega)]; rfl
theorem sg_ct {hd : List Bool} {ct : List Int} {s o : Nat} (hl : hd.length = 32) (hc : ct.length = 32) (hs : s < 32) (ho : o = 32 + s) : (SgV hd ct)[o]? = some (.int .i64 (ct.getD s 0)) := by
 subst ho; rw [List.getElem?_append_right (by rw [List.length_map]; omega), List.length_map, hl, Nat.add_sub_cancel_left, List.getElem?_map, List.getD_eq_getElem?_getD, List.getElem?_eq_getElem (by omega)]; rfl
theorem sg_set_hd {hd : List Bool} {ct : List Int} {s o : Nat} {v : Bool} (hl : hd.length = 32) (hs : s < 32) (ho : o = s) : (SgV hd ct).set o (.bool v) = SgV (hd.set s v) ct := by
 subst ho; rw [List.set_append_left _ _ (by rw [List.length_map]; omega)]
 show _ = (hd.set o v).map Value.bool ++ _
 rw [List.map_set]
theorem sg_set_ct {hd : List Bool} {ct : List Int} {s o : Nat} {v : Int} (hl : hd.length = 32) (hs : s < 32) (ho : o = 32 + s) : (SgV hd ct).set o (.int .i64 v) = SgV hd (ct.set s v) := by
 subst ho; rw [List.set_append_right _ _ (by rw [List.length_map]; omega), List.length_map, hl, Nat.add_sub_cancel_left]
 show _ = _ ++ (ct.set s v).map (Value.int .i64)
 rw [List.map_set]
theorem sg_len {hd : List Bool} {ct : List Int} (hl : hd.length = 32) (hc : ct.length = 32) : (SgV hd ct).length = 64 := by
 rw [List.length_append, List.length_map, List.length_map, hl, hc]
def cntS (ct : List Int) (s : Int) : Int := if 1 ≤ s ∧ s ≤ 31 then ct.getD s.toNat 0 else 0
theorem count_ct (L : List SP) (sb : Nat) (hd : List Bool) (ct : List Int) (hl : hd.length = 32) (hcl : ct.length = 32) (s : Int) : Ct Tryz.prog 203 #[.pointer (some ⟨sb, 0, none⟩), .int .i64 s] (SigP sb hd ct :: L) (fun _ : Unit => .int .i64 (cntS ct s)) (fun _ : Unit => SigP sb hd ct :: L) := by
 refine Ct.o2 Tryz.func203 ?_; intro E
 show Hd E 15 _ _ _ _
 refine sr fun _ hK1 => ?_
 refine yv y_as <| fk [(0, _), (1, _)] hK1 ?_; refine Hd.seq fun _ hK2 => ?_
 refine sr fun _ hK3 => ?_
 refine yv y_mv <| yv y_mv <| callE rfl fk197 (may_ct _ sb s) sq ?_; intro _; refine yv (y_neq rfl rfl) ?_; refine fk [(0, _), (1, _), (8, _)] hK3 ?_; refine Hd.cond rfl (fun hc0 => ?_) (fun hc0 => ?_)
 ·try simp only [hyZ] at hc0
  refine sr fun _ hK4 => ?_
  refine yv y_as <| fk [(4, _)] hK4 ?_; refine Hd.ret <| Hd.thenRet ?_; rw [show cntS ct s = 0 from if_neg (fun h => hc0 (mayE_0.2 h))]; exact Hd.ret1 rfl () rfl sq
 ·try simp only [hyZ] at hc0
  have hs := mayE_0.1 hc0
  obtain ⟨k, rfl⟩ : ∃ k : Nat, s = (k : Int) := ⟨s.toNat, by omega⟩
  have hk : k < 32 := by omega
  refine Hd.skip <| Hd.toK hK2 ?_; refine sr fun _ hK5 => ?_
  refine yv y_mv <| yv y_mv <| yv y_np <| yv (y_f 32 131 Tryz.underlying265 sz131) ?_; refine yv (y_idxA Tryz.underlying131 sz3 rfl rfl (by omega)) ?_; refine yv (y_load1 ag3 rfl (Rd.pt1 pkk (by exact sg_ct hl hcl hk (by omega)))) ?_; refine yv y_as <| fk [(4, _)] hK5 ?_; refine Hd.ret ?_; rw [show cntS ct (k : Int) = ct.getD k 0 from if_pos hs]; exact Hd.ret1 rfl () rfl sq
theorem cntF_app : ∀ (a b : List Int) (i : Nat), cntF i (a ++ b) = cntF i a ++ cntF (i + a.length) b
 | [], b, i => rfl
 | c :: t, b, i => by
  show (if i = 0 ∨ c = 0 then cntF (i + 1) (t ++ b) else ((i : Int), c) :: cntF (i + 1) (t ++ b)) = (if i = 0 ∨ c = 0 then cntF (i + 1) t else ((i : Int), c) :: cntF (i + 1) t) ++ cntF (i + (t.length + 1)) b
  rw [cntF_app t b (i + 1), show i + 1 + t.length = i + (t.length + 1) by omega]
  split <;> rfl
theorem cntF_succ {ct : List Int} {i : Nat} (h : i < ct.length) : cntF 0 (ct.take (i + 1)) = cntF 0 (ct.take i) ++ (if i = 0 ∨ ct.getD i 0 = 0 then [] else [((i : Int), ct.getD i 0)]) := by
 rw [List.take_add_one, List.getElem?_eq_getElem h, Option.toList_some, cntF_app, List.length_take, Nat.min_eq_left (by omega), Nat.zero_add, List.getD_eq_getElem?_getD, List.getElem?_eq_getElem h]
 show _ ++ (if i = 0 ∨ ct[i] = 0 then cntF (i + 1) [] else ((i : Int), ct[i]) :: cntF (i + 1) []) = _
 rfl
theorem cntF_pre (ct : List Int) (i : Nat) : cntF 0 (ct.take i) <+: cntF 0 ct := by
 conv => rhs; rw [← List.take_append_drop i ct]
 rw [cntF_app]; exact List.prefix_append _ _
theorem cntF_le : ∀ (l : List Int) (i : Nat), (cntF i l).length ≤ l.length
 | [], _ => Nat.le_refl _
 | c :: t, i => by
  have := cntF_le t (i + 1)
  show (if i = 0 ∨ c = 0 then cntF (i + 1) t else ((i : Int), c) :: cntF (i + 1) t).length ≤ _
  split <;> simp only [List.length_cons] <;> omega
abbrev encCn (p : Int × Int) : List Value := [.int .i64 p.1, .int .i64 p.2]
abbrev encCA (p : Int × Int) : List Value := [.agg (encCn p).toArray]
abbrev SgX (bx sb : Nat) (hd : List Bool) (ct : List Int) (L : List SP) : List SP := pt bx [.pointer (some ⟨sb, 0, none⟩)] 205 :: SigP sb hd ct :: L
theorem counts_ct (L : List SP) (sb : Nat) : Ct Tryz.prog 200 #[.pointer (some ⟨sb, 0, none⟩)] (L) (fun bx : Nat => .func (.func 216) #[] #[.pointer (some ⟨bx, 0, none⟩)]) (fun bx : Nat => pt bx [.pointer (some ⟨sb, 0, none⟩)] 205 :: L) := by
 refine Ct.o1 Tryz.func200 ?_; intro E
 show Hd E 4 _ _ _ _
 refine sr fun _ hK1 => ?_
 refine Hd.box rfl rfl (fun b1 => ?_); refine yv y_as <| fk [(1, _)] hK1 ?_; refine sr fun _ hK2 => ?_
 refine yv (y_mkf (fv := []) (cv := [_]) rfl rfl) ?_; refine yv y_as <| fk [(2, _)] hK2 ?_; refine Hd.ret ?_; exact Hd.ret1 rfl b1 rfl sq
theorem counts_it (bx sb : Nat) (hd : List Bool) (ct : List Int) (hl : hd.length = 32) (hcl : ct.length = 32) : RX.It Tryz.prog 216 [.pointer (some ⟨bx, 0, none⟩)] encCA (fun ys => ys = cntF 0 ct) (fun ys => ys <+: cntF 0 ct)
  (SgX bx sb hd ct []) (SgX bx sb hd ct []) := by
 intro l J X hy; refine Ct.of (vs := [.func (.yield l) #[] #[], .pointer (some ⟨bx, 0, none⟩)]) Tryz.func216 rfl rfl [(0, .func (.yield l) #[] #[]), (1, .pointer (some ⟨bx, 0, none⟩))] ⟨rfl, rfl, trivial⟩ ?_; intro E
 show Hd E 20 _ _ _ _
 refine Hd.heap (SgX bx sb hd ct (J [])) (fun k h => by have := sep_app h; exact this) ?_; refine Hd.scope ?_; refine Hd.seq fun _ hK1 => ?_
 refine Hd.label ?_; refine Hd.toK hK1 ?_; refine sr fun _ hK2 => ?_
 refine yv y_mv <| fk [(0, _), (1, _), (5, _)] hK2 ?_; refine Hd.block <| Hd.loopK (ι := Nat) [(0, _), (1, _)] (fun i => [(5, .int .i64 (i : Int))]) (fun i => pu (i ≤ 32) :: SgX bx sb hd ct (J (cntF 0 (ct.take i)))) (fun i => 32 - i) 0 sbq sbq (Ent.sep (.pure (by omega) enn)) ?_; intro i
 try dsimp only
 refine Hd.pure (fun hp0 => ?_)
 try dsimp only at hp0
 refine sr fun _ hK3 => ?_
 refine yv (y_lss rfl rfl) ?_; refine fk [(0, _), (1, _), (5, _), (6, _)] hK3 ?_; refine Hd.seq fun _ hK4 => ?_
 refine Hd.cond rfl (fun hc0 => ?_) (fun hc0 => ?_)
 ·try simp only [hyZ] at hc0
  have hi : i < 32 := by omega
  have hsc := cntF_succ (ct := ct) (i := i) (by omega)
  have hpr := cntF_pre ct (i + 1)
  refine Hd.skip <| Hd.toK hK4 ?_; refine Hd.seq fun _ hK5 => ?_
  refine Hd.block <| sr fun _ hK6 => ?_
  refine yv y_mv <| yv y_as <| fk [(0, _), (1, _), (3, _), (5, _)] hK6 ?_; refine sr fun _ hK7 => ?_
  refine yv (y_l1 ag205 rfl) ?_; refine yv y_mv <| callE rfl fk203 (count_ct _ sb hd ct hl hcl (i : Int)) sq ?_; intro _; refine yv y_as <| fk [(0, _), (1, _), (3, _), (4, _), (5, _)] hK7 ?_; refine Hd.seq fun _ hK8 => ?_
  refine sr fun _ hK9 => ?_
  refine yv y_mv <| yv (y_eql rfl rfl) ?_; refine fk [(0, _), (1, _), (3, _), (4, _), (5, _), (12, _)] hK9 ?_; refine Hd.cond rfl (fun hc1 => ?_) (fun hc1 => ?_)
  ·try simp only [hyZ] at hc1
   refine Hd.exit <| Hd.thenExit <| Hd.inBexit <| Hd.toK hK5 ?_; refine Hd.region <| yv (y_addn rfl rfl (by simp only [InK]; omega)) ?_; refine yv y_mv <| Hd.nil <| slots [(0, _), (1, _), (5, _)] sbq ?_; refine thenN ?_
   rw [if_pos (by
    unfold cntS at hc1
    by_cases h0 : i = 0
    ·exact .inl h0
    ·rw [if_pos (by omega), Int.toNat_natCast] at hc1; exact .inr hc1), List.append_nil] at hsc
   rw [← hsc]; exact Hd.again (i + 1) (by omega) sbq (Ent.sep (.pure (by omega) enn))
  ·try simp only [hyZ] at hc1
   have hi0 : i ≠ 0 := fun h => by subst h; exact hc1 rfl
   have hcv : cntS ct (i : Int) = ct.getD i 0 := by unfold cntS; rw [if_pos (by omega), Int.toNat_natCast]
   rw [hcv] at hc1; rw [if_neg (by rintro (h | h); exact hi0 h; exact hc1 h)] at hsc; rw [hsc] at hpr; rw [hcv]; refine Hd.skip <| Hd.toK hK8 ?_; refine sr fun _ hK10 => ?_
   refine yv y_mv <| yv y_mv <| yv y_mv <| yv (y_build (vs := [(0, _), (1, _)]) rfl (by exact bd216_16 ..)) ?_; refine Hd.yield (pre := cntF 0 (ct.take i)) (c := ((i : Int), ct.getD i 0)) (M := SgX bx sb hd ct []) hy rfl rfl hpr (fun k' h => sep_app (show sep ((SgX bx sb hd ct []) ++ J (cntF 0 (ct.take i))) k' from Ent.sep enn k' h)) ?_; intro yb; refine yv (y_not rfl) ?_; refine fk [(0, _), (1, _), (5, _), (18, _)] hK10 ?_; refine Hd.cond rfl (fun hc2 => ?_) (fun hc2 => ?_)
   ·try simp only [hyZ] at hc2
    subst hc2; simp only [cond_false]; refine Hd.ret <| Hd.inBret <| Hd.thenRet <| Hd.thenRet <| Hd.inBret <| Hd.scRet ?_; exact Hd.ret0 rfl (cntF 0 (ct.take i) ++ [((i : Int), ct.getD i 0)], false) rfl (fun k' h => Ent.sep (.pure hpr .same) k' h)
   ·try simp only [hyZ] at hc2
    subst hc2; simp only [cond_true]; refine Hd.heap (SgX bx sb hd ct (J (cntF 0 (ct.take i) ++ [((i : Int), ct.getD i 0)]))) (fun k' h => sep_app h) ?_; rw [← hsc]; refine Hd.skip <| Hd.inB <| Hd.toK hK5 ?_; refine Hd.region <| yv (y_addn rfl rfl (by simp only [InK]; omega)) ?_; refine yv y_mv <| Hd.nil <| slots [(0, _), (1, _), (5, _)] sbq ?_; refine thenN ?_; exact Hd.again (i + 1) (by omega) sbq (Ent.sep (.pure (by omega) enn))
 ·try simp only [hyZ] at hc0
  refine Hd.exit <| Hd.thenExit <| Hd.thenExit <| Hd.inBexit <| Hd.scNorm ?_
  obtain rfl : i = 32 := by omega
  rw [show ct.take 32 = ct from List.take_of_length_le (by omega)]; exact Hd.end0 rfl (cntF 0 ct, true) rfl (fun k' h => Ent.sep (.pure rfl .same) k' (sep_app (M := SgX bx sb hd ct []) (N := J (cntF 0 ct)) (Ent.sep enn k' h)))
theorem cntF_mem : ∀ (l : List Int) (i : Nat) (p : Int × Int), p ∈ cntF i l → ∃ j : Nat, l[j]? = some p.2 ∧ p.1 = ((i + j : Nat) : Int) ∧ 0 < i + j
 | [], _, _, h => by cases h
 | c :: t, i, p, h => by
  have h' : p ∈ (if i = 0 ∨ c = 0 then cntF (i + 1) t else ((i : Int), c) :: cntF (i + 1) t) := h
  have rec_ : p ∈ cntF (i + 1) t → ∃ j : Nat, (c :: t)[j]? = some p.2 ∧ p.1 = ((i + j : Nat) : Int) ∧ 0 < i + j := fun h => by
   obtain ⟨j, h1, h2, h3⟩ := cntF_mem t (i + 1) p h
   exact ⟨j + 1, by simpa using h1, by rw [h2]; congr 1; omega, by omega⟩
  split at h'
  ·exact rec_ h'
  ·rename_i hn
   rcases List.mem_cons.1 h' with rfl | h'
   ·exact ⟨0, rfl, rfl, by omega⟩
   ·exact rec_ h'
theorem cntF_sum : ∀ (l : List Int) (i : Nat), 0 < i → ((cntF i l).map Prod.snd).sum = l.sum
 | [], _, _ => rfl
 | c :: t, i, h => by
  show ((if i = 0 ∨ c = 0 then cntF (i + 1) t else ((i : Int), c) :: cntF (i + 1) t).map Prod.snd).sum = c + t.sum
  have ih := cntF_sum t (i + 1) (by omega)
  split
  ·rename_i h1
   rw [ih]; omega
  ·show c + ((cntF (i + 1) t).map Prod.snd).sum = _
   rw [ih]
theorem cntF_sum0 (ct : List Int) : ((cntF 0 ct).map Prod.snd).sum = (ct.drop 1).sum := by
 cases ct with
 | nil => rfl
 | cons c t =>
  show ((if 0 = 0 ∨ c = 0 then cntF 1 t else (((0 : Nat) : Int), c) :: cntF 1 t).map Prod.snd).sum = t.sum
  rw [if_pos (.inl rfl)]; exact cntF_sum t 1 (by omega)
theorem sum_bd {l : List (Int × Int)} {K : Int} (h : ∀ p ∈ l, 0 ≤ p.2 ∧ p.2 ≤ K) : 0 ≤ (l.map Prod.snd).sum ∧ (l.map Prod.snd).sum ≤ l.length * K := by
 induction l with
 | nil => simp
 | cons p t ih =>
  have h1 := h p List.mem_cons_self
  have h2 := ih fun q hq => h q (List.mem_cons_of_mem _ hq)
  simp only [List.map_cons, List.sum_cons, List.length_cons]
  have : ((t.length + 1 : Nat) : Int) * K = (t.length : Int) * K + K := by
   rw [Int.natCast_add, Int.add_mul]; simp
  omega
theorem pending_ct (L : List SP) (sb : Nat) (hd : List Bool) (ct : List Int) (hl : hd.length = 32) (hcl : ct.length = 32) (hb : ∀ c ∈ ct, 0 ≤ c ∧ c ≤ 2000000000) : Ct Tryz.prog 198 #[.pointer (some ⟨sb, 0, none⟩)] (SigP sb hd ct :: L) (fun _ : Unit => .int .i64 (ct.drop 1).sum) (fun _ : Unit => SigP sb hd ct :: L) := by
 refine Ct.o1M Tryz.func198 ?_; intro E
 show Hd E 13 _ _ _ _
 have hmb : ∀ p ∈ cntF 0 ct, 0 ≤ p.2 ∧ p.2 ≤ 2000000000 := fun p hp => by
  obtain ⟨j, hj, _, _⟩ := cntF_mem ct 0 p hp
  exact hb _ (List.mem_of_getElem? hj)
 have hcle := cntF_le ct 0
 refine sr fun _ hK1 => ?_
 refine yv y_as <| fk [(0, _)] hK1 ?_; refine sr fun _ hK2 => ?_
 refine Hd.alloc zr3 (fun b3 => ?_); refine Hd.store1 sz3 rfl rfl rfl pkk (by decide) ?_
 try simp only [hyS]
 refine fk [(0, _), (3, _)] hK2 ?_; refine Hd.seq fun _ hK3 => ?_
 refine sr fun _ hK4 => ?_
 refine yv y_mv <| callE rfl fk200 (counts_ct _ sb) sq ?_; intro bx; refine fk [(3, _), (6, _)] hK4 ?_; refine Hd.block <| Hd.rangeF (enc := encCA) (S := fun ys => ys = cntF 0 ct) (Sp := fun ys => ys <+: cntF 0 ct)
  (fun pre => pt b3 [.int .i64 (pre.map Prod.snd).sum] 3 :: L) (fun _ _ => [pu False])
  rfl kq (fun _ => rfl) rfl (counts_it bx sb hd ct hl hcl) (by refine Ent.sep ?_; refine Ent.eq pkk (pt_eq (by rfl)) ?_; exact Ent.swap (L := [_, _])) ?_ ?_ ?_
 ·intro E l' R pre c N hR hG
  have hpl := hG.length_le
  have hs1 := sum_bd (l := pre) (K := 2000000000) fun p hp => hmb p (hG.subset (List.mem_append_left _ hp))
  have hc1 := hmb c (hG.subset (by simp))
  rw [List.length_append] at hpl
  have hpl2 : pre.length ≤ 32 := by simp at hpl; omega
  unfold Rnd; simp only [List.cons_append, List.nil_append, pz, encCA]; refine Hd.region <| Hd.alloc zr241 (fun b4 => ?_); refine Hd.storeA (us := encCn c) sz241 rfl rfl rfl (by simp [Value.oneCell']) pkk (by exact rfl) ?_; refine Hd.nil <| slots [(3, _), (4, _)] sbq ?_; refine thenN <| Hd.begin hR pkk ?_; refine Hd.block <| Hd.region <| yv (y_l1 ag3 rfl) ?_; refine yv (y_f 1 3 Tryz.underlying241 sz3) ?_; refine yv (y_l1 ag3 rfl) ?_; refine yv (y_addn rfl rfl (by simp only [InK]; omega)) ?_; refine Hd.store1 sz3 rfl rfl rfl pkk (by simp; done) ?_
  try simp only [hyS]
  refine Hd.nil <| slots [(3, _)] sbq ?_; refine Hd.inB <| Hd.reN ?_; simp only [List.cons_append, List.nil_append]; exact Ent.sep (.pick pkk (.eq pkk (pt_eq (by simp)) enn))
 ·intro r0 ys hys
  obtain rfl : ys = cntF 0 ct := hys
  try simp only [List.cons_append, List.nil_append]
  refine Hd.inB <| Hd.toK hK3 ?_; refine sr fun _ hK5 => ?_
  refine yv (y_l1 ag3 rfl) ?_; refine yv y_as <| fk [(2, _)] hK5 ?_; refine Hd.ret ?_; rw [← cntF_sum0]; exact Hd.retM (fun a fr => Lv.mark pkk (Lv.end1 fr rfl () rfl sq))
 ·rintro r0_0 (_ | id0) pre0 hG0
  ·exact Hd.absurd (by exact id)
  ·exact Hd.absurd (by exact id)
end Wo
end Go.Proofs.YtbfddabjbkohdaaGreat
