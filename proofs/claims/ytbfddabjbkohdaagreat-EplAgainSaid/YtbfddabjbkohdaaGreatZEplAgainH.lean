/-
  Epoll: what reports leave, as long as nothing happens (plain). The calls of roundhouselaw11: what a call makes of a world. Epoll beside the document's list (plain). The document's world (roundhouseref11): how it lies in memory. Worlds: Accept. The document's world: at, rise, shut, close, outer. The document's world: get, fill, free. The document's world: Shut, PeerShut, PeerClose, Wire, Put, Take.
-/
import Derived.Test.YtbfddabjbkohdaaGreatZEplAgainG
namespace Go.Proofs.YtbfddabjbkohdaaGreat
set_option maxHeartbeats 2000000
set_option linter.unusedSimpArgs false
set_option linter.unusedVariables false
set_option linter.unnecessarySimpa false
open Go.RX Fx
namespace Ep
open Wo
set_option maxRecDepth 8000
theorem fm_congr {α β : Type} {f g : α → Option β} : ∀ {l : List α}, (∀ a ∈ l, f a = g a) → l.filterMap f = l.filterMap g
 | [], _ => rfl
 | a :: t, h => by rw [List.filterMap_cons, List.filterMap_cons, h a List.mem_cons_self, fm_congr fun b hb => h b (List.mem_cons_of_mem _ hb)]
theorem updF_eq (f : Int → Option IxA) (a : Int) (o : Option IxA) : updF f a o a = o := if_pos rfl
theorem updF_ne {f : Int → Option IxA} {a b : Int} {o : Option IxA} (h : b ≠ a) : updF f a o b = f b := if_neg h
theorem nwF_ne {f : Int → Option IxA} {w : WA} {a b : Int} {o : Option IxA} (h : b ≠ a) : nwF (updF f a o) w b = nwF f w b := by unfold nwF; rw [updF_ne h]
theorem nwF_congr {f g : Int → Option IxA} {w : WA} {a : Int} (h : f a = g a) : nwF f w a = nwF g w a := by unfold nwF; rw [h]
theorem findE_congr {f g : Int → Option IxA} {w : WA} {a : Int} (h : f a = g a) : findE f w a = findE g w a := by unfold findE; rw [h]
theorem qE_congr {f g : Int → Option IxA} {w : WA} {a : Int} (h : f a = g a) : qE f w a = qE g w a := by unfold qE; rw [findE_congr h]
theorem qE_wire {f g : Int → Option IxA} {w : WA} {a : Int} (h : (f a).map IxA.wire = (g a).map IxA.wire) : qE f w a = qE g w a := by
 unfold qE findE
 cases hf : f a with
 | none =>
  rw [hf] at h
  cases hg : g a with
  | none => rfl
  | some y => rw [hg] at h; cases h
 | some x =>
  rw [hf] at h
  cases hg : g a with
  | none => rw [hg] at h; cases h
  | some y =>
   rw [hg] at h
   have e : x.wire = y.wire := by simpa using h
   dsimp only; rw [e]
   by_cases hc : (w.at a).isSome = true ∧ wireN (w.at a) = y.wire
   ·rw [if_pos hc, if_pos hc]; rfl
   ·rw [if_neg hc, if_neg hc]
theorem offF_at {w : WA} : ∀ {ys : List (Int × Int)} {f : Int → Option IxA}, (ys.map Prod.fst).Nodup → (∀ y ∈ ys, y.2 = nwF f w y.1) → ∀ a, offF w f ys a = if a ∈ ys.map Prod.fst then some (offX ((f a).getD zIx) (readyR w a) (nwF f w a)) else f a
 | [], f, _, _, a => by rw [if_neg (by simp)]; rfl
 | y :: t, f, hn, hv, a => by
  rw [List.map_cons, List.nodup_cons] at hn
  have hne : ∀ z ∈ t, z.1 ≠ y.1 := fun z hz e => hn.1 (e ▸ List.mem_map_of_mem hz)
  have ih := offF_at (f := updF f y.1 (some (offX ((f y.1).getD zIx) (readyR w y.1) y.2))) hn.2 (fun z hz => by rw [nwF_ne (hne z hz)]; exact hv z (List.mem_cons_of_mem _ hz)) a
  show offF w (updF f y.1 (some (offX ((f y.1).getD zIx) (readyR w y.1) y.2))) t a = _
  rw [ih]
  by_cases ha : a ∈ t.map Prod.fst
  ·have e : a ≠ y.1 := fun e => hn.1 (e ▸ ha)
   rw [if_pos ha, if_pos (by rw [List.map_cons]; exact List.mem_cons_of_mem _ ha), updF_ne e, nwF_ne e]
  ·rw [if_neg ha]
   by_cases e : a = y.1
   ·subst e
    rw [updF_eq, if_pos (by rw [List.map_cons]; exact List.mem_cons_self), hv y List.mem_cons_self]
   ·rw [updF_ne e, if_neg (by rw [List.map_cons]; exact fun h => (List.mem_cons.1 h).elim e ha)]
theorem off_now (p : PxA) (r : RdyA) : (p.off r (p.p r) (p.q r)).now r = if p.e = true then 0 else p.now r := by
 have h1 : (p.off r (p.p r) (p.q r)).ra r = (p.ra r && !(p.p r)) := by
  show ((p.ra r && !(p.p r)) || decide (r.r > r.r)) = _
  rw [decide_eq_false (Int.lt_irrefl _), Bool.or_false]
 have h2 : (p.off r (p.p r) (p.q r)).rb r = (p.rb r && !(p.q r)) := by
  show ((p.rb r && !(p.q r)) || decide (r.w > r.w)) = _
  rw [decide_eq_false (Int.lt_irrefl _), Bool.or_false]
 have h3 : (p.off r (p.p r) (p.q r)).p r = if p.e = true then false else p.p r := by
  have : (p.off r (p.p r) (p.q r)).p r = (p.i && (r.i || p.end r) && (!p.e || (p.off r (p.p r) (p.q r)).ra r)) := rfl
  rw [this, h1]; unfold PxA.p
  cases p.e <;> cases p.i <;> cases (r.i || p.end r) <;> cases p.ra r <;> rfl
 have h4 : (p.off r (p.p r) (p.q r)).q r = if p.e = true then false else p.q r := by
  have : (p.off r (p.p r) (p.q r)).q r = (p.o && (r.o || p.end r) && (!p.e || (p.off r (p.p r) (p.q r)).rb r)) := rfl
  rw [this, h2]; unfold PxA.q
  cases p.e <;> cases p.o <;> cases (r.o || p.end r) <;> cases p.rb r <;> rfl
 unfold PxA.now; rw [h3, h4, show (p.off r (p.p r) (p.q r)).e = p.e from rfl]
 cases h : p.e <;> simp
theorem off_ix (p : PxA) (r : RdyA) (h : p.now r ≠ 0) : offX p.ix r (p.now r) = (p.off r (p.p r) (p.q r)).ix := by
 have : p.now r = b2 (p.p r) 1 + b2 (p.q r) 4 + b2 r.h 16 + b2 r.e 8 := by
  unfold PxA.now at h ⊢
  split
  ·rename_i hc; rw [if_pos hc] at h; exact absurd rfl h
  ·rfl
 rw [this]; exact off_p p r _ _ _ _
structure GdE (f : Int → Option IxA) (w : WA) : Prop where
 ix : ∀ a x, f a = some x → ∃ p : PxA, x = p.ix
 lv : ∀ a x, f a = some x → qE f w a = true
theorem f0_gd (w : WA) : GdE f0 w := ⟨fun _ _ h => (by cases h), fun _ _ h => (by cases h)⟩
def edF (f : Int → Option IxA) (a : Int) : Bool := edgE ((f a).getD zIx)
theorem dueT_mem {f : Int → Option IxA} {w : WA} {l : List Int} {y : Int × Int} : y ∈ dueT f w l ↔ y.1 ∈ l ∧ nwF f w y.1 ≠ 0 ∧ y.2 = nwF f w y.1 := by
 unfold dueT; rw [List.mem_filterMap]
 constructor
 ·rintro ⟨a, ha, e⟩
  split at e
  ·cases e
  ·rename_i h; obtain rfl := Option.some.inj e; exact ⟨ha, h, rfl⟩
 ·rintro ⟨h1, h2, h3⟩
  exact ⟨y.1, h1, by rw [if_neg h2, ← h3]⟩
theorem dueT_fst (f : Int → Option IxA) (w : WA) (l : List Int) : (dueT f w l).map Prod.fst = l.filter fun a => decide (nwF f w a ≠ 0) := by
 unfold dueT
 induction l with
 | nil => rfl
 | cons a t ih =>
  rw [List.filterMap_cons, List.filter_cons]
  by_cases h : nwF f w a = 0
  ·rw [if_pos h, decide_eq_false (by simpa using h)]; simpa using ih
  ·rw [if_neg h, decide_eq_true h, if_pos rfl, List.map_cons, ih]
theorem allL_nd (f : Int → Option IxA) (w : WA) : (allL f w).Nodup := (allL_srt f w).imp fun h => by omega
theorem dueL_nd (f : Int → Option IxA) (w : WA) : ((dueL f w).map Prod.fst).Nodup := by rw [dueT_fst]; exact (allL_nd f w).filter _
theorem off_all {f : Int → Option IxA} {w : WA} (hw : WOk w) (hg : GdE f w) {ys : List (Int × Int)} (hs : ∀ y ∈ ys, y ∈ dueL f w) (hn : (ys.map Prod.fst).Nodup) :
  GdE (offF w f ys) w ∧ allL (offF w f ys) w = allL f w ∧ (∀ a, edF (offF w f ys) a = edF f a) ∧ (∀ a, (offF w f ys a).map IxA.events = (f a).map IxA.events) ∧
   dueL (offF w f ys) w = (dueL f w).filter fun y => !(decide (y.1 ∈ ys.map Prod.fst) && edF f y.1) := by
 have hat := offF_at (f := f) (w := w) hn fun y hy => (dueT_mem.1 (hs y hy)).2.2
 have hin : ∀ a, a ∈ ys.map Prod.fst → ∃ p : PxA, f a = some p.ix ∧ p.now (readyR w a) ≠ 0 ∧ nwF f w a = p.now (readyR w a) := fun a ha => by
  obtain ⟨y, hy, rfl⟩ := List.mem_map.1 ha
  obtain ⟨h1, h2, _⟩ := dueT_mem.1 (hs y hy)
  obtain ⟨x, _, _, hx, _⟩ := findE_at ((mem_allL hw).1 h1)
  obtain ⟨p, rfl⟩ := hg.ix _ _ hx
  have e : nwF f w y.1 = p.now (readyR w y.1) := by unfold nwF; rw [hx]; exact nw_p p _
  exact ⟨p, hx, by rw [← e]; exact h2, e⟩
 have hix : ∀ a, a ∈ ys.map Prod.fst → ∀ p : PxA, f a = some p.ix → p.now (readyR w a) ≠ 0 → nwF f w a = p.now (readyR w a) → offF w f ys a = some (p.off (readyR w a) (p.p (readyR w a)) (p.q (readyR w a))).ix := fun a ha p h1 h2 h3 => by
  rw [hat, if_pos ha, h3, h1]; exact congrArg some (off_ix p _ h2)
 have hev : ∀ a, (offF w f ys a).map (fun x => (x.wire, x.events)) = (f a).map (fun x => (x.wire, x.events)) := fun a => by
  by_cases ha : a ∈ ys.map Prod.fst
  ·obtain ⟨p, h1, h2, h3⟩ := hin a ha
   rw [hix a ha p h1 h2 h3, h1]; rfl
  ·rw [hat, if_neg ha]
 have hev2 : ∀ a, (offF w f ys a).map IxA.events = (f a).map IxA.events := fun a => by
  have := congrArg (Option.map Prod.snd) (hev a)
  rwa [Option.map_map, Option.map_map] at this
 have hq : ∀ a, qE (offF w f ys) w a = qE f w a := fun a => qE_wire (by
  have := congrArg (Option.map Prod.fst) (hev a)
  rwa [Option.map_map, Option.map_map] at this)
 have hal : allL (offF w f ys) w = allL f w := by unfold allL; simp only [hq]
 have hed : ∀ a, edF (offF w f ys) a = edF f a := fun a => by
  have h := hev2 a
  unfold edF edgE
  cases h1 : f a with
  | none =>
   rw [h1] at h
   cases h2 : offF w f ys a with
   | none => rfl
   | some z => rw [h2] at h; cases h
  | some z =>
   rw [h1] at h
   cases h2 : offF w f ys a with
   | none => rw [h2] at h; cases h
   | some z2 =>
    rw [h2] at h
    have e : z2.events = z.events := by simpa using h
    show decide (bits .and .i64 z2.events 32 ≠ 0) = decide (bits .and .i64 z.events 32 ≠ 0)
    rw [e]
 have hnw : ∀ a, nwF (offF w f ys) w a = if a ∈ ys.map Prod.fst ∧ edF f a = true then 0 else nwF f w a := fun a => by
  by_cases ha : a ∈ ys.map Prod.fst
  ·obtain ⟨p, h1, h2, h3⟩ := hin a ha
   have e1 : nwF (offF w f ys) w a = (p.off (readyR w a) (p.p (readyR w a)) (p.q (readyR w a))).now (readyR w a) := by
    unfold nwF; rw [hix a ha p h1 h2 h3]; exact nw_p _ _
   have e2 : edF f a = p.e := by unfold edF; rw [h1]; exact edg_p p
   rw [e1, off_now, h3, e2]
   by_cases h : p.e = true
   ·rw [if_pos h, if_pos ⟨ha, h⟩]
   ·rw [if_neg h, if_neg (fun c => h c.2)]
  ·rw [if_neg (fun c => ha c.1)]
   exact nwF_congr (by rw [hat, if_neg ha])
 refine ⟨⟨fun a x hx => ?_, fun a x hx => ?_⟩, hal, hed, hev2, ?_⟩
 ·by_cases ha : a ∈ ys.map Prod.fst
  ·obtain ⟨p, h1, h2, h3⟩ := hin a ha
   rw [hix a ha p h1 h2 h3] at hx; exact ⟨_, (Option.some.inj hx).symm⟩
  ·rw [hat, if_neg ha] at hx; exact hg.ix a x hx
 ·rw [hq]
  have h := hev2 a
  rw [hx] at h
  cases h1 : f a with
  | none => rw [h1] at h; cases h
  | some z => exact hg.lv a z h1
 ·show dueT _ w (allL _ w) = _
  rw [hal]; unfold dueL dueT; rw [List.filter_filterMap]; refine fm_congr fun a _ => ?_
  rw [hnw a]
  by_cases h : a ∈ ys.map Prod.fst ∧ edF f a = true
  ·rw [if_pos h, if_pos rfl]
   by_cases h0 : nwF f w a = 0
   ·rw [if_pos h0]; rfl
   ·rw [if_neg h0]
    show none = Option.filter _ (some _)
    rw [Option.filter_some, if_neg (by simp [h.2]; simpa using h.1)]
  ·rw [if_neg h]
   by_cases h0 : nwF f w a = 0
   ·rw [if_pos h0]; rfl
   ·rw [if_neg h0]
    show some _ = Option.filter _ (some _)
    rw [Option.filter_some, if_pos]; simp only [Bool.not_eq_true', Bool.and_eq_false_iff, decide_eq_false_iff_not]
    by_cases h1 : a ∈ ys.map Prod.fst
    ·exact .inr (by cases h2 : edF f a with
      | false => rfl
      | true => exact absurd ⟨h1, h2⟩ h)
    ·exact .inl h1
theorem add_gd {limit : Int} {f : Int → Option IxA} {w : WA} (hg : GdE f w) (fd ev : Int) (hev : InK .i64 ev) :
  ((ctlR limit f w 1 fd ev).1 ≠ 0 ∧ (ctlR limit f w 1 fd ev).2 = f) ∨ ((ctlR limit f w 1 fd ev).1 = 0 ∧ f fd = none ∧ (ctlR limit f w 1 fd ev).2 = updF f fd (some (addX w fd ev)) ∧ GdE (ctlR limit f w 1 fd ev).2 w ∧ (ctlR limit f w 1 fd ev).2 fd = some (addX w fd ev) ∧ w.at fd ≠ none) := by
 unfold ctlR
 by_cases h1 : ((1 : Int) < 1 ∨ (3 : Int) < 1) ∨ ((1 : Int) ≠ 3 ∧ bits .andNot .i64 ev 37 ≠ 0)
 ·rw [if_pos h1]; exact .inl ⟨by show (2 : Int) ≠ 0; decide, rfl⟩
 rw [if_neg h1]
 by_cases h2 : w.at fd = none
 ·rw [if_pos h2]; exact .inl ⟨by show (110 : Int) ≠ 0; decide, rfl⟩
 rw [if_neg h2]
 by_cases h3 : (1 : Int) = 1 ∧ qE f w fd = true
 ·rw [if_pos h3]; exact .inl ⟨by show (150 : Int) ≠ 0; decide, rfl⟩
 rw [if_neg h3]
 by_cases h4 : (1 : Int) = 1 ∧ limit ≤ ((allL f w).length : Int)
 ·rw [if_pos h4]; exact .inl ⟨by show (152 : Int) ≠ 0; decide, rfl⟩
 rw [if_neg h4, if_pos rfl]
 have hno : f fd = none := by
  cases h : f fd with
  | none => rfl
  | some x => exact absurd ⟨rfl, hg.lv fd x h⟩ h3
 obtain ⟨i, o, e, he⟩ := ev_of hev (by
  by_cases h : bits .andNot .i64 ev 37 = 0
  ·exact h
  ·exact absurd (.inr ⟨by decide, h⟩) h1)
 have hq : qE (updF f fd (some (addX w fd ev))) w fd = true := by
  unfold qE findE; rw [updF_eq]; dsimp only; rw [if_pos ⟨by cases h : w.at fd with | none => exact absurd h h2 | some _ => rfl, rfl⟩]; rfl
 refine .inr ⟨rfl, hno, rfl, ⟨fun a x hx => ?_, fun a x hx => ?_⟩, updF_eq _ _ _, h2⟩
 ·by_cases ha : a = fd
  ·subst ha
   replace hx : updF f a (some (addX w a ev)) a = some x := hx
   rw [updF_eq] at hx
   obtain rfl := Option.some.inj hx
   rw [he]; exact ⟨_, add_p w a i o e⟩
  ·replace hx : updF f fd (some (addX w fd ev)) a = some x := hx
   rw [updF_ne ha] at hx; exact hg.ix a x hx
 ·by_cases ha : a = fd
  ·subst ha; exact hq
  ·replace hx : updF f fd (some (addX w fd ev)) a = some x := hx
   rw [updF_ne ha] at hx; rw [show qE (updF f fd (some (addX w fd ev))) w a = qE f w a from qE_congr (updF_ne ha)]; exact hg.lv a x hx
theorem polL_perm (f : Int → Option IxA) (w : WA) (ord : List Int) : (polL f w 200 ord).Perm (dueL f w) := by
 unfold polL; rw [List.take_of_length_le (by rw [Sh.shuf_len]; exact Nat.le_trans (dueL_len f w) (by decide))]; exact shuf_perm ord _ _
theorem polL_sub (f : Int → Option IxA) (w : WA) (most : Int) (ord : List Int) : (∀ y ∈ polL f w most ord, y ∈ dueL f w) ∧ ((polL f w most ord).map Prod.fst).Nodup := by
 have hp := shuf_perm ord (dueL f w) (dueL f w).length
 refine ⟨fun y hy => (hp.mem_iff).1 (List.mem_of_mem_take hy), ?_⟩; unfold polL; rw [List.map_take]; exact ((hp.map Prod.fst).nodup_iff.2 (dueL_nd f w)).sublist (List.take_sublist _ _)
end Ep
end Go.Proofs.YtbfddabjbkohdaaGreat
namespace Go.Proofs.YtbfddabjbkohdaaGreat
set_option maxHeartbeats 2000000
set_option linter.unusedSimpArgs false
set_option linter.unusedVariables false
set_option linter.unnecessarySimpa false
open Go.RX Fx
namespace Wo
set_option maxRecDepth 8000
structure Ov where
 k : Int
 a : Int
 n : Int
 t : Int
 ad : Option Addr
 c : Nat
 d : List UInt8
def mkKW (k n : Int) : WireA := if k = 0 then pipeW n.toNat else if k = 1 then halfW n.toNat 2 else if k = 2 then connW n.toNat else listW n.toNat
def mkKE (k : Int) : Nat := if k = 0 ∨ k = 1 then 2 else 1
def makeR (w : WA) (k n : Int) : WA := if n < 1 ∨ 65536 < n ∨ (k = 3 ∧ 64 < n) then w else mkW w (mkKE k) (mkKW k n)
theorem mkKW_z (k n : Int) : ∀ j, j < 2 → ((mkKW k n).e j).inn = 0 ∧ ((mkKW k n).e j).out = 0 := fun j hj => by
 unfold mkKW
 rcases (show j = 0 ∨ j = 1 by omega) with rfl | rfl
 ·split
  ·exact ⟨rfl, rfl⟩
  ·split
   ·exact ⟨rfl, rfl⟩
   ·split <;> exact ⟨rfl, rfl⟩
 ·split
  ·exact ⟨rfl, rfl⟩
  ·split
   ·exact ⟨rfl, rfl⟩
   ·split <;> exact ⟨rfl, rfl⟩
theorem mkKW_new {k n : Int} {l : Nat} (hb : ¬ (n < 1 ∨ 65536 < n ∨ (k = 3 ∧ 64 < n))) (hk : 0 ≤ k ∧ k ≤ 3) : NewW (mkKW k n) l := by
 unfold mkKW
 split
 ·exact pipe_new (by omega)
 ·split
  ·exact half_new (by omega)
  ·split
   ·exact conn_new (by omega)
   ·exact list_new (by omega)
theorem mkKE_le (k : Int) : mkKE k ≤ 2 := by unfold mkKE; split <;> omega
theorem make_stp (w : WA) (k n : Int) (hk : 0 ≤ k ∧ k ≤ 3) : Stp 1 w (makeR w k n) := by
 unfold makeR
 split
 ·exact Stp.same w
 ·rename_i hb
  have hno := (mkKW_new (l := w.ws.length) hb hk).no 1 (by omega)
  unfold mkW
  split
  ·refine (stp_add w (fun j hj => ?_) (fun e => ?_)).mono (Nat.zero_le _)
   ·have h := mkKW_z k n j hj
    rw [open_e]
    split
    ·exact h
    ·exact h
   ·rw [open_e] at e ⊢
    by_cases h1 : 1 < mkKE k
    ·rw [if_pos (by omega)]; show (1 : Int) ≠ 0; decide
    ·rw [if_neg h1] at e; exact absurd e hno
  ·exact Stp.same w
def doA (w : WA) (o : Ov) : WA :=
 if 0 ≤ o.k ∧ o.k ≤ 3 then makeR w o.k o.n
 else if o.k = 4 then (accR w o.a).2
 else if o.k = 5 then (readR w o.a o.n).2
 else if o.k = 6 then (writeR w o.a o.d).2
 else if o.k = 7 then (shutR w o.a).2
 else if o.k = 8 then (closeF w o.a).2
 else if o.k = 9 then (putR w o.a o.d).2
 else if o.k = 10 then (takR w o.a o.n).2
 else if o.k = 11 then (pshutR w o.a).2
 else if o.k = 12 then (pcloseR w o.a).2
 else if o.k = 13 then (resetR w o.a).2
 else if o.k = 14 then (connR w o.a o.n).2
 else if o.k = 15 then passR w o.t
 else if o.k = 16 then (hanR w o.a (decide (o.n > 0))).2
 else if o.k = 17 then (raiR w o.a).2
 else if o.k = 18 then (sigR w).2
 else if o.k = 19 then (notR w o.a o.n).2
 else w
theorem ite_stp {j : Nat} {c : Prop} [Decidable c] {w a b : WA} (h1 : c → Stp j w a) (h2 : ¬ c → Stp j w b) : Stp j w (if c then a else b) := by
 by_cases h : c
 ·rw [if_pos h]; exact h1 h
 ·rw [if_neg h]; exact h2 h
theorem do_stp {w : WA} (h : WOk w) (o : Ov) (ht : 0 ≤ o.t) : Stp 100 w (doA w o) := by
 unfold doA; refine ite_stp (fun hk => (make_stp w o.k o.n hk).mono (by decide)) fun _ => ?_
 refine ite_stp (fun _ => (acc_ok h o.a).2.mono (by decide)) fun _ => ?_
 refine ite_stp (fun _ => (read_stp h o.a o.n).mono (by decide)) fun _ => ?_
 refine ite_stp (fun _ => (write_stp h o.a o.d).mono (by decide)) fun _ => ?_
 refine ite_stp (fun _ => (shut_stp h o.a).mono (by decide)) fun _ => ?_
 refine ite_stp (fun _ => (closeF_ok h o.a).2.2.mono (by decide)) fun _ => ?_
 refine ite_stp (fun _ => (put_stp h o.a o.d).mono (by decide)) fun _ => ?_
 refine ite_stp (fun _ => (tak_stp h o.a o.n).mono (by decide)) fun _ => ?_
 refine ite_stp (fun _ => (pshut_stp h o.a).mono (by decide)) fun _ => ?_
 refine ite_stp (fun _ => (pclose_stp h o.a).mono (by decide)) fun _ => ?_
 refine ite_stp (fun _ => (reset_stp h o.a).mono (by decide)) fun _ => ?_
 refine ite_stp (fun _ => (conn_ok h o.a o.n).2.2.mono (by decide)) fun _ => ?_
 refine ite_stp (fun _ => (pass_ok h o.t ht).2.mono (by decide)) fun _ => ?_
 refine ite_stp (fun _ => (han_ok h o.a _).2.mono (by decide)) fun _ => ?_
 refine ite_stp (fun _ => (rai_ok h o.a).2.mono (by decide)) fun _ => ?_
 refine ite_stp (fun _ => (sig_ok h).2.mono (by decide)) fun _ => ?_
 refine ite_stp (fun _ => (not_ok h o.a o.n).2.mono (by decide)) fun _ => ?_
 exact Stp.same w
theorem do_mk {w : WA} {o : Ov} (h : 0 ≤ o.k ∧ o.k ≤ 3) : doA w o = makeR w o.k o.n := if_pos h
theorem do_4 {w : WA} {o : Ov} (h : o.k = 4) : doA w o = (accR w o.a).2 := by
 obtain ⟨k, a, n, t, ad, c, d⟩ := o
 obtain rfl : k = 4 := h
 rfl
theorem do_5 {w : WA} {o : Ov} (h : o.k = 5) : doA w o = (readR w o.a o.n).2 := by
 obtain ⟨k, a, n, t, ad, c, d⟩ := o
 obtain rfl : k = 5 := h
 rfl
theorem do_6 {w : WA} {o : Ov} (h : o.k = 6) : doA w o = (writeR w o.a o.d).2 := by
 obtain ⟨k, a, n, t, ad, c, d⟩ := o
 obtain rfl : k = 6 := h
 rfl
theorem do_7 {w : WA} {o : Ov} (h : o.k = 7) : doA w o = (shutR w o.a).2 := by
 obtain ⟨k, a, n, t, ad, c, d⟩ := o
 obtain rfl : k = 7 := h
 rfl
theorem do_8 {w : WA} {o : Ov} (h : o.k = 8) : doA w o = (closeF w o.a).2 := by
 obtain ⟨k, a, n, t, ad, c, d⟩ := o
 obtain rfl : k = 8 := h
 rfl
theorem do_9 {w : WA} {o : Ov} (h : o.k = 9) : doA w o = (putR w o.a o.d).2 := by
 obtain ⟨k, a, n, t, ad, c, d⟩ := o
 obtain rfl : k = 9 := h
 rfl
theorem do_10 {w : WA} {o : Ov} (h : o.k = 10) : doA w o = (takR w o.a o.n).2 := by
 obtain ⟨k, a, n, t, ad, c, d⟩ := o
 obtain rfl : k = 10 := h
 rfl
theorem do_11 {w : WA} {o : Ov} (h : o.k = 11) : doA w o = (pshutR w o.a).2 := by
 obtain ⟨k, a, n, t, ad, c, d⟩ := o
 obtain rfl : k = 11 := h
 rfl
theorem do_12 {w : WA} {o : Ov} (h : o.k = 12) : doA w o = (pcloseR w o.a).2 := by
 obtain ⟨k, a, n, t, ad, c, d⟩ := o
 obtain rfl : k = 12 := h
 rfl
theorem do_13 {w : WA} {o : Ov} (h : o.k = 13) : doA w o = (resetR w o.a).2 := by
 obtain ⟨k, a, n, t, ad, c, d⟩ := o
 obtain rfl : k = 13 := h
 rfl
theorem do_14 {w : WA} {o : Ov} (h : o.k = 14) : doA w o = (connR w o.a o.n).2 := by
 obtain ⟨k, a, n, t, ad, c, d⟩ := o
 obtain rfl : k = 14 := h
 rfl
theorem do_15 {w : WA} {o : Ov} (h : o.k = 15) : doA w o = passR w o.t := by
 obtain ⟨k, a, n, t, ad, c, d⟩ := o
 obtain rfl : k = 15 := h
 rfl
theorem do_16 {w : WA} {o : Ov} (h : o.k = 16) : doA w o = (hanR w o.a (decide (o.n > 0))).2 := by
 obtain ⟨k, a, n, t, ad, c, d⟩ := o
 obtain rfl : k = 16 := h
 rfl
theorem do_17 {w : WA} {o : Ov} (h : o.k = 17) : doA w o = (raiR w o.a).2 := by
 obtain ⟨k, a, n, t, ad, c, d⟩ := o
 obtain rfl : k = 17 := h
 rfl
theorem do_18 {w : WA} {o : Ov} (h : o.k = 18) : doA w o = (sigR w).2 := by
 obtain ⟨k, a, n, t, ad, c, d⟩ := o
 obtain rfl : k = 18 := h
 rfl
theorem do_19 {w : WA} {o : Ov} (h : o.k = 19) : doA w o = (notR w o.a o.n).2 := by
 obtain ⟨k, a, n, t, ad, c, d⟩ := o
 obtain rfl : k = 19 := h
 rfl
theorem do_oth {w : WA} {o : Ov} (h : o.k < 0 ∨ 19 < o.k) : doA w o = w := by
 unfold doA
 repeat rw [if_neg (by omega)]
theorem Lo.bd {K : Nat} {w : WA} (h : Lo K w) {B : Int} (hk : (K : Int) ≤ B) : ∀ c ∈ w.ct, 0 ≤ c ∧ c ≤ B := fun c hc => by have := h.ct c hc; omega
theorem newA_lo : Lo 0 newA := ⟨fun c hc => by have := (List.mem_replicate.1 hc).2; omega, fun x hx => (by cases hx), by decide, fun x hx => (by cases hx)⟩
def runA (w : WA) (l : List Ov) : WA := l.foldl doA w
theorem runA_snoc (w : WA) (l : List Ov) (o : Ov) : runA w (l ++ [o]) = doA (runA w l) o := by unfold runA; rw [List.foldl_append]; rfl
end Wo
end Go.Proofs.YtbfddabjbkohdaaGreat
namespace Go.Proofs.YtbfddabjbkohdaaGreat
set_option maxHeartbeats 2000000
set_option linter.unusedSimpArgs false
set_option linter.unusedVariables false
set_option linter.unnecessarySimpa false
open Go.RX Fx
namespace Ep
open Wo
set_option maxRecDepth 8000
abbrev sumT (n : Int) : Int := Int.tmod (Int.tdiv n 1) 2 * 1 + Int.tmod (Int.tdiv n 4) 2 * 4 + Int.tmod (Int.tdiv n 32) 2 * 32
def badT (op ev : Int) : Prop := (op < 1 ∨ 3 < op) ∨ (op < 3 ∧ (ev < 0 ∨ ev ≠ sumT ev))
instance (op ev : Int) : Decidable (badT op ev) := by unfold badT; exact inferInstance
end Ep
end Go.Proofs.YtbfddabjbkohdaaGreat
namespace Go.Proofs.YtbfddabjbkohdaaGreat
set_option maxHeartbeats 2000000
set_option linter.unusedSimpArgs false
set_option linter.unusedVariables false
set_option linter.unnecessarySimpa false
open Go.RX Fx
namespace Rf
open Wo
set_option maxRecDepth 8000
structure RwI where
 a : Nat → Option Addr
 c : Nat → Nat
 wa : Option Addr
 wc : Nat
abbrev Row := WireA × RwI
abbrev encRE (x : EndA) (a : Option Addr) (c : Nat) : List Value := [.int .i64 x.what, .int .i64 x.fd, .bool x.rd, .bool x.wr, .slice a x.b.length c, .bool x.shut, .int .u64 x.inn, .int .u64 x.out]
abbrev encRW (p : Row) : List Value := encRE (p.1.e 0) (p.2.a 0) (p.2.c 0) ++ (encRE (p.1.e 1) (p.2.a 1) (p.2.c 1) ++ [.int .i64 (p.1.cap : Int), .bool p.1.rs, .int .i64 p.1.bl, .slice p.2.wa p.1.wt.length p.2.wc])
theorem encRW_len (p : Row) : (encRW p).length = 20 := rfl
theorem encRW_one (p : Row) : ∀ u ∈ encRW p, u.oneCell' = true := by simp [Value.oneCell']
abbrev SdB (p : Row) (k : Nat) : SP := own 5 1 (p.2.a k) (p.1.e k).b.length (p.2.c k) (bsl (p.1.e k).b)
abbrev SdW (p : Row) : SP := own 3 1 p.2.wa p.1.wt.length p.2.wc (nats p.1.wt)
abbrev SdL (p : Row) (k : Nat) (L : List SP) : List SP := SdB p k :: SdB p (1 - k) :: SdW p :: L
def Sd (p : Row) : SP := RX.ex fun k : Nat => pu (k < 2) :: SdL p k []
theorem Hd.sd {E : World} {n : Nat} {ds : List Deferred} {st : List (Nat × Value)} {L L' : List SP} {K : Act → World → Prop} {p : Row} (q : Pick L (Sd p) L') (k : Nat) (hk : k < 2) (h : Hd E n ds st (SdL p k L') K) : Hd E n ds st L K :=
 Hd.exs (f := fun k : Nat => pu (k < 2) :: SdL p k []) q fun j => Hd.pure fun hj => by
  by_cases e : j = k
  ·subst e; exact h
  ·obtain rfl : j = 1 - k := by omega
   refine Hd.heap (SdL p k L') (fun q s => ?_) h
   have e2 : 1 - (1 - k) = k := by omega
   have s' : sep (SdL p (1 - k) L') q := s
   unfold SdL at s'; rw [e2] at s'; exact Ent.sep enn q s'
theorem sd_fold {p : Row} {k : Nat} (hk : k < 2) {L : List SP} : ∀ h, sep (SdL p k L) h → sep (Sd p :: L) h := fun h s => Ent.sep (.ex k (.pure hk enn)) h s
theorem sd_same {p p' : Row} (hb : ∀ k, k < 2 → (p'.1.e k).b = (p.1.e k).b) (hw : p'.1.wt = p.1.wt) (hi : p'.2 = p.2) : Sd p' = Sd p := by
 have h : ∀ k, k < 2 → SdL p' k [] = SdL p k [] := fun k hk => by
  unfold SdL SdB SdW; rw [hb k hk, hb (1 - k) (by omega), hw, hi]
 unfold Sd
 funext q
 refine propext ⟨?_, ?_⟩
 ·rintro ⟨k, s⟩
  have hk : k < 2 := by obtain ⟨_, _, _, _, _, hf, _⟩ := s; exact hf
  exact ⟨k, by show sep (pu (k < 2) :: SdL p k []) q; rw [← h k hk]; exact s⟩
 ·rintro ⟨k, s⟩
  have hk : k < 2 := by obtain ⟨_, _, _, _, _, hf, _⟩ := s; exact hf
  exact ⟨k, by show sep (pu (k < 2) :: SdL p' k []) q; rw [h k hk]; exact s⟩
abbrev ntV : Option (Nat × Nat) → List Value
 | none => [.int .i64 (-1), .int .i64 0]
 | some (n, k) => [.int .i64 (n : Int), .int .i64 (k : Int)]
abbrev RwC (w : WA) (n : Nat) (ad : Option Addr) (c : Nat) : List Value := [.slice ad n c, .int .u64 w.now] ++ (w.hd.map .bool ++ (w.ct.map (Value.int .i64) ++ ntV w.nt))
abbrev RwH (b : Nat) (w : WA) (n : Nat) (ad : Option Addr) (c : Nat) : SP := pt b (RwC w n ad c) 133
abbrev Rows_ := List Row × Option Addr × Nat
abbrev OwR (i : Rows_) : SP := own 221 20 i.2.1 i.1.length i.2.2 (i.1.flatMap encRW)
abbrev RwL (b : Nat) (w : WA) (i : Rows_) (L : List SP) : List SP := RwH b w i.1.length i.2.1 i.2.2 :: OwR i :: Bag Sd i.1 :: L
def RwP (b : Nat) (w : WA) : SP := RX.ex fun i : Rows_ => pu (i.1.map Prod.fst = w.ws) :: RwL b w i []
theorem Hd.rw {E : World} {n : Nat} {ds : List Deferred} {st : List (Nat × Value)} {L L' : List SP} {K : Act → World → Prop} {b : Nat} {w : WA} (p : Pick L (RwP b w) L') (h : ∀ i : Rows_, i.1.map Prod.fst = w.ws → Hd E n ds st (RwL b w i L') K) : Hd E n ds st L K :=
 Hd.exs (f := fun i : Rows_ => pu (i.1.map Prod.fst = w.ws) :: RwL b w i []) p fun i => Hd.pure fun hr => h i hr
theorem rw_fold {b : Nat} {w : WA} {i : Rows_} {L : List SP} (h : i.1.map Prod.fst = w.ws) : ∀ k, sep (RwL b w i L) k → sep (RwP b w :: L) k := fun k s => Ent.sep (.ex i (.pure h enn)) k s
theorem row_at {w : WA} {i : Rows_} (h : i.1.map Prod.fst = w.ws) {n : Nat} {x : WireA} (hn : w.ws[n]? = some x) : ∃ j, i.1[n]? = some (x, j) := by
 rw [← h, List.getElem?_map] at hn
 cases hr : i.1[n]? with
 | none => rw [hr] at hn; cases hn
 | some p => rw [hr] at hn; obtain ⟨y, j⟩ := p; obtain rfl := Option.some.inj hn; exact ⟨j, rfl⟩
theorem rows_n {w : WA} {i : Rows_} (h : i.1.map Prod.fst = w.ws) : i.1.length = w.ws.length := by rw [← h, List.length_map]
theorem rcell {rs : List Row} {n k j o : Nat} {x : WireA} {i : RwI} {v : Value} (h : rs[n]? = some (x, i)) (hk : k < 2) (hj : j < 8) (ho : o = n * 20 + k * 8 + j) (hv : (encRE (x.e k) (i.a k) (i.c k))[j]? = some v) : (rs.flatMap encRW)[o]? = some v := by
 subst ho; rw [Nat.add_assoc]; refine flat_cells encRW 20 encRW_len h (k * 8 + j) v ?_
 rcases (show k = 0 ∨ k = 1 by omega) with rfl | rfl
 ·rw [show 0 * 8 + j = j by omega, List.getElem?_append_left (by simp; omega)]; exact hv
 ·rw [List.getElem?_append_right (by simp), List.getElem?_append_left (by simp; omega)]
  simpa using hv
theorem rcellW {rs : List Row} {n j o : Nat} {x : WireA} {i : RwI} {v : Value} (h : rs[n]? = some (x, i)) (ho : o = n * 20 + j) (hv : (encRW (x, i))[j]? = some v) : (rs.flatMap encRW)[o]? = some v := by
 subst ho; exact flat_cells encRW 20 encRW_len h j v hv
theorem rset {rs : List Row} {n k j o : Nat} {x x' : WireA} {i i' : RwI} {v : Value} (h : rs[n]? = some (x, i)) (hk : k < 2) (hj : j < 8) (ho : o = n * 20 + k * 8 + j) (he : (encRE (x.e k) (i.a k) (i.c k)).set j v = encRE (x'.e k) (i'.a k) (i'.c k))
  (h1 : encRE (x.e (1 - k)) (i.a (1 - k)) (i.c (1 - k)) = encRE (x'.e (1 - k)) (i'.a (1 - k)) (i'.c (1 - k))) (h2 : (encRW (x, i)).drop 16 = (encRW (x', i')).drop 16) : (rs.flatMap encRW).set o v = (rs.set n (x', i')).flatMap encRW := by
 subst ho; refine rows_set (j := k * 8 + j) encRW_len (by omega) ?_ h (by omega)
 have h3 : ([.int .i64 (x.cap : Int), .bool x.rs, .int .i64 x.bl, .slice i.wa x.wt.length i.wc] : List Value) = [.int .i64 (x'.cap : Int), .bool x'.rs, .int .i64 x'.bl, .slice i'.wa x'.wt.length i'.wc] := h2
 rcases (show k = 0 ∨ k = 1 by omega) with rfl | rfl
 ·rw [show 0 * 8 + j = j by omega]
  show (encRE (x.e 0) (i.a 0) (i.c 0) ++ _).set j v = _
  rw [List.set_append_left _ _ (by simp; omega), he]
  show _ ++ (encRE (x.e 1) (i.a 1) (i.c 1) ++ _) = _ ++ (_ ++ _)
  rw [h1, h3]
 ·show (encRE (x.e 0) (i.a 0) (i.c 0) ++ (encRE (x.e 1) (i.a 1) (i.c 1) ++ _)).set (1 * 8 + j) v = _
  rw [List.set_append_right _ _ (by simp), List.set_append_left _ _ (by simp; omega)]; rw [show 1 * 8 + j - (encRE (x.e 0) (i.a 0) (i.c 0)).length = j by simp, he, h3]
  have h1' : encRE (x.e 0) (i.a 0) (i.c 0) = encRE (x'.e 0) (i'.a 0) (i'.c 0) := h1
  rw [h1']
section
variable {E : World} {n : Nat} {ds : List Deferred} {st : List (Nat × Value)} {L L' : List SP} {P : Program} {d : Nat} {ty t : TypeId} {pos : String} {af : Array Edge} {g : Option (Nat × Bool)} {op : Operand} {v : Value}
theorem y_rc {e m c q k o : Nat} {ad : Option Addr} {rs : List Row} {x : WireA} {i : RwI} (ha : agk P t = some false) (hx : evo st op = some (.pointer (some ((adr ad).add o)))) (hr : rs[q]? = some (x, i)) (hk : k < 2) (j : Nat) (hv : (encRE (x.e k) (i.a k) (i.c k))[j]? = some v)
  (p : Pick L (own e 20 ad m c (rs.flatMap encRW)) L' := by repeat (first | with_reducible exact Pick.here | apply Pick.there | with_reducible apply Pick.right)) (ho : o = q * 20 + k * 8 + j := by omega) (hj : j < 8 := by decide) : Yv E n ds st L P ⟨some d, .load t op, ty, pos, af, g⟩ v :=
 y_loadR1 ha hx (RdS.own p) (rcell hr hk hj ho hv)
theorem y_rw {e m c q o : Nat} {ad : Option Addr} {rs : List Row} {x : WireA} {i : RwI} (ha : agk P t = some false) (hx : evo st op = some (.pointer (some ((adr ad).add o)))) (hr : rs[q]? = some (x, i)) (j : Nat) (hv : (encRW (x, i))[j]? = some v)
  (p : Pick L (own e 20 ad m c (rs.flatMap encRW)) L' := by repeat (first | with_reducible exact Pick.here | apply Pick.there | with_reducible apply Pick.right)) (ho : o = q * 20 + j := by omega) : Yv E n ds st L P ⟨some d, .load t op, ty, pos, af, g⟩ v :=
 y_loadR1 ha hx (RdS.own p) (rcellW hr ho hv)
end
end Rf
end Go.Proofs.YtbfddabjbkohdaaGreat
namespace Go.Proofs.YtbfddabjbkohdaaGreat
set_option maxHeartbeats 2000000
set_option linter.unusedSimpArgs false
set_option linter.unusedVariables false
set_option linter.unnecessarySimpa false
open Go.RX Fx
namespace Wo
set_option maxRecDepth 8000
theorem free_itR (wb bx : Nat) (t : Int → Option (Nat × Nat)) : RX.ItR Tryz.prog 174 [.pointer (some ⟨bx, 0, none⟩)] encF (fun ys => ys = frees t) (fun ys => ys <+: frees t) wb 0 (fdC t)
  [pt bx [.pointer (some ⟨wb, 0, none⟩)] 38] [pt bx [.pointer (some ⟨wb, 0, none⟩)] 38] := by
 intro l J X hy hRd; refine Ct.of (vs := [.func (.yield l) #[] #[], .pointer (some ⟨bx, 0, none⟩)]) Tryz.func174 rfl rfl [(0, .func (.yield l) #[] #[]), (1, .pointer (some ⟨bx, 0, none⟩))] ⟨rfl, rfl, trivial⟩ ?_; intro E
 show Hd E 23 _ _ _ _
 refine Hd.heap (pt bx [.pointer (some ⟨wb, 0, none⟩)] 38 :: J []) (fun k h => by have := sep_app h; exact this) ?_; refine Hd.sr fun _ hK1 => ?_
 refine Hd.yv (y_l1 ag38 rfl) ?_; refine Hd.yv y_np ?_; refine Hd.yv (y_f 0 207 Tryz.underlying210 sz207) ?_; refine Hd.yv (y_loadn (us := fdC t) ag207 rfl (hRd.mono (fun k s => by obtain ⟨_, _, _, _, b, _, y⟩ := s; exact y.up b)) (by rw [fdC_len]; exact sz207)) ?_; refine Hd.yv y_mv ?_; refine Hd.fk [(0, _), (8, _), (9, _)] hK1 ?_; refine Hd.block ?_; refine Hd.loopK (ι := Nat) [(0, _), (8, _)] (fun i => [(9, .int .i64 (i : Int))]) (fun i => pu (i ≤ 96) :: pt bx [.pointer (some ⟨wb, 0, none⟩)] 38 :: J ((List.range i).filter fun fd : Nat => (t (fd : Int)).isNone)) (fun i => 96 - i) 0 sbq sbq (Ent.sep (.pure (by omega) enn)) ?_; intro i
 try dsimp only
 refine Hd.pure (fun hp0 => ?_)
 try dsimp only at hp0
 refine Hd.sr fun _ hK2 => ?_
 refine Hd.yv (y_lss rfl rfl) ?_; refine Hd.fk [(0, _), (8, _), (9, _), (10, _)] hK2 ?_; refine Hd.seq fun _ hK3 => ?_
 refine Hd.cond rfl (fun hc0 => ?_) (fun hc0 => ?_)
 ·
  try simp only [hyA, hyB, hyC, ne_eq] at hc0
  have hi : i < 96 := by omega
  have hsf := range_succ_filter (fun fd : Nat => (t (fd : Int)).isNone) i
  refine Hd.skip ?_; refine Hd.toK hK3 ?_; refine Hd.seq fun _ hK4 => ?_
  refine Hd.block ?_; refine Hd.sr fun _ hK5 => ?_
  refine Hd.yv y_mv ?_; refine Hd.yv (y_indexn (us := plc (t (i : Int))) Tryz.underlying207 ag190 sz190 rfl rfl hi (fdC_drop hi)) ?_; refine Hd.alloc zr190 (fun b4 => ?_); refine Hd.yv y_as ?_; refine Hd.storeA (us := plc (t (i : Int))) (by rw [plc_len]; exact sz190) rfl rfl rfl (plc_one _) pkk (by rw [plc_len]; rfl) ?_; refine Hd.fk [(0, _), (3, _), (4, _), (8, _), (9, _)] hK5 ?_; refine Hd.sr fun _ hK6 => ?_
  refine Hd.yv (y_f 0 4 Tryz.underlying190 sz4) ?_; refine Hd.yv (y_load1 ag4 rfl (Rd.pt1 pkk (by exact plc0 _))) ?_; refine Hd.yv (y_not rfl) ?_; refine Hd.yv y_mv ?_; refine Hd.part (gd := 16) rfl (fun hg3_16 => ?_) (fun hg3_16 => ?_)
  ·
   try simp only [hyA, hyB, hyC, ne_eq] at hg3_16
   have hfr : (t (i : Int)).isNone = true := by cases h : t (i : Int) <;> simp [h] at hg3_16 ⊢
   rw [if_pos hfr] at hsf
   have hpr : ((List.range i).filter fun fd : Nat => (t (fd : Int)).isNone) ++ [i] <+: frees t := by rw [← hsf]; exact range_prefix _ hi
   refine Hd.yg rfl rfl y_mv ?_; refine Hd.yg rfl rfl y_mv ?_; refine Hd.unguard rfl rfl ?_; refine Hd.yield (pre := (List.range i).filter fun fd : Nat => (t (fd : Int)).isNone) (c := i) (M := [pt bx [.pointer (some ⟨wb, 0, none⟩)] 38]) hy rfl rfl hpr (fun k' h => sep_app (show sep ([pt bx [.pointer (some ⟨wb, 0, none⟩)] 38] ++ J ((List.range i).filter fun fd : Nat => (t (fd : Int)).isNone)) k' from Ent.sep (show Ent _ (pt bx [.pointer (some ⟨wb, 0, none⟩)] 38 :: J ((List.range i).filter fun fd : Nat => (t (fd : Int)).isNone)) from enn) k' h)) ?_; intro yb; refine Hd.yg rfl rfl (y_not rfl) ?_; refine Hd.yv (y_pickT rfl rfl) ?_; refine Hd.fk [(0, _), (8, _), (9, _), (21, _)] hK6 ?_; refine Hd.cond rfl (fun hc1 => ?_) (fun hc1 => ?_)
   ·
    try simp only [hyA, hyB, hyC, ne_eq] at hc1
    subst hc1; simp only [cond_false]; refine Hd.ret ?_; refine Hd.inBret ?_; refine Hd.thenRet ?_; refine Hd.thenRet ?_; refine Hd.inBret ?_; clear hK1 hK2 hK3 hK4 hK5 hK6; exact Hd.ret0 rfl (((List.range i).filter fun fd : Nat => (t (fd : Int)).isNone) ++ [i], false) rfl (fun k' h => Ent.sep (.pure hpr .same) k' h)
   ·
    try simp only [hyA, hyB, hyC, ne_eq] at hc1
    subst hc1; simp only [cond_true]; refine Hd.heap (pt bx [.pointer (some ⟨wb, 0, none⟩)] 38 :: J (((List.range i).filter fun fd : Nat => (t (fd : Int)).isNone) ++ [i])) (fun k' h => sep_app h) ?_; rw [← hsf]; refine Hd.skip ?_; refine Hd.inB ?_; refine Hd.toK hK4 ?_; refine Hd.region ?_; refine Hd.yv (y_addn rfl rfl (by simp only [InK]; omega)) ?_; refine Hd.yv y_mv ?_; refine Hd.nil ?_; refine Hd.slots [(0, _), (8, _), (9, _)] sbq ?_; clear hK1 hK2 hK3 hK4 hK5 hK6; refine Hd.thenN ?_; exact Hd.again (i + 1) (by omega) sbq (Ent.sep (.pure (by omega) enn))
  ·
   try simp only [hyA, hyB, hyC, ne_eq] at hg3_16
   have hfr : (t (i : Int)).isNone = false := by cases h : t (i : Int) <;> simp [h] at hg3_16 ⊢
   rw [if_neg (by rw [hfr]; simp)] at hsf; refine Hd.ng rfl rfl rfl ?_; refine Hd.ng rfl rfl rfl ?_; refine Hd.ng rfl rfl rfl ?_; refine Hd.ng rfl rfl rfl ?_; refine Hd.yv (y_pickF rfl rfl) ?_; refine Hd.fk [(0, _), (8, _), (9, _), (21, _)] hK6 ?_; refine Hd.condF rfl ?_; refine Hd.skip ?_; refine Hd.inB ?_; refine Hd.toK hK4 ?_; refine Hd.region ?_; refine Hd.yv (y_addn rfl rfl (by simp only [InK]; omega)) ?_; refine Hd.yv y_mv ?_; refine Hd.nil ?_; refine Hd.slots [(0, _), (8, _), (9, _)] sbq ?_; clear hK1 hK2 hK3 hK4 hK5 hK6; refine Hd.thenN ?_; rw [← hsf]; exact Hd.again (i + 1) (by omega) sbq (Ent.sep (.pure (by omega) enn))
 ·
  try simp only [hyA, hyB, hyC, ne_eq] at hc0
  refine Hd.exit ?_; refine Hd.thenExit ?_; refine Hd.thenExit ?_; refine Hd.inBexit ?_; clear hK1 hK2 hK3
  obtain rfl : i = 96 := by omega
  exact Hd.end0 rfl (frees t, true) rfl (fun k' h => Ent.sep (.pure rfl .same) k' (sep_app (M := [pt bx [.pointer (some ⟨wb, 0, none⟩)] 38]) (N := J (frees t)) (Ent.sep enn k' h)))
theorem acc_yes {w : WA} (h : WOk w) {fd : Int} {m k a f : Nat} {x : WireA} {t fs : List Nat} (hm : w.at fd = some (m, k)) (hx : w.ws[m]? = some x) (hbl : x.bl ≠ 0) (hwt : x.wt = a :: t) (hfs : frees w.at = f :: fs) :
  ∃ y, (w.setW m (x.wts t)).ws[a]? = some y ∧ accR w fd = (((f : Int), (a : Int), 0), (w.setW m (x.wts t)).setW a (giveW y f)) ∧ WOk ((w.setW m (x.wts t)).setW a (giveW y f)) ∧ ((w.setW m (x.wts t)).setW a (giveW y f)).at = setT w.at (f : Int) (some (a, 0)) := by
 have hwf := h.wf x (List.mem_of_getElem? hx)
 have hs : SbW x (x.wts t) := sbW_wts hwf (by rw [hwt]; exact List.sublist_cons_self _ _)
 have hsub := flatMap_set_sub (f := WireA.wt) (x' := x.wts t) hx hs.wt
 have hm0 : m ∈ (w.setW m (x.wts t)).ws.flatMap WireA.wt → ((x.wts t).e 0).what = 0 := fun e => by
  obtain ⟨z, hz, hz0⟩ := h.wm m (hsub.subset e)
  rw [hx] at hz; obtain rfl := Option.some.inj hz; exact hz0
 have hat := h.setS_at hx hs hm0 (fun _ _ e => e)
 have hok := h.setS hx hs hm0
 obtain ⟨y0, hy0, hy00⟩ := h.wm a (List.mem_flatMap.2 ⟨x, List.mem_of_getElem? hx, by rw [hwt]; exact List.mem_cons_self⟩)
 have ham : a ≠ m := fun e => h.ns m x hx (by rw [hwt, ← e]; exact List.mem_cons_self)
 have hy : (w.setW m (x.wts t)).ws[a]? = some y0 := by rw [setW_ne ham]; exact hy0
 have hR : accR w fd = (((f : Int), (a : Int), 0), (w.setW m (x.wts t)).setW a (giveW y0 f)) := by
  unfold accR; rw [hm]; dsimp only; rw [hx]; dsimp only; rw [if_neg hbl, hwt]; dsimp only; rw [hfs]; dsimp only; rw [hy]
 have hamw : a ∉ (w.setW m (x.wts t)).ws.flatMap WireA.wt := by
  have hp2 := flatMap_set_app (f := WireA.wt) (bs := [a] ++ t) (l := (w.setW m (x.wts [])).ws) (n := m) (x := x.wts []) (x' := x) (setW_self hx) (by rw [hwt]; rfl)
  have hp3 := flatMap_set_app (f := WireA.wt) (bs := t) (l := (w.setW m (x.wts [])).ws) (n := m) (x := x.wts []) (x' := x.wts t) (setW_self hx) rfl
  have e1 : (w.setW m (x.wts [])).ws.set m x = w.ws := by
   show (w.ws.set m _).set m x = w.ws
   rw [List.set_set]
   obtain ⟨hl, e⟩ := List.getElem?_eq_some_iff.1 hx
   rw [← e, List.set_getElem_self]
  have e2 : (w.setW m (x.wts [])).ws.set m (x.wts t) = (w.setW m (x.wts t)).ws := by
   show (w.ws.set m _).set m _ = w.ws.set m _
   rw [List.set_set]
  rw [e1] at hp2; rw [e2] at hp3
  have hn := hp2.nodup_iff.1 h.wn
  intro hm
  have := hp3.mem_iff.1 hm
  rw [List.append_assoc] at hn; exact (List.nodup_cons.1 hn).1 this
 have hff := frees_mem.1 (show f ∈ frees w.at by rw [hfs]; exact List.mem_cons_self)
 have hg := hok.give (f := f) hy (by rw [hy00]; decide) hamw hff.1 (by rw [hat]; exact hff.2)
 exact ⟨y0, hy, hR, hg.1, by rw [hg.2, hat]⟩
theorem sep_trans {A B C : List SP} (f : ∀ q, sep A q → sep B q) (g : ∀ q, sep B q → sep C q) : ∀ q, sep A q → sep C q := fun q s => g q (f q s)
theorem wire_wts {b k : Nat} {x : WireA} {i : WI} {t : List Nat} {wa : Option Addr} {wc : Nat} {L : List SP} (hi : WIOk x i) (hk : k < 2) : ∀ h, sep (pt b (encW (x.wts t) { i with wa := wa, wc := wc }) 199 :: RgO (i.p k) x.cap (x.e k).b :: RgO (i.p (1 - k)) x.cap (x.e (1 - k)).b :: own 3 1 wa t.length wc (nats t) :: L) h → sep (WireP b (x.wts t) :: L) h := fun h s =>
 wire_fold (x := x.wts t) (i := { i with wa := wa, wc := wc }) (k := k) ⟨hi.rd⟩ hk h s
theorem wire_give {b f : Nat} {y : WireA} {i : WI} {L : List SP} (hi : WIOk y i) : ∀ h, sep (pt b (encW (giveW y f) i) 199 :: RgO (i.p 0) y.cap (y.e 0).b :: RgO (i.p (1 - 0)) y.cap (y.e (1 - 0)).b :: own 3 1 i.wa y.wt.length i.wc (nats y.wt) :: L) h → sep (WireP b (giveW y f) :: L) h := fun h s =>
 wire_fold (x := giveW y f) (i := i) (k := 0) ⟨fun j hj => by
  rcases (show j = 0 ∨ j = 1 by omega) with rfl | rfl
  ·rw [give0]; exact hi.rd 0 hj
  ·rw [give1]; exact hi.rd 1 hj⟩ (by omega) h s
theorem set_fst {rs : List (Nat × WireA)} {n b : Nat} {x x' : WireA} (h : rs[n]? = some (b, x)) : (rs.set n (b, x')).map Prod.fst = rs.map Prod.fst := by
 rw [List.map_set]; apply List.ext_getElem?; intro j
 by_cases e : n = j
 ·subst e
  rw [List.getElem?_set_self (by rw [List.length_map]; exact (List.getElem?_eq_some_iff.1 h).1), List.getElem?_map, h]; rfl
 ·rw [List.getElem?_set_ne e]
abbrev AcH (b2 b4 b5 b6 b7 b8 wb b m k : Nat) (w : WA) (i : WoI) (x : WireA) (L : List SP) : List SP := WireP b x :: pt b2 [.pointer (some ⟨wb, 0, none⟩)] 38 :: pt b4 [.int .i64 0] 3 :: pt b5 [.int .i64 0] 3 :: pt b6 [.int .i64 (fdErr (some (m, k)))] 35 :: pt b7 (plc (some (m, k))) 190 :: pt b8 [ptr (some b)] 191 :: WoR wb m w i L
theorem waccept_ct (L : List SP) (wb : Nat) (w : WA) (fd : Int) : Ct Tryz.prog 59 #[.pointer (some ⟨wb, 0, none⟩), .int .i64 fd] (WorldP wb w :: L) (fun _ : Unit => .tuple #[.int .i64 (accR w fd).1.1, .int .i64 (accR w fd).1.2.1, .int .i64 (accR w fd).1.2.2]) (fun _ : Unit => WorldP wb (accR w fd).2 :: L) := by
 refine Ct.ofM (vs := [.pointer (some ⟨wb, 0, none⟩), .int .i64 fd]) Tryz.func59 rfl rfl [(0, .pointer (some ⟨wb, 0, none⟩)), (1, .int .i64 fd)] sbq ?_; intro E
 show Hd E 79 _ _ _ _
 refine Hd.world .here (fun i hw hrs => ?_); refine Hd.sr fun _ hK1 => ?_
 refine Hd.box rfl rfl (fun b2 => ?_); refine Hd.alloc zr3 (fun b4 => ?_); refine Hd.alloc zr3 (fun b5 => ?_); refine Hd.alloc zr35 (fun b6 => ?_); refine Hd.fk [(1, _), (2, _), (4, _), (5, _), (6, _)] hK1 ?_; refine Hd.sr fun _ hK2 => ?_
 refine Hd.yv (y_l1 ag38 rfl) ?_; refine Hd.yv y_mv ?_; refine Hd.callE rfl fk101 (find_ct _ wb w i hw hrs fd) sq ?_; intro _; refine Hd.yv y_mv ?_; refine Hd.yv (y_to (v' := .agg (plc (w.at fd)).toArray) y_ex (by rfl)) ?_; refine Hd.yv (y_to (v' := ptr (wfb i (w.at fd))) y_ex (by rfl)) ?_; refine Hd.yv (y_to (v' := .int .i64 (fdErr (w.at fd))) y_ex (by rfl)) ?_; refine Hd.alloc zr190 (fun b7 => ?_); refine Hd.alloc zr191 (fun b8 => ?_); refine Hd.storeA (us := plc (w.at fd)) (by rw [plc_len]; exact sz190) rfl rfl rfl (plc_one _) pkk (by rw [plc_len]; rfl) ?_; refine Hd.store1 sz191 rfl rfl rfl pkk (by decide) ?_
 try simp only [List.set_cons_zero, List.set_cons_succ]
 refine Hd.store1 sz35 rfl rfl rfl pkk (by decide) ?_
 try simp only [List.set_cons_zero, List.set_cons_succ]
 refine Hd.fk [(2, _), (4, _), (5, _), (6, _), (8, _)] hK2 ?_; refine Hd.seq fun _ hK3 => ?_
 refine Hd.block ?_; refine Hd.sr fun _ hK4 => ?_
 refine Hd.yv (y_l1 ag35 rfl) ?_; refine Hd.yv (y_neq rfl rfl) ?_; refine Hd.yv y_as ?_; refine Hd.fk [(2, _), (4, _), (5, _), (6, _), (8, _), (18, _)] hK4 ?_; refine Hd.cond rfl (fun hc0 => ?_) (fun hc0 => ?_)
 ·
  try simp only [hyA, hyB, hyC, ne_eq] at hc0
  have hno : w.at fd = none := by
   cases h : w.at fd with
   | none => rfl
   | some p => rw [h] at hc0; exact absurd rfl hc0
  refine Hd.seq fun _ hK5 => ?_
  refine Hd.drawsH ([pt b6 [.int .i64 (fdErr (w.at fd))] 35]) (fun j => !([3].contains j)) mixed ?_; simp only [List.length, Nat.zero_add, Nat.reduceAdd]; refine Hd.takeH 0 rfl kq kq kq kq (y_l1 ag35 rfl) fq sq ?_; refine Hd.onlyH 1 rfl kq ?_; refine Hd.store1 sz3 rfl rfl rfl pkk (by decide) ?_
  try simp only [List.set_cons_zero, List.set_cons_succ]
  refine Hd.nil ?_; refine Hd.thenN ?_; refine Hd.heldK (J := (fun j => !([3].contains j))) (i := 1) sq ?_; refine Hd.onlyH 2 rfl kq ?_; refine Hd.store1 sz3 rfl rfl rfl pkk (by decide) ?_
  try simp only [List.set_cons_zero, List.set_cons_succ]
  refine Hd.nil ?_; refine Hd.thenN ?_; refine Hd.heldK (J := (fun j => !([3].contains j))) (i := 2) sq ?_; refine Hd.onlyH 3 rfl kq ?_; refine Hd.store1 sz35 rfl rfl rfl pkk (by simp; done) ?_
  try simp only [List.set_cons_zero, List.set_cons_succ]
  refine Hd.nil ?_; refine Hd.thenN ?_; refine Hd.heldN (J := (fun j => !([3].contains j))) (i := 3) rfl ?_; refine Hd.endH kq ?_; refine Hd.sk [(4, _), (5, _), (6, _)] hK5 ?_; refine Hd.ret ?_; refine Hd.inBret ?_; refine Hd.thenRet ?_; clear hK1 hK2 hK3 hK4 hK5; rw [show accR w fd = ((0, 0, 110), w) by unfold accR; rw [hno]]; rw [hno]; exact Hd.retM (fun a fr => Lv.endC3 fr rfl () ag3 ag3 ag35 rfl rfl rfl (Rd.pt1 pkk rfl) (Rd.pt1 pkk rfl) (Rd.pt1 pkk rfl) rfl (Ent.sep (.ex i (.pure ⟨hw, hrs⟩ enn))))
 ·
  try simp only [hyA, hyB, hyC, ne_eq] at hc0
  obtain ⟨m, k, hnk⟩ : ∃ m k, w.at fd = some (m, k) := by
   cases h : w.at fd with
   | none => rw [h] at hc0; exact absurd hc0 (by decide)
   | some p => exact ⟨p.1, p.2, rfl⟩
  obtain ⟨hf0, hf1, hk, hn, x, hx, _, _⟩ := hw.at_lt hnk
  obtain ⟨b, hb⟩ := rs_at hrs hx
  have hwf := hw.wf x (List.mem_of_getElem? hx)
  have hml : m < i.rs.length := (List.getElem?_eq_some_iff.1 hb).1
  rw [hnk, wfb_eq hb]; refine Hd.wOut pkk hb ?_; refine Hd.wire .here 0 (by omega) (fun i2 hi => ?_); refine Hd.sr fun _ hK6 => ?_
  refine Hd.yv (y_l1 ag191 rfl) ?_; refine Hd.yv y_np ?_; refine Hd.yv (y_f 15 3 Tryz.underlying199 sz3) ?_; refine Hd.yv (y_l1 ag3 rfl) ?_; refine Hd.yv (y_eql rfl rfl) ?_; refine Hd.yv y_as ?_; refine Hd.fk [(2, _), (4, _), (5, _), (6, _), (8, _), (22, _)] hK6 ?_; refine Hd.cond rfl (fun hc1 => ?_) (fun hc1 => ?_)
  ·
   try simp only [hyA, hyB, hyC, ne_eq] at hc1
   refine Hd.sr fun _ hK7 => ?_
   refine Hd.store1 sz3 rfl rfl rfl pkk (by decide) ?_
   try simp only [List.set_cons_zero, List.set_cons_succ]
   refine Hd.store1 sz3 rfl rfl rfl pkk (by decide) ?_
   try simp only [List.set_cons_zero, List.set_cons_succ]
   refine Hd.store1 sz35 rfl rfl rfl pkk (by simp; done) ?_
   try simp only [List.set_cons_zero, List.set_cons_succ]
   refine Hd.fk [(4, _), (5, _), (6, _)] hK7 ?_; refine Hd.ret ?_; refine Hd.inBret ?_; refine Hd.thenRet ?_; clear hK1 hK2 hK3 hK4 hK6 hK7; rw [show accR w fd = ((0, 0, 111), w) by unfold accR; rw [hnk]; dsimp only; rw [hx]; exact if_pos hc1]; exact Hd.retM (fun a fr => Lv.endC3 fr rfl () ag3 ag3 ag35 rfl rfl rfl (Rd.pt1 pkk rfl) (Rd.pt1 pkk rfl) (Rd.pt1 pkk rfl) rfl (fun q s => world_back (k := 0) hw hrs hb hi (by omega) q (Ent.sep enn q s)))
  ·
   try simp only [hyA, hyB, hyC, ne_eq] at hc1
   refine Hd.sr fun _ hK8 => ?_
   refine Hd.yv (y_l1 ag191 rfl) ?_; refine Hd.yv y_np ?_; refine Hd.yv (y_f 16 44 Tryz.underlying199 sz44) ?_; refine Hd.yv (y_l1 ag44 rfl) ?_; refine Hd.yv (y_len Tryz.underlying44 rfl) ?_; refine Hd.yv (y_eql rfl rfl) ?_; refine Hd.yv y_as ?_; refine Hd.fk [(2, _), (4, _), (5, _), (6, _), (8, _), (28, _)] hK8 ?_; refine Hd.cond rfl (fun hc2 => ?_) (fun hc2 => ?_)
   ·
    try simp only [hyA, hyB, hyC, ne_eq] at hc2
    refine Hd.sr fun _ hK9 => ?_
    refine Hd.store1 sz3 rfl rfl rfl pkk (by decide) ?_
    try simp only [List.set_cons_zero, List.set_cons_succ]
    refine Hd.store1 sz3 rfl rfl rfl pkk (by decide) ?_
    try simp only [List.set_cons_zero, List.set_cons_succ]
    refine Hd.store1 sz35 rfl rfl rfl pkk (by simp; done) ?_
    try simp only [List.set_cons_zero, List.set_cons_succ]
    refine Hd.fk [(4, _), (5, _), (6, _)] hK9 ?_; refine Hd.ret ?_; refine Hd.inBret ?_; refine Hd.thenRet ?_; clear hK1 hK2 hK3 hK4 hK6 hK8 hK9
    have hnil : x.wt = [] := List.eq_nil_of_length_eq_zero (by omega)
    rw [show accR w fd = ((0, 0, 113), w) by unfold accR; rw [hnk]; dsimp only; rw [hx]; dsimp only; rw [if_neg hc1, hnil]]; exact Hd.retM (fun a fr => Lv.endC3 fr rfl () ag3 ag3 ag35 rfl rfl rfl (Rd.pt1 pkk rfl) (Rd.pt1 pkk rfl) (Rd.pt1 pkk rfl) rfl (fun q s => world_back (k := 0) hw hrs hb hi (by omega) q (Ent.sep enn q s)))
   ·
    try simp only [hyA, hyB, hyC, ne_eq] at hc2
    obtain ⟨a, t, hwt⟩ : ∃ a t, x.wt = a :: t := by
     cases h : x.wt with
     | nil => rw [h] at hc2; exact absurd rfl hc2
     | cons a t => exact ⟨a, t, rfl⟩
    refine Hd.skip ?_; refine Hd.inB ?_; refine Hd.toK hK3 ?_; refine Hd.seq fun _ hK10 => ?_
    refine Hd.seq fun _ hK11 => ?_
    refine Hd.heap (AcH b2 b4 b5 b6 b7 b8 wb b m k w i x L) (fun q s => wire_fold (k := 0) hi (by omega) q (Ent.sep enn q s)) ?_; refine Hd.region ?_; refine Hd.yv (y_l1 ag38 rfl) ?_; refine Hd.callE rfl fk115 (free_ct _ wb) sq ?_; intro bx; refine Hd.fk [(2, _), (4, _), (5, _), (6, _), (8, _), (36, _)] hK11 ?_; refine Hd.block ?_; refine Hd.rangeR (enc := encF) (S := fun ys => ys = frees w.at) (Sp := fun ys => ys <+: frees w.at)
     (fun pre => pu (pre = []) :: AcH b2 b4 b5 b6 b7 b8 wb b m k w i x L) (fun j _ => [pu (j = none), pt b4 [.int .i64 (accR w fd).1.1] 3, pt b5 [.int .i64 (accR w fd).1.2.1] 3, pt b6 [.int .i64 (accR w fd).1.2.2] 35, WorldP wb (accR w fd).2] ++ L)
     rfl kq (fun _ => rfl) rfl (free_itR wb bx w.at) (Rd.pt pkk (fun j v e => by rw [Nat.zero_add, List.getElem?_append_left (List.getElem?_eq_some_iff.1 e).1]; exact e)) (by refine Ent.sep ?_; refine Ent.pure rfl ?_; exact Ent.swap (L := [_])) ?_ ?_ ?_
    ·
     intro E l' R pre f N hR hG; unfold Rnd; simp only [List.cons_append, List.nil_append, pz, encF]; refine Hd.region ?_; refine Hd.yv y_as ?_; refine Hd.nil ?_; refine Hd.slots [(2, _), (4, _), (5, _), (6, _), (8, _), (9, _)] sbq ?_; refine Hd.thenN ?_; refine Hd.begin hR pkk ?_; refine Hd.block ?_; refine Hd.seq fun _ hK12 => ?_
     refine Hd.pull (A := pu (pre = [])) pkk ?_; refine Hd.pure (fun hpn => ?_); subst hpn
     obtain ⟨fs, hfs0⟩ := hG
     have hfs : frees w.at = f :: fs := hfs0.symm
     have hf96 : f < 96 := (frees_mem.1 (show f ∈ frees w.at by rw [hfs]; exact List.mem_cons_self)).1
     obtain ⟨y, hy, hAR, hok, hat⟩ := acc_yes hw hnk hx hc1 hwt hfs
     have ham : a ≠ m := fun e => hw.ns m x hx (by rw [hwt, ← e]; exact List.mem_cons_self)
     have hyw : w.ws[a]? = some y := by rw [setW_ne ham] at hy; exact hy
     obtain ⟨ba, hba⟩ := rs_at hrs hyw
     have hal : a < i.rs.length := (List.getElem?_eq_some_iff.1 hba).1
     have hra : (i.rs.set m (b, x.wts t))[a]? = some (ba, y) := by rw [List.getElem?_set_ne (Ne.symm ham)]; exact hba
     have hwl : 0 < x.wt.length := by rw [hwt]; exact Nat.succ_pos _
     have hlt : x.wt.length - 1 = t.length := by rw [hwt]; rfl
     have hw0 : (nats x.wt)[0 * 1]? = some (.int .i64 (a : Int)) := by rw [hwt]; rfl
     refine Hd.wire pkk 0 (by omega) (fun i3 hi3 => ?_); refine Hd.region ?_; refine Hd.yv (y_l1 ag191 rfl) ?_; refine Hd.yv y_np ?_; refine Hd.yv (y_f 16 44 Tryz.underlying199 sz44) ?_; refine Hd.yv (y_l1 ag44 rfl) ?_; refine Hd.yv (y_idxR Tryz.underlying44 sz3 rfl rfl (by exact (show (0 : Nat) < _ by omega)) (by exact RdS.own pkk)) ?_; refine Hd.yv (y_loadR1 ag3 rfl (RdS.own (ad := i3.wa) (us := nats x.wt) pkk) hw0) ?_; refine Hd.store1 sz3 rfl rfl rfl pkk (by decide) ?_
     try simp only [List.set_cons_zero, List.set_cons_succ]
     refine Hd.fk [(2, _), (4, _), (5, _), (6, _), (8, _), (9, _)] hK12 ?_; refine Hd.seq fun _ hK13 => ?_
     refine Hd.tail 8 mixed kq ?_; simp only [List.take, List.drop]; refine Ht.yv (y_l1 ag191 rfl) ?_; refine Ht.yv (y_l1 ag191 rfl) ?_; refine Ht.yv y_np ?_; refine Ht.yv (y_f 16 44 Tryz.underlying199 sz44) ?_; refine Ht.yv (y_l1 ag44 rfl) ?_; refine Ht.yv (y_slo_oxx Tryz.underlying44 sz3 rfl rfl (by omega) (by omega)) ?_; refine Ht.yv y_np ?_; refine Ht.yv (y_f 16 44 Tryz.underlying199 sz44) ?_; refine Ht.nil ?_; refine Hd.store1 sz44 rfl rfl rfl pkk (by simp; done) ?_
     try simp only [List.set_cons_zero, List.set_cons_succ]
     refine Hd.nil ?_; simp only [show Int.toNat 1 = 1 from rfl]; refine Hd.ownDrop (e := 3) (ad := i3.wa) (m := x.wt.length) (cap := i3.wc) pkk 1 (nats [a]) (nats t) (by omega) (by rw [hwt]; rfl) rfl ?_; rw [hlt, show (encW x i3).set (0 + 16) (.slice (cutA i3.wa 1 1 i3.wc) t.length (i3.wc - 1)) = encW (x.wts t) { i3 with wa := cutA i3.wa 1 1 i3.wc, wc := i3.wc - 1 } from rfl]; refine Hd.heap (WireP b (x.wts t) :: _) (fun q s => wire_wts (k := 0) hi3 (by omega) q (by exact Ent.sep enn q s)) ?_; refine Hd.heap (Wires (i.rs.set m (b, x.wts t)) :: _) (fun q s => ws_in hml (by exact Ent.sep enn q s)) ?_; refine Hd.sk [(2, _), (4, _), (5, _), (6, _), (9, _)] hK13 ?_; refine Hd.seq fun _ hK14 => ?_
     refine Hd.quiet mixed kq ?_; refine Hq.yv (y_l1 ag38 rfl) ?_; refine Hq.yv y_np ?_; refine Hq.yv (y_f 288 208 Tryz.underlying210 sz208) ?_; refine Hq.yv (y_load1 ag208 rfl (Rd.pt1 pkk (by exact woT_at (j := 0) (by omega) rfl))) ?_; refine Hq.yv (y_l1 ag3 rfl) ?_; refine Hq.yv (y_idxR Tryz.underlying208 sz191 rfl rfl (by omega) (by exact RdS.own pkk)) ?_; refine Hq.yv (y_loadR1 ag191 rfl (by exact RdS.own pkk) (by exact pws_at hba)) ?_; refine Hq.yv y_as ?_; refine Hq.nil ?_; refine Hd.sk [(2, _), (4, _), (5, _), (6, _), (9, _), (10, _)] hK14 ?_; refine Hd.seq fun _ hK15 => ?_
     refine Hd.wOut pkk hra ?_; refine Hd.wire .here 0 (by omega) (fun i4 hi4 => ?_); refine Hd.drawsH ([]) (fun j => !(([1000] : List Nat).contains j)) mixed ?_; simp only [List.length, Nat.zero_add, Nat.reduceAdd]; refine Hd.takeH 0 rfl kq kq kq kq y_mv fq sq ?_; refine Hd.takeH 1 rfl kq kq kq kq y_mv fq sq ?_; refine Hd.takeH 2 rfl kq kq kq kq y_mv fq sq ?_; refine Hd.takeH 3 rfl kq kq kq kq y_np fq sq ?_; refine Hd.takeH 4 rfl kq kq kq kq (y_f 0 197 Tryz.underlying199 sz197) fq sq ?_; refine Hd.takeH 5 rfl kq kq kq kq (y_idxA Tryz.underlying197 sz196 rfl rfl (by decide)) fq sq ?_; refine Hd.takeH 6 rfl kq kq kq kq (y_f 0 3 Tryz.underlying196 sz3) fq sq ?_; refine Hd.takeH 8 rfl kq kq kq kq y_np fq sq ?_; refine Hd.takeH 9 rfl kq kq kq kq (y_f 0 197 Tryz.underlying199 sz197) fq sq ?_; refine Hd.onlyH 7 rfl kq ?_; refine Hd.store1 sz3 rfl rfl rfl pkk (by simp; done) ?_
     try simp only [List.set_cons_zero, List.set_cons_succ]
     refine Hd.nil ?_; refine Hd.thenN ?_; refine Hd.heldK (J := (fun j => !(([1000] : List Nat).contains j))) (i := 7) sq ?_; refine Hd.takeH 10 rfl kq kq kq kq (y_idxA Tryz.underlying197 sz196 rfl rfl (by decide)) fq sq ?_; refine Hd.takeH 11 rfl kq kq kq kq (y_f 1 3 Tryz.underlying196 sz3) fq sq ?_; refine Hd.onlyH 12 rfl kq ?_; refine Hd.store1 sz3 rfl rfl rfl pkk (by simp; done) ?_
     try simp only [List.set_cons_zero, List.set_cons_succ]
     refine Hd.nil ?_; refine Hd.thenN ?_; refine Hd.heldK (J := (fun j => !(([1000] : List Nat).contains j))) (i := 12) sq ?_; refine Hd.endH kq ?_; refine Hd.heap (WireP ba (giveW y f) :: _) (fun q s => wire_give hi4 q (by exact Ent.sep (.eq pkk (pt_eq (by rfl)) enn) q s)) ?_; refine Hd.heap (Wires ((i.rs.set m (b, x.wts t)).set a (ba, giveW y f)) :: _) (fun q s => ws_in (by rw [List.length_set]; exact hal) (by exact Ent.sep enn q s)) ?_; refine Hd.sk [(2, _), (4, _), (5, _), (6, _), (9, _)] hK15 ?_; refine Hd.seq fun _ hK16 => ?_
     refine Hd.tail 7 mixed kq ?_; simp only [List.take, List.drop]; refine Ht.yv (y_l1 ag38 rfl) ?_; refine Ht.yv y_mv ?_; refine Ht.yv (y_l1 ag3 rfl) ?_; refine Ht.yv (y_build (vs := [(0, _), (1, _), (2, _)]) rfl (by exact bd59_73 ..)) ?_; refine Ht.yv y_np ?_; refine Ht.yv (y_f 0 207 Tryz.underlying210 sz207) ?_; refine Ht.yv (y_idxA Tryz.underlying207 sz190 rfl rfl (by omega)) ?_; refine Ht.nil ?_; refine Hd.store (us := plc (some (a, 0))) sz190 rfl rfl rfl (plc_one _) pkk (by rw [List.length_append, fdC_len, plc_len]; omega) ?_; refine Hd.nil ?_; rw [show 0 + 0 + f * 3 = f * 3 by omega, show (plc (some (a, 0))).length = 3 from rfl, fdC_set hf96]; refine Hd.sk [(4, _), (5, _), (6, _), (9, _)] hK16 ?_; refine Hd.seq fun _ hK17 => ?_
     refine Hd.drawsH ([pt b5 [.int .i64 (a : Int)] 3]) (fun j => !([3].contains j)) mixed ?_; simp only [List.length, Nat.zero_add, Nat.reduceAdd]; refine Hd.takeH 0 rfl kq kq kq kq y_mv fq sq ?_; refine Hd.takeH 1 rfl kq kq kq kq (y_l1 ag3 rfl) fq sq ?_; refine Hd.onlyH 2 rfl kq ?_; refine Hd.store1 sz3 rfl rfl rfl pkk (by decide) ?_
     try simp only [List.set_cons_zero, List.set_cons_succ]
     refine Hd.nil ?_; refine Hd.thenN ?_; refine Hd.heldK (J := (fun j => !([3].contains j))) (i := 2) sq ?_; refine Hd.onlyH 3 rfl kq ?_; refine Hd.store1 sz3 rfl rfl rfl pkk (by simp; done) ?_
     try simp only [List.set_cons_zero, List.set_cons_succ]
     refine Hd.nil ?_; refine Hd.thenN ?_; refine Hd.heldN (J := (fun j => !([3].contains j))) (i := 3) rfl ?_; refine Hd.onlyH 4 rfl kq ?_; refine Hd.store1 sz35 rfl rfl rfl pkk (by simp; done) ?_
     try simp only [List.set_cons_zero, List.set_cons_succ]
     refine Hd.nil ?_; refine Hd.thenN ?_; refine Hd.heldK (J := (fun j => !([3].contains j))) (i := 4) sq ?_; refine Hd.endH kq ?_; refine Hd.sk [(4, _), (5, _), (6, _)] hK17 ?_; refine Hd.ret ?_; refine Hd.inBret ?_; clear hK1 hK2 hK3 hK4 hK6 hK8 hK10 hK11 hK12 hK13 hK14 hK15 hK16 hK17; refine Hd.reR ?_; simp only [List.cons_append, List.nil_append]; rw [hAR]
     have hfs2 : ((i.rs.set m (b, x.wts t)).set a (ba, giveW y f)).map Prod.fst = i.rs.map Prod.fst := by rw [set_fst hra, set_fst hb]
     have hws2 : ((i.rs.set m (b, x.wts t)).set a (ba, giveW y f)).map Prod.snd = ((w.setW m (x.wts t)).setW a (giveW y f)).ws := by
      rw [List.map_set, List.map_set, hrs]; rfl
     dsimp only; refine sep_trans (Ent.sep (.pick pkk (.eq pkk (pt_eq (by rfl)) enn))) (sep_trans (world_all (w := w) (wb := wb) hok hfs2 hws2 hat rfl) (Ent.sep ?_)); exact .pick pkk (.pure (by trivial) enn)
    ·
     intro r0 ys hys
     obtain rfl : ys = frees w.at := hys
     simp only [List.cons_append, List.nil_append]; refine Hd.pure (fun hfn => ?_)
     try simp only [List.cons_append, List.nil_append]
     refine Hd.inB ?_; refine Hd.toK hK10 ?_; refine Hd.sr fun _ hK18 => ?_
     refine Hd.store1 sz3 rfl rfl rfl pkk (by decide) ?_
     try simp only [List.set_cons_zero, List.set_cons_succ]
     refine Hd.store1 sz3 rfl rfl rfl pkk (by decide) ?_
     try simp only [List.set_cons_zero, List.set_cons_succ]
     refine Hd.store1 sz35 rfl rfl rfl pkk (by simp; done) ?_
     try simp only [List.set_cons_zero, List.set_cons_succ]
     refine Hd.fk [(4, _), (5, _), (6, _)] hK18 ?_; refine Hd.ret ?_; clear hK1 hK2 hK3 hK4 hK6 hK8 hK10 hK11 hK18; rw [show accR w fd = ((0, 0, 112), w) by unfold accR; rw [hnk]; dsimp only; rw [hx]; dsimp only; rw [if_neg hc1, hwt]; dsimp only; rw [hfn]]; exact Hd.retM (fun a fr => Lv.mark pkk (Lv.endC3 fr rfl () ag3 ag3 ag35 rfl rfl rfl (Rd.pt1 pkk rfl) (Rd.pt1 pkk rfl) (Rd.pt1 pkk rfl) rfl (fun q s => world_same hw hrs hb q (Ent.sep enn q s))))
    ·
     rintro r0_0 (_ | id0) pre0 hG0
     ·
      simp only [List.cons_append, List.nil_append]; refine Hd.pure (fun _ => ?_)
      try simp only [List.cons_append, List.nil_append]
      refine Hd.ret ?_; refine Hd.inBret ?_; refine Hd.thenRet ?_; clear hK1 hK2 hK3 hK4 hK6 hK8 hK10 hK11; exact Hd.retM (fun a fr => Lv.mark pkk (Lv.endC3 fr rfl () ag3 ag3 ag35 rfl rfl rfl (Rd.pt1 pkk rfl) (Rd.pt1 pkk rfl) (Rd.pt1 pkk rfl) rfl sq))
     ·
      exact Hd.absurd (by simp)
end Wo
end Go.Proofs.YtbfddabjbkohdaaGreat
namespace Go.Proofs.YtbfddabjbkohdaaGreat
set_option maxHeartbeats 2000000
set_option linter.unusedSimpArgs false
set_option linter.unusedVariables false
set_option linter.unnecessarySimpa false
open Go.RX Fx
namespace Rf
open Wo
set_option maxRecDepth 8000
theorem rw_head {b n : Nat} {w : WA} {i : Rows_} {x x' : WireA} {j : RwI} {L : List SP} (hi : i.1.map Prod.fst = w.ws) (hn : i.1[n]? = some (x, j)) (hb : ∀ k, k < 2 → (x'.e k).b = (x.e k).b) (hw : x'.wt = x.wt) :
  ∀ h, sep (RwH b w i.1.length i.2.1 i.2.2 :: own 221 20 i.2.1 i.1.length i.2.2 ((i.1.set n (x', j)).flatMap encRW) :: Bag Sd i.1 :: L) h → sep (RwP b (w.setW n x') :: L) h := fun h s => by
 have e1 : Bag Sd i.1 = Bag Sd (i.1.set n (x', j)) := (bag_set hn (sd_same (p := (x, j)) (p' := (x', j)) hb hw rfl)).symm
 have hl : (i.1.set n (x', j)).length = i.1.length := List.length_set ..
 refine rw_fold (i := (i.1.set n (x', j), i.2)) (by show (i.1.set n (x', j)).map Prod.fst = w.ws.set n x'; rw [List.map_set, hi]) h (Ent.sep ?_ h s); exact .eq pkk (pt_eq (by show _ = RwC (w.setW n x') (i.1.set n (x', j)).length i.2.1 i.2.2; rw [hl]; rfl)) (.eq pkk (own_eq3 hl.symm rfl rfl) (.eq pkk e1 enn))
theorem rw_put {b n : Nat} {w : WA} {i : Rows_} {x' : WireA} {j' : RwI} {L : List SP} (hi : i.1.map Prod.fst = w.ws) (hn : n < i.1.length) :
  ∀ h, sep (Sd (x', j') :: RwH b w i.1.length i.2.1 i.2.2 :: own 221 20 i.2.1 i.1.length i.2.2 ((i.1.set n (x', j')).flatMap encRW) :: Bag Sd (i.1.take n) :: Bag Sd (i.1.drop (n + 1)) :: L) h → sep (RwP b (w.setW n x') :: L) h := fun h s => by
 have hl : (i.1.set n (x', j')).length = i.1.length := List.length_set ..
 have h1 : sep (Sd (x', j') :: Bag Sd (i.1.take n) :: Bag Sd (i.1.drop (n + 1)) :: RwH b w i.1.length i.2.1 i.2.2 :: own 221 20 i.2.1 i.1.length i.2.2 ((i.1.set n (x', j')).flatMap encRW) :: L) h := Ent.sep enn h s
 have h2 := bag_in hn h1
 refine rw_fold (i := (i.1.set n (x', j'), i.2)) (by show (i.1.set n (x', j')).map Prod.fst = w.ws.set n x'; rw [List.map_set, hi]) h (Ent.sep ?_ h h2); exact .eq pkk (pt_eq (by show _ = RwC (w.setW n x') (i.1.set n (x', j')).length i.2.1 i.2.2; rw [hl]; rfl)) (.eq pkk (own_eq3 hl.symm rfl rfl) enn)
def atN : Option (Nat × Nat) → Int
 | none => -1
 | some p => (p.1 : Int)
def atK : Option (Nat × Nat) → Int
 | none => -1
 | some p => (p.2 : Int)
theorem rat_ct (L : List SP) (b : Nat) (w : WA) (hw : WOk w) (fd : Int) : Ct Tryz.prog 116 #[.pointer (some ⟨b, 0, none⟩), .int .i64 fd] (RwP b w :: L) (fun _ : Unit => .tuple #[.int .i64 (atN (w.at fd)), .int .i64 (atK (w.at fd))]) (fun _ : Unit => RwP b w :: L) := by
 refine Ct.of (vs := [.pointer (some ⟨b, 0, none⟩), .int .i64 fd]) Tryz.func116 rfl rfl [(0, .pointer (some ⟨b, 0, none⟩)), (1, .int .i64 fd)] sbq ?_; intro E
 show Hd E 50 _ _ _ _
 refine Hd.rw .here (fun i hi => ?_)
 have hrl := rows_n hi
 have hwl := hw.len
 refine Hd.sr fun _ hK1 => ?_
 refine Hd.yv y_as ?_; refine Hd.yv y_as ?_; refine Hd.fk [(0, _), (1, _)] hK1 ?_; refine Hd.seq fun _ hK2 => ?_
 refine Hd.sr fun _ hK3 => ?_
 refine Hd.yv y_as ?_; refine Hd.fk [(0, _), (1, _), (6, _)] hK3 ?_; refine Hd.block ?_; refine Hd.loopK (ι := Nat) [(0, _), (1, _)] (fun n => [(6, .int .i64 (n : Int))]) (fun n => pu (n ≤ w.ws.length ∧ ∀ m y, m < n → w.ws[m]? = some y → atE y fd = none) :: RwL b w i L) (fun n => w.ws.length - n) 0 sbq sbq (Ent.sep (.pure ⟨Nat.zero_le _, fun _ _ h => absurd h (Nat.not_lt_zero _)⟩ enn)) ?_; intro n
 try dsimp only
 refine Hd.pure (fun hp0 => ?_)
 try dsimp only at hp0
 refine Hd.seq fun _ hK4 => ?_
 refine Hd.sr fun _ hK5 => ?_
 refine Hd.yv y_mv ?_; refine Hd.yv y_mv ?_; refine Hd.yv y_np ?_; refine Hd.yv (y_f 0 129 Tryz.underlying133 sz129) ?_; refine Hd.yv (y_l1 ag129 rfl) ?_; refine Hd.yv (y_len Tryz.underlying129 rfl) ?_; refine Hd.yv (y_lss rfl rfl) ?_; refine Hd.fk [(0, _), (1, _), (6, _), (14, _)] hK5 ?_; refine Hd.cond rfl (fun hc0 => ?_) (fun hc0 => ?_)
 ·
  try simp only [hyA, hyB, hyC, ne_eq] at hc0
  have hn : n < w.ws.length := by omega
  obtain ⟨x, hx⟩ : ∃ x, w.ws[n]? = some x := ⟨_, List.getElem?_eq_getElem hn⟩
  obtain ⟨j, hrow⟩ := row_at hi hx
  refine Hd.skip ?_; refine Hd.toK hK4 ?_; refine Hd.seq fun _ hK6 => ?_
  refine Hd.block ?_; refine Hd.sr fun _ hK7 => ?_
  refine Hd.yv y_as ?_; refine Hd.fk [(0, _), (1, _), (6, _), (7, _)] hK7 ?_; refine Hd.block ?_; refine Hd.loopK (ι := Nat) [(0, _), (1, _), (6, _)] (fun k => [(7, .int .i64 (k : Int))]) (fun k => pu (k ≤ 2 ∧ ∀ q, q < k → ¬ ((x.e q).what = 1 ∧ (x.e q).fd = fd)) :: RwL b w i L) (fun k => 2 - k) 0 sbq sbq (Ent.sep (.pure ⟨Nat.zero_le _, fun _ h => absurd h (Nat.not_lt_zero _)⟩ enn)) ?_; intro k
  try dsimp only
  refine Hd.pure (fun hp1 => ?_)
  try dsimp only at hp1
  refine Hd.seq fun _ hK8 => ?_
  refine Hd.sr fun _ hK9 => ?_
  refine Hd.yv y_mv ?_; refine Hd.yv (y_lss rfl rfl) ?_; refine Hd.fk [(0, _), (1, _), (6, _), (7, _), (18, _)] hK9 ?_; refine Hd.cond rfl (fun hc1 => ?_) (fun hc1 => ?_)
  ·
   try simp only [hyA, hyB, hyC, ne_eq] at hc1
   have hk : k < 2 := by omega
   refine Hd.skip ?_; refine Hd.toK hK8 ?_; refine Hd.seq fun _ hK10 => ?_
   refine Hd.block ?_; refine Hd.sr fun _ hK11 => ?_
   refine Hd.yv y_mv ?_; refine Hd.yv y_np ?_; refine Hd.yv (y_f 0 129 Tryz.underlying133 sz129) ?_; refine Hd.yv (y_l1 ag129 rfl) ?_; refine Hd.yv y_mv ?_; refine Hd.yv y_mv ?_; refine Hd.yv (y_idxR Tryz.underlying129 sz221 rfl rfl (by omega) (by exact RdS.own pkk)) ?_; refine Hd.yv (y_fR 0 219 Tryz.underlying221 sz219) ?_; refine Hd.yv (y_idxAR Tryz.underlying219 sz218 rfl rfl (by omega)) ?_; refine Hd.yv (y_fR 0 3 Tryz.underlying218 sz3) ?_; refine Hd.yv (y_rc ag3 rfl hrow hk 0 rfl) ?_; refine Hd.yv (y_eql rfl rfl) ?_; refine Hd.yv y_mv ?_; apply Hd.andg 14 33 47 [(0, _), (1, _), (6, _), (7, _)] rfl ⟨rfl, rfl, rfl, rfl, trivial⟩
   ·intro hg7_33
    try simp only [hyA, hyB, hyC, ne_eq] at hg7_33
    simp only [List.take]; refine Hd.yg rfl rfl y_mv ?_; refine Hd.yg rfl rfl y_np ?_; refine Hd.yg rfl rfl (y_f 0 129 Tryz.underlying133 sz129) ?_; refine Hd.yg rfl rfl (y_l1 ag129 rfl) ?_; refine Hd.yg rfl rfl y_mv ?_; refine Hd.yg rfl rfl y_mv ?_; refine Hd.yg rfl rfl (y_idxR Tryz.underlying129 sz221 rfl rfl (by omega) (by exact RdS.own pkk)) ?_; refine Hd.yg rfl rfl (y_fR 0 219 Tryz.underlying221 sz219) ?_; refine Hd.yg rfl rfl (y_idxAR Tryz.underlying219 sz218 rfl rfl (by omega)) ?_; refine Hd.yg rfl rfl (y_fR 1 3 Tryz.underlying218 sz3) ?_; refine Hd.yg rfl rfl (y_rc ag3 rfl hrow hk 1 rfl) ?_; refine Hd.yg rfl rfl y_mv ?_; refine Hd.yg rfl rfl (y_eql rfl rfl) ?_; refine Hd.yv (y_pickT rfl rfl) ?_; refine Hd.nil ?_; exact Hd.mq
   ·intro hg7_33
    try simp only [hyA, hyB, hyC, ne_eq] at hg7_33
    simp only [List.take]; refine Hd.ng rfl rfl rfl ?_; refine Hd.ng rfl rfl rfl ?_; refine Hd.ng rfl rfl rfl ?_; refine Hd.ng rfl rfl rfl ?_; refine Hd.ng rfl rfl rfl ?_; refine Hd.ng rfl rfl rfl ?_; refine Hd.ng rfl rfl rfl ?_; refine Hd.ng rfl rfl rfl ?_; refine Hd.ng rfl rfl rfl ?_; refine Hd.ng rfl rfl rfl ?_; refine Hd.ng rfl rfl rfl ?_; refine Hd.ng rfl rfl rfl ?_; refine Hd.ng rfl rfl rfl ?_; refine Hd.yv (y_pickF rfl rfl) ?_; refine Hd.nil ?_; exact Hd.mq
   simp only [List.drop]; refine Hd.fk [(0, _), (1, _), (6, _), (7, _), (47, _)] hK11 ?_; refine Hd.cond rfl (fun hc2 => ?_) (fun hc2 => ?_)
   ·
    try simp only [hyA, hyB, hyC, ne_eq] at hc2
    refine Hd.sr fun _ hK12 => ?_
    refine Hd.yv y_mv ?_; refine Hd.yv y_mv ?_; refine Hd.yv y_as ?_; refine Hd.yv y_as ?_; refine Hd.fk [(4, _), (5, _)] hK12 ?_; refine Hd.ret ?_; refine Hd.inBret ?_; refine Hd.thenRet ?_; refine Hd.thenRet ?_; refine Hd.inBret ?_; refine Hd.inBret ?_; refine Hd.thenRet ?_; refine Hd.thenRet ?_; refine Hd.inBret ?_; refine Hd.thenRet ?_; clear hK1 hK2 hK3 hK4 hK5 hK6 hK7 hK8 hK9 hK10 hK11 hK12
    have e : w.at fd = some (n, k) := (atW_iff hw.uq).2 ⟨hk, x, hx, hc2⟩
    rw [e]; exact Hd.ret2 rfl () rfl rfl rfl (rw_fold hi)
   ·
    try simp only [hyA, hyB, hyC, ne_eq] at hc2
    refine Hd.skip ?_; refine Hd.inB ?_; refine Hd.toK hK10 ?_; refine Hd.region ?_; refine Hd.yv y_mv ?_; refine Hd.yv (y_addn rfl rfl (by simp only [InK]; omega)) ?_; refine Hd.yv y_as ?_; refine Hd.nil ?_; refine Hd.slots [(0, _), (1, _), (6, _), (7, _)] sbq ?_; clear hK1 hK2 hK3 hK4 hK5 hK6 hK7 hK8 hK9 hK10 hK11; refine Hd.thenN ?_
    have hne : ∀ q, q < k + 1 → ¬ ((x.e q).what = 1 ∧ (x.e q).fd = fd) := by
     intro q hq
     rcases (show q < k ∨ q = k by omega) with h | rfl
     ·exact hp1.2 q h
     ·rintro ⟨h1, h2⟩
      rcases hc2 with h | h
      ·exact h h1
      ·exact h h2
    exact Hd.again (k + 1) (by omega) sbq (Ent.sep (.pure ⟨hk, hne⟩ enn))
  ·
   try simp only [hyA, hyB, hyC, ne_eq] at hc1
   have hk2 : k = 2 := by omega
   refine Hd.exit ?_; refine Hd.thenExit ?_; refine Hd.thenExit ?_; refine Hd.inBexit ?_; refine Hd.inB ?_; refine Hd.toK hK6 ?_; refine Hd.region ?_; refine Hd.yv y_mv ?_; refine Hd.yv (y_addn rfl rfl (by simp only [InK]; omega)) ?_; refine Hd.yv y_as ?_; refine Hd.nil ?_; refine Hd.slots [(0, _), (1, _), (6, _)] sbq ?_; clear hK1 hK2 hK3 hK4 hK5 hK6 hK7 hK8 hK9; refine Hd.thenN ?_
   have hne : ∀ m y, m < n + 1 → w.ws[m]? = some y → atE y fd = none := by
    intro m y hm hy
    rcases (show m < n ∨ m = n by omega) with h | rfl
    ·exact hp0.2 m y h hy
    ·rw [hx] at hy; obtain rfl := Option.some.inj hy
     exact atE_no fun q hq => hp1.2 q (by omega)
   exact Hd.again (n + 1) (by omega) sbq (Ent.sep (.pure ⟨hn, hne⟩ enn))
 ·
  try simp only [hyA, hyB, hyC, ne_eq] at hc0
  refine Hd.exit ?_; refine Hd.thenExit ?_; refine Hd.thenExit ?_; refine Hd.inBexit ?_; refine Hd.toK hK2 ?_; refine Hd.sr fun _ hK13 => ?_
  refine Hd.yv y_as ?_; refine Hd.yv y_as ?_; refine Hd.fk [(4, _), (5, _)] hK13 ?_; refine Hd.ret ?_; clear hK1 hK2 hK3 hK4 hK5 hK13
  have e : w.at fd = none := atW_none.2 fun y hy => by
   obtain ⟨m, hm, e⟩ := List.getElem_of_mem hy
   exact hp0.2 m y (by omega) (by rw [List.getElem?_eq_getElem hm, e])
  rw [e]; exact Hd.ret2 rfl () rfl rfl rfl (rw_fold hi)
theorem rset_inn {rs : List Row} {n k o : Nat} {x : WireA} {j : RwI} {v : Int} (h : rs[n]? = some (x, j)) (hk : k < 2) (ho : o = n * 20 + k * 8 + 6) : (rs.flatMap encRW).set o (.int .u64 v) = (rs.set n (x.up k fun e => { e with inn := v }, j)).flatMap encRW :=
 rset h hk (j := 6) (by decide) ho (by rw [up_at]; rfl) (by rw [up_ne _ _ (by omega)]) rfl
theorem rset_out {rs : List Row} {n k o : Nat} {x : WireA} {j : RwI} {v : Int} (h : rs[n]? = some (x, j)) (hk : k < 2) (ho : o = n * 20 + k * 8 + 7) : (rs.flatMap encRW).set o (.int .u64 v) = (rs.set n (x.up k fun e => { e with out := v }, j)).flatMap encRW :=
 rset h hk (j := 7) (by decide) ho (by rw [up_at]; rfl) (by rw [up_ne _ _ (by omega)]) rfl
theorem rset_shut {rs : List Row} {n k o : Nat} {x : WireA} {j : RwI} {v : Bool} (h : rs[n]? = some (x, j)) (hk : k < 2) (ho : o = n * 20 + k * 8 + 5) : (rs.flatMap encRW).set o (.bool v) = (rs.set n (x.up k fun e => { e with shut := v }, j)).flatMap encRW :=
 rset h hk (j := 5) (by decide) ho (by rw [up_at]; rfl) (by rw [up_ne _ _ (by omega)]) rfl
theorem rset_what {rs : List Row} {n k o : Nat} {x : WireA} {j : RwI} {v : Int} (h : rs[n]? = some (x, j)) (hk : k < 2) (ho : o = n * 20 + k * 8 + 0) : (rs.flatMap encRW).set o (.int .i64 v) = (rs.set n (x.up k fun e => { e with what := v }, j)).flatMap encRW :=
 rset h hk (j := 0) (by decide) ho (by rw [up_at]; rfl) (by rw [up_ne _ _ (by omega)]) rfl
theorem row_set {rs : List Row} {n : Nat} {p q : Row} (h : rs[n]? = some p) : (rs.set n q)[n]? = some q := by
 rw [List.getElem?_set_self (List.getElem?_eq_some_iff.1 h).1]
theorem up_b (x : WireA) (k : Nat) {f : EndA → EndA} (hf : ∀ e, (f e).b = e.b) (j : Nat) : ((x.up k f).e j).b = (x.e j).b := by
 by_cases e : j = k
 ·subst e; rw [up_at]; exact hf _
 ·rw [up_ne _ _ e]
abbrev OwS (i : Rows_) (rs : List Row) : SP := own 221 20 i.2.1 i.1.length i.2.2 (rs.flatMap encRW)
theorem rrise_ct (L : List SP) (b : Nat) (w : WA) (n : Nat) (x : WireA) (hx : w.ws[n]? = some x) (k : Nat) (hk : k < 2) (vi vo : Bool) : Ct Tryz.prog 176 #[.pointer (some ⟨b, 0, none⟩), .int .i64 (n : Int), .int .i64 (k : Int), .bool vi, .bool vo] (RwP b w :: L) (fun _ : Unit => .tuple #[]) (fun _ : Unit => RwP b (w.setW n (x.up k (riseE vi vo))) :: L) := by
 refine Ct.of (vs := [.pointer (some ⟨b, 0, none⟩), .int .i64 (n : Int), .int .i64 (k : Int), .bool vi, .bool vo]) Tryz.func176 rfl rfl [(0, .pointer (some ⟨b, 0, none⟩)), (1, .int .i64 (n : Int)), (2, .int .i64 (k : Int)), (3, .bool vi), (4, .bool vo)] sbq ?_; intro E
 show Hd E 70 _ _ _ _
 refine Hd.rw .here (fun i hi => ?_)
 have hrl := rows_n hi
 obtain ⟨j, hrow⟩ := row_at hi hx
 have hn : n < i.1.length := (List.getElem?_eq_some_iff.1 hrow).1
 have hrow2 : (i.1.set n (x.up k (riseE vi false), j))[n]? = some (x.up k (riseE vi false), j) := row_set hrow
 refine Hd.cutK (ι := Unit) [(0, _), (1, _), (2, _), (4, _)] (fun _ => []) (fun _ => RwH b w i.1.length i.2.1 i.2.2 :: OwS i (i.1.set n (x.up k (riseE vi false), j)) :: Bag Sd i.1 :: L) ?_ ?_ ⟨rfl, rfl, rfl, rfl, trivial⟩
 ·
  refine Hd.sr fun _ hK1 => ?_
  refine Hd.yv y_mv ?_; refine Hd.yv y_mv ?_; apply Hd.andg 12 11 23 [(0, _), (1, _), (2, _), (4, _)] rfl ⟨rfl, rfl, rfl, rfl, trivial⟩
  ·intro hg0_11
   try simp only [hyA, hyB, hyC, ne_eq] at hg0_11
   simp only [List.take]; refine Hd.yg rfl rfl y_mv ?_; refine Hd.yg rfl rfl y_np ?_; refine Hd.yg rfl rfl (y_f 0 129 Tryz.underlying133 sz129) ?_; refine Hd.yg rfl rfl (y_l1 ag129 rfl) ?_; refine Hd.yg rfl rfl y_mv ?_; refine Hd.yg rfl rfl y_mv ?_; refine Hd.yg rfl rfl (y_idxR Tryz.underlying129 sz221 rfl rfl (by omega) (by exact RdS.own pkk)) ?_; refine Hd.yg rfl rfl (y_fR 0 219 Tryz.underlying221 sz219) ?_; refine Hd.yg rfl rfl (y_idxAR Tryz.underlying219 sz218 rfl rfl (by omega)) ?_; refine Hd.yg rfl rfl (y_fR 2 4 Tryz.underlying218 sz4) ?_; refine Hd.yg rfl rfl (y_rc ag4 rfl hrow hk 2 rfl) ?_; refine Hd.yv (y_pickT rfl rfl) ?_; refine Hd.nil ?_; exact Hd.mq
  ·intro hg0_11
   try simp only [hyA, hyB, hyC, ne_eq] at hg0_11
   simp only [List.take]; refine Hd.ng rfl rfl rfl ?_; refine Hd.ng rfl rfl rfl ?_; refine Hd.ng rfl rfl rfl ?_; refine Hd.ng rfl rfl rfl ?_; refine Hd.ng rfl rfl rfl ?_; refine Hd.ng rfl rfl rfl ?_; refine Hd.ng rfl rfl rfl ?_; refine Hd.ng rfl rfl rfl ?_; refine Hd.ng rfl rfl rfl ?_; refine Hd.ng rfl rfl rfl ?_; refine Hd.ng rfl rfl rfl ?_; refine Hd.yv (y_pickF rfl rfl) ?_; refine Hd.nil ?_; exact Hd.mq
  simp only [List.drop]; refine Hd.fk [(0, _), (1, _), (2, _), (4, _), (23, _)] hK1 ?_; refine Hd.cond rfl (fun hc0 => ?_) (fun hc0 => ?_)
  ·
   try simp only [hyA, hyB, hyC, ne_eq] at hc0
   have h2 : x.up k (fun e => { e with inn := IntKind.u64.wrap ((x.e k).inn + 1) }) = x.up k (riseE vi false) := up_eq (by simp [riseE, hc0.1, hc0.2])
   refine Hd.drawsH ([RwH b w i.1.length i.2.1 i.2.2, OwR i]) (fun j => !([16].contains j)) mixed ?_; simp only [List.length, Nat.zero_add, Nat.reduceAdd]; refine Hd.takeH 0 rfl kq kq kq kq y_mv fq sq ?_; refine Hd.takeH 1 rfl kq kq kq kq y_np fq sq ?_; refine Hd.takeH 2 rfl kq kq kq kq (y_f 0 129 Tryz.underlying133 sz129) fq sq ?_; refine Hd.takeH 3 rfl kq kq kq kq (y_l1 ag129 rfl) fq sq ?_; refine Hd.takeH 4 rfl kq kq kq kq y_mv fq sq ?_; refine Hd.takeH 5 rfl kq kq kq kq y_mv fq sq ?_; refine Hd.takeH 6 rfl kq kq kq kq (y_idxR Tryz.underlying129 sz221 rfl rfl (by omega) (by exact RdS.own pkk)) fq sq ?_; refine Hd.takeH 7 rfl kq kq kq kq (y_fR 0 219 Tryz.underlying221 sz219) fq sq ?_; refine Hd.takeH 8 rfl kq kq kq kq (y_idxAR Tryz.underlying219 sz218 rfl rfl (by omega)) fq sq ?_; refine Hd.takeH 9 rfl kq kq kq kq (y_fR 6 30 Tryz.underlying218 sz30) fq sq ?_; refine Hd.takeH 10 rfl kq kq kq kq (y_rc ag30 rfl hrow hk 6 rfl) fq sq ?_
   refine Hd.takeH 11 rfl kq kq kq kq (y_add rfl rfl) fq sq ?_; refine Hd.onlyH 12 rfl kq ?_; refine Hd.yv (y_idxR Tryz.underlying129 sz221 rfl rfl (by omega) (by exact RdS.own pkk)) ?_; refine Hd.nil ?_; refine Hd.thenN ?_; refine Hd.heldK (J := (fun j => !([16].contains j))) (i := 12) sq ?_; refine Hd.onlyH 13 rfl kq ?_; refine Hd.yv (y_fR 0 219 Tryz.underlying221 sz219) ?_; refine Hd.nil ?_; refine Hd.thenN ?_; refine Hd.heldK (J := (fun j => !([16].contains j))) (i := 13) sq ?_; refine Hd.onlyH 14 rfl kq ?_; refine Hd.yv (y_idxAR Tryz.underlying219 sz218 rfl rfl (by omega)) ?_; refine Hd.nil ?_; refine Hd.thenN ?_; refine Hd.heldK (J := (fun j => !([16].contains j))) (i := 14) sq ?_; refine Hd.takeH 15 rfl kq kq kq kq (y_fR 6 30 Tryz.underlying218 sz30) fq sq ?_; refine Hd.onlyH 16 rfl kq ?_; refine Hd.storeO1 sz30 rfl rfl rfl pkk (by rw [rows_len encRW_len]; omega) ?_
   try simp only [List.set_cons_zero, List.set_cons_succ]
   refine Hd.nil ?_; refine Hd.thenN ?_; refine Hd.heldN (J := (fun j => !([16].contains j))) (i := 16) rfl ?_; refine Hd.endH kq ?_; rw [rset_inn hrow hk (by omega)]; refine Hd.slots [(0, _), (1, _), (2, _), (4, _)] sbq ?_; clear hK1; refine Hd.thenN ?_; exact Hd.meet () sbq (Ent.sep (.pick pkk (.eq pkk (own_eq3 rfl rfl (by rw [h2])) enn)))
  ·
   try simp only [hyA, hyB, hyC, ne_eq] at hc0
   have h2 : x.up k (riseE vi false) = x := up_id (by
    have h : (vi && (x.e k).rd) = false := by rcases hc0 with h | h <;> simp [h]
    unfold riseE; rw [if_neg (by rw [h]; simp), if_neg (by simp)])
   have h3 : i.1.set n (x, j) = i.1 := by
    obtain ⟨hl, e⟩ := List.getElem?_eq_some_iff.1 hrow
    rw [← e, List.set_getElem_self]
   refine Hd.skip ?_; clear hK1; refine Hd.thenN ?_; exact Hd.meet () sbq (Ent.sep (.pick pkk (.eq pkk (own_eq3 rfl rfl (by rw [h2, h3])) enn)))
 ·
  intro _; refine Hd.sr fun _ hK2 => ?_
  refine Hd.yv y_mv ?_; refine Hd.yv y_mv ?_; apply Hd.andg 12 41 53 [(0, _), (1, _), (2, _)] rfl ⟨rfl, rfl, rfl, trivial⟩
  ·intro hg2_41
   try simp only [hyA, hyB, hyC, ne_eq] at hg2_41
   simp only [List.take]; refine Hd.yg rfl rfl y_mv ?_; refine Hd.yg rfl rfl y_np ?_; refine Hd.yg rfl rfl (y_f 0 129 Tryz.underlying133 sz129) ?_; refine Hd.yg rfl rfl (y_l1 ag129 rfl) ?_; refine Hd.yg rfl rfl y_mv ?_; refine Hd.yg rfl rfl y_mv ?_; refine Hd.yg rfl rfl (y_idxR Tryz.underlying129 sz221 rfl rfl (by omega) (by exact RdS.own pkk)) ?_; refine Hd.yg rfl rfl (y_fR 0 219 Tryz.underlying221 sz219) ?_; refine Hd.yg rfl rfl (y_idxAR Tryz.underlying219 sz218 rfl rfl (by omega)) ?_; refine Hd.yg rfl rfl (y_fR 3 4 Tryz.underlying218 sz4) ?_; refine Hd.yg rfl rfl (y_to (v' := .bool (x.e k).wr) (y_rc ag4 rfl hrow2 hk 3 rfl) (by (rw [up_at]; rfl))) ?_; refine Hd.yv (y_pickT rfl rfl) ?_; refine Hd.nil ?_; exact Hd.mq
  ·intro hg2_41
   try simp only [hyA, hyB, hyC, ne_eq] at hg2_41
   simp only [List.take]; refine Hd.ng rfl rfl rfl ?_; refine Hd.ng rfl rfl rfl ?_; refine Hd.ng rfl rfl rfl ?_; refine Hd.ng rfl rfl rfl ?_; refine Hd.ng rfl rfl rfl ?_; refine Hd.ng rfl rfl rfl ?_; refine Hd.ng rfl rfl rfl ?_; refine Hd.ng rfl rfl rfl ?_; refine Hd.ng rfl rfl rfl ?_; refine Hd.ng rfl rfl rfl ?_; refine Hd.ng rfl rfl rfl ?_; refine Hd.yv (y_pickF rfl rfl) ?_; refine Hd.nil ?_; exact Hd.mq
  simp only [List.drop]; refine Hd.fk [(0, _), (1, _), (2, _), (53, _)] hK2 ?_; refine Hd.cond rfl (fun hc1 => ?_) (fun hc1 => ?_)
  ·
   try simp only [hyA, hyB, hyC, ne_eq] at hc1
   refine Hd.drawsH ([RwH b w i.1.length i.2.1 i.2.2, OwS i (i.1.set n (x.up k (riseE vi false), j))]) (fun j => !([16].contains j)) mixed ?_; simp only [List.length, Nat.zero_add, Nat.reduceAdd]; refine Hd.takeH 0 rfl kq kq kq kq y_mv fq sq ?_; refine Hd.takeH 1 rfl kq kq kq kq y_np fq sq ?_; refine Hd.takeH 2 rfl kq kq kq kq (y_f 0 129 Tryz.underlying133 sz129) fq sq ?_; refine Hd.takeH 3 rfl kq kq kq kq (y_l1 ag129 rfl) fq sq ?_; refine Hd.takeH 4 rfl kq kq kq kq y_mv fq sq ?_; refine Hd.takeH 5 rfl kq kq kq kq y_mv fq sq ?_; refine Hd.takeH 6 rfl kq kq kq kq (y_idxR Tryz.underlying129 sz221 rfl rfl (by omega) (by exact RdS.own pkk)) fq sq ?_; refine Hd.takeH 7 rfl kq kq kq kq (y_fR 0 219 Tryz.underlying221 sz219) fq sq ?_; refine Hd.takeH 8 rfl kq kq kq kq (y_idxAR Tryz.underlying219 sz218 rfl rfl (by omega)) fq sq ?_; refine Hd.takeH 9 rfl kq kq kq kq (y_fR 7 30 Tryz.underlying218 sz30) fq sq ?_
   refine Hd.takeH 10 rfl kq kq kq kq (y_to (v' := .int .u64 (x.e k).out) (y_rc ag30 rfl hrow2 hk 7 rfl) (by (rw [up_at]; simp [riseE]))) fq sq ?_; refine Hd.takeH 11 rfl kq kq kq kq (y_add rfl rfl) fq sq ?_; refine Hd.onlyH 12 rfl kq ?_; refine Hd.yv (y_idxR Tryz.underlying129 sz221 rfl rfl (by omega) (by exact RdS.own pkk)) ?_; refine Hd.nil ?_; refine Hd.thenN ?_; refine Hd.heldK (J := (fun j => !([16].contains j))) (i := 12) sq ?_; refine Hd.onlyH 13 rfl kq ?_; refine Hd.yv (y_fR 0 219 Tryz.underlying221 sz219) ?_; refine Hd.nil ?_; refine Hd.thenN ?_; refine Hd.heldK (J := (fun j => !([16].contains j))) (i := 13) sq ?_; refine Hd.onlyH 14 rfl kq ?_; refine Hd.yv (y_idxAR Tryz.underlying219 sz218 rfl rfl (by omega)) ?_; refine Hd.nil ?_; refine Hd.thenN ?_; refine Hd.heldK (J := (fun j => !([16].contains j))) (i := 14) sq ?_; refine Hd.takeH 15 rfl kq kq kq kq (y_fR 7 30 Tryz.underlying218 sz30) fq sq ?_
   refine Hd.onlyH 16 rfl kq ?_; refine Hd.storeO1 sz30 rfl rfl rfl pkk (by rw [rows_len encRW_len, List.length_set]; omega) ?_
   try simp only [List.set_cons_zero, List.set_cons_succ]
   refine Hd.nil ?_; refine Hd.thenN ?_; refine Hd.heldN (J := (fun j => !([16].contains j))) (i := 16) rfl ?_; refine Hd.endH kq ?_; rw [rset_out hrow2 hk (by omega), List.set_set, up_up]; refine Hd.slots [] sbq ?_; clear hK2
   have h2 : (x.up k fun e => { riseE vi false e with out := IntKind.u64.wrap ((x.e k).out + 1) }) = x.up k (riseE vi vo) := up_eq (by simp [riseE, hc1.1, hc1.2])
   rw [h2]; exact Hd.end0 rfl () rfl (fun q s => rw_head (x' := x.up k (riseE vi vo)) hi hrow (fun j _ => up_b x k (f := riseE vi vo) (fun _ => rfl) j) rfl q (Ent.sep enn q s))
  ·
   try simp only [hyA, hyB, hyC, ne_eq] at hc1
   refine Hd.skip ?_; clear hK2
   have h2 : x.up k (riseE vi false) = x.up k (riseE vi vo) := up_eq (by
    have h : (vo && (x.e k).wr) = false := by rcases hc1 with h | h <;> simp [h]
    unfold riseE; congr 1; rw [if_neg (by simp), if_neg (by rw [h]; simp)])
   rw [h2]; exact Hd.end0 rfl () rfl (fun q s => rw_head (x' := x.up k (riseE vi vo)) hi hrow (fun j _ => up_b x k (f := riseE vi vo) (fun _ => rfl) j) rfl q (Ent.sep enn q s))
theorem setW_setW {w : WA} {n : Nat} {x y : WireA} : (w.setW n x).setW n y = w.setW n y := by
 show ({ w with ws := _ } : WA) = { w with ws := _ }
 congr 1
 show (w.ws.set n x).set n y = _
 rw [List.set_set]
theorem rshut_ct (L : List SP) (b : Nat) (w : WA) (n : Nat) (x : WireA) (hx : w.ws[n]? = some x) (k : Nat) (hk : k < 2) : Ct Tryz.prog 121 #[.pointer (some ⟨b, 0, none⟩), .int .i64 (n : Int), .int .i64 (k : Int)] (RwP b w :: L) (fun _ : Unit => .tuple #[]) (fun _ : Unit => RwP b (w.setW n (shutW x k)) :: L) := by
 refine Ct.of (vs := [.pointer (some ⟨b, 0, none⟩), .int .i64 (n : Int), .int .i64 (k : Int)]) Tryz.func121 rfl rfl [(0, .pointer (some ⟨b, 0, none⟩)), (1, .int .i64 (n : Int)), (2, .int .i64 (k : Int))] sbq ?_; intro E
 show Hd E 33 _ _ _ _
 refine Hd.rw .here (fun i hi => ?_)
 have hrl := rows_n hi
 obtain ⟨j, hrow⟩ := row_at hi hx
 have hn : n < i.1.length := (List.getElem?_eq_some_iff.1 hrow).1
 have hk1 : 1 - k < 2 := by omega
 refine Hd.sr fun _ hK1 => ?_
 refine Hd.yv y_mv ?_; refine Hd.yv y_np ?_; refine Hd.yv (y_f 0 129 Tryz.underlying133 sz129) ?_; refine Hd.yv (y_l1 ag129 rfl) ?_; refine Hd.yv y_mv ?_; refine Hd.yv y_mv ?_; refine Hd.yv (y_idxR Tryz.underlying129 sz221 rfl rfl (by omega) (by exact RdS.own pkk)) ?_; refine Hd.yv (y_fR 0 219 Tryz.underlying221 sz219) ?_; refine Hd.yv (y_idxAR Tryz.underlying219 sz218 rfl rfl (by omega)) ?_; refine Hd.yv (y_fR 5 4 Tryz.underlying218 sz4) ?_; refine Hd.yv (y_rc ag4 rfl hrow hk 5 rfl) ?_; refine Hd.yv (y_not rfl) ?_; refine Hd.fk [(0, _), (1, _), (2, _), (17, _)] hK1 ?_; refine Hd.cond rfl (fun hc0 => ?_) (fun hc0 => ?_)
 ·
  try simp only [hyA, hyB, hyC, ne_eq] at hc0
  refine Hd.sr fun _ hK2 => ?_
  refine Hd.yv y_mv ?_; refine Hd.yv y_np ?_; refine Hd.yv (y_f 0 129 Tryz.underlying133 sz129) ?_; refine Hd.yv (y_l1 ag129 rfl) ?_; refine Hd.yv y_mv ?_; refine Hd.yv y_mv ?_; refine Hd.yv (y_idxR Tryz.underlying129 sz221 rfl rfl (by omega) (by exact RdS.own pkk)) ?_; refine Hd.yv (y_fR 0 219 Tryz.underlying221 sz219) ?_; refine Hd.yv (y_idxAR Tryz.underlying219 sz218 rfl rfl (by omega)) ?_; refine Hd.yv (y_fR 5 4 Tryz.underlying218 sz4) ?_; refine Hd.storeO1 sz4 rfl rfl rfl pkk (by rw [rows_len encRW_len]; omega) ?_
  try simp only [List.set_cons_zero, List.set_cons_succ]
  refine Hd.nil ?_; rw [rset_shut hrow hk (by omega)]; refine Hd.heap (RwP b (w.setW n (x.up k fun e => { e with shut := true })) :: L) (fun q s => rw_head (x' := x.up k fun e => { e with shut := true }) hi hrow (fun j _ => up_b x k (f := fun e => { e with shut := true }) (fun _ => rfl) j) rfl q (Ent.sep enn q s)) ?_; refine Hd.sk [(0, _), (1, _), (2, _)] hK2 ?_; refine Hd.region ?_; refine Hd.yv y_mv ?_; refine Hd.yv y_mv ?_; refine Hd.yv y_mv ?_; refine Hd.yv (y_to (v' := .int .i64 ((1 - k : Nat) : Int)) (y_subn rfl rfl (by simp only [InK]; omega)) (by (congr 1; omega))) ?_; refine Hd.callE rfl fk176 (rrise_ct _ b _ n _ (setW_self hx) (1 - k) hk1 true false) sq ?_; intro _; rw [setW_setW]; refine Hd.nil ?_; refine Hd.slots [] sbq ?_; clear hK1 hK2; rw [show shutW x k = (x.up k fun e => { e with shut := true }).up (1 - k) (riseE true false) from if_neg (by simpa using hc0)]; exact Hd.end0 rfl () rfl sq
 ·
  try simp only [hyA, hyB, hyC, ne_eq] at hc0
  refine Hd.skip ?_; clear hK1; rw [show shutW x k = x from if_pos (by simpa using hc0), setW_same hx]; exact Hd.end0 rfl () rfl (rw_fold hi)
theorem rclose_ct (L : List SP) (b : Nat) (w : WA) (n : Nat) (x : WireA) (hx : w.ws[n]? = some x) (k : Nat) (hk : k < 2) : Ct Tryz.prog 123 #[.pointer (some ⟨b, 0, none⟩), .int .i64 (n : Int), .int .i64 (k : Int)] (RwP b w :: L) (fun _ : Unit => .tuple #[]) (fun _ : Unit => RwP b (w.setW n (closeW x k)) :: L) := by
 refine Ct.of (vs := [.pointer (some ⟨b, 0, none⟩), .int .i64 (n : Int), .int .i64 (k : Int)]) Tryz.func123 rfl rfl [(0, .pointer (some ⟨b, 0, none⟩)), (1, .int .i64 (n : Int)), (2, .int .i64 (k : Int))] sbq ?_; intro E
 show Hd E 33 _ _ _ _
 refine Hd.rw .here (fun i hi => ?_)
 have hrl := rows_n hi
 obtain ⟨j, hrow⟩ := row_at hi hx
 have hn : n < i.1.length := (List.getElem?_eq_some_iff.1 hrow).1
 have hk1 : 1 - k < 2 := by omega
 refine Hd.sr fun _ hK1 => ?_
 refine Hd.yv y_mv ?_; refine Hd.yv y_mv ?_; refine Hd.yv y_mv ?_; refine Hd.yv (y_to (v' := .int .i64 ((1 - k : Nat) : Int)) (y_subn rfl rfl (by simp only [InK]; omega)) (by (congr 1; omega))) ?_; refine Hd.yv y_mv ?_; refine Hd.yv y_np ?_; refine Hd.yv (y_f 0 129 Tryz.underlying133 sz129) ?_; refine Hd.yv (y_l1 ag129 rfl) ?_; refine Hd.yv y_mv ?_; refine Hd.yv y_mv ?_; refine Hd.yv (y_idxR Tryz.underlying129 sz221 rfl rfl (by omega) (by exact RdS.own pkk)) ?_; refine Hd.yv (y_fR 0 219 Tryz.underlying221 sz219) ?_; refine Hd.yv (y_idxAR Tryz.underlying219 sz218 rfl rfl (by omega)) ?_; refine Hd.yv (y_fR 5 4 Tryz.underlying218 sz4) ?_; refine Hd.yv (y_rc ag4 rfl hrow hk 5 rfl) ?_; refine Hd.yv (y_not rfl) ?_; refine Hd.heap (RwP b w :: L) (rw_fold hi) ?_; refine Hd.callE rfl fk176 (rrise_ct _ b w n x hx (1 - k) hk1 (!(x.e k).shut) true) sq ?_; intro _; refine Hd.fk [(0, _), (1, _), (2, _)] hK1 ?_
 refine Hd.rw .here (fun i' hi' => ?_)
 have hx1 : (w.setW n (x.up (1 - k) (riseE (!(x.e k).shut) true))).ws[n]? = some (x.up (1 - k) (riseE (!(x.e k).shut) true)) := setW_self hx
 have hrl' := rows_n hi'
 obtain ⟨j', hrow'⟩ := row_at hi' hx1
 have hn' : n < i'.1.length := (List.getElem?_eq_some_iff.1 hrow').1
 refine Hd.region ?_; refine Hd.yv y_mv ?_; refine Hd.yv y_np ?_; refine Hd.yv (y_f 0 129 Tryz.underlying133 sz129) ?_; refine Hd.yv (y_l1 ag129 rfl) ?_; refine Hd.yv y_mv ?_; refine Hd.yv y_mv ?_; refine Hd.yv (y_idxR Tryz.underlying129 sz221 rfl rfl (by omega) (by exact RdS.own pkk)) ?_; refine Hd.yv (y_fR 0 219 Tryz.underlying221 sz219) ?_; refine Hd.yv (y_idxAR Tryz.underlying219 sz218 rfl rfl (by omega)) ?_; refine Hd.yv (y_fR 0 3 Tryz.underlying218 sz3) ?_; refine Hd.storeO1 sz3 rfl rfl rfl pkk (by rw [rows_len encRW_len]; omega) ?_
 try simp only [List.set_cons_zero, List.set_cons_succ]
 refine Hd.nil ?_; refine Hd.slots [] sbq ?_; clear hK1; rw [rset_what hrow' hk (by omega)]
 have e : w.setW n (closeW x k) = (w.setW n (x.up (1 - k) (riseE (!(x.e k).shut) true))).setW n ((x.up (1 - k) (riseE (!(x.e k).shut) true)).up k fun e => { e with what := 3 }) := by rw [setW_setW]; rfl
 rw [e]; exact Hd.end0 rfl () rfl (fun q s => rw_head (x' := (x.up (1 - k) (riseE (!(x.e k).shut) true)).up k fun e => { e with what := 3 }) hi' hrow' (fun j _ => up_b _ k (f := fun e => { e with what := 3 }) (fun _ => rfl) j) rfl q (Ent.sep enn q s))
theorem router1_ct (L : List SP) (b : Nat) (w : WA) (n : Nat) (x : WireA) (hx : w.ws[n]? = some x) : Ct Tryz.prog 177 #[.pointer (some ⟨b, 0, none⟩), .int .i64 (n : Int)] (RwP b w :: L) (fun _ : Unit => .bool (decide ((x.e 1).what = 2))) (fun _ : Unit => RwP b w :: L) := by
 refine Ct.of (vs := [.pointer (some ⟨b, 0, none⟩), .int .i64 (n : Int)]) Tryz.func177 rfl rfl [(0, .pointer (some ⟨b, 0, none⟩)), (1, .int .i64 (n : Int))] sbq ?_; intro E
 show Hd E 29 _ _ _ _
 refine Hd.rw .here (fun i hi => ?_)
 have hrl := rows_n hi
 obtain ⟨j, hrow⟩ := row_at hi hx
 have hn : n < i.1.length := (List.getElem?_eq_some_iff.1 hrow).1
 refine Hd.sr fun _ hK1 => ?_
 refine Hd.yv y_as ?_; refine Hd.fk [(0, _), (1, _)] hK1 ?_; refine Hd.sr fun _ hK2 => ?_
 refine Hd.yv y_mv ?_; refine Hd.yv (y_geq rfl rfl) ?_; refine Hd.yv y_mv ?_; apply Hd.andg 8 7 15 [(0, _), (1, _)] rfl ⟨rfl, rfl, trivial⟩
 ·intro hg1_7
  try simp only [hyA, hyB, hyC, ne_eq] at hg1_7
  simp only [List.take]; refine Hd.yg rfl rfl y_mv ?_; refine Hd.yg rfl rfl y_mv ?_; refine Hd.yg rfl rfl y_np ?_; refine Hd.yg rfl rfl (y_f 0 129 Tryz.underlying133 sz129) ?_; refine Hd.yg rfl rfl (y_l1 ag129 rfl) ?_; refine Hd.yg rfl rfl (y_len Tryz.underlying129 rfl) ?_; refine Hd.yg rfl rfl (y_lss rfl rfl) ?_; refine Hd.yv (y_pickT rfl rfl) ?_; refine Hd.nil ?_; exact Hd.mq
 ·intro hg1_7
  try simp only [hyA, hyB, hyC, ne_eq] at hg1_7
  simp only [List.take]; refine Hd.ng rfl rfl rfl ?_; refine Hd.ng rfl rfl rfl ?_; refine Hd.ng rfl rfl rfl ?_; refine Hd.ng rfl rfl rfl ?_; refine Hd.ng rfl rfl rfl ?_; refine Hd.ng rfl rfl rfl ?_; refine Hd.ng rfl rfl rfl ?_; refine Hd.yv (y_pickF rfl rfl) ?_; refine Hd.nil ?_; exact Hd.mq
 simp only [List.drop]; refine Hd.yv y_mv ?_; apply Hd.andg (q := decide ((x.e 1).what = 2)) 12 16 28 [] rfl trivial
 ·intro hg1_16
  try simp only [hyA, hyB, hyC, ne_eq] at hg1_16
  simp only [List.take]; refine Hd.yg rfl rfl y_mv ?_; refine Hd.yg rfl rfl y_np ?_; refine Hd.yg rfl rfl (y_f 0 129 Tryz.underlying133 sz129) ?_; refine Hd.yg rfl rfl (y_l1 ag129 rfl) ?_; refine Hd.yg rfl rfl y_mv ?_; refine Hd.yg rfl rfl (y_idxR Tryz.underlying129 sz221 rfl rfl (by omega) (by exact RdS.own pkk)) ?_; refine Hd.yg rfl rfl (y_fR 0 219 Tryz.underlying221 sz219) ?_; refine Hd.yg rfl rfl (y_idxAR Tryz.underlying219 sz218 rfl rfl (by decide)) ?_; refine Hd.yg rfl rfl (y_f 0 3 Tryz.underlying218 sz3) ?_; refine Hd.yg rfl rfl (y_rc (o := n * 20 + 0 + 1 * 8 + 0) ag3 rfl hrow (show 1 < 2 from Nat.lt_succ_self 1) 0 rfl) ?_; refine Hd.yg rfl rfl (y_eql rfl rfl) ?_; refine Hd.yv (y_pickT rfl rfl) ?_; refine Hd.nil ?_; exact Hd.mq
 ·intro hg1_16
  try simp only [hyA, hyB, hyC, ne_eq] at hg1_16
  simp only [List.take]; refine Hd.ng rfl rfl rfl ?_; refine Hd.ng rfl rfl rfl ?_; refine Hd.ng rfl rfl rfl ?_; refine Hd.ng rfl rfl rfl ?_; refine Hd.ng rfl rfl rfl ?_; refine Hd.ng rfl rfl rfl ?_; refine Hd.ng rfl rfl rfl ?_; refine Hd.ng rfl rfl rfl ?_; refine Hd.ng rfl rfl rfl ?_; refine Hd.ng rfl rfl rfl ?_; refine Hd.ng rfl rfl rfl ?_; refine Hd.yv (y_pickF rfl rfl) ?_; refine Hd.nil ?_; exact Hd.mq
 simp only [List.drop]; refine Hd.yv (y_to (v' := .bool (decide ((x.e 1).what = 2))) y_as (by (congr 1; simp; omega))) ?_; refine Hd.fk [(4, _)] hK2 ?_; refine Hd.ret ?_; clear hK1 hK2; exact Hd.ret1 rfl () rfl (rw_fold hi)
theorem router0_ct (L : List SP) (b : Nat) (w : WA) (n : Int) (hn : n < 0 ∨ (w.ws.length : Int) ≤ n) : Ct Tryz.prog 177 #[.pointer (some ⟨b, 0, none⟩), .int .i64 n] (RwP b w :: L) (fun _ : Unit => .bool false) (fun _ : Unit => RwP b w :: L) := by
 refine Ct.of (vs := [.pointer (some ⟨b, 0, none⟩), .int .i64 n]) Tryz.func177 rfl rfl [(0, .pointer (some ⟨b, 0, none⟩)), (1, .int .i64 n)] sbq ?_; intro E
 show Hd E 29 _ _ _ _
 refine Hd.rw .here (fun i hi => ?_)
 have hrl := rows_n hi
 refine Hd.sr fun _ hK1 => ?_
 refine Hd.yv y_as ?_; refine Hd.fk [(0, _), (1, _)] hK1 ?_; refine Hd.sr fun _ hK2 => ?_
 refine Hd.yv y_mv ?_; refine Hd.yv (y_geq rfl rfl) ?_; refine Hd.yv y_mv ?_; refine Hd.part (gd := 7) rfl (fun hg1_7 => ?_) (fun hg1_7 => ?_)
 ·
  try simp only [hyA, hyB, hyC, ne_eq] at hg1_7
  refine Hd.yg rfl rfl y_mv ?_; refine Hd.yg rfl rfl y_mv ?_; refine Hd.yg rfl rfl y_np ?_; refine Hd.yg rfl rfl (y_f 0 129 Tryz.underlying133 sz129) ?_; refine Hd.yg rfl rfl (y_l1 ag129 rfl) ?_; refine Hd.yg rfl rfl (y_len Tryz.underlying129 rfl) ?_; refine Hd.yg rfl rfl (y_lss rfl rfl) ?_; refine Hd.yv (y_pickT rfl rfl) ?_; refine Hd.yv y_mv ?_; refine Hd.part (gd := 16) rfl (fun hg1_16 => ?_) (fun hg1_16 => ?_)
  ·
   try simp only [hyA, hyB, hyC, ne_eq] at hg1_16
   exfalso; omega
  ·
   try simp only [hyA, hyB, hyC, ne_eq] at hg1_16
   refine Hd.ng rfl rfl rfl ?_; refine Hd.ng rfl rfl rfl ?_; refine Hd.ng rfl rfl rfl ?_; refine Hd.ng rfl rfl rfl ?_; refine Hd.ng rfl rfl rfl ?_; refine Hd.ng rfl rfl rfl ?_; refine Hd.ng rfl rfl rfl ?_; refine Hd.ng rfl rfl rfl ?_; refine Hd.ng rfl rfl rfl ?_; refine Hd.ng rfl rfl rfl ?_; refine Hd.ng rfl rfl rfl ?_; refine Hd.yv (y_pickF rfl rfl) ?_; refine Hd.yv y_as ?_; refine Hd.fk [(4, _)] hK2 ?_; refine Hd.ret ?_; clear hK1 hK2; exact Hd.ret1 rfl () rfl (rw_fold hi)
 ·
  try simp only [hyA, hyB, hyC, ne_eq] at hg1_7
  refine Hd.ng rfl rfl rfl ?_; refine Hd.ng rfl rfl rfl ?_; refine Hd.ng rfl rfl rfl ?_; refine Hd.ng rfl rfl rfl ?_; refine Hd.ng rfl rfl rfl ?_; refine Hd.ng rfl rfl rfl ?_; refine Hd.ng rfl rfl rfl ?_; refine Hd.yv (y_pickF rfl rfl) ?_; refine Hd.yv y_mv ?_; refine Hd.part (gd := 16) rfl (fun hg1_16 => ?_) (fun hg1_16 => ?_)
  ·
   try simp only [hyA, hyB, hyC, ne_eq] at hg1_16
   exfalso; simp at hg1_16; done
  ·
   try simp only [hyA, hyB, hyC, ne_eq] at hg1_16
   refine Hd.ng rfl rfl rfl ?_; refine Hd.ng rfl rfl rfl ?_; refine Hd.ng rfl rfl rfl ?_; refine Hd.ng rfl rfl rfl ?_; refine Hd.ng rfl rfl rfl ?_; refine Hd.ng rfl rfl rfl ?_; refine Hd.ng rfl rfl rfl ?_; refine Hd.ng rfl rfl rfl ?_; refine Hd.ng rfl rfl rfl ?_; refine Hd.ng rfl rfl rfl ?_; refine Hd.ng rfl rfl rfl ?_; refine Hd.yv (y_pickF rfl rfl) ?_; refine Hd.yv y_as ?_; refine Hd.fk [(4, _)] hK2 ?_; refine Hd.ret ?_; clear hK1 hK2; exact Hd.ret1 rfl () rfl (rw_fold hi)
theorem router_ct (L : List SP) (b : Nat) (w : WA) (n : Int) :
  Ct Tryz.prog 177 #[.pointer (some ⟨b, 0, none⟩), .int .i64 n] (RwP b w :: L) (fun _ : Unit => .bool (outW w n).isSome) (fun _ => RwP b w :: L) := by
 by_cases h : n < 0 ∨ (w.ws.length : Int) ≤ n
 ·rw [outW_off h]
  exact router0_ct L b w n h
 ·obtain ⟨k, rfl⟩ : ∃ k : Nat, n = (k : Int) := ⟨n.toNat, by omega⟩
  have hx : w.ws[k]? = some w.ws[k] := List.getElem?_eq_getElem (by omega)
  have := router1_ct L b w k _ hx
  rw [outW_nat hx]
  by_cases h2 : (w.ws[k].e 1).what = 2
  ·rw [if_pos h2]; rw [decide_eq_true h2] at this; exact this
  ·rw [if_neg h2]; rw [decide_eq_false h2] at this; exact this
end Rf
end Go.Proofs.YtbfddabjbkohdaaGreat
namespace Go.Proofs.YtbfddabjbkohdaaGreat
set_option maxHeartbeats 2000000
set_option linter.unusedSimpArgs false
set_option linter.unusedVariables false
set_option linter.unnecessarySimpa false
open Go.RX Fx
namespace Rf
open Wo
set_option maxRecDepth 8000
def RwI.upB (j : RwI) (k : Nat) (a : Option Addr) (c : Nat) : RwI := { j with a := fun q => if q = k then a else j.a q, c := fun q => if q = k then c else j.c q }
theorem upB_a (j : RwI) (k : Nat) (a : Option Addr) (c : Nat) : (j.upB k a c).a k = a ∧ (j.upB k a c).c k = c := ⟨if_pos rfl, if_pos rfl⟩
theorem upB_ne (j : RwI) {k q : Nat} (a : Option Addr) (c : Nat) (h : q ≠ k) : (j.upB k a c).a q = j.a q ∧ (j.upB k a c).c q = j.c q := ⟨if_neg h, if_neg h⟩
theorem rset_b {rs : List Row} {n k o m c : Nat} {x : WireA} {j : RwI} {l : List UInt8} {a : Option Addr} (h : rs[n]? = some (x, j)) (hk : k < 2) (ho : o = n * 20 + k * 8 + 4) (hl : l.length = m) : (rs.flatMap encRW).set o (.slice a m c) = (rs.set n (x.up k fun e => { e with b := l }, j.upB k a c)).flatMap encRW := by
 refine rset h hk (j := 4) (by decide) ho ?_ ?_ rfl
 ·rw [up_at, (upB_a j k a c).1, (upB_a j k a c).2, ← hl]; rfl
 ·rw [up_ne _ _ (by omega), (upB_ne j a c (by omega : 1 - k ≠ k)).1, (upB_ne j a c (by omega : 1 - k ≠ k)).2]
theorem sd_b {k c : Nat} {x : WireA} {j : RwI} {l : List UInt8} {a : Option Addr} {L : List SP} (hk : k < 2) : ∀ h, sep (own 5 1 a l.length c (bsl l) :: SdB (x, j) (1 - k) :: SdW (x, j) :: L) h → sep (Sd (x.up k fun e => { e with b := l }, j.upB k a c) :: L) h := fun h s => by
 refine sd_fold hk h ?_; unfold SdL SdB; dsimp only; rw [up_at, up_ne _ _ (by omega : 1 - k ≠ k), (upB_a j k a c).1, (upB_a j k a c).2, (upB_ne j a c (by omega : 1 - k ≠ k)).1, (upB_ne j a c (by omega : 1 - k ≠ k)).2]; exact s
theorem rget_ct (L : List SP) (b : Nat) (w : WA) (n : Nat) (x : WireA) (hx : w.ws[n]? = some x) (k : Nat) (hk : k < 2) (many : Int) (hm : 0 ≤ many) : Ct Tryz.prog 118 #[.pointer (some ⟨b, 0, none⟩), .int .i64 (n : Int), .int .i64 (k : Int), .int .i64 many] (RwP b w :: L) (fun q_ : Option Addr × Nat => .slice q_.1 ((x.e k).b.take many.toNat).length q_.2) (fun q_ : Option Addr × Nat => own 5 1 q_.1 ((x.e k).b.take many.toNat).length ((x.e k).b.take many.toNat).length (bsl ((x.e k).b.take many.toNat)) :: RwP b (w.setW n (takeW x k many.toNat)) :: L) := by
 refine Ct.of (vs := [.pointer (some ⟨b, 0, none⟩), .int .i64 (n : Int), .int .i64 (k : Int), .int .i64 many]) Tryz.func118 rfl rfl [(0, .pointer (some ⟨b, 0, none⟩)), (1, .int .i64 (n : Int)), (2, .int .i64 (k : Int)), (3, .int .i64 many)] sbq ?_; intro E
 show Hd E 50 _ _ _ _
 refine Hd.rw .here (fun i hi => ?_)
 have hrl := rows_n hi
 obtain ⟨j, hrow⟩ := row_at hi hx
 have hn : n < i.1.length := (List.getElem?_eq_some_iff.1 hrow).1
 have hk1 : 1 - k < 2 := by omega
 refine Hd.bagOut pkk hrow ?_; refine Hd.sd .here k hk ?_
 obtain ⟨bs, hbs⟩ : ∃ bs, bs = (x.e k).b := ⟨_, rfl⟩
 obtain ⟨kn, hkn⟩ : ∃ q, q = min many.toNat bs.length := ⟨_, rfl⟩
 have htk : bs.take many.toNat = bs.take kn := by
  rw [hkn]
  rcases Nat.le_total many.toNat bs.length with h | h
  ·rw [Nat.min_eq_left h]
  ·rw [Nat.min_eq_right h, List.take_length, List.take_of_length_le h]
 have hdk : bs.drop many.toNat = bs.drop kn := by
  rw [hkn]
  rcases Nat.le_total many.toNat bs.length with h | h
  ·rw [Nat.min_eq_left h]
  ·rw [Nat.min_eq_right h, List.drop_length, List.drop_of_length_le h]
 have hkl : kn ≤ bs.length := by omega
 have htl : (bs.take kn).length = kn := by rw [List.length_take]; omega
 refine Hd.ownCap (e := 5) (ad := j.a k) (m := (x.e k).b.length) (cap := j.c k) pkk (fun hcap => ?_); rw [← hbs] at hcap
 have hkc : kn ≤ j.c k := by omega
 have ex : takeW x k many.toNat = (x.up k fun e => { e with b := bs.drop kn }).up (1 - k) (riseE false (decide (0 < kn))) := by
  unfold takeW; rw [← hbs, htk, htl, show (x.up k fun e => { e with b := e.b.drop many.toNat }) = x.up k fun e => { e with b := bs.drop kn } from up_eq (by rw [← hbs, hdk])]
 rw [← hbs, htk, htl, ex]; refine Hd.sr fun _ hK1 => ?_
 refine Hd.yv y_as ?_; refine Hd.fk [(0, _), (1, _), (2, _), (3, _)] hK1 ?_; refine Hd.sr fun _ hK2 => ?_
 refine Hd.yv y_mv ?_; refine Hd.yv y_np ?_; refine Hd.yv (y_f 0 129 Tryz.underlying133 sz129) ?_; refine Hd.yv (y_l1 ag129 rfl) ?_; refine Hd.yv y_mv ?_; refine Hd.yv y_mv ?_; refine Hd.yv (y_idxR Tryz.underlying129 sz221 rfl rfl (by omega) (by exact RdS.own pkk)) ?_; refine Hd.yv (y_fR 0 219 Tryz.underlying221 sz219) ?_; refine Hd.yv (y_idxAR Tryz.underlying219 sz218 rfl rfl (by omega)) ?_; refine Hd.yv (y_fR 4 31 Tryz.underlying218 sz31) ?_; refine Hd.yv (y_to (v' := .slice (j.a k) bs.length (j.c k)) (y_rc ag31 rfl hrow hk 4 rfl) (by (rw [hbs]))) ?_; refine Hd.yv y_as ?_; refine Hd.fk [(0, _), (1, _), (2, _), (3, _), (9, _)] hK2 ?_; refine Hd.cutK (ι := Unit) [(0, _), (1, _), (2, _), (9, _)] (fun _ => [(3, .int .i64 (kn : Int))]) (fun _ => SdL (x, j) k (Bag Sd (i.1.take n) :: Bag Sd (i.1.drop (n + 1)) :: RwH b w i.1.length i.2.1 i.2.2 :: OwR i :: L)) ?_ ?_ ⟨rfl, rfl, rfl, rfl, trivial⟩
 ·
  refine Hd.sr fun _ hK3 => ?_
  refine Hd.yv y_mv ?_; refine Hd.yv y_mv ?_; refine Hd.yv (y_len Tryz.underlying31 rfl) ?_; refine Hd.yv (y_gtr rfl rfl) ?_; refine Hd.fk [(0, _), (1, _), (2, _), (3, _), (9, _), (24, _)] hK3 ?_; refine Hd.cond rfl (fun hc0 => ?_) (fun hc0 => ?_)
  ·
   try simp only [hyA, hyB, hyC, ne_eq] at hc0
   refine Hd.region ?_; refine Hd.yv y_mv ?_; refine Hd.yv (y_len Tryz.underlying31 rfl) ?_; refine Hd.yv y_as ?_; refine Hd.nil ?_; refine Hd.slots [(0, _), (1, _), (2, _), (3, _), (9, _)] sbq ?_; clear hK1 hK2 hK3; refine Hd.thenN ?_; exact Hd.meet () ⟨congrArg (fun z => some (Value.int .i64 z)) (by omega), by repeat (first | exact trivial | refine ⟨rfl, ?_⟩)⟩ sq
  ·
   try simp only [hyA, hyB, hyC, ne_eq] at hc0
   refine Hd.skip ?_; clear hK1 hK2 hK3; refine Hd.thenN ?_; exact Hd.meet () ⟨congrArg (fun z => some (Value.int .i64 z)) (by omega), by repeat (first | exact trivial | refine ⟨rfl, ?_⟩)⟩ sq
 ·
  intro _; refine Hd.seq fun _ hK4 => ?_
  refine Hd.drawsH ([RwH b w i.1.length i.2.1 i.2.2, OwR i]) (fun j => !([13].contains j)) mixed ?_; simp only [List.length, Nat.zero_add, Nat.reduceAdd]; refine Hd.takeH 0 rfl kq kq kq kq y_mv fq sq ?_; refine Hd.takeH 1 rfl kq kq kq kq y_np fq sq ?_; refine Hd.takeH 2 rfl kq kq kq kq (y_f 0 129 Tryz.underlying133 sz129) fq sq ?_; refine Hd.takeH 3 rfl kq kq kq kq (y_l1 ag129 rfl) fq sq ?_; refine Hd.takeH 4 rfl kq kq kq kq y_mv fq sq ?_; refine Hd.takeH 5 rfl kq kq kq kq y_mv fq sq ?_; refine Hd.takeH 6 rfl kq kq kq kq y_mv fq sq ?_; refine Hd.takeH 7 rfl kq kq kq kq y_mv fq sq ?_; refine Hd.takeH 8 rfl kq kq kq kq (y_slo_oxxN Tryz.underlying31 sz5 rfl rfl (by omega)) fq sq ?_; refine Hd.onlyH 9 rfl kq ?_; refine Hd.yv (y_idxR Tryz.underlying129 sz221 rfl rfl (by omega) (by exact RdS.own pkk)) ?_; refine Hd.nil ?_; refine Hd.thenN ?_; refine Hd.heldK (J := (fun j => !([13].contains j))) (i := 9) sq ?_
  refine Hd.onlyH 10 rfl kq ?_; refine Hd.yv (y_fR 0 219 Tryz.underlying221 sz219) ?_; refine Hd.nil ?_; refine Hd.thenN ?_; refine Hd.heldK (J := (fun j => !([13].contains j))) (i := 10) sq ?_; refine Hd.onlyH 11 rfl kq ?_; refine Hd.yv (y_idxAR Tryz.underlying219 sz218 rfl rfl (by omega)) ?_; refine Hd.nil ?_; refine Hd.thenN ?_; refine Hd.heldK (J := (fun j => !([13].contains j))) (i := 11) sq ?_; refine Hd.takeH 12 rfl kq kq kq kq (y_fR 4 31 Tryz.underlying218 sz31) fq sq ?_; refine Hd.onlyH 13 rfl kq ?_; refine Hd.storeO1 sz31 rfl rfl rfl pkk (by rw [rows_len encRW_len]; omega) ?_
  try simp only [List.set_cons_zero, List.set_cons_succ]
  refine Hd.nil ?_; refine Hd.thenN ?_; refine Hd.heldN (J := (fun j => !([13].contains j))) (i := 13) rfl ?_; refine Hd.endH kq ?_; rw [rset_b (l := bs.drop kn) hrow hk (by omega) (by rw [List.length_drop])]; refine Hd.ownSplit (e := 5) (ad := j.a k) (m := (x.e k).b.length) (cap := j.c k) (us := bsl (x.e k).b) pkk kn (bsl (bs.take kn)) (bsl (bs.drop kn)) (by rw [← hbs]; exact hkl) (by rw [← hbs]; unfold bsl; rw [← List.map_append, List.take_append_drop]) (by unfold bsl; rw [List.length_map, htl, Nat.mul_one]) ?_; refine Hd.heap (RwP b (w.setW n (x.up k fun e => { e with b := bs.drop kn })) :: own 5 1 (j.a k) kn kn (bsl (bs.take kn)) :: L) (sep_trans (sep_trans (Ent.sep (.eq pkk (own_eq3 (by rw [List.length_drop, ← hbs]) rfl rfl) enn)) (sd_b (l := bs.drop kn) (a := cutA (j.a k) 1 kn (j.c k)) (c := j.c k - kn) hk)) (sep_trans sq (rw_put hi hn))) ?_; refine Hd.sk [(0, _), (1, _), (2, _), (3, _), (9, _)] hK4 ?_
  refine Hd.sr fun _ hK5 => ?_
  refine Hd.yv y_mv ?_; refine Hd.yv y_mv ?_; refine Hd.yv y_mv ?_; refine Hd.yv (y_to (v' := .int .i64 ((1 - k : Nat) : Int)) (y_subn rfl rfl (by simp only [InK]; omega)) (by (congr 1; omega))) ?_; refine Hd.yv y_mv ?_; refine Hd.yv (y_to (v' := .bool (decide (0 < kn))) (y_gtr rfl rfl) (by (congr 1; simp only [decide_eq_decide]; omega))) ?_; refine Hd.callE rfl fk176 (rrise_ct _ b _ n _ (setW_self hx) (1 - k) hk1 false (decide (0 < kn))) sq ?_; intro _; rw [setW_setW]; refine Hd.fk [(3, _), (9, _)] hK5 ?_; refine Hd.sr fun _ hK6 => ?_
  refine Hd.yv y_mv ?_; refine Hd.yv y_mv ?_; refine Hd.yv (y_slo_xoxN Tryz.underlying31 sz5 rfl rfl (by omega)) ?_; refine Hd.yv y_as ?_; refine Hd.fk [(8, _)] hK6 ?_; refine Hd.ret ?_; clear hK1 hK2 hK4 hK5 hK6; exact Hd.ret1 rfl (j.a k, j.c k) rfl sq
theorem rfill_ct (L : List SP) (b : Nat) (w : WA) (n : Nat) (x : WireA) (hx : w.ws[n]? = some x) (hwf : WfW x) (k : Nat) (hk : k < 2) (ad : Option Addr) (m c : Nat) (bs : List UInt8) (hm : bs.length = m) (hR : RdS L 1 ad m (bsl bs)) (hml : m ≤ 70368744177664) (hmc : m ≤ c) : Ct Tryz.prog 119 #[.pointer (some ⟨b, 0, none⟩), .int .i64 (n : Int), .int .i64 (k : Int), .slice ad m c] (RwP b w :: L) (fun _ : Unit => .int .i64 (putN x k bs : Nat)) (fun _ : Unit => RwP b (w.setW n (putW x k bs)) :: L) := by
 refine Ct.of (vs := [.pointer (some ⟨b, 0, none⟩), .int .i64 (n : Int), .int .i64 (k : Int), .slice ad m c]) Tryz.func119 rfl rfl [(0, .pointer (some ⟨b, 0, none⟩)), (1, .int .i64 (n : Int)), (2, .int .i64 (k : Int)), (3, .slice ad m c)] sbq ?_; intro E
 show Hd E 78 _ _ _ _
 refine Hd.rw .here (fun i hi => ?_)
 have hrl := rows_n hi
 obtain ⟨j, hrow⟩ := row_at hi hx
 have hn : n < i.1.length := (List.getElem?_eq_some_iff.1 hrow).1
 have hk1 : 1 - k < 2 := by omega
 have hle := hwf.le (1 - k) hk1
 have hcp := hwf.cap
 refine Hd.bagOut pkk hrow ?_; refine Hd.sd .here (1 - k) hk1 ?_
 obtain ⟨kn, hkn⟩ : ∃ q, q = putN x k bs := ⟨_, rfl⟩
 have hkn2 : kn = min m (x.cap - (x.e (1 - k)).b.length) := by rw [hkn, ← hm]; rfl
 have htl : (bs.take kn).length = kn := by rw [List.length_take, hm]; omega
 have hRk : RdS L 1 ad kn (bsl (bs.take kn)) := by
  have := RdS.head (l := kn) hR (by omega)
  rwa [Nat.mul_one, bsl_take] at this
 have ex : putW x k bs = (x.up (1 - k) fun e => { e with b := (x.e (1 - k)).b ++ bs.take kn }).up (1 - k) (riseE (decide (0 < kn)) false) := by
  unfold putW; rw [← hkn, show (x.up (1 - k) fun e => { e with b := e.b ++ bs.take kn }) = x.up (1 - k) fun e => { e with b := (x.e (1 - k)).b ++ bs.take kn } from up_eq rfl]
 rw [← hkn, ex]; refine Hd.sr fun _ hK1 => ?_
 refine Hd.yv y_as ?_; refine Hd.fk [(0, _), (1, _), (2, _), (3, _)] hK1 ?_; refine Hd.seq fun _ hK2 => ?_
 refine Hd.quiet mixed kq ?_; refine Hq.yv y_mv ?_; refine Hq.yv y_np ?_; refine Hq.yv (y_f 0 129 Tryz.underlying133 sz129) ?_; refine Hq.yv (y_l1 ag129 rfl) ?_; refine Hq.yv y_mv ?_; refine Hq.yv (y_idxR Tryz.underlying129 sz221 rfl rfl (by omega) (by exact RdS.own pkk)) ?_; refine Hq.yv (y_fR 16 3 Tryz.underlying221 sz3) ?_; refine Hq.yv (y_to (v' := .int .i64 (x.cap : Int)) (y_rw ag3 rfl hrow 16 rfl) (by rfl)) ?_; refine Hq.yv y_mv ?_; refine Hq.yv y_np ?_; refine Hq.yv (y_f 0 129 Tryz.underlying133 sz129) ?_; refine Hq.yv (y_l1 ag129 rfl) ?_; refine Hq.yv y_mv ?_; refine Hq.yv y_mv ?_; refine Hq.yv (y_to (v' := .int .i64 ((1 - k : Nat) : Int)) (y_subn rfl rfl (by simp only [InK]; omega)) (by (congr 1; omega))) ?_; refine Hq.yv (y_idxR Tryz.underlying129 sz221 rfl rfl (by omega) (by exact RdS.own pkk)) ?_; refine Hq.yv (y_fR 0 219 Tryz.underlying221 sz219) ?_; refine Hq.yv (y_idxAR Tryz.underlying219 sz218 rfl rfl (by omega)) ?_
 refine Hq.yv (y_fR 4 31 Tryz.underlying218 sz31) ?_; refine Hq.yv (y_rc ag31 rfl hrow hk1 4 rfl) ?_; refine Hq.yv (y_len Tryz.underlying31 rfl) ?_; refine Hq.yv (y_to (v' := .int .i64 ((x.cap - (x.e (1 - k)).b.length : Nat) : Int)) (y_subn rfl rfl (by simp only [InK]; omega)) (by (congr 1; omega))) ?_; refine Hq.yv y_as ?_; refine Hq.nil ?_; refine Hd.sk [(0, _), (1, _), (2, _), (3, _), (9, _)] hK2 ?_; refine Hd.sr fun _ hK3 => ?_
 refine Hd.yv y_mv ?_; refine Hd.yv (y_len Tryz.underlying31 rfl) ?_; refine Hd.yv y_as ?_; refine Hd.fk [(0, _), (1, _), (2, _), (3, _), (9, _), (10, _)] hK3 ?_; refine Hd.cutK (ι := Unit) [(0, _), (1, _), (2, _), (3, _)] (fun _ => [(10, .int .i64 (kn : Int))]) (fun _ => SdL (x, j) (1 - k) (Bag Sd (i.1.take n) :: Bag Sd (i.1.drop (n + 1)) :: RwH b w i.1.length i.2.1 i.2.2 :: OwR i :: L)) ?_ ?_ ⟨rfl, rfl, rfl, rfl, trivial⟩
 ·
  refine Hd.sr fun _ hK4 => ?_
  refine Hd.yv y_mv ?_; refine Hd.yv y_mv ?_; refine Hd.yv (y_gtr rfl rfl) ?_; refine Hd.fk [(0, _), (1, _), (2, _), (3, _), (9, _), (10, _), (38, _)] hK4 ?_; refine Hd.cond rfl (fun hc0 => ?_) (fun hc0 => ?_)
  ·
   try simp only [hyA, hyB, hyC, ne_eq] at hc0
   refine Hd.region ?_; refine Hd.yv y_mv ?_; refine Hd.yv y_as ?_; refine Hd.nil ?_; refine Hd.slots [(0, _), (1, _), (2, _), (3, _), (10, _)] sbq ?_; clear hK1 hK2 hK3 hK4; refine Hd.thenN ?_; exact Hd.meet () ⟨congrArg (fun z => some (Value.int .i64 z)) (by omega), by repeat (first | exact trivial | refine ⟨rfl, ?_⟩)⟩ sq
  ·
   try simp only [hyA, hyB, hyC, ne_eq] at hc0
   refine Hd.skip ?_; clear hK1 hK2 hK3 hK4; refine Hd.thenN ?_; exact Hd.meet () ⟨congrArg (fun z => some (Value.int .i64 z)) (by omega), by repeat (first | exact trivial | refine ⟨rfl, ?_⟩)⟩ sq
 ·
  intro _; refine Hd.sr fun _ hK5 => ?_
  refine Hd.yv y_as ?_; refine Hd.fk [(0, _), (1, _), (2, _), (3, _), (10, _), (11, _)] hK5 ?_; refine Hd.seq fun _ hK6 => ?_
  refine Hd.ownNil 5 1 none ?_; refine Hd.region ?_; refine Hd.yv y_mv ?_; refine Hd.yv y_mv ?_; refine Hd.yv y_np ?_; refine Hd.yv (y_f 0 129 Tryz.underlying133 sz129) ?_; refine Hd.yv (y_l1 ag129 rfl) ?_; refine Hd.yv y_mv ?_; refine Hd.yv y_mv ?_; refine Hd.yv (y_to (v' := .int .i64 ((1 - k : Nat) : Int)) (y_subn rfl rfl (by simp only [InK]; omega)) (by (congr 1; omega))) ?_; refine Hd.yv (y_idxR Tryz.underlying129 sz221 rfl rfl (by omega) (by exact RdS.own pkk)) ?_; refine Hd.yv (y_fR 0 219 Tryz.underlying221 sz219) ?_; refine Hd.yv (y_idxAR Tryz.underlying219 sz218 rfl rfl (by omega)) ?_; refine Hd.yv (y_fR 4 31 Tryz.underlying218 sz31) ?_; refine Hd.yv (y_rc ag31 rfl hrow hk1 4 rfl) ?_; refine Hd.append Tryz.underlying31 ty5 rfl rfl rfl pkk (by first | exact RdS.rd (Rd.pt pkk (fun j v e => by simpa using e)) rfl | (exact RdS.own pkk)) (by simp [Value.oneCell']; done) (by simp only [maxLen]; omega) (by omega) (fun ad53 cap53 => ?_)
  refine Hd.yv y_as ?_; refine Hd.fk [(0, _), (1, _), (2, _), (3, _), (10, _), (11, _)] hK6 ?_; refine Hd.seq fun _ hK7 => ?_
  refine Hd.drawsH ([RwH b w i.1.length i.2.1 i.2.2, OwR i]) (fun j => !([16].contains j)) mixed ?_; simp only [List.length, Nat.zero_add, Nat.reduceAdd]; refine Hd.takeH 0 rfl kq kq kq kq y_mv fq sq ?_; refine Hd.takeH 1 rfl kq kq kq kq y_np fq sq ?_; refine Hd.takeH 2 rfl kq kq kq kq (y_f 0 129 Tryz.underlying133 sz129) fq sq ?_; refine Hd.takeH 3 rfl kq kq kq kq (y_l1 ag129 rfl) fq sq ?_; refine Hd.takeH 4 rfl kq kq kq kq y_mv fq sq ?_; refine Hd.takeH 5 rfl kq kq kq kq y_mv fq sq ?_; refine Hd.takeH 6 rfl kq kq kq kq (y_to (v' := .int .i64 ((1 - k : Nat) : Int)) (y_subn rfl rfl (by simp only [InK]; omega)) (by (congr 1; omega))) fq sq ?_; refine Hd.takeH 7 rfl kq kq kq kq y_mv fq sq ?_; refine Hd.takeH 8 rfl kq kq kq kq y_mv fq sq ?_; refine Hd.takeH 9 rfl kq kq kq kq y_mv fq sq ?_; refine Hd.takeH 10 rfl kq kq kq kq (y_slo_xoxN Tryz.underlying31 sz5 rfl rfl (by omega)) fq sq ?_; refine Hd.eitherH 11 12 rfl rfl kq ?_ ?_
  ·
   refine Hd.append Tryz.underlying31 ty5 rfl rfl rfl pkk (by exact RdS.mono hRk sq) (by exact B_one) (by simp only [maxLen]; omega) (by omega) (fun ad65 cap65 => ?_); refine Hd.nil ?_; refine Hd.thenN ?_; refine Hd.heldK (J := (fun j => !([16].contains j))) (i := 11) sq ?_; refine Hd.onlyH 12 rfl kq ?_; refine Hd.yv (y_idxR Tryz.underlying129 sz221 rfl rfl (by omega) (by exact RdS.own pkk)) ?_; refine Hd.nil ?_; refine Hd.thenN ?_; refine Hd.heldK (J := (fun j => !([16].contains j))) (i := 12) sq ?_; refine Hd.onlyH 13 rfl kq ?_; refine Hd.yv (y_fR 0 219 Tryz.underlying221 sz219) ?_; refine Hd.nil ?_; refine Hd.thenN ?_; refine Hd.heldK (J := (fun j => !([16].contains j))) (i := 13) sq ?_; refine Hd.onlyH 14 rfl kq ?_; refine Hd.yv (y_idxAR Tryz.underlying219 sz218 rfl rfl (by omega)) ?_; refine Hd.nil ?_; refine Hd.thenN ?_; refine Hd.heldK (J := (fun j => !([16].contains j))) (i := 14) sq ?_
   refine Hd.takeH 15 rfl kq kq kq kq (y_fR 4 31 Tryz.underlying218 sz31) fq sq ?_; refine Hd.onlyH 16 rfl kq ?_; refine Hd.storeO1 sz31 rfl rfl rfl pkk (by rw [rows_len encRW_len]; omega) ?_
   try simp only [List.set_cons_zero, List.set_cons_succ]
   refine Hd.nil ?_; refine Hd.thenN ?_; refine Hd.heldN (J := (fun j => !([16].contains j))) (i := 16) rfl ?_; refine Hd.endH kq ?_; rw [rset_b (l := (x.e (1 - k)).b ++ bs.take kn) hrow hk1 (by omega) (by rw [List.length_append, htl])]; refine Hd.heap (RwP b (w.setW n (x.up (1 - k) fun e => { e with b := (x.e (1 - k)).b ++ bs.take kn })) :: L) (sep_trans (sep_trans (Ent.sep (.eq pkk (own_eq3 (by rw [List.length_append, htl]) rfl (by unfold bsl; simp)) (.pick pkk (.pick pkk .same)))) (sd_b (l := (x.e (1 - k)).b ++ bs.take kn) (a := ad65) (c := cap65) hk1)) (sep_trans sq (rw_put hi hn))) ?_; refine Hd.sk [(0, _), (1, _), (2, _), (10, _)] hK7 ?_; refine Hd.sr fun _ hK8 => ?_
   refine Hd.yv y_mv ?_; refine Hd.yv y_mv ?_; refine Hd.yv y_mv ?_; refine Hd.yv (y_to (v' := .int .i64 ((1 - k : Nat) : Int)) (y_subn rfl rfl (by simp only [InK]; omega)) (by (congr 1; omega))) ?_; refine Hd.yv y_mv ?_; refine Hd.yv (y_to (v' := .bool (decide (0 < kn))) (y_gtr rfl rfl) (by (congr 1; simp only [decide_eq_decide]; omega))) ?_; refine Hd.callE rfl fk176 (rrise_ct _ b _ n _ (setW_self hx) (1 - k) hk1 (decide (0 < kn)) false) sq ?_; intro _; rw [setW_setW]; refine Hd.fk [(10, _)] hK8 ?_; refine Hd.sr fun _ hK9 => ?_
   refine Hd.yv y_mv ?_; refine Hd.yv y_as ?_; refine Hd.fk [(8, _)] hK9 ?_; refine Hd.ret ?_; clear hK1 hK2 hK3 hK5 hK6 hK7 hK8 hK9; exact Hd.ret1 rfl () rfl sq
  ·
   refine Hd.yv (y_idxR Tryz.underlying129 sz221 rfl rfl (by omega) (by exact RdS.own pkk)) ?_; refine Hd.nil ?_; refine Hd.thenN ?_; refine Hd.heldK (J := (fun j => !([16].contains j))) (i := 12) sq ?_; refine Hd.eitherH 11 13 rfl rfl kq ?_ ?_
   ·
    refine Hd.append Tryz.underlying31 ty5 rfl rfl rfl pkk (by exact RdS.mono hRk sq) (by exact B_one) (by simp only [maxLen]; omega) (by omega) (fun ad65 cap65 => ?_); refine Hd.nil ?_; refine Hd.thenN ?_; refine Hd.heldK (J := (fun j => !([16].contains j))) (i := 11) sq ?_; refine Hd.onlyH 13 rfl kq ?_; refine Hd.yv (y_fR 0 219 Tryz.underlying221 sz219) ?_; refine Hd.nil ?_; refine Hd.thenN ?_; refine Hd.heldK (J := (fun j => !([16].contains j))) (i := 13) sq ?_; refine Hd.onlyH 14 rfl kq ?_; refine Hd.yv (y_idxAR Tryz.underlying219 sz218 rfl rfl (by omega)) ?_; refine Hd.nil ?_; refine Hd.thenN ?_; refine Hd.heldK (J := (fun j => !([16].contains j))) (i := 14) sq ?_; refine Hd.takeH 15 rfl kq kq kq kq (y_fR 4 31 Tryz.underlying218 sz31) fq sq ?_; refine Hd.onlyH 16 rfl kq ?_; refine Hd.storeO1 sz31 rfl rfl rfl pkk (by rw [rows_len encRW_len]; omega) ?_
    try simp only [List.set_cons_zero, List.set_cons_succ]
    refine Hd.nil ?_; refine Hd.thenN ?_; refine Hd.heldN (J := (fun j => !([16].contains j))) (i := 16) rfl ?_; refine Hd.endH kq ?_; rw [rset_b (l := (x.e (1 - k)).b ++ bs.take kn) hrow hk1 (by omega) (by rw [List.length_append, htl])]; refine Hd.heap (RwP b (w.setW n (x.up (1 - k) fun e => { e with b := (x.e (1 - k)).b ++ bs.take kn })) :: L) (sep_trans (sep_trans (Ent.sep (.eq pkk (own_eq3 (by rw [List.length_append, htl]) rfl (by unfold bsl; simp)) (.pick pkk (.pick pkk .same)))) (sd_b (l := (x.e (1 - k)).b ++ bs.take kn) (a := ad65) (c := cap65) hk1)) (sep_trans sq (rw_put hi hn))) ?_; refine Hd.sk [(0, _), (1, _), (2, _), (10, _)] hK7 ?_; refine Hd.sr fun _ hK10 => ?_
    refine Hd.yv y_mv ?_; refine Hd.yv y_mv ?_; refine Hd.yv y_mv ?_; refine Hd.yv (y_to (v' := .int .i64 ((1 - k : Nat) : Int)) (y_subn rfl rfl (by simp only [InK]; omega)) (by (congr 1; omega))) ?_; refine Hd.yv y_mv ?_; refine Hd.yv (y_to (v' := .bool (decide (0 < kn))) (y_gtr rfl rfl) (by (congr 1; simp only [decide_eq_decide]; omega))) ?_; refine Hd.callE rfl fk176 (rrise_ct _ b _ n _ (setW_self hx) (1 - k) hk1 (decide (0 < kn)) false) sq ?_; intro _; rw [setW_setW]; refine Hd.fk [(10, _)] hK10 ?_; refine Hd.sr fun _ hK11 => ?_
    refine Hd.yv y_mv ?_; refine Hd.yv y_as ?_; refine Hd.fk [(8, _)] hK11 ?_; refine Hd.ret ?_; clear hK1 hK2 hK3 hK5 hK6 hK7 hK10 hK11; exact Hd.ret1 rfl () rfl sq
   ·
    refine Hd.yv (y_fR 0 219 Tryz.underlying221 sz219) ?_; refine Hd.nil ?_; refine Hd.thenN ?_; refine Hd.heldK (J := (fun j => !([16].contains j))) (i := 13) sq ?_; refine Hd.onlyH 11 rfl kq ?_; refine Hd.append Tryz.underlying31 ty5 rfl rfl rfl pkk (by exact RdS.mono hRk sq) (by exact B_one) (by simp only [maxLen]; omega) (by omega) (fun ad65 cap65 => ?_); refine Hd.nil ?_; refine Hd.thenN ?_; refine Hd.heldK (J := (fun j => !([16].contains j))) (i := 11) sq ?_; refine Hd.onlyH 14 rfl kq ?_; refine Hd.yv (y_idxAR Tryz.underlying219 sz218 rfl rfl (by omega)) ?_; refine Hd.nil ?_; refine Hd.thenN ?_; refine Hd.heldK (J := (fun j => !([16].contains j))) (i := 14) sq ?_; refine Hd.takeH 15 rfl kq kq kq kq (y_fR 4 31 Tryz.underlying218 sz31) fq sq ?_; refine Hd.onlyH 16 rfl kq ?_; refine Hd.storeO1 sz31 rfl rfl rfl pkk (by rw [rows_len encRW_len]; omega) ?_
    try simp only [List.set_cons_zero, List.set_cons_succ]
    refine Hd.nil ?_; refine Hd.thenN ?_; refine Hd.heldN (J := (fun j => !([16].contains j))) (i := 16) rfl ?_; refine Hd.endH kq ?_; rw [rset_b (l := (x.e (1 - k)).b ++ bs.take kn) hrow hk1 (by omega) (by rw [List.length_append, htl])]; refine Hd.heap (RwP b (w.setW n (x.up (1 - k) fun e => { e with b := (x.e (1 - k)).b ++ bs.take kn })) :: L) (sep_trans (sep_trans (Ent.sep (.eq pkk (own_eq3 (by rw [List.length_append, htl]) rfl (by unfold bsl; simp)) (.pick pkk (.pick pkk .same)))) (sd_b (l := (x.e (1 - k)).b ++ bs.take kn) (a := ad65) (c := cap65) hk1)) (sep_trans sq (rw_put hi hn))) ?_; refine Hd.sk [(0, _), (1, _), (2, _), (10, _)] hK7 ?_; refine Hd.sr fun _ hK12 => ?_
    refine Hd.yv y_mv ?_; refine Hd.yv y_mv ?_; refine Hd.yv y_mv ?_; refine Hd.yv (y_to (v' := .int .i64 ((1 - k : Nat) : Int)) (y_subn rfl rfl (by simp only [InK]; omega)) (by (congr 1; omega))) ?_; refine Hd.yv y_mv ?_; refine Hd.yv (y_to (v' := .bool (decide (0 < kn))) (y_gtr rfl rfl) (by (congr 1; simp only [decide_eq_decide]; omega))) ?_; refine Hd.callE rfl fk176 (rrise_ct _ b _ n _ (setW_self hx) (1 - k) hk1 (decide (0 < kn)) false) sq ?_; intro _; rw [setW_setW]; refine Hd.fk [(10, _)] hK12 ?_; refine Hd.sr fun _ hK13 => ?_
    refine Hd.yv y_mv ?_; refine Hd.yv y_as ?_; refine Hd.fk [(8, _)] hK13 ?_; refine Hd.ret ?_; clear hK1 hK2 hK3 hK5 hK6 hK7 hK12 hK13; exact Hd.ret1 rfl () rfl sq
end Rf
end Go.Proofs.YtbfddabjbkohdaaGreat
namespace Go.Proofs.YtbfddabjbkohdaaGreat
set_option maxHeartbeats 2000000
set_option linter.unusedSimpArgs false
set_option linter.unusedVariables false
set_option linter.unnecessarySimpa false
open Go.RX Fx
namespace Rf
open Wo
set_option maxRecDepth 8000
theorem atN_no {o : Option (Nat × Nat)} (h : atN o < 0) : o = none := by
 cases o with
 | none => rfl
 | some p => simp only [atN] at h; omega
theorem atN_yes {o : Option (Nat × Nat)} (h : 0 ≤ atN o) : ∃ n k, o = some (n, k) := by
 cases o with
 | none => simp only [atN] at h; omega
 | some p => exact ⟨p.1, p.2, rfl⟩
theorem rShut_ct (L : List SP) (b : Nat) (w : WA) (hw : WOk w) (fd : Int) : Ct Tryz.prog 66 #[.pointer (some ⟨b, 0, none⟩), .int .i64 fd] (RwP b w :: L) (fun _ : Unit => .int .i64 (shutR w fd).1) (fun _ : Unit => RwP b (shutR w fd).2 :: L) := by
 refine Ct.of (vs := [.pointer (some ⟨b, 0, none⟩), .int .i64 fd]) Tryz.func66 rfl rfl [(0, .pointer (some ⟨b, 0, none⟩)), (1, .int .i64 fd)] sbq ?_; intro E
 show Hd E 45 _ _ _ _
 refine Hd.sr fun _ hK1 => ?_
 refine Hd.yv y_as ?_; refine Hd.fk [(0, _), (1, _)] hK1 ?_; refine Hd.sr fun _ hK2 => ?_
 refine Hd.yv y_mv ?_; refine Hd.yv y_mv ?_; refine Hd.callE rfl fk116 (rat_ct _ b w hw fd) sq ?_; intro _; refine Hd.yv y_mv ?_; refine Hd.yv y_ex ?_; refine Hd.yv y_ex ?_; refine Hd.yv y_as ?_; refine Hd.yv y_as ?_; refine Hd.fk [(0, _), (5, _), (6, _)] hK2 ?_; refine Hd.seq fun _ hK3 => ?_
 refine Hd.sr fun _ hK4 => ?_
 refine Hd.yv y_mv ?_; refine Hd.yv (y_lss rfl rfl) ?_; refine Hd.fk [(0, _), (5, _), (6, _), (14, _)] hK4 ?_; refine Hd.cond rfl (fun hc0 => ?_) (fun hc0 => ?_)
 ·
  try simp only [hyA, hyB, hyC, ne_eq] at hc0
  have hno := atN_no hc0
  refine Hd.sr fun _ hK5 => ?_
  refine Hd.yv y_as ?_; refine Hd.fk [(4, _)] hK5 ?_; refine Hd.ret ?_; refine Hd.thenRet ?_; clear hK1 hK2 hK3 hK4 hK5; rw [show shutR w fd = (110, w) by unfold shutR; rw [hno]]; exact Hd.ret1 rfl () rfl sq
 ·
  try simp only [hyA, hyB, hyC, ne_eq] at hc0
  obtain ⟨n, k, hnk⟩ := atN_yes (by omega)
  obtain ⟨_, _, hk, _, x, hx, _, _⟩ := hw.at_lt hnk
  rw [show atN (w.at fd) = (n : Int) by rw [hnk]; rfl, show atK (w.at fd) = (k : Int) by rw [hnk]; rfl]; refine Hd.rw .here (fun i hi => ?_)
  have hrl := rows_n hi
  obtain ⟨j, hrow⟩ := row_at hi hx
  have hn : n < i.1.length := (List.getElem?_eq_some_iff.1 hrow).1
  refine Hd.skip ?_; refine Hd.toK hK3 ?_; refine Hd.seq fun _ hK6 => ?_
  refine Hd.sr fun _ hK7 => ?_
  refine Hd.yv y_mv ?_; refine Hd.yv y_np ?_; refine Hd.yv (y_f 0 129 Tryz.underlying133 sz129) ?_; refine Hd.yv (y_l1 ag129 rfl) ?_; refine Hd.yv y_mv ?_; refine Hd.yv y_mv ?_; refine Hd.yv (y_idxR Tryz.underlying129 sz221 rfl rfl (by omega) (by exact RdS.own pkk)) ?_; refine Hd.yv (y_fR 0 219 Tryz.underlying221 sz219) ?_; refine Hd.yv (y_idxAR Tryz.underlying219 sz218 rfl rfl (by omega)) ?_; refine Hd.yv (y_fR 2 4 Tryz.underlying218 sz4) ?_; refine Hd.yv (y_rc ag4 rfl hrow hk 2 rfl) ?_; refine Hd.yv (y_not rfl) ?_; refine Hd.yv y_mv ?_; apply Hd.org 13 27 40 [(0, _), (5, _), (6, _)] rfl ⟨rfl, rfl, rfl, trivial⟩
  ·intro hg4_27
   try simp only [hyA, hyB, hyC, ne_eq] at hg4_27
   simp only [List.take]; refine Hd.ng rfl rfl rfl ?_; refine Hd.ng rfl rfl rfl ?_; refine Hd.ng rfl rfl rfl ?_; refine Hd.ng rfl rfl rfl ?_; refine Hd.ng rfl rfl rfl ?_; refine Hd.ng rfl rfl rfl ?_; refine Hd.ng rfl rfl rfl ?_; refine Hd.ng rfl rfl rfl ?_; refine Hd.ng rfl rfl rfl ?_; refine Hd.ng rfl rfl rfl ?_; refine Hd.ng rfl rfl rfl ?_; refine Hd.ng rfl rfl rfl ?_; refine Hd.yv (y_pickT rfl rfl) ?_; refine Hd.nil ?_; exact Hd.mq
  ·intro hg4_27
   try simp only [hyA, hyB, hyC, ne_eq] at hg4_27
   simp only [List.take]; refine Hd.yg rfl rfl y_mv ?_; refine Hd.yg rfl rfl y_np ?_; refine Hd.yg rfl rfl (y_f 0 129 Tryz.underlying133 sz129) ?_; refine Hd.yg rfl rfl (y_l1 ag129 rfl) ?_; refine Hd.yg rfl rfl y_mv ?_; refine Hd.yg rfl rfl y_mv ?_; refine Hd.yg rfl rfl (y_idxR Tryz.underlying129 sz221 rfl rfl (by omega) (by exact RdS.own pkk)) ?_; refine Hd.yg rfl rfl (y_fR 0 219 Tryz.underlying221 sz219) ?_; refine Hd.yg rfl rfl (y_idxAR Tryz.underlying219 sz218 rfl rfl (by omega)) ?_; refine Hd.yg rfl rfl (y_fR 3 4 Tryz.underlying218 sz4) ?_; refine Hd.yg rfl rfl (y_rc ag4 rfl hrow hk 3 rfl) ?_; refine Hd.yg rfl rfl (y_not rfl) ?_; refine Hd.yv (y_pickF rfl rfl) ?_; refine Hd.nil ?_; exact Hd.mq
  simp only [List.drop]; refine Hd.fk [(0, _), (5, _), (6, _), (40, _)] hK7 ?_; refine Hd.cond rfl (fun hc1 => ?_) (fun hc1 => ?_)
  ·
   try simp only [hyA, hyB, hyC, ne_eq] at hc1
   have h1 : (x.e k).rd = false ∨ (x.e k).wr = false := by simpa using hc1
   refine Hd.sr fun _ hK8 => ?_
   refine Hd.yv y_as ?_; refine Hd.fk [(4, _)] hK8 ?_; refine Hd.ret ?_; refine Hd.thenRet ?_; clear hK1 hK2 hK3 hK4 hK6 hK7 hK8; rw [show shutR w fd = (111, w) by unfold shutR; rw [hnk]; dsimp only; rw [hx]; exact if_pos h1]; exact Hd.ret1 rfl () rfl (rw_fold hi)
  ·
   try simp only [hyA, hyB, hyC, ne_eq] at hc1
   have h1 : ¬ ((x.e k).rd = false ∨ (x.e k).wr = false) := by
    rintro (h | h) <;> simp [h] at hc1
   refine Hd.skip ?_; refine Hd.toK hK6 ?_; refine Hd.sr fun _ hK9 => ?_
   refine Hd.yv y_mv ?_; refine Hd.yv y_mv ?_; refine Hd.yv y_mv ?_; refine Hd.heap (RwP b w :: L) (rw_fold hi) ?_; refine Hd.callE rfl fk121 (rshut_ct _ b w n x hx k hk) sq ?_; intro _; refine Hd.fk [] hK9 ?_; refine Hd.sr fun _ hK10 => ?_
   refine Hd.yv y_as ?_; refine Hd.fk [(4, _)] hK10 ?_; refine Hd.ret ?_; clear hK1 hK2 hK3 hK4 hK6 hK7 hK9 hK10; rw [show shutR w fd = (0, w.setW n (shutW x k)) by unfold shutR; rw [hnk]; dsimp only; rw [hx]; exact if_neg h1]; exact Hd.ret1 rfl () rfl sq
theorem rPshut_ct (L : List SP) (b : Nat) (w : WA) (n : Int) : Ct Tryz.prog 128 #[.pointer (some ⟨b, 0, none⟩), .int .i64 n] (RwP b w :: L) (fun _ : Unit => .int .i64 (pshutR w n).1) (fun _ : Unit => RwP b (pshutR w n).2 :: L) := by
 refine Ct.of (vs := [.pointer (some ⟨b, 0, none⟩), .int .i64 n]) Tryz.func128 rfl rfl [(0, .pointer (some ⟨b, 0, none⟩)), (1, .int .i64 n)] sbq ?_; intro E
 show Hd E 14 _ _ _ _
 refine Hd.sr fun _ hK1 => ?_
 refine Hd.yv y_as ?_; refine Hd.fk [(0, _), (1, _)] hK1 ?_; refine Hd.sr fun _ hK2 => ?_
 refine Hd.yv y_mv ?_; refine Hd.yv y_mv ?_; refine Hd.callE rfl fk177 (router_ct _ b w n) sq ?_; intro _; refine Hd.yv y_as ?_; refine Hd.fk [(0, _), (1, _), (5, _)] hK2 ?_; refine Hd.seq fun _ hK3 => ?_
 refine Hd.sr fun _ hK4 => ?_
 refine Hd.yv y_mv ?_; refine Hd.yv (y_not rfl) ?_; refine Hd.fk [(0, _), (1, _), (10, _)] hK4 ?_; refine Hd.cond rfl (fun hc0 => ?_) (fun hc0 => ?_)
 ·
  try simp only [hyA, hyB, hyC, ne_eq] at hc0
  refine Hd.sr fun _ hK5 => ?_
  refine Hd.yv y_as ?_; refine Hd.fk [(4, _)] hK5 ?_; refine Hd.ret ?_; refine Hd.thenRet ?_; clear hK1 hK2 hK3 hK4 hK5
  have hno : outW w n = none := by cases h : outW w n with | none => rfl | some y => rw [h] at hc0; simp at hc0
  rw [show pshutR w n = (116, w) by unfold pshutR; rw [hno]]; exact Hd.ret1 rfl () rfl sq
 ·
  try simp only [hyA, hyB, hyC, ne_eq] at hc0
  obtain ⟨x, ho⟩ : ∃ x, outW w n = some x := by cases h : outW w n with | none => rw [h] at hc0; simp at hc0 | some y => exact ⟨y, rfl⟩
  obtain ⟨h0, hx, _⟩ := outW_some ho
  obtain ⟨k, rfl⟩ : ∃ k : Nat, n = (k : Int) := ⟨n.toNat, by omega⟩
  rw [Int.toNat_natCast] at hx; refine Hd.skip ?_; refine Hd.toK hK3 ?_; refine Hd.sr fun _ hK6 => ?_
  refine Hd.yv y_mv ?_; refine Hd.yv y_mv ?_; refine Hd.callE rfl fk121 (rshut_ct _ b w k x hx 1 (by decide)) sq ?_; intro _; refine Hd.fk [] hK6 ?_; refine Hd.sr fun _ hK7 => ?_
  refine Hd.yv y_as ?_; refine Hd.fk [(4, _)] hK7 ?_; refine Hd.ret ?_; clear hK1 hK2 hK3 hK4 hK6 hK7; rw [show pshutR w (k : Int) = (0, w.setW k (shutW x 1)) by unfold pshutR; rw [ho]; rfl]; exact Hd.ret1 rfl () rfl sq
theorem rPclose_ct (L : List SP) (b : Nat) (w : WA) (n : Int) : Ct Tryz.prog 130 #[.pointer (some ⟨b, 0, none⟩), .int .i64 n] (RwP b w :: L) (fun _ : Unit => .int .i64 (pcloseR w n).1) (fun _ : Unit => RwP b (pcloseR w n).2 :: L) := by
 refine Ct.of (vs := [.pointer (some ⟨b, 0, none⟩), .int .i64 n]) Tryz.func130 rfl rfl [(0, .pointer (some ⟨b, 0, none⟩)), (1, .int .i64 n)] sbq ?_; intro E
 show Hd E 14 _ _ _ _
 refine Hd.sr fun _ hK1 => ?_
 refine Hd.yv y_as ?_; refine Hd.fk [(0, _), (1, _)] hK1 ?_; refine Hd.sr fun _ hK2 => ?_
 refine Hd.yv y_mv ?_; refine Hd.yv y_mv ?_; refine Hd.callE rfl fk177 (router_ct _ b w n) sq ?_; intro _; refine Hd.yv y_as ?_; refine Hd.fk [(0, _), (1, _), (5, _)] hK2 ?_; refine Hd.seq fun _ hK3 => ?_
 refine Hd.sr fun _ hK4 => ?_
 refine Hd.yv y_mv ?_; refine Hd.yv (y_not rfl) ?_; refine Hd.fk [(0, _), (1, _), (10, _)] hK4 ?_; refine Hd.cond rfl (fun hc0 => ?_) (fun hc0 => ?_)
 ·
  try simp only [hyA, hyB, hyC, ne_eq] at hc0
  refine Hd.sr fun _ hK5 => ?_
  refine Hd.yv y_as ?_; refine Hd.fk [(4, _)] hK5 ?_; refine Hd.ret ?_; refine Hd.thenRet ?_; clear hK1 hK2 hK3 hK4 hK5
  have hno : outW w n = none := by cases h : outW w n with | none => rfl | some y => rw [h] at hc0; simp at hc0
  rw [show pcloseR w n = (116, w) by unfold pcloseR; rw [hno]]; exact Hd.ret1 rfl () rfl sq
 ·
  try simp only [hyA, hyB, hyC, ne_eq] at hc0
  obtain ⟨x, ho⟩ : ∃ x, outW w n = some x := by cases h : outW w n with | none => rw [h] at hc0; simp at hc0 | some y => exact ⟨y, rfl⟩
  obtain ⟨h0, hx, _⟩ := outW_some ho
  obtain ⟨k, rfl⟩ : ∃ k : Nat, n = (k : Int) := ⟨n.toNat, by omega⟩
  rw [Int.toNat_natCast] at hx; refine Hd.skip ?_; refine Hd.toK hK3 ?_; refine Hd.sr fun _ hK6 => ?_
  refine Hd.yv y_mv ?_; refine Hd.yv y_mv ?_; refine Hd.callE rfl fk123 (rclose_ct _ b w k x hx 1 (by decide)) sq ?_; intro _; refine Hd.fk [] hK6 ?_; refine Hd.sr fun _ hK7 => ?_
  refine Hd.yv y_as ?_; refine Hd.fk [(4, _)] hK7 ?_; refine Hd.ret ?_; clear hK1 hK2 hK3 hK4 hK6 hK7; rw [show pcloseR w (k : Int) = (0, w.setW k (closeW x 1)) by unfold pcloseR; rw [ho]; rfl]; exact Hd.ret1 rfl () rfl sq
theorem rWire_ct (L : List SP) (b : Nat) (w : WA) (hw : WOk w) (fd : Int) : Ct Tryz.prog 79 #[.pointer (some ⟨b, 0, none⟩), .int .i64 fd] (RwP b w :: L) (fun _ : Unit => .tuple #[.int .i64 (wireN (w.at fd)), .int .i64 (fdErr (w.at fd))]) (fun _ : Unit => RwP b w :: L) := by
 refine Ct.of (vs := [.pointer (some ⟨b, 0, none⟩), .int .i64 fd]) Tryz.func79 rfl rfl [(0, .pointer (some ⟨b, 0, none⟩)), (1, .int .i64 fd)] sbq ?_; intro E
 show Hd E 17 _ _ _ _
 refine Hd.sr fun _ hK1 => ?_
 refine Hd.yv y_as ?_; refine Hd.yv y_as ?_; refine Hd.fk [(0, _), (1, _)] hK1 ?_; refine Hd.sr fun _ hK2 => ?_
 refine Hd.yv y_mv ?_; refine Hd.yv y_mv ?_; refine Hd.callE rfl fk116 (rat_ct _ b w hw fd) sq ?_; intro _; refine Hd.yv y_mv ?_; refine Hd.yv y_ex ?_; refine Hd.yv y_ex ?_; refine Hd.yv y_as ?_; refine Hd.yv y_as ?_; refine Hd.fk [(6, _)] hK2 ?_; refine Hd.seq fun _ hK3 => ?_
 refine Hd.sr fun _ hK4 => ?_
 refine Hd.yv y_mv ?_; refine Hd.yv (y_lss rfl rfl) ?_; refine Hd.fk [(6, _), (15, _)] hK4 ?_; refine Hd.cond rfl (fun hc0 => ?_) (fun hc0 => ?_)
 ·
  try simp only [hyA, hyB, hyC, ne_eq] at hc0
  refine Hd.sr fun _ hK5 => ?_
  refine Hd.yv y_as ?_; refine Hd.yv y_as ?_; refine Hd.fk [(4, _), (5, _)] hK5 ?_; refine Hd.ret ?_; refine Hd.thenRet ?_; clear hK1 hK2 hK3 hK4 hK5
  have hno := atN_no hc0
  rw [hno]; exact Hd.ret2 rfl () rfl rfl rfl sq
 ·
  try simp only [hyA, hyB, hyC, ne_eq] at hc0
  refine Hd.skip ?_; refine Hd.toK hK3 ?_; refine Hd.sr fun _ hK6 => ?_
  refine Hd.yv y_mv ?_; refine Hd.yv y_as ?_; refine Hd.yv y_as ?_; refine Hd.fk [(4, _), (5, _)] hK6 ?_; refine Hd.ret ?_; clear hK1 hK2 hK3 hK4 hK6
  obtain ⟨n, k, hnk⟩ := atN_yes (by omega)
  rw [hnk]; exact Hd.ret2 rfl () rfl rfl rfl sq
theorem rPut_ct (L : List SP) (b : Nat) (w : WA) (hw : WOk w) (n : Int) (ad : Option Addr) (m c : Nat) (bs : List UInt8) (hm : bs.length = m) (hR : RdS L 1 ad m (bsl bs)) (hml : m ≤ 70368744177664) (hmc : m ≤ c) : Ct Tryz.prog 124 #[.pointer (some ⟨b, 0, none⟩), .int .i64 n, .slice ad m c] (RwP b w :: L) (fun _ : Unit => .tuple #[.int .i64 (putR w n bs).1.1, .int .i64 (putR w n bs).1.2]) (fun _ : Unit => RwP b (putR w n bs).2 :: L) := by
 refine Ct.of (vs := [.pointer (some ⟨b, 0, none⟩), .int .i64 n, .slice ad m c]) Tryz.func124 rfl rfl [(0, .pointer (some ⟨b, 0, none⟩)), (1, .int .i64 n), (2, .slice ad m c)] sbq ?_; intro E
 show Hd E 49 _ _ _ _
 refine Hd.sr fun _ hK1 => ?_
 refine Hd.yv y_as ?_; refine Hd.yv y_as ?_; refine Hd.fk [(0, _), (1, _), (2, _)] hK1 ?_; refine Hd.sr fun _ hK2 => ?_
 refine Hd.yv y_mv ?_; refine Hd.yv y_mv ?_; refine Hd.callE rfl fk177 (router_ct _ b w n) sq ?_; intro _; refine Hd.yv y_as ?_; refine Hd.fk [(0, _), (1, _), (2, _), (8, _)] hK2 ?_; refine Hd.seq fun _ hK3 => ?_
 refine Hd.sr fun _ hK4 => ?_
 refine Hd.yv y_mv ?_; refine Hd.yv (y_not rfl) ?_; refine Hd.fk [(0, _), (1, _), (2, _), (13, _)] hK4 ?_; refine Hd.cond rfl (fun hc0 => ?_) (fun hc0 => ?_)
 ·
  try simp only [hyA, hyB, hyC, ne_eq] at hc0
  refine Hd.sr fun _ hK5 => ?_
  refine Hd.yv y_as ?_; refine Hd.yv y_as ?_; refine Hd.fk [(6, _), (7, _)] hK5 ?_; refine Hd.ret ?_; refine Hd.thenRet ?_; clear hK1 hK2 hK3 hK4 hK5
  have hno : outW w n = none := by cases h : outW w n with | none => rfl | some y => rw [h] at hc0; simp at hc0
  rw [show putR w n bs = ((0, 116), w) by unfold putR; rw [hno]]; exact Hd.ret2 rfl () rfl rfl rfl sq
 ·
  try simp only [hyA, hyB, hyC, ne_eq] at hc0
  obtain ⟨x, ho⟩ : ∃ x, outW w n = some x := by cases h : outW w n with | none => rw [h] at hc0; simp at hc0 | some y => exact ⟨y, rfl⟩
  obtain ⟨h0, hx, _⟩ := outW_some ho
  obtain ⟨k, rfl⟩ : ∃ k : Nat, n = (k : Int) := ⟨n.toNat, by omega⟩
  rw [Int.toNat_natCast] at hx
  have hwf := hw.wf x (List.mem_of_getElem? hx)
  refine Hd.rw .here (fun i hi => ?_)
  have hrl := rows_n hi
  obtain ⟨j, hrow⟩ := row_at hi hx
  have hn : k < i.1.length := (List.getElem?_eq_some_iff.1 hrow).1
  refine Hd.skip ?_; refine Hd.toK hK3 ?_; refine Hd.seq fun _ hK6 => ?_
  refine Hd.sr fun _ hK7 => ?_
  refine Hd.yv y_mv ?_; refine Hd.yv y_np ?_; refine Hd.yv (y_f 0 129 Tryz.underlying133 sz129) ?_; refine Hd.yv (y_l1 ag129 rfl) ?_; refine Hd.yv y_mv ?_; refine Hd.yv (y_idxR Tryz.underlying129 sz221 rfl rfl (by omega) (by exact RdS.own pkk)) ?_; refine Hd.yv (y_fR 17 4 Tryz.underlying221 sz4) ?_; refine Hd.yv (y_rw ag4 rfl hrow 17 rfl) ?_; refine Hd.fk [(0, _), (1, _), (2, _), (21, _)] hK7 ?_; refine Hd.cond rfl (fun hc1 => ?_) (fun hc1 => ?_)
  ·
   try simp only [hyA, hyB, hyC, ne_eq] at hc1
   refine Hd.sr fun _ hK8 => ?_
   refine Hd.yv y_as ?_; refine Hd.yv y_as ?_; refine Hd.fk [(6, _), (7, _)] hK8 ?_; refine Hd.ret ?_; refine Hd.thenRet ?_; clear hK1 hK2 hK3 hK4 hK6 hK7 hK8; rw [show putR w (k : Int) bs = ((0, 115), w) by unfold putR; rw [ho]; exact if_pos hc1]; exact Hd.ret2 rfl () rfl rfl rfl (rw_fold hi)
  ·
   try simp only [hyA, hyB, hyC, ne_eq] at hc1
   refine Hd.skip ?_; refine Hd.toK hK6 ?_; refine Hd.seq fun _ hK9 => ?_
   refine Hd.sr fun _ hK10 => ?_
   refine Hd.yv y_mv ?_; refine Hd.yv y_np ?_; refine Hd.yv (y_f 0 129 Tryz.underlying133 sz129) ?_; refine Hd.yv (y_l1 ag129 rfl) ?_; refine Hd.yv y_mv ?_; refine Hd.yv (y_idxR Tryz.underlying129 sz221 rfl rfl (by omega) (by exact RdS.own pkk)) ?_; refine Hd.yv (y_fR 0 219 Tryz.underlying221 sz219) ?_; refine Hd.yv (y_idxAR Tryz.underlying219 sz218 rfl rfl (by decide)) ?_; refine Hd.yv (y_f 5 4 Tryz.underlying218 sz4) ?_; refine Hd.yv (y_rc (o := k * 20 + 0 + 1 * 8 + 5) ag4 rfl hrow (show 1 < 2 from Nat.lt_succ_self 1) 5 rfl) ?_; refine Hd.yv y_mv ?_; apply Hd.org 12 32 44 [(0, _), (1, _), (2, _)] rfl ⟨rfl, rfl, rfl, trivial⟩
   ·intro hg6_32
    try simp only [hyA, hyB, hyC, ne_eq] at hg6_32
    simp only [List.take]; refine Hd.ng rfl rfl rfl ?_; refine Hd.ng rfl rfl rfl ?_; refine Hd.ng rfl rfl rfl ?_; refine Hd.ng rfl rfl rfl ?_; refine Hd.ng rfl rfl rfl ?_; refine Hd.ng rfl rfl rfl ?_; refine Hd.ng rfl rfl rfl ?_; refine Hd.ng rfl rfl rfl ?_; refine Hd.ng rfl rfl rfl ?_; refine Hd.ng rfl rfl rfl ?_; refine Hd.ng rfl rfl rfl ?_; refine Hd.yv (y_pickT rfl rfl) ?_; refine Hd.nil ?_; exact Hd.mq
   ·intro hg6_32
    try simp only [hyA, hyB, hyC, ne_eq] at hg6_32
    simp only [List.take]; refine Hd.yg rfl rfl y_mv ?_; refine Hd.yg rfl rfl y_np ?_; refine Hd.yg rfl rfl (y_f 0 129 Tryz.underlying133 sz129) ?_; refine Hd.yg rfl rfl (y_l1 ag129 rfl) ?_; refine Hd.yg rfl rfl y_mv ?_; refine Hd.yg rfl rfl (y_idxR Tryz.underlying129 sz221 rfl rfl (by omega) (by exact RdS.own pkk)) ?_; refine Hd.yg rfl rfl (y_fR 0 219 Tryz.underlying221 sz219) ?_; refine Hd.yg rfl rfl (y_idxAR Tryz.underlying219 sz218 rfl rfl (by decide)) ?_; refine Hd.yg rfl rfl (y_fR 0 3 Tryz.underlying218 sz3) ?_; refine Hd.yg rfl rfl (y_rc (o := k * 20 + 0 + 0 * 8 + 0) ag3 rfl hrow (show 0 < 2 from Nat.succ_pos 1) 0 rfl) ?_; refine Hd.yg rfl rfl (y_eql rfl rfl) ?_; refine Hd.yv (y_pickF rfl rfl) ?_; refine Hd.nil ?_; exact Hd.mq
   simp only [List.drop]; refine Hd.fk [(0, _), (1, _), (2, _), (44, _)] hK10 ?_; refine Hd.cond rfl (fun hc2 => ?_) (fun hc2 => ?_)
   ·
    try simp only [hyA, hyB, hyC, ne_eq] at hc2
    have h2 : (x.e 1).shut = true ∨ (x.e 0).what = 3 := by simpa using hc2
    refine Hd.sr fun _ hK11 => ?_
    refine Hd.yv y_as ?_; refine Hd.yv y_as ?_; refine Hd.fk [(6, _), (7, _)] hK11 ?_; refine Hd.ret ?_; refine Hd.thenRet ?_; clear hK1 hK2 hK3 hK4 hK6 hK7 hK9 hK10 hK11; rw [show putR w (k : Int) bs = ((0, 114), w) by unfold putR; rw [ho]; dsimp only; rw [if_neg (by rw [hc1]; decide), if_pos h2]]; exact Hd.ret2 rfl () rfl rfl rfl (rw_fold hi)
   ·
    try simp only [hyA, hyB, hyC, ne_eq] at hc2
    have h2 : ¬ ((x.e 1).shut = true ∨ (x.e 0).what = 3) := by
     rintro (h | h) <;> simp [h] at hc2
    refine Hd.skip ?_; refine Hd.toK hK9 ?_; refine Hd.sr fun _ hK12 => ?_
    refine Hd.yv y_mv ?_; refine Hd.yv y_mv ?_; refine Hd.yv y_mv ?_; refine Hd.heap (RwP b w :: L) (rw_fold hi) ?_; refine Hd.callE rfl fk119 (rfill_ct L b w k x hx hwf 1 (by decide) ad m c bs hm hR hml hmc) sq ?_; intro _; refine Hd.yv y_as ?_; refine Hd.yv y_as ?_; refine Hd.fk [(6, _), (7, _)] hK12 ?_; refine Hd.ret ?_; clear hK1 hK2 hK3 hK4 hK6 hK7 hK9 hK10 hK12; rw [show putR w (k : Int) bs = ((((putN x 1 bs : Nat) : Int), 0), w.setW k (putW x 1 bs)) by unfold putR; rw [ho]; dsimp only; rw [if_neg (by rw [hc1]; decide), if_neg h2]; rfl]; exact Hd.ret2 rfl () rfl rfl rfl sq
theorem rTake_ct (L : List SP) (b : Nat) (w : WA) (n many : Int) : Ct Tryz.prog 126 #[.pointer (some ⟨b, 0, none⟩), .int .i64 n, .int .i64 many] (RwP b w :: L) (fun q_ : Option Addr × Nat => .tuple #[.slice q_.1 (takR w n many).1.1.length q_.2, .int .i64 (takR w n many).1.2]) (fun q_ : Option Addr × Nat => own 5 1 q_.1 (takR w n many).1.1.length (takR w n many).1.1.length (bsl (takR w n many).1.1) :: RwP b (takR w n many).2 :: L) := by
 refine Ct.of (vs := [.pointer (some ⟨b, 0, none⟩), .int .i64 n, .int .i64 many]) Tryz.func126 rfl rfl [(0, .pointer (some ⟨b, 0, none⟩)), (1, .int .i64 n), (2, .int .i64 many)] sbq ?_; intro E
 show Hd E 28 _ _ _ _
 refine Hd.sr fun _ hK1 => ?_
 refine Hd.yv y_as ?_; refine Hd.yv y_as ?_; refine Hd.fk [(0, _), (1, _), (2, _)] hK1 ?_; refine Hd.sr fun _ hK2 => ?_
 refine Hd.yv y_mv ?_; refine Hd.yv y_mv ?_; refine Hd.callE rfl fk177 (router_ct _ b w n) sq ?_; intro _; refine Hd.yv y_as ?_; refine Hd.fk [(0, _), (1, _), (2, _), (8, _)] hK2 ?_; refine Hd.seq fun _ hK3 => ?_
 refine Hd.sr fun _ hK4 => ?_
 refine Hd.yv y_mv ?_; refine Hd.yv (y_not rfl) ?_; refine Hd.fk [(0, _), (1, _), (2, _), (13, _)] hK4 ?_; refine Hd.cond rfl (fun hc0 => ?_) (fun hc0 => ?_)
 ·
  try simp only [hyA, hyB, hyC, ne_eq] at hc0
  refine Hd.sr fun _ hK5 => ?_
  refine Hd.yv y_as ?_; refine Hd.yv y_as ?_; refine Hd.fk [(6, _), (7, _)] hK5 ?_; refine Hd.ret ?_; refine Hd.thenRet ?_; clear hK1 hK2 hK3 hK4 hK5
  have hno : outW w n = none := by cases h : outW w n with | none => rfl | some y => rw [h] at hc0; simp at hc0
  rw [show takR w n many = (([], 116), w) by unfold takR; rw [hno]]; exact Hd.ret2 rfl (none, 0) rfl rfl rfl (Ent.sep (.ownNil .same))
 ·
  try simp only [hyA, hyB, hyC, ne_eq] at hc0
  obtain ⟨x, ho⟩ : ∃ x, outW w n = some x := by cases h : outW w n with | none => rw [h] at hc0; simp at hc0 | some y => exact ⟨y, rfl⟩
  obtain ⟨h0, hx, _⟩ := outW_some ho
  obtain ⟨k, rfl⟩ : ∃ k : Nat, n = (k : Int) := ⟨n.toNat, by omega⟩
  rw [Int.toNat_natCast] at hx; refine Hd.skip ?_; refine Hd.toK hK3 ?_; refine Hd.seq fun _ hK6 => ?_
  refine Hd.sr fun _ hK7 => ?_
  refine Hd.yv y_mv ?_; refine Hd.yv (y_lss rfl rfl) ?_; refine Hd.fk [(0, _), (1, _), (2, _), (15, _)] hK7 ?_; refine Hd.cond rfl (fun hc1 => ?_) (fun hc1 => ?_)
  ·
   try simp only [hyA, hyB, hyC, ne_eq] at hc1
   refine Hd.sr fun _ hK8 => ?_
   refine Hd.yv y_as ?_; refine Hd.yv y_as ?_; refine Hd.fk [(6, _), (7, _)] hK8 ?_; refine Hd.ret ?_; refine Hd.thenRet ?_; clear hK1 hK2 hK3 hK4 hK6 hK7 hK8; rw [show takR w (k : Int) many = (([], 2), w) by unfold takR; rw [ho]; exact if_pos hc1]; exact Hd.ret2 rfl (none, 0) rfl rfl rfl (Ent.sep (.ownNil .same))
  ·
   try simp only [hyA, hyB, hyC, ne_eq] at hc1
   refine Hd.rw .here (fun i hi => ?_)
   have hrl := rows_n hi
   obtain ⟨j, hrow⟩ := row_at hi hx
   have hn : k < i.1.length := (List.getElem?_eq_some_iff.1 hrow).1
   refine Hd.skip ?_; refine Hd.toK hK6 ?_; refine Hd.seq fun _ hK9 => ?_
   refine Hd.sr fun _ hK10 => ?_
   refine Hd.yv y_mv ?_; refine Hd.yv y_np ?_; refine Hd.yv (y_f 0 129 Tryz.underlying133 sz129) ?_; refine Hd.yv (y_l1 ag129 rfl) ?_; refine Hd.yv y_mv ?_; refine Hd.yv (y_idxR Tryz.underlying129 sz221 rfl rfl (by omega) (by exact RdS.own pkk)) ?_; refine Hd.yv (y_fR 17 4 Tryz.underlying221 sz4) ?_; refine Hd.yv (y_rw ag4 rfl hrow 17 rfl) ?_; refine Hd.fk [(0, _), (1, _), (2, _), (23, _)] hK10 ?_; refine Hd.cond rfl (fun hc2 => ?_) (fun hc2 => ?_)
   ·
    try simp only [hyA, hyB, hyC, ne_eq] at hc2
    refine Hd.sr fun _ hK11 => ?_
    refine Hd.yv y_as ?_; refine Hd.yv y_as ?_; refine Hd.fk [(6, _), (7, _)] hK11 ?_; refine Hd.ret ?_; refine Hd.thenRet ?_; clear hK1 hK2 hK3 hK4 hK6 hK7 hK9 hK10 hK11; rw [show takR w (k : Int) many = (([], 115), w) by unfold takR; rw [ho]; dsimp only; rw [if_neg (by omega), if_pos hc2]]; exact Hd.ret2 rfl (none, 0) rfl rfl rfl (fun q s => Ent.sep (.ownNil .same) q (rw_fold hi q s))
   ·
    try simp only [hyA, hyB, hyC, ne_eq] at hc2
    refine Hd.skip ?_; refine Hd.toK hK9 ?_; refine Hd.sr fun _ hK12 => ?_
    refine Hd.yv y_mv ?_; refine Hd.yv y_mv ?_; refine Hd.yv y_mv ?_; refine Hd.heap (RwP b w :: L) (rw_fold hi) ?_; refine Hd.callE rfl fk118 (rget_ct _ b w k x hx 1 (by decide) many (by omega)) sq ?_; rintro ⟨ad, c⟩; dsimp only; refine Hd.yv y_as ?_; refine Hd.yv y_as ?_; refine Hd.fk [(6, _), (7, _)] hK12 ?_; refine Hd.ret ?_; clear hK1 hK2 hK3 hK4 hK6 hK7 hK9 hK10 hK12; rw [show takR w (k : Int) many = (((x.e 1).b.take many.toNat, 0), w.setW k (takeW x 1 many.toNat)) by unfold takR; rw [ho]; dsimp only; rw [if_neg (by omega), if_neg (by rw [hc2]; decide)]; rfl]; exact Hd.ret2 rfl (ad, c) rfl rfl rfl sq
end Rf
end Go.Proofs.YtbfddabjbkohdaaGreat
