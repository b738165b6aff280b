/-
  Worlds: what all calls do, in plain words; what they keep. Worlds: what all calls keep. Worlds: the wire whose other end is outside; Put, Take, PeerShut, PeerClose, Shut. Worlds: Outer, Pipe, Listen, Pass, Reset. Worlds: Close. Epoll: the law's Same, polls, alive. Epoll: the law EplOrders. Epoll: what reports leave, as long as nothing happens (plain). The calls of roundhouselaw11: what a call makes of a world. Epoll beside the document's list (plain). The document's world (roundhouseref11): how it lies in memory.
-/
import Derived.Test.YtbfddabjbkohdaaGreatZEplPlaysE
set_option linter.unusedSimpArgs false
set_option linter.unusedVariables false
set_option linter.unnecessarySimpa false
namespace Go.Proofs.YtbfddabjbkohdaaGreat
set_option maxHeartbeats 2000000
open Go.RX.Hd (yv y2 n1 fk sk sr tH callE heldK onlyH endH thenN slots)
open Go.RX Fx
namespace Wo
set_option maxRecDepth 8000
structure Gr (w w' : WA) : Prop where
 all : ∀ (n : Nat) (x : WireA), w.ws[n]? = some x → ∃ x', w'.ws[n]? = some x' ∧ ((x.e 0).what ≠ 0 → (x'.e 0).what ≠ 0) ∧ ∀ k, k < 2 → (x.e k).inn ≤ (x'.e k).inn ∧ (x.e k).out ≤ (x'.e k).out ∧ ((x.e 0).what ≠ 0 → (x'.e k).what = 1 → (x.e k).what = 1 ∧ (x'.e k).fd = (x.e k).fd)
theorem Gr.refl (w : WA) : Gr w w := ⟨fun n x h => ⟨x, h, id, fun k _ => ⟨Int.le_refl _, Int.le_refl _, fun _ e => ⟨e, rfl⟩⟩⟩⟩
theorem Gr.trans {a b c : WA} (h : Gr a b) (g : Gr b c) : Gr a c := ⟨fun n x hx => by
 obtain ⟨y, hy, y0, ye⟩ := h.all n x hx
 obtain ⟨z, hz, z0, ze⟩ := g.all n y hy
 refine ⟨z, hz, fun e => z0 (y0 e), fun k hk => ?_⟩
 obtain ⟨a1, a2, a3⟩ := ye k hk
 obtain ⟨b1, b2, b3⟩ := ze k hk
 refine ⟨by omega, by omega, fun e e1 => ?_⟩
 obtain ⟨c1, c2⟩ := b3 (y0 e) e1
 obtain ⟨d1, d2⟩ := a3 e c1
 exact ⟨d1, by rw [c2, d2]⟩⟩
structure Lo (K : Nat) (w : WA) : Prop where
 ct : ∀ c ∈ w.ct, 0 ≤ c ∧ c ≤ (K : Int)
 rs : ∀ x ∈ w.ws, ∀ k, k < 2 → 0 ≤ (x.e k).inn ∧ (x.e k).inn ≤ (K : Int) ∧ 0 ≤ (x.e k).out ∧ (x.e k).out ≤ (K : Int)
 now : 0 ≤ w.now ∧ w.now ≤ 18446744073709551615
 g1 : ∀ x ∈ w.ws, (x.e 1).what = 1 → (x.e 0).what ≠ 0
theorem Lo.mono {K K' : Nat} {w : WA} (h : Lo K w) (hk : K ≤ K') : Lo K' w := ⟨fun c hc => by have := h.ct c hc; omega, fun x hx k hk => by have := h.rs x hx k hk; omega, h.now, h.g1⟩
def Stp (j : Nat) (w w' : WA) : Prop := ∀ K, K + j ≤ 1000000000 → Lo K w → Lo (K + j) w' ∧ Gr w w'
theorem Stp.refl (w : WA) : Stp 0 w w := fun _ _ h => ⟨h, Gr.refl w⟩
theorem Stp.mono {i j : Nat} {w w' : WA} (h : Stp i w w') (hij : i ≤ j) : Stp j w w' := fun K hK hl => by
 obtain ⟨h1, h2⟩ := h K (by omega) hl
 exact ⟨h1.mono (by omega), h2⟩
theorem Stp.same {j : Nat} (w : WA) : Stp j w w := (Stp.refl w).mono (Nat.zero_le _)
theorem Stp.trans {i j : Nat} {a b c : WA} (h : Stp i a b) (g : Stp j b c) : Stp (i + j) a c := fun K hK hl => by
 obtain ⟨h1, h2⟩ := h K (by omega) hl
 obtain ⟨g1, g2⟩ := g (K + i) (by omega) h1
 exact ⟨by rw [← Nat.add_assoc]; exact g1, h2.trans g2⟩
def RsE (e e' : EndA) : Prop := (e'.inn = e.inn ∨ e'.inn = IntKind.u64.wrap (e.inn + 1)) ∧ (e'.out = e.out ∨ e'.out = IntKind.u64.wrap (e.out + 1))
theorem RsE.refl (e : EndA) : RsE e e := ⟨.inl rfl, .inl rfl⟩
theorem rsE_rise (i o : Bool) (e : EndA) : RsE e (riseE i o e) := by
 unfold riseE RsE; dsimp only
 constructor
 ·by_cases h : (i && e.rd) = true
  ·rw [if_pos h]; exact .inr rfl
  ·rw [if_neg h]; exact .inl rfl
 ·by_cases h : (o && e.wr) = true
  ·rw [if_pos h]; exact .inr rfl
  ·rw [if_neg h]; exact .inl rfl
theorem wrap_add {x : Int} {K : Nat} (h0 : 0 ≤ x) (h1 : x ≤ (K : Int)) (hK : K + 1 ≤ 1000000000) : IntKind.u64.wrap (x + 1) = x + 1 := by
 have : IntKind.u64.wrap (x + 1) = (x + 1) % 18446744073709551616 := rfl
 rw [this]; omega
theorem RsE.le {e e' : EndA} (h : RsE e e') {K : Nat} (hK : K + 1 ≤ 1000000000) (hl : 0 ≤ e.inn ∧ e.inn ≤ (K : Int) ∧ 0 ≤ e.out ∧ e.out ≤ (K : Int)) : e.inn ≤ e'.inn ∧ e.out ≤ e'.out ∧ 0 ≤ e'.inn ∧ e'.inn ≤ ((K + 1 : Nat) : Int) ∧ 0 ≤ e'.out ∧ e'.out ≤ ((K + 1 : Nat) : Int) := by
 obtain ⟨h1, h2⟩ := h
 rw [wrap_add hl.1 hl.2.1 hK] at h1; rw [wrap_add hl.2.2.1 hl.2.2.2 hK] at h2; omega
theorem stp_set {w : WA} {n : Nat} {x x' : WireA} (hx : w.ws[n]? = some x) (hr : ∀ k, k < 2 → RsE (x.e k) (x'.e k)) (h0 : (x.e 0).what ≠ 0 → (x'.e 0).what ≠ 0) (hn : (x.e 0).what ≠ 0 → ∀ k, k < 2 → (x'.e k).what = 1 → (x.e k).what = 1 ∧ (x'.e k).fd = (x.e k).fd) (h1 : (x'.e 1).what = 1 → (x.e 1).what = 1) : Stp 1 w (w.setW n x') := fun K hK hl => by
 have hlx := hl.rs x (List.mem_of_getElem? hx)
 refine ⟨⟨(hl.mono (Nat.le_succ K)).ct, fun y hy k hk => ?_, hl.now, fun y hy e1 => (List.mem_or_eq_of_mem_set hy).elim (fun hy => hl.g1 y hy e1) (fun e => by subst e; exact h0 (hl.g1 x (List.mem_of_getElem? hx) (h1 e1)))⟩, ⟨fun m y hy => ?_⟩⟩
 ·rcases List.mem_or_eq_of_mem_set hy with hy | rfl
  ·exact (hl.mono (Nat.le_succ K)).rs y hy k hk
  ·have := (hr k hk).le hK (hlx k hk)
   omega
 ·by_cases e : m = n
  ·subst e
   rw [hx] at hy; obtain rfl := Option.some.inj hy; refine ⟨x', setW_self hx, h0, fun k hk => ?_⟩
   have := (hr k hk).le hK (hlx k hk)
   exact ⟨this.1, this.2.1, fun e0 e1 => hn e0 k hk e1⟩
  ·exact ⟨y, by rw [setW_ne e]; exact hy, id, fun k _ => ⟨Int.le_refl _, Int.le_refl _, fun _ e => ⟨e, rfl⟩⟩⟩
theorem SbW.stp {w : WA} {n : Nat} {x x' : WireA} (hx : w.ws[n]? = some x) (hs : SbW x x') (hr : ∀ k, k < 2 → RsE (x.e k) (x'.e k)) : Stp 1 w (w.setW n x') :=
 stp_set hx hr hs.w0 (fun _ k hk e => ⟨(hs.e k hk).1 e, (hs.e k hk).2.1⟩) (fun e => (hs.e 1 (by omega)).1 e)
theorem stp_add (w : WA) {x : WireA} (h : ∀ k, k < 2 → (x.e k).inn = 0 ∧ (x.e k).out = 0) (h1 : (x.e 1).what = 1 → (x.e 0).what ≠ 0) : Stp 0 w (w.addW x) := fun K _ hl => by
 refine ⟨⟨hl.ct, fun y hy k hk => ?_, hl.now, fun y hy e1 => (List.mem_append.1 hy).elim (fun hy => hl.g1 y hy e1) (fun hy => by obtain rfl : y = x := (by simpa using hy); exact h1 e1)⟩, ⟨fun m y hy => ⟨y, by show (w.ws ++ [x])[m]? = _; rw [List.getElem?_append_left (List.getElem?_eq_some_iff.1 hy).1]; exact hy, id, fun k _ => ⟨Int.le_refl _, Int.le_refl _, fun _ e => ⟨e, rfl⟩⟩⟩⟩⟩
 rcases List.mem_append.1 hy with hy | hy
 ·exact hl.rs y hy k hk
 ·obtain rfl : y = x := by simpa using hy
  have := h k hk
  omega
theorem gr_ws {w w' : WA} (h : w'.ws = w.ws) : Gr w w' := ⟨fun n x hx => ⟨x, by rw [h]; exact hx, id, fun k _ => ⟨Int.le_refl _, Int.le_refl _, fun _ e => ⟨e, rfl⟩⟩⟩⟩
theorem rs_up (x : WireA) (k : Nat) {f : EndA → EndA} (h : ∀ e, RsE e (f e)) : ∀ j, RsE (x.e j) ((x.up k f).e j) := fun j => by
 by_cases e : j = k
 ·subst e; rw [up_at]; exact h _
 ·rw [up_ne _ _ e]; exact RsE.refl _
theorem rs_same {x y : WireA} (h : ∀ j, (y.e j).inn = (x.e j).inn ∧ (y.e j).out = (x.e j).out) {z : WireA} (hz : ∀ j, RsE (y.e j) (z.e j)) : ∀ j, RsE (x.e j) (z.e j) := fun j => by
 have := hz j
 unfold RsE at this ⊢; rw [(h j).1, (h j).2] at this; exact this
theorem up_cnt (x : WireA) (k : Nat) {f : EndA → EndA} (h : ∀ e, (f e).inn = e.inn ∧ (f e).out = e.out) : ∀ j, ((x.up k f).e j).inn = (x.e j).inn ∧ ((x.up k f).e j).out = (x.e j).out := fun j => by
 by_cases e : j = k
 ·subst e; rw [up_at]; exact h _
 ·rw [up_ne _ _ e]; exact ⟨rfl, rfl⟩
theorem rs_take (x : WireA) (k n : Nat) : ∀ j, RsE (x.e j) ((takeW x k n).e j) := rs_same (up_cnt x k (f := fun e => { e with b := e.b.drop n }) fun _ => ⟨rfl, rfl⟩) (rs_up _ _ (rsE_rise _ _))
theorem rs_put (x : WireA) (k : Nat) (bs : List UInt8) : ∀ j, RsE (x.e j) ((putW x k bs).e j) := rs_same (up_cnt x (1 - k) (f := fun e => { e with b := e.b ++ bs.take (putN x k bs) }) fun _ => ⟨rfl, rfl⟩) (rs_up _ _ (rsE_rise _ _))
theorem rs_shut (x : WireA) (k : Nat) : ∀ j, RsE (x.e j) ((shutW x k).e j) := by
 unfold shutW
 by_cases h : (x.e k).shut = true
 ·rw [if_pos h]; exact fun j => RsE.refl _
 ·rw [if_neg h]; exact rs_same (up_cnt x k (f := fun e => { e with shut := true }) fun _ => ⟨rfl, rfl⟩) (rs_up _ _ (rsE_rise _ _))
theorem rs_close (x : WireA) (k : Nat) : ∀ j, RsE (x.e j) ((closeW x k).e j) := fun j => by
 unfold closeW
 have h1 := rs_up x (1 - k) (rsE_rise (!(x.e k).shut) true) j
 have h2 := up_cnt (x.up (1 - k) (riseE (!(x.e k).shut) true)) k (f := fun e => { e with what := 3 }) (fun _ => ⟨rfl, rfl⟩) j
 unfold RsE at h1 ⊢; rw [h2.1, h2.2]; exact h1
theorem smW_shut {x : WireA} (h : WfW x) {k : Nat} : SmW x (shutW x k) := by
 unfold shutW
 by_cases hs : (x.e k).shut = true
 ·rw [if_pos hs]; exact smW_same h
 ·rw [if_neg hs]
  have h1 : SmW x (x.up k fun e => { e with shut := true }) := by
   have e : ∀ j, ((x.up k fun e => { e with shut := true }).e j).what = (x.e j).what ∧ ((x.up k fun e => { e with shut := true }).e j).fd = (x.e j).fd ∧ ((x.up k fun e => { e with shut := true }).e j).rd = (x.e j).rd ∧ ((x.up k fun e => { e with shut := true }).e j).wr = (x.e j).wr ∧ ((x.up k fun e => { e with shut := true }).e j).b = (x.e j).b := fun j => by
    by_cases e : j = k
    ·subst e; rw [up_at]; exact ⟨rfl, rfl, rfl, rfl, rfl⟩
    ·rw [up_ne _ _ e]; exact ⟨rfl, rfl, rfl, rfl, rfl⟩
   exact ⟨fun j _ => ⟨(e j).1, (e j).2.1, (e j).2.2.1, (e j).2.2.2.1⟩, rfl, rfl, rfl, fun j hj => by rw [(e j).2.2.2.2]; exact h.le j hj, fun j hj hr => by rw [(e j).2.2.2.2]; exact h.nb j hj hr⟩
  exact h1.trans (smW_rise (h1.wf h) _ _ _)
theorem sbW_close {x : WireA} (h : WfW x) {k : Nat} (hk : k < 2) : SbW x (closeW x k) where
 e j hj := by
  obtain ⟨a, b, c, d, _⟩ := close_e x hk hj
  refine ⟨fun e => ?_, b, c, d⟩; rw [a] at e
  split at e
  ·cases e
  ·exact e
 wh := (close_wf h hk).what
 w0 e := by
  rw [(close_e x hk (by omega)).1]
  split
  ·decide
  ·exact e
 ou e := by
  rw [(close_e x hk (by omega)).1] at e
  split at e
  ·cases e
  ·exact e
 wt := List.Sublist.refl _
 bl := rfl
 cap := rfl
 le j hj := by rw [(close_e x hk hj).2.2.2.2]; exact h.le j hj
 nb j hj hr := by rw [(close_e x hk hj).2.2.2.2]; exact h.nb j hj hr
def WireA.wts (x : WireA) (l : List Nat) : WireA := { x with wt := l }
theorem sbW_wts {x : WireA} (h : WfW x) {l : List Nat} (hl : l.Sublist x.wt) : SbW x (x.wts l) where
 e _ _ := ⟨id, rfl, rfl, rfl⟩
 wh := h.what
 w0 := id
 ou := id
 wt := hl
 bl := rfl
 cap := rfl
 le := h.le
 nb := h.nb
theorem SbW.trans {x y z : WireA} (h1 : SbW x y) (h2 : SbW y z) : SbW x z where
 e k hk := by
  obtain ⟨a1, a2, a3, a4⟩ := h1.e k hk
  obtain ⟨b1, b2, b3, b4⟩ := h2.e k hk
  exact ⟨fun e => a1 (b1 e), by rw [b2, a2], by rw [b3, a3], by rw [b4, a4]⟩
 wh := h2.wh
 w0 e := h2.w0 (h1.w0 e)
 ou e := h1.ou (h2.ou e)
 wt := h2.wt.trans h1.wt
 bl := by rw [h2.bl, h1.bl]
 cap := by rw [h2.cap, h1.cap]
 le k hk := by rw [← h1.cap]; exact h2.le k hk
 nb k hk hr := h2.nb k hk (by rw [(h1.e k hk).2.2.1]; exact hr)
def resetW (x : WireA) : WireA := { x with rs := true, e := fun k => if k < 2 then riseE true true { x.e k with b := [] } else x.e k }
theorem reset_e (x : WireA) {k : Nat} (hk : k < 2) : (resetW x).e k = riseE true true { x.e k with b := [] } := if_pos hk
theorem smW_reset (x : WireA) : SmW x (resetW x) := ⟨fun k hk => by rw [reset_e x hk]; exact ⟨rfl, rfl, rfl, rfl⟩, rfl, rfl, rfl, fun k hk => by rw [reset_e x hk]; exact Nat.zero_le _, fun k hk _ => by rw [reset_e x hk]; rfl⟩
theorem rs_reset (x : WireA) : ∀ j, RsE (x.e j) ((resetW x).e j) := fun j => by
 by_cases h : j < 2
 ·rw [reset_e x h]; exact rsE_rise true true { x.e j with b := [] }
 ·rw [show (resetW x).e j = x.e j from if_neg h]; exact RsE.refl _
def outW (w : WA) (n : Int) : Option WireA := if n < 0 then none else match w.ws[n.toNat]? with
 | none => none
 | some x => if (x.e 1).what = 2 then some x else none
theorem outW_some {w : WA} {n : Int} {x : WireA} (h : outW w n = some x) : 0 ≤ n ∧ w.ws[n.toNat]? = some x ∧ (x.e 1).what = 2 := by
 unfold outW at h
 split at h
 ·cases h
 ·split at h
  ·cases h
  ·rename_i y hy
   split at h
   ·rename_i h2; obtain rfl := Option.some.inj h; exact ⟨by omega, hy, h2⟩
   ·cases h
def putR (w : WA) (n : Int) (bs : List UInt8) : (Int × Int) × WA := match outW w n with
 | none => ((0, 116), w)
 | some x => if x.rs = true then ((0, 115), w) else if (x.e 1).shut = true ∨ (x.e 0).what = 3 then ((0, 114), w) else (((putN x 1 bs : Nat), 0), w.setW n.toNat (putW x 1 bs))
def takR (w : WA) (n m : Int) : (List UInt8 × Int) × WA := match outW w n with
 | none => (([], 116), w)
 | some x => if m < 0 then (([], 2), w) else if x.rs = true then (([], 115), w) else (((x.e 1).b.take m.toNat, 0), w.setW n.toNat (takeW x 1 m.toNat))
def pshutR (w : WA) (n : Int) : Int × WA := match outW w n with
 | none => (116, w)
 | some x => (0, w.setW n.toNat (shutW x 1))
def pcloseR (w : WA) (n : Int) : Int × WA := match outW w n with
 | none => (116, w)
 | some x => (0, w.setW n.toNat (closeW x 1))
def resetR (w : WA) (n : Int) : Int × WA := match outW w n with
 | none => (116, w)
 | some x => (0, if x.rs = true then w else w.setW n.toNat (resetW x))
def shutR (w : WA) (fd : Int) : Int × WA := match w.at fd with
 | none => (110, w)
 | some (m, k) => match w.ws[m]? with
  | none => (110, w)
  | some x => if (x.e k).rd = false ∨ (x.e k).wr = false then (111, w) else (0, w.setW m (shutW x k))
def closeAll : List WireA → List Nat → List WireA
 | ws, [] => ws
 | ws, n :: t => closeAll (match ws[n]? with | some y => ws.set n (closeW y 0) | none => ws) t
def closeF (w : WA) (fd : Int) : Int × WA := match w.at fd with
 | none => (110, w)
 | some (m, k) => match w.ws[m]? with
  | none => (110, w)
  | some x => (0, { w with ws := closeAll (w.ws.set m ((closeW x k).wts [])) x.wt })
def connW (n : Nat) : WireA := (halfW n 2).up 1 fun e => { e with what := 2 }
def connR (w : WA) (n m : Int) : (Int × Int) × WA := match (if n < 0 then none else w.ws[n.toNat]?) with
 | none => ((0, 116), w)
 | some x => if x.bl = 0 ∨ (x.e 0).what ≠ 1 then ((0, 116), w) else if m < 1 ∨ 65536 < m then ((0, 2), w) else if x.bl ≤ (x.wt.length : Int) then ((0, 113), w)
  else if 1000 ≤ w.ws.length then ((0, 112), w) else (((w.ws.length : Nat), 0), (w.addW (connW m.toNat)).setW n.toNat (waitW x w.ws.length))
def accR (w : WA) (fd : Int) : (Int × Int × Int) × WA := match w.at fd with
 | none => ((0, 0, 110), w)
 | some (m, _) => match w.ws[m]? with
  | none => ((0, 0, 110), w)
  | some x => if x.bl = 0 then ((0, 0, 111), w) else match x.wt with
   | [] => ((0, 0, 113), w)
   | a :: t => match frees w.at with
    | [] => ((0, 0, 112), w)
    | f :: _ => match (w.setW m (x.wts t)).ws[a]? with
     | none => ((0, 0, 112), w)
     | some y => (((f : Nat), (a : Nat), 0), (w.setW m (x.wts t)).setW a (giveW y f))
def passR (w : WA) (n : Int) : WA := { w with now := w.now + min n (18446744073709551615 - w.now) }
def pendN (w : WA) : Int := (w.ct.drop 1).sum
def ntcR (w : WA) : WA := match w.nt with
 | none => w
 | some (n, k) => match w.ws[n]? with
  | none => w
  | some x => if pendN w = 0 then w.setW n (takeW x k (x.e k).b.length) else if (x.e k).b = [] then w.setW n (putW x (1 - k) [1]) else w
def hanR (w : WA) (s : Int) (on : Bool) : Int × WA := if s < 1 ∨ 31 < s then (100, ntcR w) else (0, ntcR { w with hd := w.hd.set s.toNat on, ct := if on = true then w.ct else w.ct.set s.toNat 0 })
def raiR (w : WA) (s : Int) : Int × WA := if s < 1 ∨ 31 < s then (100, ntcR w) else (0, ntcR { w with ct := if w.hd.getD s.toNat false = true then w.ct.set s.toNat (w.ct.getD s.toNat 0 + 1) else w.ct })
def cntF : Nat → List Int → List (Int × Int)
 | _, [] => []
 | i, c :: t => if i = 0 ∨ c = 0 then cntF (i + 1) t else ((i : Int), c) :: cntF (i + 1) t
def sigR (w : WA) : List (Int × Int) × WA := (cntF 0 w.ct, ntcR { w with ct := match w.ct with | [] => [] | c :: t => c :: t.map fun _ => 0 })
def notR (w : WA) (a b : Int) : Int × WA := match w.at a, w.at b with
 | some (n, k), some (m, i) => match w.ws[n]? with
  | none => (110, w)
  | some x => if n ≠ m ∨ k = i ∨ (x.e 0).rd = false ∨ (x.e 1).rd = false then (111, w) else (0, ntcR { w with nt := some (n, k) })
 | _, _ => (110, w)
theorem read_stp {w : WA} (h : WOk w) (fd n : Int) : Stp 1 w (readR w fd n).2 := by
 unfold readR
 split
 ·exact Stp.same w
 ·split
  ·exact Stp.same w
  ·rename_i m k hk _ x hx
   split
   ·exact Stp.same w
   ·split
    ·exact Stp.same w
    ·split
     ·exact Stp.same w
     ·split
      ·rename_i hr _ _ _
       have hwf := h.wf x (List.mem_of_getElem? hx)
       exact ((smW_take hwf (h.at_lt hk).2.2.1 (by simpa using hr)).sb hwf).stp hx fun j _ => rs_take x k n.toNat j
      ·split
       ·exact Stp.same w
       ·exact Stp.same w
theorem write_stp {w : WA} (h : WOk w) (fd : Int) (bs : List UInt8) : Stp 1 w (writeR w fd bs).2 := by
 unfold writeR
 split
 ·exact Stp.same w
 ·split
  ·exact Stp.same w
  ·rename_i m k hk _ x hx
   split
   ·exact Stp.same w
   ·split
    ·exact Stp.same w
    ·split
     ·exact Stp.same w
     ·split
      ·exact Stp.same w
      ·split
       ·exact Stp.same w
       ·rename_i hr _ _ _ _
        have hwf := h.wf x (List.mem_of_getElem? hx)
        have hk2 := (h.at_lt hk).2.2.1
        exact ((smW_put hwf hk2 bs (by rw [← hwf.wr k hk2]; simpa using hr)).sb hwf).stp hx fun j _ => rs_put x k bs j
theorem put_stp {w : WA} (h : WOk w) (n : Int) (bs : List UInt8) : Stp 1 w (putR w n bs).2 := by
 unfold putR
 split
 ·exact Stp.same w
 ·rename_i x hx
  obtain ⟨_, hx, ho⟩ := outW_some hx
  have hwf := h.wf x (List.mem_of_getElem? hx)
  split
  ·exact Stp.same w
  ·split
   ·exact Stp.same w
   ·exact ((smW_put hwf (k := 1) (by omega) bs (hwf.ou ho).1).sb hwf).stp hx fun j _ => rs_put x 1 bs j
theorem tak_stp {w : WA} (h : WOk w) (n m : Int) : Stp 1 w (takR w n m).2 := by
 unfold takR
 split
 ·exact Stp.same w
 ·rename_i x hx
  obtain ⟨_, hx, ho⟩ := outW_some hx
  have hwf := h.wf x (List.mem_of_getElem? hx)
  split
  ·exact Stp.same w
  ·split
   ·exact Stp.same w
   ·exact ((smW_take hwf (k := 1) (by omega) (hwf.ou ho).2).sb hwf).stp hx fun j _ => rs_take x 1 m.toNat j
theorem pshut_stp {w : WA} (h : WOk w) (n : Int) : Stp 1 w (pshutR w n).2 := by
 unfold pshutR
 split
 ·exact Stp.same w
 ·rename_i x hx
  obtain ⟨_, hx, ho⟩ := outW_some hx
  have hwf := h.wf x (List.mem_of_getElem? hx)
  exact ((smW_shut hwf).sb hwf).stp hx fun j _ => rs_shut x 1 j
theorem pclose_stp {w : WA} (h : WOk w) (n : Int) : Stp 1 w (pcloseR w n).2 := by
 unfold pcloseR
 split
 ·exact Stp.same w
 ·rename_i x hx
  obtain ⟨_, hx, ho⟩ := outW_some hx
  have hwf := h.wf x (List.mem_of_getElem? hx)
  exact (sbW_close hwf (by omega)).stp hx fun j _ => rs_close x 1 j
theorem reset_stp {w : WA} (h : WOk w) (n : Int) : Stp 1 w (resetR w n).2 := by
 unfold resetR
 split
 ·exact Stp.same w
 ·rename_i x hx
  obtain ⟨_, hx, ho⟩ := outW_some hx
  have hwf := h.wf x (List.mem_of_getElem? hx)
  dsimp only
  split
  ·exact Stp.same w
  ·exact ((smW_reset x).sb hwf).stp hx fun j _ => rs_reset x j
theorem shut_stp {w : WA} (h : WOk w) (fd : Int) : Stp 1 w (shutR w fd).2 := by
 unfold shutR
 split
 ·exact Stp.same w
 ·split
  ·exact Stp.same w
  ·rename_i m k hk _ x hx
   have hwf := h.wf x (List.mem_of_getElem? hx)
   split
   ·exact Stp.same w
   ·exact ((smW_shut hwf).sb hwf).stp hx fun j _ => rs_shut x k j
theorem sbW_closeP {w : WA} (h : WOk w) {m k : Nat} {x : WireA} {fd : Int} (hn : w.at fd = some (m, k)) (hx : w.ws[m]? = some x) : SbW x ((closeW x k).wts []) := by
 have hwf := h.wf x (List.mem_of_getElem? hx)
 have hk := (h.at_lt hn).2.2.1
 exact (sbW_close hwf hk).trans (sbW_wts (close_wf hwf hk) (List.nil_sublist _))
theorem closeAll_ok : ∀ (l : List Nat) (w : WA), WOk w → l.Nodup → (∀ n ∈ l, ∃ y, w.ws[n]? = some y ∧ (y.e 0).what = 0) → (∀ n ∈ l, n ∉ w.ws.flatMap WireA.wt) →
  WOk { w with ws := closeAll w.ws l } ∧ WA.at { w with ws := closeAll w.ws l } = w.at ∧ Stp l.length w { w with ws := closeAll w.ws l }
 | [], w, h, _, _, _ => ⟨h, rfl, Stp.refl w⟩
 | n :: t, w, h, hd, h0, hw => by
  obtain ⟨y, hy, hy0⟩ := h0 n List.mem_cons_self
  have hwf := h.wf y (List.mem_of_getElem? hy)
  have hs := sbW_close hwf (k := 0) (by omega)
  have hfm : (w.setW n (closeW y 0)).ws.flatMap WireA.wt = w.ws.flatMap WireA.wt := flatMap_set hy rfl
  have hni : n ∉ (w.setW n (closeW y 0)).ws.flatMap WireA.wt := by rw [hfm]; exact hw n List.mem_cons_self
  have hok := h.setS hy hs (fun e => absurd e hni)
  have hat := h.setS_at hy hs (fun e => absurd e hni) (fun k hk e => by
   rw [(close_e y (by omega) hk).1]
   split
   ·rename_i e0; subst e0; rw [hy0] at e; cases e
   ·exact e)
  have ih := closeAll_ok t (w.setW n (closeW y 0)) hok (List.nodup_cons.1 hd).2 (fun a ha => by
   obtain ⟨z, hz, hz0⟩ := h0 a (List.mem_cons_of_mem _ ha)
   have : a ≠ n := fun e => (List.nodup_cons.1 hd).1 (e ▸ ha)
   exact ⟨z, by rw [setW_ne this]; exact hz, hz0⟩) (fun a ha => by rw [hfm]; exact hw a (List.mem_cons_of_mem _ ha))
  have e : closeAll w.ws (n :: t) = closeAll (w.setW n (closeW y 0)).ws t := by
   show closeAll (match w.ws[n]? with | some y => w.ws.set n (closeW y 0) | none => w.ws) t = _
   rw [hy]; rfl
  have e2 : ({ w with ws := closeAll w.ws (n :: t) } : WA) = { w.setW n (closeW y 0) with ws := closeAll (w.setW n (closeW y 0)).ws t } := by rw [e]; rfl
  rw [e2]; refine ⟨ih.1, ih.2.1.trans hat, ?_⟩; rw [List.length_cons, Nat.add_comm]; exact (hs.stp hy fun j _ => rs_close y 0 j).trans ih.2.2
theorem wt_le {w : WA} (h : WOk w) {m : Nat} {x : WireA} (hx : w.ws[m]? = some x) : x.wt.length ≤ 64 := by
 have := (h.wf x (List.mem_of_getElem? hx)).bl
 omega
theorem wt_gone {w : WA} (h : WOk w) {m : Nat} {x x' : WireA} (hx : w.ws[m]? = some x) (hx' : x'.wt = []) : ∀ n ∈ x.wt, n ∉ (w.setW m x').ws.flatMap WireA.wt := by
 have hp := flatMap_set_app (f := WireA.wt) (bs := x.wt) (l := (w.setW m x').ws) (n := m) (x := x') (x' := x) (setW_self hx) (by rw [hx']; rfl)
 have e : (w.setW m x').ws.set m x = w.ws := by
  show (w.ws.set m x').set m x = w.ws
  rw [List.set_set]
  obtain ⟨hl, e⟩ := List.getElem?_eq_some_iff.1 hx
  rw [← e, List.set_getElem_self]
 rw [e] at hp
 have hn := hp.nodup_iff.1 h.wn
 intro n h1 h2; exact (List.nodup_append.1 hn).2.2 n h1 n h2 rfl
theorem sub_flatMap {α β : Type} {f : α → List β} : ∀ {l : List α} {n : Nat} {x : α}, l[n]? = some x → (f x).Sublist (l.flatMap f)
 | [], _, _, h => by simp at h
 | a :: l, 0, x, h => by
  obtain rfl : a = x := by simpa using h
  exact List.sublist_append_left _ _
 | a :: l, n + 1, x, h => (sub_flatMap (f := f) (l := l) (n := n) (by simpa using h)).trans (List.sublist_append_right _ _)
theorem closeF_ok {w : WA} (h : WOk w) (fd : Int) : WOk (closeF w fd).2 ∧ (closeF w fd).2.at = setT w.at fd none ∧ Stp 65 w (closeF w fd).2 := by
 unfold closeF
 split
 ·rename_i hn
  refine ⟨h, ?_, Stp.same w⟩
  funext a
  show w.at a = if a = fd then none else w.at a
  split
  ·rename_i e; rw [e]; exact hn
  ·rfl
 ·rename_i m k hn
  obtain ⟨_, _, hk, _, x0, hx0, hxw, _⟩ := h.at_lt hn
  split
  ·rename_i hx; rw [hx] at hx0; cases hx0
  ·rename_i x hx
   rw [hx] at hx0; obtain rfl := Option.some.inj hx0
   have hwf := h.wf x (List.mem_of_getElem? hx)
   have hc := h.closeW hn hx
   have hs := sbW_closeP h hn hx
   have hgo := wt_gone h hx (x' := (closeW x k).wts []) rfl
   have hsub : ∀ n ∈ x.wt, n ∈ w.ws.flatMap WireA.wt := fun n hn => List.mem_flatMap.2 ⟨x, List.mem_of_getElem? hx, hn⟩
   have h00 : ∀ n ∈ x.wt, ∃ y, (w.setW m ((closeW x k).wts [])).ws[n]? = some y ∧ (y.e 0).what = 0 := fun n hn => by
    obtain ⟨y, hy, hy0⟩ := h.wm n (hsub n hn)
    by_cases e : n = m
    ·subst e
     rw [hx] at hy; obtain rfl := Option.some.inj hy; refine ⟨_, setW_self hx, ?_⟩
     show ((closeW x k).e 0).what = 0
     rw [(close_e x hk (by omega)).1, if_neg]
     ·exact hy0
     ·intro e; subst e; rw [hy0] at hxw; cases hxw
    ·exact ⟨y, by rw [setW_ne e]; exact hy, hy0⟩
   have hm0 : m ∈ (w.setW m ((closeW x k).wts [])).ws.flatMap WireA.wt → (((closeW x k).wts []).e 0).what = 0 := fun e => by
    have := (flatMap_set_sub (f := WireA.wt) (x' := (closeW x k).wts []) hx (List.nil_sublist _)).subset e
    obtain ⟨y, hy, hy0⟩ := h.wm m this
    rw [hx] at hy; obtain rfl := Option.some.inj hy
    show ((closeW x k).e 0).what = 0
    rw [(close_e x hk (by omega)).1, if_neg]
    ·exact hy0
    ·intro e; subst e; rw [hy0] at hxw; cases hxw
   have hok := h.setS hx hs hm0
   have hat : (w.setW m ((closeW x k).wts [])).at = setT w.at fd none := by
    rw [← hc.2]
    have h2 : (w.setW m (closeW x k)).ws[m]? = some (closeW x k) := setW_self hx
    have e : w.setW m ((closeW x k).wts []) = (w.setW m (closeW x k)).setW m ((closeW x k).wts []) := by
     show ({ w with ws := _ } : WA) = { w with ws := _ }
     congr 1
     show _ = (w.ws.set m _).set m _
     rw [List.set_set]
    rw [e]; refine hc.1.setS_at h2 (sbW_wts (close_wf hwf hk) (List.nil_sublist _)) (by rw [← e]; exact hm0) fun _ _ e => e
   have hx1 := (wt_le h hx)
   obtain ⟨a, b, c⟩ := closeAll_ok x.wt (w.setW m ((closeW x k).wts [])) hok ((sub_flatMap (f := WireA.wt) hx).nodup h.wn) h00 hgo
   refine ⟨a, b.trans hat, ?_⟩; exact ((hs.stp hx fun j _ => rs_close x k j).trans c).mono (by omega)
theorem conn_e (n k : Nat) (hk : k < 2) : ((connW n).e k).what = (if k = 1 then 2 else 0) ∧ ((connW n).e k).rd = true ∧ ((connW n).e k).wr = true ∧ ((connW n).e k).b = [] ∧ ((connW n).e k).inn = 0 ∧ ((connW n).e k).out = 0 := by
 rcases (show k = 0 ∨ k = 1 by omega) with rfl | rfl
 ·exact ⟨rfl, rfl, rfl, rfl, rfl, rfl⟩
 ·exact ⟨rfl, rfl, rfl, rfl, rfl, rfl⟩
theorem conn_new {n l : Nat} (h : n ≤ 65536) : NewW (connW n) l := by
 have e := conn_e n
 refine ⟨⟨fun k hk => by rw [(e k hk).2.2.1, (e (1 - k) (by omega)).2.1], fun k hk => by rw [(e k hk).2.2.2.1]; exact Nat.zero_le _, fun k hk _ => (e k hk).2.2.2.1, h, fun k hk => ?_, ⟨Int.le_refl _, by show (0 : Int) ≤ 64; decide, by show ((0 : Nat) : Int) ≤ 0; decide⟩, fun _ => ⟨rfl, rfl⟩⟩, fun k hk => ?_, rfl⟩
 ·rw [(e k hk).1]; split <;> decide
 ·rw [(e k hk).1]; split <;> decide
theorem opF_nil (w : WA) : OpF w [] := ⟨.nil, fun _ h => (by cases h), Nat.zero_le _⟩
theorem open_nil (x : WireA) : openW x [] 0 = x := by
 obtain ⟨e, c, r, bl, wt⟩ := x
 rfl
theorem WOk.addN {w : WA} (h : WOk w) {x : WireA} (hx : NewW x w.ws.length) (hl : w.ws.length < 1000) : WOk (w.addW x) ∧ (w.addW x).at = w.at := by
 have h1 := h.addW hx (opF_nil w) hl
 have h2 := addW_at hx (opF_nil w)
 rw [show ([] : List Nat).length = 0 from rfl, open_nil] at h1 h2; exact ⟨h1, h2⟩
theorem rs_wait (x : WireA) (m : Nat) : ∀ j, RsE (x.e j) ((waitW x m).e j) := fun j => by
 show RsE (x.e j) ((x.up 0 fun e => { e with inn := IntKind.u64.wrap (e.inn + 1) }).e j)
 exact rs_up x 0 (f := fun e => { e with inn := IntKind.u64.wrap (e.inn + 1) }) (fun e => ⟨.inr rfl, .inl rfl⟩) j
theorem conn_ok {w : WA} (h : WOk w) (n m : Int) : WOk (connR w n m).2 ∧ (connR w n m).2.at = w.at ∧ Stp 1 w (connR w n m).2 := by
 unfold connR
 split
 ·exact ⟨h, rfl, Stp.same w⟩
 ·rename_i x hx
  have hx : 0 ≤ n ∧ w.ws[n.toNat]? = some x := by
   split at hx
   ·cases hx
   ·exact ⟨by omega, hx⟩
  split
  ·exact ⟨h, rfl, Stp.same w⟩
  ·split
   ·exact ⟨h, rfl, Stp.same w⟩
   ·split
    ·exact ⟨h, rfl, Stp.same w⟩
    ·split
     ·exact ⟨h, rfl, Stp.same w⟩
     ·rename_i h1 h2 h3 h4
      have hlt := (List.getElem?_eq_some_iff.1 hx.2).1
      have ha := h.addN (conn_new (n := m.toNat) (l := w.ws.length) (by omega)) (by omega)
      have hx2 : (w.addW (connW m.toNat)).ws[n.toNat]? = some x := by show (w.ws ++ [_])[n.toNat]? = _; rw [List.getElem?_append_left hlt]; exact hx.2
      have hy : (w.addW (connW m.toNat)).ws[w.ws.length]? = some (connW m.toNat) := by show (w.ws ++ [_])[w.ws.length]? = _; simp
      have hnw : w.ws.length ∉ (w.addW (connW m.toNat)).ws.flatMap WireA.wt := fun e => by
       have e2 : (w.addW (connW m.toNat)).ws.flatMap WireA.wt = w.ws.flatMap WireA.wt := by
        show (w.ws ++ [_]).flatMap WireA.wt = _
        rw [List.flatMap_append, List.flatMap_cons, List.flatMap_nil, show (connW m.toNat).wt = [] from rfl, List.append_nil, List.append_nil]
       rw [e2] at e
       obtain ⟨z, hz, _⟩ := h.wm _ e
       have := (List.getElem?_eq_some_iff.1 hz).1
       omega
      have hw := ha.1.wait hx2 hy rfl (by omega) hnw (by omega)
      refine ⟨hw.1, hw.2.trans ha.2, ?_⟩
      have s1 := stp_add w (x := connW m.toNat) (fun k hk => ⟨(conn_e m.toNat k hk).2.2.2.2.1, (conn_e m.toNat k hk).2.2.2.2.2⟩) (fun e => by rw [(conn_e m.toNat 1 (by omega)).1] at e; exact absurd e (by decide))
      have s2 := stp_set (w := w.addW (connW m.toNat)) (x' := waitW x w.ws.length) hx2 (fun k _ => rs_wait x _ k) (fun e => by rw [(wait_e x _ 0).1]; exact e) (fun _ k hk e => ⟨by rw [← (wait_e x w.ws.length k).1]; exact e, (wait_e x _ k).2.1⟩) (fun e => by rw [(wait_e x w.ws.length 1).1] at e; exact e)
      exact (s1.trans s2).mono (by omega)
theorem acc_ok {w : WA} (h : WOk w) (fd : Int) : WOk (accR w fd).2 ∧ Stp 2 w (accR w fd).2 := by
 unfold accR
 split
 ·exact ⟨h, Stp.same w⟩
 ·rename_i m k hm
  split
  ·exact ⟨h, Stp.same w⟩
  ·rename_i x hx
   split
   ·exact ⟨h, Stp.same w⟩
   ·split
    ·exact ⟨h, Stp.same w⟩
    ·rename_i a t hwt
     split
     ·exact ⟨h, Stp.same w⟩
     ·rename_i f fs hfs
      split
      ·exact ⟨h, Stp.same w⟩
      ·rename_i y hy
       have hwf := h.wf x (List.mem_of_getElem? hx)
       have hs : SbW x (x.wts t) := sbW_wts hwf (by rw [hwt]; exact List.sublist_cons_self _ _)
       have hsub := flatMap_set_sub (f := WireA.wt) (x' := x.wts t) hx hs.wt
       have hm0 : m ∈ (w.setW m (x.wts t)).ws.flatMap WireA.wt → ((x.wts t).e 0).what = 0 := fun e => by
        obtain ⟨z, hz, hz0⟩ := h.wm m (hsub.subset e)
        rw [hx] at hz; obtain rfl := Option.some.inj hz; exact hz0
       have hok := h.setS hx hs hm0
       have hat := h.setS_at hx hs hm0 (fun _ _ e => e)
       have ham : a ∈ w.ws.flatMap WireA.wt := List.mem_flatMap.2 ⟨x, List.mem_of_getElem? hx, by rw [hwt]; exact List.mem_cons_self⟩
       have hy0 : (y.e 0).what = 0 := by
        obtain ⟨z, hz, hz0⟩ := h.wm a ham
        rcases setW_get hy with ⟨rfl, rfl⟩ | ⟨_, hy⟩
        ·rw [hx] at hz; obtain rfl := Option.some.inj hz
         exact hz0
        ·rw [hy] at hz; obtain rfl := Option.some.inj hz
         exact hz0
       have hamw : a ∉ (w.setW m (x.wts t)).ws.flatMap WireA.wt := by
        have hp2 := flatMap_set_app (f := WireA.wt) (bs := [a] ++ t) (l := (w.setW m (x.wts [])).ws) (n := m) (x := x.wts []) (x' := x) (setW_self hx) (by rw [hwt]; rfl)
        have hp3 := flatMap_set_app (f := WireA.wt) (bs := t) (l := (w.setW m (x.wts [])).ws) (n := m) (x := x.wts []) (x' := x.wts t) (setW_self hx) rfl
        have e1 : (w.setW m (x.wts [])).ws.set m x = w.ws := by
         show (w.ws.set m _).set m x = w.ws
         rw [List.set_set]
         obtain ⟨hl, e⟩ := List.getElem?_eq_some_iff.1 hx
         rw [← e, List.set_getElem_self]
        have e2 : (w.setW m (x.wts [])).ws.set m (x.wts t) = (w.setW m (x.wts t)).ws := by
         show (w.ws.set m _).set m _ = w.ws.set m _
         rw [List.set_set]
        rw [e1] at hp2; rw [e2] at hp3
        have hn := hp2.nodup_iff.1 h.wn
        intro hm
        have := hp3.mem_iff.1 hm
        rw [List.append_assoc] at hn; exact (List.nodup_cons.1 hn).1 this
       have hff := frees_mem.1 (show f ∈ frees w.at by rw [hfs]; exact List.mem_cons_self)
       have hg := hok.give (f := f) hy (by rw [hy0]; decide) hamw hff.1 (by rw [hat]; exact hff.2)
       refine ⟨hg.1, ?_⟩
       have s1 := hs.stp hx fun j _ => RsE.refl _
       have s2 := stp_set (w := w.setW m (x.wts t)) (x' := giveW y f) hy (fun k _ => rs_up y 0 (f := fun e => { e with what := 1, fd := (f : Int) }) (fun e => RsE.refl _) k) (fun e => absurd hy0 e) (fun e => absurd hy0 e) (fun e => by rw [give1] at e; exact e)
       exact s1.trans s2
theorem pass_ok {w : WA} (h : WOk w) (n : Int) (h0 : 0 ≤ n) : WOk (passR w n) ∧ Stp 0 w (passR w n) := by
 refine ⟨⟨h.uq, h.fd, h.len, h.hdl, h.ctl, h.wf, h.wn, h.wm, h.nt, h.ns⟩, fun K _ hl => ⟨⟨hl.ct, hl.rs, ?_, hl.g1⟩, gr_ws rfl⟩⟩
 have := hl.now
 show 0 ≤ w.now + min n (18446744073709551615 - w.now) ∧ w.now + min n (18446744073709551615 - w.now) ≤ 18446744073709551615
 omega
theorem ntc_ok {w : WA} (h : WOk w) : WOk (ntcR w) ∧ (ntcR w).at = w.at ∧ Stp 1 w (ntcR w) := by
 unfold ntcR
 split
 ·exact ⟨h, rfl, Stp.same w⟩
 ·rename_i n k hn
  obtain ⟨hk, x0, hx0, z0, z1⟩ := h.nt n k hn
  split
  ·exact ⟨h, rfl, Stp.same w⟩
  ·rename_i x hx
   rw [hx] at hx0; obtain rfl := Option.some.inj hx0
   have hwf := h.wf x (List.mem_of_getElem? hx)
   have hrd : ∀ j, j < 2 → (x.e j).rd = true := fun j hj => by
    rcases (show j = 0 ∨ j = 1 by omega) with rfl | rfl
    ·exact z0
    ·exact z1
   split
   ·have hs := smW_take hwf (n := (x.e k).b.length) hk (hrd k hk)
    exact ⟨h.setW hx hs, h.setW_at hx hs, (hs.sb hwf).stp hx fun j _ => rs_take x k _ j⟩
   ·split
    ·have hs := smW_put hwf (k := 1 - k) (by omega) [1] (hrd (1 - (1 - k)) (by omega))
     exact ⟨h.setW hx hs, h.setW_at hx hs, (hs.sb hwf).stp hx fun j _ => rs_put x (1 - k) [1] j⟩
    ·exact ⟨h, rfl, Stp.same w⟩
theorem ct_ok {w : WA} (h : WOk w) {hd : List Bool} {ct : List Int} (h1 : hd.length = 32) (h2 : ct.length = 32) : WOk { w with hd := hd, ct := ct } := ⟨h.uq, h.fd, h.len, h1, h2, h.wf, h.wn, h.wm, h.nt, h.ns⟩
theorem ct_stp (w : WA) {hd : List Bool} {ct : List Int} (h : ∀ K : Nat, (∀ c ∈ w.ct, 0 ≤ c ∧ c ≤ (K : Int)) → ∀ c ∈ ct, 0 ≤ c ∧ c ≤ ((K + 1 : Nat) : Int)) : Stp 1 w { w with hd := hd, ct := ct } := fun K _ hl => ⟨⟨h K hl.ct, (hl.mono (Nat.le_succ K)).rs, hl.now, hl.g1⟩, gr_ws rfl⟩
theorem han_ok {w : WA} (h : WOk w) (s : Int) (on : Bool) : WOk (hanR w s on).2 ∧ Stp 2 w (hanR w s on).2 := by
 unfold hanR
 split
 ·have := ntc_ok h
  exact ⟨this.1, this.2.2.mono (by omega)⟩
 ·have h1 : WOk { w with hd := w.hd.set s.toNat on, ct := if on = true then w.ct else w.ct.set s.toNat 0 } := ct_ok h (by rw [List.length_set]; exact h.hdl) (by split; exact h.ctl; rw [List.length_set]; exact h.ctl)
  have := ntc_ok h1
  refine ⟨this.1, (ct_stp w fun K hc c hm => ?_).trans this.2.2⟩
  split at hm
  ·have := hc c hm; omega
  ·rcases List.mem_or_eq_of_mem_set hm with hm | rfl
   ·have := hc c hm; omega
   ·omega
theorem rai_ok {w : WA} (h : WOk w) (s : Int) : WOk (raiR w s).2 ∧ Stp 2 w (raiR w s).2 := by
 unfold raiR
 split
 ·have := ntc_ok h
  exact ⟨this.1, this.2.2.mono (by omega)⟩
 ·rename_i hs
  have h1 : WOk { w with ct := if w.hd.getD s.toNat false = true then w.ct.set s.toNat (w.ct.getD s.toNat 0 + 1) else w.ct } := ct_ok h h.hdl (by split; rw [List.length_set]; exact h.ctl; exact h.ctl)
  have := ntc_ok h1
  refine ⟨this.1, (ct_stp w fun K hc c hm => ?_).trans this.2.2⟩
  split at hm
  ·rcases List.mem_or_eq_of_mem_set hm with hm | rfl
   ·have := hc c hm; omega
   ·have hl : s.toNat < w.ct.length := by rw [h.ctl]; omega
    rw [List.getD_eq_getElem?_getD, List.getElem?_eq_getElem hl]
    have := hc _ (List.getElem_mem hl)
    show 0 ≤ w.ct[s.toNat] + 1 ∧ w.ct[s.toNat] + 1 ≤ _
    omega
  ·have := hc c hm; omega
theorem sig_ok {w : WA} (h : WOk w) : WOk (sigR w).2 ∧ Stp 2 w (sigR w).2 := by
 unfold sigR; dsimp only
 have h1 : WOk { w with ct := match w.ct with | [] => [] | c :: t => c :: t.map fun _ => 0 } := ct_ok h h.hdl (by
  have := h.ctl
  cases hc : w.ct with
  | nil => rw [hc] at this; exact this
  | cons c t => rw [hc] at this; simpa using this)
 have := ntc_ok h1
 refine ⟨this.1, (ct_stp w fun K hc c hm => ?_).trans this.2.2⟩
 cases he : w.ct with
 | nil => rw [he] at hm; cases hm
 | cons a t =>
  rw [he] at hm
  rcases List.mem_cons.1 hm with rfl | hm
  ·have := hc c (by rw [he]; exact List.mem_cons_self); omega
  ·obtain ⟨_, _, rfl⟩ := List.mem_map.1 hm; omega
theorem not_ok {w : WA} (h : WOk w) (a b : Int) : WOk (notR w a b).2 ∧ Stp 1 w (notR w a b).2 := by
 unfold notR
 split
 ·rename_i n k m i ha hb
  split
  ·exact ⟨h, Stp.same w⟩
  ·rename_i x hx
   split
   ·exact ⟨h, Stp.same w⟩
   ·rename_i hc
    have hk := (h.at_lt ha).2.2.1
    have h1 : WOk { w with nt := some (n, k) } := ⟨h.uq, h.fd, h.len, h.hdl, h.ctl, h.wf, h.wn, h.wm, fun a b e => by
     obtain ⟨rfl, rfl⟩ := Prod.mk.inj (Option.some.inj e)
     exact ⟨hk, x, hx, by cases hz : (x.e 0).rd with | true => rfl | false => exact absurd (.inr (.inr (.inl hz))) hc, by cases hz : (x.e 1).rd with | true => rfl | false => exact absurd (.inr (.inr (.inr hz))) hc⟩, h.ns⟩
    have := ntc_ok h1
    refine ⟨this.1, ?_⟩
    have s0 : Stp 0 w { w with nt := some (n, k) } := fun K _ hl => ⟨⟨hl.ct, hl.rs, hl.now, hl.g1⟩, gr_ws rfl⟩
    exact (s0.trans this.2.2).mono (by omega)
 ·exact ⟨h, Stp.same w⟩
theorem wol_back {wb n b : Nat} {w : WA} {i : WoI} {x : WireA} {L : List SP} (hb : i.rs[n]? = some (b, x)) : ∀ h, sep (WireP b x :: WoR wb n w i L) h → sep (WoL wb w i L) h := by
 intro h s
 obtain ⟨hn, e⟩ := List.getElem?_eq_some_iff.1 hb
 have h1 : sep (WireP b x :: Wires (i.rs.take n) :: Wires (i.rs.drop (n + 1)) :: WoH wb w.at w i.rs.length i :: own 191 1 i.wa i.rs.length i.wc (pws i.rs) :: SigP i.sb w.hd w.ct :: L) h := Ent.sep enn h s
 have h2 := ws_in hn h1
 rw [← e, List.set_getElem_self] at h2; exact Ent.sep enn h h2
def outB (i : WoI) (w : WA) (n : Int) : Option Nat := if (outW w n).isSome then (i.rs[n.toNat]?).map Prod.fst else none
def outE (w : WA) (n : Int) : Int := if (outW w n).isSome then 0 else 116
theorem outW_nat {w : WA} {n : Nat} {x : WireA} (hx : w.ws[n]? = some x) : outW w (n : Int) = if (x.e 1).what = 2 then some x else none := by
 unfold outW; rw [if_neg (by omega), Int.toNat_natCast, hx]
theorem outW_off {w : WA} {n : Int} (h : n < 0 ∨ (w.ws.length : Int) ≤ n) : outW w n = none := by
 unfold outW
 split
 ·rfl
 ·rw [List.getElem?_eq_none (by omega)]
theorem outer1_ct (L : List SP) (wb : Nat) (w : WA) (i : WoI) (hw : WOk w) (hrs : i.rs.map Prod.snd = w.ws) (n b : Nat) (x : WireA) (hb : i.rs[n]? = some (b, x)) : Ct Tryz.prog 111 #[.pointer (some ⟨wb, 0, none⟩), .int .i64 (n : Int)] (WoL wb w i L) (fun _ : Unit => .tuple #[ptr (if (x.e 1).what = 2 then some b else none), .int .i64 (if (x.e 1).what = 2 then 0 else 116)]) (fun _ : Unit => WoL wb w i L) := by
 refine Ct.o2 Tryz.func111 ?_; intro E
 show Hd E 43 _ _ _ _
 have hn := (List.getElem?_eq_some_iff.1 hb).1
 refine sr fun _ hK1 => ?_
 refine yv y_as <| yv y_as <| fk [(0, _), (1, _)] hK1 ?_; refine Hd.seq fun _ hK2 => ?_
 refine Hd.block <| sr fun _ hK3 => ?_
 refine yv y_mv <| callE rfl fk113 (wnone_ct _ wb w.at w i.rs.length i) sq ?_; intro _; refine yv y_as <| fk [(0, _), (1, _), (6, _)] hK3 ?_; refine Hd.condF rfl ?_; refine Hd.seq fun _ hK4 => ?_
 refine Hd.wOut pkk hb ?_; refine Hd.wire .here 1 (by omega) (fun i2 hi => ?_); refine Hd.region <| yv y_mv <| yv (y_lss rfl rfl) ?_; refine yv y_mv ?_; apply Hd.org 8 12 20 [(0, _), (1, _)] rfl sbq
 ·intro _
  simp only [List.take]; refine n1 <| n1 <| n1 <| n1 <| n1 <| n1 <| n1 <| yv (y_pickT rfl rfl) ?_; refine Hd.nil ?_; exact Hd.mq
 ·intro hg3_12
  try simp only [hyZ] at hg3_12
  simp only [List.take]; refine y2 y_mv <| y2 y_mv <| y2 y_np <| y2 (y_f 288 208 Tryz.underlying210 sz208) ?_; refine y2 (y_load1 ag208 rfl (Rd.pt1 pkk (by exact woT_at (j := 0) (by omega) rfl))) ?_; refine y2 (y_len Tryz.underlying208 rfl) ?_; refine y2 (y_geq rfl rfl) ?_; refine yv (y_pickF rfl rfl) ?_; refine Hd.nil ?_; exact Hd.mq
 simp only [List.drop]; refine yv y_mv ?_; apply Hd.org (q := decide ((x.e 1).what ≠ 2)) 14 21 35 [(0, _), (1, _)] rfl sbq
 ·intro _
  simp only [List.take]; refine n1 <| n1 <| n1 <| n1 <| n1 <| n1 <| n1 <| n1 <| n1 <| n1 <| n1 <| n1 <| n1 <| yv (y_pickT rfl rfl) ?_; refine Hd.nil ?_; exact Hd.mq
 ·intro hg3_21
  try simp only [hyZ] at hg3_21
  simp only [List.take]; refine y2 y_mv <| y2 y_np <| y2 (y_f 288 208 Tryz.underlying210 sz208) ?_; refine y2 (y_load1 ag208 rfl (Rd.pt1 pkk (by exact woT_at (j := 0) (by omega) rfl))) ?_; refine y2 y_mv <| y2 (y_idxR Tryz.underlying208 sz191 rfl rfl (by omega) (by exact RdS.own pkk)) ?_; refine y2 (y_loadR1 ag191 rfl (by exact RdS.own pkk) (by exact pws_at hb)) ?_; refine y2 y_np <| y2 (y_f 0 197 Tryz.underlying199 sz197) ?_; refine y2 (y_idxA Tryz.underlying197 sz196 rfl rfl (by decide)) ?_; refine y2 (y_f 0 3 Tryz.underlying196 sz3) ?_; refine y2 (y_l1 ag3 rfl) ?_; refine y2 (y_neq rfl rfl) ?_; refine yv (y_pickF rfl rfl) ?_; refine Hd.nil ?_; exact Hd.mq
 simp only [List.drop]; refine yv y_as <| fk [(0, _), (1, _), (9, _)] hK4 ?_; refine Hd.cond rfl (fun hc1 => ?_) (fun hc1 => ?_)
 ·try simp only [hyZ] at hc1
  refine sr fun _ hK5 => ?_
  refine yv y_as <| yv y_as <| fk [(4, _), (5, _)] hK5 ?_; refine Hd.ret <| Hd.inBret <| Hd.thenRet ?_
  have h2 : ¬ ((x.e 1).what = 2) := by
   rcases hc1 with h | h
   ·omega
   ·exact h
  rw [if_neg h2, if_neg h2]; exact Hd.ret2 rfl () rfl rfl rfl (fun q s => wol_back hb q (wire_fold (k := 1) hi (by omega) q (Ent.sep enn q s)))
 ·try simp only [hyZ] at hc1
  refine Hd.skip <| Hd.inB <| Hd.toK hK2 ?_; refine sr fun _ hK6 => ?_
  refine yv y_mv <| yv y_np <| yv (y_f 288 208 Tryz.underlying210 sz208) ?_; refine yv (y_load1 ag208 rfl (Rd.pt1 pkk (by exact woT_at (j := 0) (by omega) rfl))) ?_; refine yv y_mv <| yv (y_idxR Tryz.underlying208 sz191 rfl rfl (by omega) (by exact RdS.own pkk)) ?_; refine yv (y_loadR1 ag191 rfl (by exact RdS.own pkk) (by exact pws_at hb)) ?_; refine yv y_as <| yv y_as <| fk [(4, _), (5, _)] hK6 ?_; refine Hd.ret ?_; rw [if_pos hc1.2, if_pos hc1.2]; exact Hd.ret2 rfl () rfl rfl rfl (fun q s => wol_back hb q (wire_fold (k := 1) hi (by omega) q (Ent.sep enn q s)))
theorem outer0_ct (L : List SP) (wb : Nat) (w : WA) (i : WoI) (n : Int) (hn : n < 0 ∨ (i.rs.length : Int) ≤ n) : Ct Tryz.prog 111 #[.pointer (some ⟨wb, 0, none⟩), .int .i64 n] (WoL wb w i L) (fun _ : Unit => .tuple #[ptr none, .int .i64 116]) (fun _ : Unit => WoL wb w i L) := by
 refine Ct.o2 Tryz.func111 ?_; intro E
 show Hd E 43 _ _ _ _
 refine sr fun _ hK1 => ?_
 refine yv y_as <| yv y_as <| fk [(0, _), (1, _)] hK1 ?_; refine Hd.seq fun _ hK2 => ?_
 refine Hd.block <| sr fun _ hK3 => ?_
 refine yv y_mv <| callE rfl fk113 (wnone_ct _ wb w.at w i.rs.length i) sq ?_; intro _; refine yv y_as <| fk [(0, _), (1, _), (6, _)] hK3 ?_; refine Hd.condF rfl ?_; refine sr fun _ hK4 => ?_
 refine yv y_mv <| yv (y_lss rfl rfl) ?_; refine yv y_mv <| Hd.part (gd := 12) rfl (fun hg3_12 => ?_) (fun hg3_12 => ?_)
 ·try simp only [hyZ] at hg3_12
  refine n1 <| n1 <| n1 <| n1 <| n1 <| n1 <| n1 <| yv (y_pickT rfl rfl) ?_; refine yv y_mv <| Hd.part (gd := 21) rfl (fun hg3_21 => ?_) (fun hg3_21 => ?_)
  ·try simp only [hyZ] at hg3_21
   refine n1 <| n1 <| n1 <| n1 <| n1 <| n1 <| n1 <| n1 <| n1 <| n1 <| n1 <| n1 <| n1 <| yv (y_pickT rfl rfl) ?_; refine yv y_as <| fk [(0, _), (1, _), (9, _)] hK4 ?_; refine Hd.cond rfl (fun hc1 => ?_) (fun hc1 => ?_)
   ·try simp only [hyZ] at hc1
    refine sr fun _ hK5 => ?_
    refine yv y_as <| yv y_as <| fk [(4, _), (5, _)] hK5 ?_; refine Hd.ret <| Hd.inBret <| Hd.thenRet ?_; exact Hd.ret2 rfl () rfl rfl (by rfl) sq
   ·try simp only [hyZ] at hc1
    exfalso; simp at hc1
  ·try simp only [hyZ] at hg3_21
   exfalso; simp at hg3_21; done
 ·try simp only [hyZ] at hg3_12
  refine y2 y_mv <| y2 y_mv <| y2 y_np <| y2 (y_f 288 208 Tryz.underlying210 sz208) ?_; refine y2 (y_load1 ag208 rfl (Rd.pt1 pkk (by exact woT_at (j := 0) (by omega) rfl))) ?_; refine y2 (y_len Tryz.underlying208 rfl) ?_; refine y2 (y_geq rfl rfl) ?_; refine yv (y_pickF rfl rfl) ?_; refine yv y_mv <| Hd.part (gd := 21) rfl (fun hg3_21 => ?_) (fun hg3_21 => ?_)
  ·try simp only [hyZ] at hg3_21
   refine n1 <| n1 <| n1 <| n1 <| n1 <| n1 <| n1 <| n1 <| n1 <| n1 <| n1 <| n1 <| n1 <| yv (y_pickT rfl rfl) ?_; refine yv y_as <| fk [(0, _), (1, _), (9, _)] hK4 ?_; refine Hd.cond rfl (fun hc1 => ?_) (fun hc1 => ?_)
   ·try simp only [hyZ] at hc1
    refine sr fun _ hK6 => ?_
    refine yv y_as <| yv y_as <| fk [(4, _), (5, _)] hK6 ?_; refine Hd.ret <| Hd.inBret <| Hd.thenRet ?_; exact Hd.ret2 rfl () rfl rfl (by rfl) sq
   ·try simp only [hyZ] at hc1
    exfalso; simp at hc1
  ·try simp only [hyZ] at hg3_21
   exfalso; omega
theorem outer_ct (L : List SP) (wb : Nat) (w : WA) (i : WoI) (hw : WOk w) (hrs : i.rs.map Prod.snd = w.ws) (n : Int) :
  Ct Tryz.prog 111 #[.pointer (some ⟨wb, 0, none⟩), .int .i64 n] (WoL wb w i L) (fun _ : Unit => .tuple #[ptr (outB i w n), .int .i64 (outE w n)]) (fun _ => WoL wb w i L) := by
 have hrl : i.rs.length = w.ws.length := by rw [← hrs, List.length_map]
 by_cases h : n < 0 ∨ (i.rs.length : Int) ≤ n
 ·have e := outW_off (w := w) (n := n) (by rw [← hrl]; exact h)
  rw [show outB i w n = none by unfold outB; rw [e]; rfl, show outE w n = 116 by unfold outE; rw [e]; rfl]; exact outer0_ct L wb w i n h
 ·obtain ⟨k, rfl⟩ : ∃ k : Nat, n = (k : Int) := ⟨n.toNat, by omega⟩
  have hk : k < w.ws.length := by omega
  obtain ⟨b, hb⟩ := rs_at hrs (List.getElem?_eq_getElem hk)
  have e := outW_nat (w := w) (n := k) (List.getElem?_eq_getElem hk)
  have := outer1_ct L wb w i hw hrs k b _ hb
  have e1 : outB i w (k : Int) = if (w.ws[k].e 1).what = 2 then some b else none := by
   unfold outB; rw [e, Int.toNat_natCast, hb]
   by_cases h2 : (w.ws[k].e 1).what = 2
   ·rw [if_pos h2, if_pos h2]; rfl
   ·rw [if_neg h2, if_neg h2]; rfl
  have e2 : outE w (k : Int) = if (w.ws[k].e 1).what = 2 then 0 else 116 := by
   unfold outE; rw [e]
   by_cases h2 : (w.ws[k].e 1).what = 2
   ·rw [if_pos h2, if_pos h2]; rfl
   ·rw [if_neg h2, if_neg h2]; rfl
  rw [e1, e2]; exact this
theorem outE_no {w : WA} {n : Int} (h : outE w n ≠ 0) : outW w n = none := by
 unfold outE at h
 cases e : outW w n with
 | none => rfl
 | some x => rw [e] at h; exact absurd rfl h
theorem outE_yes {w : WA} {i : WoI} (hrs : i.rs.map Prod.snd = w.ws) {n : Int} (h : outE w n = 0) : ∃ (m b : Nat) (x : WireA), n = (m : Int) ∧ outW w n = some x ∧ w.ws[m]? = some x ∧ i.rs[m]? = some (b, x) ∧ (x.e 1).what = 2 ∧ outB i w n = some b := by
 unfold outE at h
 cases e : outW w n with
 | none => rw [e] at h; exact absurd h (by decide)
 | some x =>
  obtain ⟨h0, hx, h2⟩ := outW_some e
  obtain ⟨b, hb⟩ := rs_at hrs hx
  refine ⟨n.toNat, b, x, by omega, rfl, hx, hb, h2, ?_⟩; unfold outB; rw [e, hb]; rfl
theorem wput_ct (L : List SP) (wb : Nat) (w : WA) (n : Int) (ad : Option Addr) (m c : Nat) (bs : List UInt8) (hm : bs.length = m) (hR : RdS L 1 ad m (bsl bs)) (hml : m ≤ 70368744177664) (hmc : m ≤ c) : Ct Tryz.prog 52 #[.pointer (some ⟨wb, 0, none⟩), .int .i64 n, .slice ad m c] (WorldP wb w :: L) (fun _ : Unit => .tuple #[.int .i64 (putR w n bs).1.1, .int .i64 (putR w n bs).1.2]) (fun _ : Unit => WorldP wb (putR w n bs).2 :: L) := by
 refine Ct.o3 Tryz.func52 ?_; intro E
 show Hd E 44 _ _ _ _
 refine Hd.world .here (fun i hw hrs => ?_); refine sr fun _ hK1 => ?_
 refine yv y_as <| yv y_as <| fk [(0, _), (1, _), (2, _)] hK1 ?_; refine sr fun _ hK2 => ?_
 refine yv y_mv <| yv y_mv <| callE rfl fk111 (outer_ct _ wb w i hw hrs n) sq ?_; intro _; refine yv y_mv <| yv (y_to (v' := ptr (outB i w n)) y_ex (by rfl)) ?_; refine yv (y_to (v' := .int .i64 (outE w n)) y_ex (by rfl)) ?_; refine yv y_as <| yv y_as <| fk [(2, _), (8, _), (9, _)] hK2 ?_; refine Hd.seq fun _ hK3 => ?_
 refine Hd.block <| sr fun _ hK4 => ?_
 refine yv y_mv <| yv (y_neq rfl rfl) ?_; refine yv y_as <| fk [(2, _), (8, _), (9, _), (16, _)] hK4 ?_; refine Hd.cond rfl (fun hc0 => ?_) (fun hc0 => ?_)
 ·try simp only [hyZ] at hc0
  refine sr fun _ hK5 => ?_
  refine yv y_mv <| yv y_as <| yv y_as <| fk [(6, _), (7, _)] hK5 ?_; refine Hd.ret <| Hd.inBret <| Hd.thenRet ?_
  have e := outE_no hc0
  rw [show putR w n bs = ((0, 116), w) by unfold putR; rw [e]]; exact Hd.ret2 rfl () rfl rfl (by unfold outE; rw [e]; rfl) (Ent.sep (.ex i (.pure ⟨hw, hrs⟩ enn)))
 ·try simp only [hyZ] at hc0
  obtain ⟨k, b, x, rfl, hox, hx, hb, h2, hob⟩ := outE_yes hrs hc0
  have hwf := hw.wf x (List.mem_of_getElem? hx)
  have hrd : putR w k bs = if x.rs = true then ((0, 115), w) else if (x.e 1).shut = true ∨ (x.e 0).what = 3 then ((0, 114), w) else ((((putN x 1 bs : Nat) : Int), (0 : Int)), w.setW k (putW x 1 bs)) := by
   unfold putR; rw [hox]; rfl
  rw [hob]; refine Hd.wOut pkk hb ?_; refine Hd.wire .here 1 (by omega) (fun i2 hi => ?_); refine sr fun _ hK6 => ?_
  refine yv y_mv <| yv y_np <| yv (y_f 14 4 Tryz.underlying199 sz4) ?_; refine yv (y_l1 ag4 rfl) ?_; refine yv y_as <| fk [(2, _), (8, _), (20, _)] hK6 ?_; refine Hd.cond rfl (fun hc1 => ?_) (fun hc1 => ?_)
  ·try simp only [hyZ] at hc1
   refine sr fun _ hK7 => ?_
   refine yv y_as <| yv y_as <| fk [(6, _), (7, _)] hK7 ?_; refine Hd.ret <| Hd.inBret <| Hd.thenRet ?_; rw [hrd, if_pos hc1]; exact Hd.ret2 rfl () rfl rfl rfl (fun q s => world_back (k := 1) hw hrs hb hi (by omega) q (Ent.sep enn q s))
  ·try simp only [hyZ] at hc1
   rw [if_neg (by rw [hc1]; simp)] at hrd; refine sr fun _ hK8 => ?_
   refine yv y_mv <| yv y_np <| yv (y_f 0 197 Tryz.underlying199 sz197) ?_; refine yv (y_idxA Tryz.underlying197 sz196 rfl rfl (by decide)) ?_; refine yv (y_f 4 4 Tryz.underlying196 sz4) ?_; refine yv (y_l1 ag4 rfl) ?_; refine yv y_mv ?_; apply Hd.org 8 32 40 [(2, _), (8, _)] rfl sbq
   ·intro _
    simp only [List.take]; refine n1 <| n1 <| n1 <| n1 <| n1 <| n1 <| n1 <| yv (y_pickT rfl rfl) ?_; refine Hd.nil ?_; exact Hd.mq
   ·intro hg6_32
    try simp only [hyZ] at hg6_32
    simp only [List.take]; refine y2 y_mv <| y2 y_np <| y2 (y_f 0 197 Tryz.underlying199 sz197) ?_; refine y2 (y_idxA Tryz.underlying197 sz196 rfl rfl (by decide)) ?_; refine y2 (y_f 0 3 Tryz.underlying196 sz3) ?_; refine y2 (y_l1 ag3 rfl) ?_; refine y2 (y_eql rfl rfl) ?_; refine yv (y_pickF rfl rfl) ?_; refine Hd.nil ?_; exact Hd.mq
   simp only [List.drop]; refine yv y_as <| fk [(2, _), (8, _), (25, _)] hK8 ?_; refine Hd.cond rfl (fun hc2 => ?_) (fun hc2 => ?_)
   ·try simp only [hyZ] at hc2
    refine sr fun _ hK9 => ?_
    refine yv y_as <| yv y_as <| fk [(6, _), (7, _)] hK9 ?_; refine Hd.ret <| Hd.inBret <| Hd.thenRet ?_; rw [hrd, if_pos hc2]; exact Hd.ret2 rfl () rfl rfl rfl (fun q s => world_back (k := 1) hw hrs hb hi (by omega) q (Ent.sep enn q s))
   ·try simp only [hyZ] at hc2
    rw [if_neg (by rw [hc2.1]; simpa using hc2.2)] at hrd; refine Hd.skip <| Hd.inB <| Hd.toK hK3 ?_; refine Hd.seq fun _ hK10 => ?_
    refine Hd.heap (WireP b x :: WoR wb k w i L) (fun q s => wire_fold (k := 1) hi (by omega) q (Ent.sep enn q s)) ?_; refine Hd.region <| yv y_mv <| yv y_mv <| callE rfl fk112 (put_ct _ b x 1 (by omega) (hwf.ou h2).1 ad m c bs hm ?hD hml hmc) sq ?_
    case hD => exact RdS.mono hR sq
    intro _; refine yv y_as <| yv y_as <| fk [(6, _), (7, _)] hK10 ?_; refine Hd.ret ?_; rw [hrd]; exact Hd.ret2 rfl () rfl rfl rfl (fun q s => world_fold' hw hrs hb (smW_put hwf (by omega) bs (hwf.ou h2).1) q (Ent.sep enn q s))
theorem wtake_ct (L : List SP) (wb : Nat) (w : WA) (n m : Int) : Ct Tryz.prog 125 #[.pointer (some ⟨wb, 0, none⟩), .int .i64 n, .int .i64 m] (WorldP wb w :: L) (fun q_ : Option Addr × Nat => .tuple #[.slice q_.1 (takR w n m).1.1.length q_.2, .int .i64 (takR w n m).1.2]) (fun q_ : Option Addr × Nat => own 5 1 q_.1 (takR w n m).1.1.length q_.2 (bsl (takR w n m).1.1) :: WorldP wb (takR w n m).2 :: L) := by
 refine Ct.o3 Tryz.func125 ?_; intro E
 show Hd E 31 _ _ _ _
 refine Hd.world .here (fun i hw hrs => ?_); refine sr fun _ hK1 => ?_
 refine yv y_as <| yv y_as <| fk [(0, _), (1, _), (2, _)] hK1 ?_; refine sr fun _ hK2 => ?_
 refine yv y_mv <| yv y_mv <| callE rfl fk111 (outer_ct _ wb w i hw hrs n) sq ?_; intro _; refine yv y_mv <| yv (y_to (v' := ptr (outB i w n)) y_ex (by rfl)) ?_; refine yv (y_to (v' := .int .i64 (outE w n)) y_ex (by rfl)) ?_; refine yv y_as <| yv y_as <| fk [(2, _), (8, _), (9, _)] hK2 ?_; refine Hd.seq fun _ hK3 => ?_
 refine Hd.block <| sr fun _ hK4 => ?_
 refine yv y_mv <| yv (y_neq rfl rfl) ?_; refine yv y_as <| fk [(2, _), (8, _), (9, _), (16, _)] hK4 ?_; refine Hd.cond rfl (fun hc0 => ?_) (fun hc0 => ?_)
 ·try simp only [hyZ] at hc0
  refine sr fun _ hK5 => ?_
  refine yv y_mv <| yv y_as <| yv y_as <| fk [(6, _), (7, _)] hK5 ?_; refine Hd.ret <| Hd.inBret <| Hd.thenRet ?_
  have e := outE_no hc0
  rw [show takR w n m = (([], 116), w) by unfold takR; rw [e]]; exact Hd.ret2 rfl (none, 0) rfl rfl (by unfold outE; rw [e]; rfl) (Ent.sep (.ownNil (.ex i (.pure ⟨hw, hrs⟩ enn))))
 ·try simp only [hyZ] at hc0
  obtain ⟨k, b, x, rfl, hox, hx, hb, h2, hob⟩ := outE_yes hrs hc0
  have hwf := hw.wf x (List.mem_of_getElem? hx)
  have hrd : takR w k m = if m < 0 then (([], 2), w) else if x.rs = true then (([], 115), w) else (((x.e 1).b.take m.toNat, 0), w.setW k (takeW x 1 m.toNat)) := by
   unfold takR; rw [hox]; rfl
  rw [hob]; refine Hd.wOut pkk hb ?_; refine Hd.wire .here 1 (by omega) (fun i2 hi => ?_); refine sr fun _ hK6 => ?_
  refine yv y_mv <| yv (y_lss rfl rfl) ?_; refine yv y_as <| fk [(2, _), (8, _), (20, _)] hK6 ?_; refine Hd.cond rfl (fun hc1 => ?_) (fun hc1 => ?_)
  ·try simp only [hyZ] at hc1
   refine sr fun _ hK7 => ?_
   refine yv y_as <| yv y_as <| fk [(6, _), (7, _)] hK7 ?_; refine Hd.ret <| Hd.inBret <| Hd.thenRet ?_; rw [hrd, if_pos hc1]; exact Hd.ret2 rfl (none, 0) rfl rfl rfl (Ent.sep (.ownNil .same) |> fun h q s => h q (world_back (k := 1) hw hrs hb hi (by omega) q (Ent.sep enn q s)))
  ·try simp only [hyZ] at hc1
   rw [if_neg (by omega)] at hrd; refine sr fun _ hK8 => ?_
   refine yv y_mv <| yv y_np <| yv (y_f 14 4 Tryz.underlying199 sz4) ?_; refine yv (y_l1 ag4 rfl) ?_; refine yv y_as <| fk [(2, _), (8, _), (23, _)] hK8 ?_; refine Hd.cond rfl (fun hc2 => ?_) (fun hc2 => ?_)
   ·try simp only [hyZ] at hc2
    refine sr fun _ hK9 => ?_
    refine yv y_as <| yv y_as <| fk [(6, _), (7, _)] hK9 ?_; refine Hd.ret <| Hd.inBret <| Hd.thenRet ?_; rw [hrd, if_pos hc2]; exact Hd.ret2 rfl (none, 0) rfl rfl rfl (Ent.sep (.ownNil .same) |> fun h q s => h q (world_back (k := 1) hw hrs hb hi (by omega) q (Ent.sep enn q s)))
   ·try simp only [hyZ] at hc2
    rw [if_neg (by rw [hc2]; simp)] at hrd; refine Hd.skip <| Hd.inB <| Hd.toK hK3 ?_; refine Hd.seq fun _ hK10 => ?_
    refine Hd.heap (WireP b x :: WoR wb k w i L) (fun q s => wire_fold (k := 1) hi (by omega) q (Ent.sep enn q s)) ?_; refine Hd.region <| yv y_mv <| yv y_mv <| callE rfl fk117 (take_ct _ b x 1 (by omega) (hwf.ou h2).2 m) sq ?_; rintro ⟨ad, c⟩; dsimp only; refine yv y_as <| yv y_as <| fk [(6, _), (7, _)] hK10 ?_; refine Hd.ret ?_; rw [hrd]; exact Hd.ret2 rfl (ad, c) rfl rfl rfl (fun q s => Ent.sep (show Ent (WorldP wb (w.setW k (takeW x 1 m.toNat)) :: own 5 1 ad ((x.e 1).b.take m.toNat).length c (bsl ((x.e 1).b.take m.toNat)) :: L) (own 5 1 ad ((x.e 1).b.take m.toNat).length c (bsl ((x.e 1).b.take m.toNat)) :: WorldP wb (w.setW k (takeW x 1 m.toNat)) :: L) from enn) q (world_fold' hw hrs hb (smW_take hwf (by omega) (hwf.ou h2).2) q (Ent.sep enn q s)))
theorem pshut_ct (L : List SP) (wb : Nat) (w : WA) (n : Int) : Ct Tryz.prog 127 #[.pointer (some ⟨wb, 0, none⟩), .int .i64 n] (WorldP wb w :: L) (fun _ : Unit => .int .i64 (pshutR w n).1) (fun _ : Unit => WorldP wb (pshutR w n).2 :: L) := by
 refine Ct.o2 Tryz.func127 ?_; intro E
 show Hd E 18 _ _ _ _
 refine Hd.world .here (fun i hw hrs => ?_); refine sr fun _ hK1 => ?_
 refine yv y_as <| fk [(0, _), (1, _)] hK1 ?_; refine sr fun _ hK2 => ?_
 refine yv y_mv <| yv y_mv <| callE rfl fk111 (outer_ct _ wb w i hw hrs n) sq ?_; intro _; refine yv y_mv <| yv (y_to (v' := ptr (outB i w n)) y_ex (by rfl)) ?_; refine yv (y_to (v' := .int .i64 (outE w n)) y_ex (by rfl)) ?_; refine yv y_as <| yv y_as <| fk [(5, _), (6, _)] hK2 ?_; refine Hd.seq fun _ hK3 => ?_
 refine sr fun _ hK4 => ?_
 refine yv y_mv <| yv (y_eql rfl rfl) ?_; refine fk [(5, _), (6, _), (14, _)] hK4 ?_; refine Hd.cond rfl (fun hc0 => ?_) (fun hc0 => ?_)
 ·try simp only [hyZ] at hc0
  obtain ⟨k, b, x, rfl, hox, hx, hb, h2, hob⟩ := outE_yes hrs hc0
  have hwf := hw.wf x (List.mem_of_getElem? hx)
  have hrd : pshutR w k = (0, w.setW k (shutW x 1)) := by unfold pshutR; rw [hox]; rfl
  rw [hob]; refine Hd.wOut pkk hb ?_; refine Hd.region <| yv y_mv <| callE rfl fk120 (shut_ct _ b x 1 (by omega)) sq ?_; intro _; refine fk [(6, _)] hK3 ?_; refine sr fun _ hK5 => ?_
  refine yv y_mv <| yv y_as <| fk [(4, _)] hK5 ?_; refine Hd.ret ?_; rw [hrd]; exact Hd.ret1 rfl () (by rw [hc0]; rfl) (fun q s => world_fold' hw hrs hb (smW_shut hwf) q (Ent.sep enn q s))
 ·try simp only [hyZ] at hc0
  refine Hd.skip <| Hd.toK hK3 ?_; refine sr fun _ hK6 => ?_
  refine yv y_mv <| yv y_as <| fk [(4, _)] hK6 ?_; refine Hd.ret ?_
  have e := outE_no hc0
  rw [show pshutR w n = (116, w) by unfold pshutR; rw [e]]; exact Hd.ret1 rfl () (by unfold outE; rw [e]; rfl) (Ent.sep (.ex i (.pure ⟨hw, hrs⟩ enn)))
theorem out_free {w : WA} (h : WOk w) {n : Nat} {x : WireA} (hx : w.ws[n]? = some x) (h2 : (x.e 1).what = 2) : ∀ k, k < 2 → (x.e k).what = 1 → ((closeW x 1).e k).what = 1 := fun k hk e => by
 rw [(close_e x (by omega) hk).1]
 split
 ·rename_i e1; subst e1; rw [h2] at e; cases e
 ·exact e
theorem pclose_ok {w : WA} (h : WOk w) {n : Nat} {x : WireA} (hx : w.ws[n]? = some x) (h2 : (x.e 1).what = 2) : WOk (w.setW n (closeW x 1)) ∧ (w.setW n (closeW x 1)).at = w.at := by
 have hs := sbW_close (h.wf x (List.mem_of_getElem? hx)) (k := 1) (by omega)
 have h0 : n ∈ (w.setW n (closeW x 1)).ws.flatMap WireA.wt → ((closeW x 1).e 0).what = 0 := fun e => by
  have := (flatMap_set_sub (f := WireA.wt) (x' := closeW x 1) hx hs.wt).subset e
  obtain ⟨z, hz, hz0⟩ := h.wm n this
  rw [hx] at hz; obtain rfl := Option.some.inj hz; rw [(close_e x (by omega) (by omega)).1, if_neg (by omega)]; exact hz0
 exact ⟨h.setS hx hs h0, h.setS_at hx hs h0 (out_free h hx h2)⟩
theorem pclose_ct (L : List SP) (wb : Nat) (w : WA) (n : Int) : Ct Tryz.prog 129 #[.pointer (some ⟨wb, 0, none⟩), .int .i64 n] (WorldP wb w :: L) (fun _ : Unit => .int .i64 (pcloseR w n).1) (fun _ : Unit => WorldP wb (pcloseR w n).2 :: L) := by
 refine Ct.o2 Tryz.func129 ?_; intro E
 show Hd E 18 _ _ _ _
 refine Hd.world .here (fun i hw hrs => ?_); refine sr fun _ hK1 => ?_
 refine yv y_as <| fk [(0, _), (1, _)] hK1 ?_; refine sr fun _ hK2 => ?_
 refine yv y_mv <| yv y_mv <| callE rfl fk111 (outer_ct _ wb w i hw hrs n) sq ?_; intro _; refine yv y_mv <| yv (y_to (v' := ptr (outB i w n)) y_ex (by rfl)) ?_; refine yv (y_to (v' := .int .i64 (outE w n)) y_ex (by rfl)) ?_; refine yv y_as <| yv y_as <| fk [(5, _), (6, _)] hK2 ?_; refine Hd.seq fun _ hK3 => ?_
 refine sr fun _ hK4 => ?_
 refine yv y_mv <| yv (y_eql rfl rfl) ?_; refine fk [(5, _), (6, _), (14, _)] hK4 ?_; refine Hd.cond rfl (fun hc0 => ?_) (fun hc0 => ?_)
 ·try simp only [hyZ] at hc0
  obtain ⟨k, b, x, rfl, hox, hx, hb, h2, hob⟩ := outE_yes hrs hc0
  have hpk := pclose_ok hw hx h2
  have hrd : pcloseR w k = (0, w.setW k (closeW x 1)) := by unfold pcloseR; rw [hox]; rfl
  rw [hob]; refine Hd.wOut pkk hb ?_; refine Hd.region <| yv y_mv <| callE rfl fk122 (close_ct _ b x 1 (by omega)) sq ?_; intro _; refine fk [(6, _)] hK3 ?_; refine sr fun _ hK5 => ?_
  refine yv y_mv <| yv y_as <| fk [(4, _)] hK5 ?_; refine Hd.ret ?_; rw [hrd]; exact Hd.ret1 rfl () (by rw [hc0]; rfl) (fun q s => world_put hrs hb hpk.1 hpk.2 q (Ent.sep enn q s))
 ·try simp only [hyZ] at hc0
  refine Hd.skip <| Hd.toK hK3 ?_; refine sr fun _ hK6 => ?_
  refine yv y_mv <| yv y_as <| fk [(4, _)] hK6 ?_; refine Hd.ret ?_
  have e := outE_no hc0
  rw [show pcloseR w n = (116, w) by unfold pcloseR; rw [e]]; exact Hd.ret1 rfl () (by unfold outE; rw [e]; rfl) (Ent.sep (.ex i (.pure ⟨hw, hrs⟩ enn)))
theorem wshut_ct (L : List SP) (wb : Nat) (w : WA) (fd : Int) : Ct Tryz.prog 65 #[.pointer (some ⟨wb, 0, none⟩), .int .i64 fd] (WorldP wb w :: L) (fun _ : Unit => .int .i64 (shutR w fd).1) (fun _ : Unit => WorldP wb (shutR w fd).2 :: L) := by
 refine Ct.o2 Tryz.func65 ?_; intro E
 show Hd E 44 _ _ _ _
 refine Hd.world .here (fun i hw hrs => ?_); refine sr fun _ hK1 => ?_
 refine yv y_as <| fk [(0, _), (1, _)] hK1 ?_; refine sr fun _ hK2 => ?_
 refine yv y_mv <| yv y_mv <| callE rfl fk101 (find_ct _ wb w i hw hrs fd) sq ?_; intro _; refine yv y_mv <| yv y_ex <| yv y_ex <| yv y_ex <| Hd.alloc zr190 (fun b5 => ?_); refine Hd.storeA (us := plc (w.at fd)) (by rw [plc_len]; exact sz190) rfl rfl rfl (plc_one _) pkk (by rw [plc_len]; rfl) ?_; refine yv (y_to (v' := ptr (wfb i (w.at fd))) y_as (by rfl)) ?_; refine yv (y_to (v' := .int .i64 (fdErr (w.at fd))) y_as (by rfl)) ?_; refine fk [(5, _), (6, _), (7, _)] hK2 ?_; refine Hd.seq fun _ hK3 => ?_
 refine Hd.block <| sr fun _ hK4 => ?_
 refine yv y_mv <| yv (y_neq rfl rfl) ?_; refine yv y_as <| fk [(5, _), (6, _), (7, _), (15, _)] hK4 ?_; refine Hd.cond rfl (fun hc0 => ?_) (fun hc0 => ?_)
 ·try simp only [hyZ] at hc0
  refine sr fun _ hK5 => ?_
  refine yv y_mv <| yv y_as <| fk [(4, _)] hK5 ?_; refine Hd.ret <| Hd.inBret <| Hd.thenRet ?_
  have hno : w.at fd = none := by
   cases h : w.at fd with
   | none => rfl
   | some p => rw [h] at hc0; exact absurd rfl hc0
  rw [show shutR w fd = (110, w) by unfold shutR; rw [hno]]; exact Hd.ret1 rfl () (by rw [hno]; rfl) (Ent.sep (.ex i (.pure ⟨hw, hrs⟩ enn)))
 ·try simp only [hyZ] at hc0
  obtain ⟨m0, k, hnk⟩ : ∃ m k, w.at fd = some (m, k) := by
   cases h : w.at fd with
   | none => rw [h] at hc0; exact absurd hc0 (by decide)
   | some p => exact ⟨p.1, p.2, rfl⟩
  obtain ⟨hf0, hf1, hk, hn, x, hx, _, _⟩ := hw.at_lt hnk
  obtain ⟨b, hb⟩ := rs_at hrs hx
  have hwf := hw.wf x (List.mem_of_getElem? hx)
  have hrd : shutR w fd = if (x.e k).rd = false ∨ (x.e k).wr = false then (111, w) else (0, w.setW m0 (shutW x k)) := by unfold shutR; rw [hnk]; dsimp only; rw [hx]
  rw [hnk, wfb_eq hb]; refine Hd.wOut pkk hb ?_; refine Hd.wire .here k hk (fun i2 hi => ?_); refine Hd.seq fun _ hK6 => ?_
  refine Hd.quiet mixed kq ?_; refine Hq.yv y_mv ?_; refine Hq.yv (y_f 2 3 Tryz.underlying190 sz3) ?_; refine Hq.yv (y_l1 ag3 rfl) ?_; refine Hq.yv y_np ?_; refine Hq.yv (y_f 0 197 Tryz.underlying199 sz197) ?_; refine Hq.yv (y_idxA Tryz.underlying197 sz196 rfl rfl (by omega)) ?_; refine Hq.yv (y_f 2 194 Tryz.underlying196 sz194) ?_; refine Hq.yv (y_load1 ag194 rfl (Rd.pt1 pkk (by exact enc_at 2 hk (by omega) (by omega) rfl))) ?_; refine Hq.yv (y_to (v' := .bool (!(x.e k).rd)) (y_eql_pointer Tryz.underlying194 rfl rfl) (by (show Value.bool (Option.isNone _) = _; rw [ptr_no, hi.rd k hk]))) ?_; refine Hq.yv y_mv ?_; apply Hq.org 10 29 39 [(5, _), (6, _)] rfl ⟨rfl, rfl, trivial⟩
  ·intro hg4_29
   try simp only [hyZ] at hg4_29
   simp only [List.take]; refine Hq.ng rfl rfl rfl ?_; refine Hq.ng rfl rfl rfl ?_; refine Hq.ng rfl rfl rfl ?_; refine Hq.ng rfl rfl rfl ?_; refine Hq.ng rfl rfl rfl ?_; refine Hq.ng rfl rfl rfl ?_; refine Hq.ng rfl rfl rfl ?_; refine Hq.ng rfl rfl rfl ?_; refine Hq.ng rfl rfl rfl ?_; refine Hq.yv (y_pickT rfl rfl) ?_; exact Hq.mend sbq
  ·intro hg4_29
   try simp only [hyZ] at hg4_29
   simp only [List.take]; refine Hq.yg rfl rfl y_mv ?_; refine Hq.yg rfl rfl (y_f 2 3 Tryz.underlying190 sz3) ?_; refine Hq.yg rfl rfl (y_l1 ag3 rfl) ?_; refine Hq.yg rfl rfl y_np ?_; refine Hq.yg rfl rfl (y_f 0 197 Tryz.underlying199 sz197) ?_; refine Hq.yg rfl rfl (y_idxA Tryz.underlying197 sz196 rfl rfl (by omega)) ?_; refine Hq.yg rfl rfl (y_f 3 4 Tryz.underlying196 sz4) ?_; refine Hq.yg rfl rfl (y_load1 ag4 rfl (Rd.pt1 pkk (by exact enc_at 3 hk (by omega) (by omega) rfl))) ?_; refine Hq.yg rfl rfl (y_not rfl) ?_; refine Hq.yv (y_pickF rfl rfl) ?_; exact Hq.mend sbq
  simp only [List.drop]; refine Hq.yv y_as ?_; refine Hq.nil ?_; refine sk [(5, _), (6, _), (19, _)] hK6 ?_; refine Hd.cond rfl (fun hc1 => ?_) (fun hc1 => ?_)
  ·try simp only [hyZ] at hc1
   refine sr fun _ hK7 => ?_
   refine yv y_as <| fk [(4, _)] hK7 ?_; refine Hd.ret <| Hd.inBret <| Hd.thenRet ?_; rw [hrd, if_pos hc1]; exact Hd.ret1 rfl () rfl (fun q s => world_back hw hrs hb hi hk q (Ent.sep enn q s))
  ·try simp only [hyZ] at hc1
   rw [if_neg (by rw [hc1.1, hc1.2]; simp)] at hrd; refine Hd.skip <| Hd.inB <| Hd.toK hK3 ?_; refine Hd.seq fun _ hK8 => ?_
   refine Hd.heap (WireP b x :: pt b5 (plc (some (m0, k))) 190 :: WoR wb m0 w i L) (fun q s => wire_fold hi hk q (Ent.sep enn q s)) ?_; refine Hd.region <| yv y_mv <| yv (y_f 2 3 Tryz.underlying190 sz3) ?_; refine yv (y_l1 ag3 rfl) ?_; refine callE rfl fk120 (shut_ct _ b x k hk) sq ?_; intro _; refine fk [] hK8 ?_; refine sr fun _ hK9 => ?_
   refine yv y_as <| fk [(4, _)] hK9 ?_; refine Hd.ret ?_; rw [hrd]; exact Hd.ret1 rfl () rfl (fun q s => world_fold' hw hrs hb (smW_shut hwf) q (Ent.sep enn q s))
def mkN (w : WA) (k : Nat) : Int := if mkE w k = 0 then (w.ws.length : Int) else 0
theorem mkW_len {w : WA} {k : Nat} {x : WireA} (h : mkE w k = 0) : (mkW w k x).ws.length = w.ws.length + 1 := by
 unfold mkE at h; unfold mkW
 by_cases h1 : mkOk w k = true
 ·rw [if_pos h1]
  show (w.ws ++ [_]).length = _
  rw [List.length_append]; rfl
 ·rw [if_neg h1] at h; exact absurd h (by decide)
theorem outer_mk (L : List SP) (wb : Nat) (w : WA) (n : Nat) (h1 : 1 ≤ n) (h2 : n ≤ 65536) : Ct Tryz.prog 50 #[.pointer (some ⟨wb, 0, none⟩), .int .i64 (n : Int)] (WorldP wb w :: L) (fun _ : Unit => .tuple #[.int .i64 (mkI w 1 0), .int .i64 (mkN w 1), .int .i64 (mkE w 1)]) (fun _ : Unit => WorldP wb (mkW w 1 (connW n)) :: L) := by
 refine Ct.o2 Tryz.func50 ?_; intro E
 show Hd E 35 _ _ _ _
 refine sr fun _ hK1 => ?_
 refine yv y_as <| yv y_as <| yv y_as <| fk [(0, _), (1, _)] hK1 ?_; refine sr fun _ hK2 => ?_
 refine yv y_mv <| callE rfl fk109 (both_ct _ n h1 h2) sq ?_; intro b; refine yv y_as <| fk [(0, _), (1, _), (7, _)] hK2 ?_; refine Hd.seq fun _ hK3 => ?_
 refine Hd.wire pkk 1 (by omega) (fun i hi => ?_); refine Hd.region <| yv y_mv <| yv y_np <| yv (y_f 0 197 Tryz.underlying199 sz197) ?_; refine yv (y_idxA Tryz.underlying197 sz196 rfl rfl (by decide)) ?_; refine yv (y_f 0 3 Tryz.underlying196 sz3) ?_; refine Hd.store1 sz3 rfl rfl rfl pkk (by simp; done) ?_
 try simp only [hyS]
 refine Hd.nil ?_; rw [show (encW (halfW n 2) i).set (0 + 0 + 1 * 7 + 0) (.int .i64 2) = encW (connW n) i from rfl]; refine Hd.heap (WireP b (connW n) :: WorldP wb w :: L) (fun q s => wire_close (x := halfW n 2) (f := fun e => { e with what := 2 }) (k := 1) (k' := 1) hi (by omega) (fun _ => rfl) (fun _ => rfl) q (Ent.sep enn q s)) ?_; refine sk [(0, _), (1, _), (7, _)] hK3 ?_; refine sr fun _ hK4 => ?_
 refine yv y_mv <| yv y_mv <| yv y_mv <| callE rfl fk110 (make_ct _ wb b w n h1 h2 1 (by omega) (connW n) (conn_new h2)) sq ?_; rintro ⟨ad, c⟩; dsimp only; refine yv y_mv <| yv (y_to (v' := .slice ad (mkF w 1).length c) y_ex (by rfl)) ?_; refine yv (y_to (v' := .int .i64 (mkE w 1)) y_ex (by rfl)) ?_; refine yv y_as <| yv y_as <| fk [(0, _), (6, _), (8, _)] hK4 ?_; refine Hd.seq fun _ hK5 => ?_
 refine sr fun _ hK6 => ?_
 refine yv y_mv <| yv (y_neq rfl rfl) ?_; refine fk [(0, _), (6, _), (8, _), (24, _)] hK6 ?_; refine Hd.cond rfl (fun hc0 => ?_) (fun hc0 => ?_)
 ·try simp only [hyZ] at hc0
  refine sr fun _ hK7 => ?_
  refine yv y_mv <| yv y_as <| yv y_as <| yv y_as <| fk [(4, _), (5, _), (6, _)] hK7 ?_; refine Hd.ret <| Hd.thenRet ?_
  have h : mkF w 1 = [] := by
   rcases mkF_len (w := w) (k := 1) with h | h
   ·exact absurd h.1 hc0
   ·exact h.2
  rw [show mkI w 1 0 = 0 by unfold mkI; rw [h]; rfl, show mkN w 1 = 0 by unfold mkN; rw [if_neg hc0]]; exact Hd.ret3 rfl () rfl rfl rfl rfl sq
 ·try simp only [hyZ] at hc0
  have hl : (mkF w 1).length = 1 := by
   rcases mkF_len (w := w) (k := 1) with h | h
   ·exact h.2
   ·rw [h.1] at hc0; exact absurd hc0 (by decide)
  have hg0 : (nats (mkF w 1))[0 * 1]? = some (.int .i64 (mkI w 1 0)) := nats_at (by omega)
  have hwl := mkW_len (x := connW n) hc0
  refine Hd.skip <| Hd.toK hK5 ?_; refine Hd.seq fun _ hK8 => ?_
  refine Hd.world pkk (fun i hw hrs => ?_)
  have hrl : i.rs.length = w.ws.length + 1 := by rw [← hwl, ← hrs, List.length_map]
  have hln : i.rs.length ≤ 1000 := by rw [hrl, ← hwl]; exact hw.len
  refine Hd.quiet mixed kq ?_; refine Hq.yv y_mv ?_; refine Hq.yv (y_idxR Tryz.underlying44 sz3 rfl rfl (by exact (show (0 : Nat) < _ by omega)) (by exact RdS.own pkk)) ?_; refine Hq.yv (y_loadR1 ag3 rfl (RdS.own (ad := ad) (us := nats (mkF w 1)) pkk) hg0) ?_; refine Hq.yv y_mv ?_; refine Hq.yv y_np ?_; refine Hq.yv (y_f 288 208 Tryz.underlying210 sz208) ?_; refine Hq.yv (y_load1 ag208 rfl (Rd.pt1 pkk (by exact woT_at (j := 0) (by omega) rfl))) ?_; refine Hq.yv (y_len Tryz.underlying208 rfl) ?_; refine Hq.yv (y_to (v' := .int .i64 (w.ws.length : Int)) (y_subn rfl rfl (by simp only [InK]; omega)) (by (congr 1; omega))) ?_; refine Hq.yv y_as ?_; refine Hq.yv y_as ?_; refine Hq.yv y_as ?_; refine Hq.nil ?_; refine sk [(4, _), (5, _), (6, _)] hK8 ?_; refine Hd.ret ?_; rw [show mkN w 1 = (w.ws.length : Int) by unfold mkN; rw [if_pos hc0]]; exact Hd.ret3 rfl () rfl rfl (by rw [hc0]; rfl) rfl (Ent.sep (.ex i (.pure ⟨hw, hrs⟩ enn)))
theorem outer_bad (L : List SP) (wb : Nat) (w : WA) (n : Int) (h : n < 1 ∨ 65536 < n) : Ct Tryz.prog 50 #[.pointer (some ⟨wb, 0, none⟩), .int .i64 n] (WorldP wb w :: L) (fun _ : Unit => .tuple #[.int .i64 0, .int .i64 0, .int .i64 2]) (fun _ : Unit => WorldP wb w :: L) := by
 refine Ct.o2 Tryz.func50 ?_; intro E
 show Hd E 35 _ _ _ _
 refine sr fun _ hK1 => ?_
 refine yv y_as <| yv y_as <| yv y_as <| fk [(0, _), (1, _)] hK1 ?_; refine sr fun _ hK2 => ?_
 refine yv y_mv <| callE rfl fk109 (bothbad_ct _ n h) sq ?_; rintro ⟨b, cs⟩; dsimp only; refine Hd.pure (fun hcs => ?_); refine yv y_as <| fk [(0, _), (1, _), (7, _)] hK2 ?_; refine sr fun _ hK3 => ?_
 refine yv y_mv <| yv y_np <| yv (y_f 0 197 Tryz.underlying199 sz197) ?_; refine yv (y_idxA Tryz.underlying197 sz196 rfl rfl (by decide)) ?_; refine yv (y_f 0 3 Tryz.underlying196 sz3) ?_; refine Hd.store1 sz3 rfl rfl rfl pkk (by rw [hcs]; decide) ?_
 try simp only [hyS]
 refine fk [(0, _), (1, _), (7, _)] hK3 ?_; refine sr fun _ hK4 => ?_
 refine yv y_mv <| yv y_mv <| yv y_mv <| callE rfl fk110 (makebad_ct _ wb b w n h 1) sq ?_; intro _; refine yv y_mv <| yv (y_to (v' := .slice none 0 0) y_ex (by rfl)) ?_; refine yv (y_to (v' := .int .i64 2) y_ex (by rfl)) ?_; refine yv y_as <| yv y_as <| fk [(0, _), (6, _), (8, _)] hK4 ?_; refine Hd.seq fun _ hK5 => ?_
 refine sr fun _ hK6 => ?_
 refine yv y_mv <| yv (y_neq rfl rfl) ?_; refine fk [(0, _), (6, _), (8, _), (24, _)] hK6 ?_; refine Hd.cond rfl (fun hc0 => ?_) (fun hc0 => ?_)
 ·try simp only [hyZ] at hc0
  refine sr fun _ hK7 => ?_
  refine yv y_mv <| yv y_as <| yv y_as <| yv y_as <| fk [(4, _), (5, _), (6, _)] hK7 ?_; refine Hd.ret <| Hd.thenRet ?_; exact Hd.ret3 rfl () rfl rfl rfl rfl sq
 ·try simp only [hyZ] at hc0
  exact absurd hc0 (by decide)
def pipeW (n : Nat) : WireA := ((halfW n 2).up 0 fun e => { e with wr := false }).up 1 fun e => { e with rd := false }
theorem pipe_new {n l : Nat} (h : n ≤ 65536) : NewW (pipeW n) l := by
 have e : ∀ k, k < 2 → ((pipeW n).e k).b = [] ∧ ((pipeW n).e k).what = 0 := fun k hk => by
  rcases (show k = 0 ∨ k = 1 by omega) with rfl | rfl <;> exact ⟨rfl, rfl⟩
 refine ⟨⟨fun k hk => ?_, fun k hk => by rw [(e k hk).1]; exact Nat.zero_le _, fun k hk _ => (e k hk).1, h, fun k hk => by rw [(e k hk).2]; decide, ⟨Int.le_refl _, by show (0 : Int) ≤ 64; decide, by show ((0 : Nat) : Int) ≤ 0; decide⟩, fun h1 => absurd h1 (by rw [(e 1 (by omega)).2]; decide)⟩, fun k hk => by rw [(e k hk).2]; decide, rfl⟩
 rcases (show k = 0 ∨ k = 1 by omega) with rfl | rfl <;> rfl
abbrev pwi (i : WI) : WI := ⟨fun j => if j = 0 then i.p 0 else none, i.wa, i.wc⟩
theorem pipe_wire {b n : Nat} {i : WI} {L : List SP} (hi0 : (i.p 0).isSome = true) : ∀ h, sep (pt b (encW (pipeW n) (pwi i)) 199 :: RgO (i.p 0) n [] :: own 3 1 i.wa 0 i.wc [] :: L) h → sep (WireP b (pipeW n) :: L) h := fun h s => by
 refine Ent.sep (Ent.ex (pwi i, 0) (Ent.pure ⟨⟨fun j hj => by
  rcases (show j = 0 ∨ j = 1 by omega) with rfl | rfl
  ·exact hi0
  ·rfl⟩, by omega⟩ ?_)) h s
 show Ent _ (pt b (encW (pipeW n) (pwi i)) 199 :: RgO (i.p 0) n [] :: pu True :: own 3 1 i.wa 0 i.wc [] :: L)
 exact .pick pkk (.pick pkk (.pure trivial enn))
theorem pipe_mk (L : List SP) (wb : Nat) (w : WA) (n : Nat) (h1 : 1 ≤ n) (h2 : n ≤ 65536) : Ct Tryz.prog 54 #[.pointer (some ⟨wb, 0, none⟩), .int .i64 (n : Int)] (WorldP wb w :: L) (fun _ : Unit => .tuple #[.int .i64 (mkI w 2 0), .int .i64 (mkI w 2 1), .int .i64 (mkE w 2)]) (fun _ : Unit => WorldP wb (mkW w 2 (pipeW n)) :: L) := by
 refine Ct.o2 Tryz.func54 ?_; intro E
 show Hd E 37 _ _ _ _
 refine sr fun _ hK1 => ?_
 refine yv y_as <| yv y_as <| yv y_as <| fk [(0, _), (1, _)] hK1 ?_; refine sr fun _ hK2 => ?_
 refine yv y_mv <| callE rfl fk109 (both_ct _ n h1 h2) sq ?_; intro b; refine yv y_as <| fk [(0, _), (1, _), (7, _)] hK2 ?_; refine Hd.seq fun _ hK3 => ?_
 refine Hd.wire pkk 0 (by omega) (fun i hi => ?_)
 have hi0 : (i.p 0).isSome = true := hi.rd 0 (by omega)
 refine Hd.draws mixed ?_; simp only [List.length, Nat.zero_add, Nat.reduceAdd]; refine Hd.take 0 rfl kq kq kq (fun _ => y_move rfl) fq ?_; refine Hd.take 1 rfl kq kq kq (fun _ => y_move rfl) fq ?_; refine Hd.take 2 rfl kq kq kq (fun _ => y_nilp rfl) fq ?_; refine Hd.take 3 rfl kq kq kq (fun _ => y_field' (q := 0) (ft := 197) Tryz.underlying199 rfl sz197 rfl rfl) fq ?_; refine Hd.take 7 rfl kq kq kq (fun _ => y_nilp rfl) fq ?_; refine Hd.take 8 rfl kq kq kq (fun _ => y_field' (q := 0) (ft := 197) Tryz.underlying199 rfl sz197 rfl rfl) fq ?_; refine Hd.tailAt 6 [4, 5] [6, 9, 10, 11] rfl rfl rfl kq ?_; simp only [pk, List.getElem?_cons_zero, List.getElem?_cons_succ]; refine Ht.yv (y_idxA Tryz.underlying197 sz196 rfl rfl (by decide)) ?_; refine Ht.yv (y_f 3 4 Tryz.underlying196 sz4) ?_; refine Ht.nil ?_; refine Hd.store1 sz4 rfl rfl rfl pkk (by simp; done) ?_
 try simp only [hyS]
 refine yv (y_idxA Tryz.underlying197 sz196 rfl rfl (by decide)) ?_; refine yv (y_f 2 194 Tryz.underlying196 sz194) ?_; refine Hd.store1 sz194 rfl rfl rfl pkk (by simp; done) ?_
 try simp only [hyS]
 refine Hd.nil <| Hd.noPn ?_; refine Hd.heap (WireP b (pipeW n) :: WorldP wb w :: L) (fun q s => pipe_wire hi0 q (Ent.sep (.eq pkk (pt_eq (by rfl)) (.eq pkk (show RgO (i.p 0) (halfW n 2).cap ((halfW n 2).e 0).b = RgO (i.p 0) n [] from rfl) (.eq pkk (show own 3 1 i.wa (halfW n 2).wt.length i.wc (nats (halfW n 2).wt) = own 3 1 i.wa 0 i.wc [] from rfl) enn))) q s)) ?_; refine sk [(0, _), (1, _), (7, _)] hK3 ?_; refine sr fun _ hK4 => ?_
 refine yv y_mv <| yv y_mv <| yv y_mv <| callE rfl fk110 (make_ct _ wb b w n h1 h2 2 (by omega) (pipeW n) (pipe_new h2)) sq ?_; rintro ⟨ad, c⟩; dsimp only; refine yv y_mv <| yv (y_to (v' := .slice ad (mkF w 2).length c) y_ex (by rfl)) ?_; refine yv (y_to (v' := .int .i64 (mkE w 2)) y_ex (by rfl)) ?_; refine yv y_as <| yv y_as <| fk [(6, _), (8, _)] hK4 ?_; refine Hd.seq fun _ hK5 => ?_
 refine sr fun _ hK6 => ?_
 refine yv y_mv <| yv (y_neq rfl rfl) ?_; refine fk [(6, _), (8, _), (29, _)] hK6 ?_; refine Hd.cond rfl (fun hc0 => ?_) (fun hc0 => ?_)
 ·try simp only [hyZ] at hc0
  refine sr fun _ hK7 => ?_
  refine yv y_mv <| yv y_as <| yv y_as <| yv y_as <| fk [(4, _), (5, _), (6, _)] hK7 ?_; refine Hd.ret <| Hd.thenRet ?_
  have h : mkF w 2 = [] := by
   rcases mkF_len (w := w) (k := 2) with h | h
   ·exact absurd h.1 hc0
   ·exact h.2
  rw [show mkI w 2 0 = 0 by unfold mkI; rw [h]; rfl, show mkI w 2 1 = 0 by unfold mkI; rw [h]; rfl]; exact Hd.ret3 rfl () rfl rfl rfl rfl sq
 ·try simp only [hyZ] at hc0
  have hl : (mkF w 2).length = 2 := by
   rcases mkF_len (w := w) (k := 2) with h | h
   ·exact h.2
   ·rw [h.1] at hc0; exact absurd hc0 (by decide)
  have hg0 : (nats (mkF w 2))[0 * 1]? = some (.int .i64 (mkI w 2 0)) := nats_at (by omega)
  have hg1 : (nats (mkF w 2))[1 * 1]? = some (.int .i64 (mkI w 2 1)) := nats_at (by omega)
  refine Hd.skip <| Hd.toK hK5 ?_; refine Hd.seq fun _ hK8 => ?_
  refine Hd.quiet mixed kq ?_; refine Hq.yv y_mv ?_; refine Hq.yv (y_idxR Tryz.underlying44 sz3 rfl rfl (by exact (show (0 : Nat) < _ by omega)) (by exact RdS.own pkk)) ?_; refine Hq.yv (y_loadR1 ag3 rfl (RdS.own (ad := ad) (us := nats (mkF w 2)) pkk) hg0) ?_; refine Hq.yv y_mv ?_; refine Hq.yv (y_idxR Tryz.underlying44 sz3 rfl rfl (by exact (show (1 : Nat) < _ by omega)) (by exact RdS.own pkk)) ?_; refine Hq.yv (y_loadR1 ag3 rfl (RdS.own (ad := ad) (us := nats (mkF w 2)) pkk) hg1) ?_; refine Hq.yv y_as ?_; refine Hq.yv y_as ?_; refine Hq.yv y_as ?_; refine Hq.nil ?_; refine sk [(4, _), (5, _), (6, _)] hK8 ?_; refine Hd.ret ?_; exact Hd.ret3 rfl () rfl rfl (by rw [hc0]; rfl) rfl sq
theorem pipe_bad (L : List SP) (wb : Nat) (w : WA) (n : Int) (h : n < 1 ∨ 65536 < n) : Ct Tryz.prog 54 #[.pointer (some ⟨wb, 0, none⟩), .int .i64 n] (WorldP wb w :: L) (fun _ : Unit => .tuple #[.int .i64 0, .int .i64 0, .int .i64 2]) (fun _ : Unit => WorldP wb w :: L) := by
 refine Ct.o2 Tryz.func54 ?_; intro E
 show Hd E 37 _ _ _ _
 refine sr fun _ hK1 => ?_
 refine yv y_as <| yv y_as <| yv y_as <| fk [(0, _), (1, _)] hK1 ?_; refine sr fun _ hK2 => ?_
 refine yv y_mv <| callE rfl fk109 (bothbad_ct _ n h) sq ?_; rintro ⟨b, cs⟩; dsimp only; refine Hd.pure (fun hcs => ?_); refine yv y_as <| fk [(0, _), (1, _), (7, _)] hK2 ?_; refine Hd.seq fun _ hK3 => ?_
 refine Hd.draws mixed ?_; simp only [List.length, Nat.zero_add, Nat.reduceAdd]; refine Hd.take 0 rfl kq kq kq (fun _ => y_move rfl) fq ?_; refine Hd.take 1 rfl kq kq kq (fun _ => y_move rfl) fq ?_; refine Hd.take 2 rfl kq kq kq (fun _ => y_nilp rfl) fq ?_; refine Hd.take 3 rfl kq kq kq (fun _ => y_field' (q := 0) (ft := 197) Tryz.underlying199 rfl sz197 rfl rfl) fq ?_; refine Hd.take 7 rfl kq kq kq (fun _ => y_nilp rfl) fq ?_; refine Hd.take 8 rfl kq kq kq (fun _ => y_field' (q := 0) (ft := 197) Tryz.underlying199 rfl sz197 rfl rfl) fq ?_; refine Hd.tailAt 6 [4, 5] [6, 9, 10, 11] rfl rfl rfl kq ?_; simp only [pk, List.getElem?_cons_zero, List.getElem?_cons_succ]; refine Ht.yv (y_idxA Tryz.underlying197 sz196 rfl rfl (by decide)) ?_; refine Ht.yv (y_f 3 4 Tryz.underlying196 sz4) ?_; refine Ht.nil ?_; refine Hd.store1 sz4 rfl rfl rfl pkk (by rw [hcs]; decide) ?_
 try simp only [hyS]
 refine yv (y_idxA Tryz.underlying197 sz196 rfl rfl (by decide)) ?_; refine yv (y_f 2 194 Tryz.underlying196 sz194) ?_; refine Hd.store1 sz194 rfl rfl rfl pkk (by rw [List.length_set, hcs]; decide) ?_
 try simp only [hyS]
 refine Hd.nil <| Hd.noPn ?_; refine sk [(0, _), (1, _), (7, _)] hK3 ?_; refine sr fun _ hK4 => ?_
 refine yv y_mv <| yv y_mv <| yv y_mv <| callE rfl fk110 (makebad_ct _ wb b w n h 2) sq ?_; intro _; refine yv y_mv <| yv (y_to (v' := .slice none 0 0) y_ex (by rfl)) ?_; refine yv (y_to (v' := .int .i64 2) y_ex (by rfl)) ?_; refine yv y_as <| yv y_as <| fk [(6, _), (8, _)] hK4 ?_; refine Hd.seq fun _ hK5 => ?_
 refine sr fun _ hK6 => ?_
 refine yv y_mv <| yv (y_neq rfl rfl) ?_; refine fk [(6, _), (8, _), (29, _)] hK6 ?_; refine Hd.cond rfl (fun hc0 => ?_) (fun hc0 => ?_)
 ·try simp only [hyZ] at hc0
  refine sr fun _ hK7 => ?_
  refine yv y_mv <| yv y_as <| yv y_as <| yv y_as <| fk [(4, _), (5, _), (6, _)] hK7 ?_; refine Hd.ret <| Hd.thenRet ?_; exact Hd.ret3 rfl () rfl rfl rfl rfl sq
 ·try simp only [hyZ] at hc0
  exact absurd hc0 (by decide)
def listW (n : Nat) : WireA := { e := fun _ => blankE, cap := n, rs := false, bl := (n : Int), wt := [] }
theorem list_new {n l : Nat} (h : n ≤ 64) : NewW (listW n) l :=
 ⟨⟨fun k hk => rfl, fun k hk => Nat.zero_le _, fun k hk _ => rfl, by show n ≤ 65536; omega, fun k hk => by show (0 : Int) ≤ 0 ∧ (0 : Int) ≤ 3; decide, ⟨by show (0 : Int) ≤ (n : Int); omega, by show (n : Int) ≤ 64; omega, by show ((0 : Nat) : Int) ≤ (n : Int); omega⟩, fun h1 => absurd (show (0 : Int) = 2 from h1) (by decide)⟩, fun k hk => by show (0 : Int) ≠ 1; decide, rfl⟩
theorem bd_list (n : Int) : Tryz.prog.built 199 [(2, .int .i64 n)] = some ([.int .i64 0, .int .i64 0, .pointer none, .bool false, .bool false, .int .u64 0, .int .u64 0, .int .i64 0, .int .i64 0, .pointer none, .bool false, .bool false, .int .u64 0, .int .u64 0, .bool false, .int .i64 n, .slice none 0 0] : List Value).toArray := by kernel_rfl
theorem listen_mk (L : List SP) (wb : Nat) (w : WA) (n : Nat) (h1 : 1 ≤ n) (h2 : n ≤ 64) : Ct Tryz.prog 56 #[.pointer (some ⟨wb, 0, none⟩), .int .i64 (n : Int)] (WorldP wb w :: L) (fun _ : Unit => .tuple #[.int .i64 (mkI w 1 0), .int .i64 (mkN w 1), .int .i64 (mkE w 1)]) (fun _ : Unit => WorldP wb (mkW w 1 (listW n)) :: L) := by
 refine Ct.o2 Tryz.func56 ?_; intro E
 show Hd E 36 _ _ _ _
 refine Hd.world .here (fun i hw hrs => ?_); refine sr fun _ hK1 => ?_
 refine yv y_as <| yv y_as <| yv y_as <| fk [(0, _), (1, _)] hK1 ?_; refine Hd.seq fun _ hK2 => ?_
 refine sr fun _ hK3 => ?_
 refine yv y_mv <| callE rfl fk113 (wnone_ct _ wb w.at w i.rs.length i) sq ?_; intro _; refine yv (y_not rfl) ?_; refine yv y_mv ?_; apply Hd.andg 3 11 14 [(0, _), (1, _)] rfl sbq
 ·intro _
  simp only [List.take]; refine y2 y_mv <| y2 (y_gtr rfl rfl) ?_; refine yv (y_pickT rfl rfl) ?_; refine Hd.nil ?_; exact Hd.mq
 ·intro _
  simp only [List.take]; refine n1 <| n1 <| yv (y_pickF rfl rfl) ?_; refine Hd.nil ?_; exact Hd.mq
 simp only [List.drop]; refine fk [(0, _), (1, _), (14, _)] hK3 ?_; refine Hd.cond rfl (fun hc0 => ?_) (fun hc0 => ?_)
 ·try simp only [hyZ] at hc0
  exfalso; omega
 ·try simp only [hyZ] at hc0
  refine Hd.skip <| Hd.toK hK2 ?_; refine sr fun _ hK4 => ?_
  refine yv y_mv <| yv y_mv <| yv y_mv <| yv (y_build (vs := [(2, _)]) rfl (bd_list (n : Int))) ?_; refine Hd.box (us := [.int .i64 0, .int .i64 0, .pointer none, .bool false, .bool false, .int .u64 0, .int .u64 0, .int .i64 0, .int .i64 0, .pointer none, .bool false, .bool false, .int .u64 0, .int .u64 0, .bool false, .int .i64 (n : Int), .slice none 0 0]) rfl rfl (fun b20 => ?_); refine Hd.heap (WorldP wb w :: WireP b20 (listW n) :: L) (fun q s => Ent.sep (.ex i (.pure ⟨hw, hrs⟩ (.pick pkk (.pick pkk (.pick pkk (.pick pkk (.ex (⟨fun _ => none, none, 0⟩, 0) (.pure ⟨⟨fun j _ => rfl⟩, by omega⟩ (.eq pkk (pt_eq (by rfl)) (.pure trivial (.pure trivial (.ownNil enn)))))))))))) q s) ?_; refine callE rfl fk110 (make_ct _ wb b20 w n h1 (by omega) 1 (by omega) (listW n) (list_new h2)) sq ?_; rintro ⟨ad, c⟩; dsimp only; refine yv y_mv <| yv (y_to (v' := .slice ad (mkF w 1).length c) y_ex (by rfl)) ?_
  refine yv (y_to (v' := .int .i64 (mkE w 1)) y_ex (by rfl)) ?_; refine yv y_as <| yv y_as <| fk [(0, _), (6, _), (7, _)] hK4 ?_; refine Hd.seq fun _ hK5 => ?_
  refine sr fun _ hK6 => ?_
  refine yv y_mv <| yv (y_neq rfl rfl) ?_; refine fk [(0, _), (6, _), (7, _), (25, _)] hK6 ?_; refine Hd.cond rfl (fun hc1 => ?_) (fun hc1 => ?_)
  ·try simp only [hyZ] at hc1
   refine sr fun _ hK7 => ?_
   refine yv y_mv <| yv y_as <| yv y_as <| yv y_as <| fk [(4, _), (5, _), (6, _)] hK7 ?_; refine Hd.ret <| Hd.thenRet ?_
   have h : mkF w 1 = [] := by
    rcases mkF_len (w := w) (k := 1) with h | h
    ·exact absurd h.1 hc1
    ·exact h.2
   rw [show mkI w 1 0 = 0 by unfold mkI; rw [h]; rfl, show mkN w 1 = 0 by unfold mkN; rw [if_neg hc1]]; exact Hd.ret3 rfl () rfl rfl rfl rfl sq
  ·try simp only [hyZ] at hc1
   have hl : (mkF w 1).length = 1 := by
    rcases mkF_len (w := w) (k := 1) with h | h
    ·exact h.2
    ·rw [h.1] at hc1; exact absurd hc1 (by decide)
   have hg0 : (nats (mkF w 1))[0 * 1]? = some (.int .i64 (mkI w 1 0)) := nats_at (by omega)
   have hwl := mkW_len (x := listW n) hc1
   refine Hd.skip <| Hd.toK hK5 ?_; refine Hd.seq fun _ hK8 => ?_
   refine Hd.world pkk (fun i hw hrs => ?_)
   have hrl : i.rs.length = w.ws.length + 1 := by rw [← hwl, ← hrs, List.length_map]
   have hln : i.rs.length ≤ 1000 := by rw [hrl, ← hwl]; exact hw.len
   refine Hd.quiet mixed kq ?_; refine Hq.yv y_mv ?_; refine Hq.yv (y_idxR Tryz.underlying44 sz3 rfl rfl (by exact (show (0 : Nat) < _ by omega)) (by exact RdS.own pkk)) ?_; refine Hq.yv (y_loadR1 ag3 rfl (RdS.own (ad := ad) (us := nats (mkF w 1)) pkk) hg0) ?_; refine Hq.yv y_mv ?_; refine Hq.yv y_np ?_; refine Hq.yv (y_f 288 208 Tryz.underlying210 sz208) ?_; refine Hq.yv (y_load1 ag208 rfl (Rd.pt1 pkk (by exact woT_at (j := 0) (by omega) rfl))) ?_; refine Hq.yv (y_len Tryz.underlying208 rfl) ?_; refine Hq.yv (y_to (v' := .int .i64 (w.ws.length : Int)) (y_subn rfl rfl (by simp only [InK]; omega)) (by (congr 1; omega))) ?_; refine Hq.yv y_as ?_; refine Hq.yv y_as ?_; refine Hq.yv y_as ?_; refine Hq.nil ?_; refine sk [(4, _), (5, _), (6, _)] hK8 ?_; refine Hd.ret ?_; rw [show mkN w 1 = (w.ws.length : Int) by unfold mkN; rw [if_pos hc1]]; exact Hd.ret3 rfl () rfl rfl (by rw [hc1]; rfl) rfl (Ent.sep (.ex i (.pure ⟨hw, hrs⟩ enn)))
theorem listen_bad (L : List SP) (wb : Nat) (w : WA) (n : Int) (h : n < 1 ∨ 64 < n) : Ct Tryz.prog 56 #[.pointer (some ⟨wb, 0, none⟩), .int .i64 n] (WorldP wb w :: L) (fun _ : Unit => .tuple #[.int .i64 0, .int .i64 0, .int .i64 2]) (fun _ : Unit => WorldP wb w :: L) := by
 refine Ct.o2 Tryz.func56 ?_; intro E
 show Hd E 36 _ _ _ _
 refine Hd.world .here (fun i hw hrs => ?_); refine sr fun _ hK1 => ?_
 refine yv y_as <| yv y_as <| yv y_as <| fk [(0, _), (1, _)] hK1 ?_; refine Hd.seq fun _ hK2 => ?_
 refine sr fun _ hK3 => ?_
 refine yv y_mv <| callE rfl fk113 (wnone_ct _ wb w.at w i.rs.length i) sq ?_; intro _; refine yv (y_not rfl) ?_; refine yv y_mv ?_; apply Hd.andg 3 11 14 [(0, _), (1, _)] rfl sbq
 ·intro _
  simp only [List.take]; refine y2 y_mv <| y2 (y_gtr rfl rfl) ?_; refine yv (y_pickT rfl rfl) ?_; refine Hd.nil ?_; exact Hd.mq
 ·intro _
  simp only [List.take]; refine n1 <| n1 <| yv (y_pickF rfl rfl) ?_; refine Hd.nil ?_; exact Hd.mq
 simp only [List.drop]; refine fk [(0, _), (1, _), (14, _)] hK3 ?_; refine Hd.cond rfl (fun hc0 => ?_) (fun hc0 => ?_)
 ·try simp only [hyZ] at hc0
  refine sr fun _ hK4 => ?_
  refine yv y_as <| yv y_as <| yv y_as <| fk [(4, _), (5, _), (6, _)] hK4 ?_; refine Hd.ret <| Hd.thenRet ?_; exact Hd.ret3 rfl () rfl rfl rfl rfl (Ent.sep (.ex i (.pure ⟨hw, hrs⟩ enn)))
 ·try simp only [hyZ] at hc0
  have hn : n < 1 := by simp at hc0; omega
  refine Hd.heap (WorldP wb w :: L) (Ent.sep (.ex i (.pure ⟨hw, hrs⟩ enn))) ?_; refine Hd.skip <| Hd.toK hK2 ?_; refine sr fun _ hK5 => ?_
  refine yv y_mv <| yv y_mv <| yv y_mv <| yv (y_build (vs := [(2, _)]) rfl (bd_list n)) ?_; refine Hd.box (us := [.int .i64 0, .int .i64 0, .pointer none, .bool false, .bool false, .int .u64 0, .int .u64 0, .int .i64 0, .int .i64 0, .pointer none, .bool false, .bool false, .int .u64 0, .int .u64 0, .bool false, .int .i64 n, .slice none 0 0]) rfl rfl (fun b20 => ?_); refine callE rfl fk110 (makebad_ct _ wb b20 w n (.inl hn) 1) sq ?_; intro _; refine yv y_mv <| yv (y_to (v' := .slice none 0 0) y_ex (by rfl)) ?_; refine yv (y_to (v' := .int .i64 2) y_ex (by rfl)) ?_; refine yv y_as <| yv y_as <| fk [(0, _), (6, _), (7, _)] hK5 ?_; refine Hd.seq fun _ hK6 => ?_
  refine sr fun _ hK7 => ?_
  refine yv y_mv <| yv (y_neq rfl rfl) ?_; refine fk [(0, _), (6, _), (7, _), (25, _)] hK7 ?_; refine Hd.cond rfl (fun hc1 => ?_) (fun hc1 => ?_)
  ·try simp only [hyZ] at hc1
   refine sr fun _ hK8 => ?_
   refine yv y_mv <| yv y_as <| yv y_as <| yv y_as <| fk [(4, _), (5, _), (6, _)] hK8 ?_; refine Hd.ret <| Hd.thenRet ?_; exact Hd.ret3 rfl () rfl rfl rfl rfl sq
  ·try simp only [hyZ] at hc1
   exact absurd hc1 (by decide)
def optW : Option (Nat × WireA) → SP
 | none => pu True
 | some p => WireP p.1 p.2
theorem map_optW (rs : List (Nat × WireA)) : (rs.map some).map optW = rs.map fun p => WireP p.1 p.2 := by rw [List.map_map]; rfl
theorem wires_bag {rs : List (Nat × WireA)} {L : List SP} {h : PH} (s : sep (Wires rs :: L) h) : sep (Bag optW (rs.map some) :: L) h := by
 obtain ⟨h1, h2, d, s1, s2, ⟨x⟩, y⟩ := s
 exact ⟨h1, h2, d, s1, s2, ⟨by rw [map_optW]; exact x⟩, y⟩
theorem bag_wires {rs : List (Nat × WireA)} {L : List SP} {h : PH} (s : sep (Bag optW (rs.map some) :: L) h) : sep (Wires rs :: L) h := by
 obtain ⟨h1, h2, d, s1, s2, ⟨x⟩, y⟩ := s
 exact ⟨h1, h2, d, s1, s2, ⟨by rw [← map_optW]; exact x⟩, y⟩
theorem bag_take {os : List (Option (Nat × WireA))} {j b : Nat} {x : WireA} {L : List SP} {h : PH} (hj : os[j]? = some (some (b, x))) (s : sep (Bag optW os :: L) h) : sep (WireP b x :: Bag optW (os.set j none) :: L) h := by
 have h1 := bag_out hj s
 have hl := (List.getElem?_eq_some_iff.1 hj).1
 have h2 : sep (optW none :: Bag optW (os.take j) :: Bag optW (os.drop (j + 1)) :: WireP b x :: L) h := Ent.sep (show Ent (WireP b x :: Bag optW (os.take j) :: Bag optW (os.drop (j + 1)) :: L) (pu True :: Bag optW (os.take j) :: Bag optW (os.drop (j + 1)) :: WireP b x :: L) from .pure trivial enn) h h1
 exact Ent.sep enn h (bag_in hl h2)
theorem bag_give {os : List (Option (Nat × WireA))} {j b : Nat} {x : WireA} {L : List SP} {h : PH} (hj : os[j]? = some none) (s : sep (WireP b x :: Bag optW os :: L) h) : sep (Bag optW (os.set j (some (b, x))) :: L) h := by
 have hl := (List.getElem?_eq_some_iff.1 hj).1
 have h1 : sep (Bag optW os :: WireP b x :: L) h := Ent.sep enn h s
 have h2 := bag_out hj h1
 have h3 : sep (optW (some (b, x)) :: Bag optW (os.take j) :: Bag optW (os.drop (j + 1)) :: L) h := Ent.sep (show Ent (pu True :: Bag optW (os.take j) :: Bag optW (os.drop (j + 1)) :: WireP b x :: L) (WireP b x :: Bag optW (os.take j) :: Bag optW (os.drop (j + 1)) :: L) from enn) h h2
 exact bag_in hl h3
def clo1 (rs : List (Nat × WireA)) (n : Nat) : List (Nat × WireA) := match rs[n]? with
 | some p => rs.set n (p.1, closeW p.2 0)
 | none => rs
def closeL (rs : List (Nat × WireA)) (l : List Nat) : List (Nat × WireA) := l.foldl clo1 rs
theorem closeL_snoc (rs : List (Nat × WireA)) (l : List Nat) (n : Nat) : closeL rs (l ++ [n]) = clo1 (closeL rs l) n := by unfold closeL; rw [List.foldl_append]; rfl
theorem clo1_fst (rs : List (Nat × WireA)) (n : Nat) : (clo1 rs n).map Prod.fst = rs.map Prod.fst := by
 unfold clo1
 split
 ·rename_i p hp
  rw [List.map_set]; apply List.ext_getElem?; intro j
  by_cases e : n = j
  ·subst e
   rw [List.getElem?_set_self (by rw [List.length_map]; exact (List.getElem?_eq_some_iff.1 hp).1), List.getElem?_map, hp]; rfl
  ·rw [List.getElem?_set_ne e]
 ·rfl
theorem closeL_fst : ∀ (l : List Nat) (rs : List (Nat × WireA)), (closeL rs l).map Prod.fst = rs.map Prod.fst
 | [], _ => rfl
 | n :: t, rs => by
  show (closeL (clo1 rs n) t).map Prod.fst = _
  rw [closeL_fst t, clo1_fst]
theorem clo1_snd (rs : List (Nat × WireA)) (n : Nat) : (clo1 rs n).map Prod.snd = match (rs.map Prod.snd)[n]? with | some y => (rs.map Prod.snd).set n (closeW y 0) | none => rs.map Prod.snd := by
 unfold clo1; rw [List.getElem?_map]
 cases h : rs[n]? with
 | none => rfl
 | some p => show (rs.set n _).map Prod.snd = _; rw [List.map_set]; rfl
theorem closeL_snd : ∀ (l : List Nat) (rs : List (Nat × WireA)), (closeL rs l).map Prod.snd = closeAll (rs.map Prod.snd) l
 | [], _ => rfl
 | n :: t, rs => by
  show (closeL (clo1 rs n) t).map Prod.snd = closeAll _ t
  rw [closeL_snd t, clo1_snd]
  try rfl
theorem closeL_len (l : List Nat) (rs : List (Nat × WireA)) : (closeL rs l).length = rs.length := by
 have := congrArg List.length (closeL_fst l rs)
 rwa [List.length_map, List.length_map] at this
theorem closeAll_set : ∀ (l : List Nat) (ws : List WireA) {m : Nat} {X : WireA}, m ∉ l → closeAll (ws.set m X) l = (closeAll ws l).set m X
 | [], _, _, _, _ => rfl
 | n :: t, ws, m, X, h => by
  have hne : m ≠ n := fun e => h (e ▸ List.mem_cons_self)
  have ht : m ∉ t := fun e => h (List.mem_cons_of_mem _ e)
  show closeAll (match (ws.set m X)[n]? with | some y => (ws.set m X).set n (closeW y 0) | none => ws.set m X) t = (closeAll (match ws[n]? with | some y => ws.set n (closeW y 0) | none => ws) t).set m X
  rw [List.getElem?_set_ne hne]
  cases h2 : ws[n]? with
  | none => exact closeAll_set t ws ht
  | some y =>
   show closeAll ((ws.set m X).set n (closeW y 0)) t = (closeAll (ws.set n (closeW y 0)) t).set m X
   rw [List.set_comm _ _ hne, closeAll_set t _ ht]
theorem world_all {wb : Nat} {w w' : WA} {i : WoI} {rs' : List (Nat × WireA)} {t : Int → Option (Nat × Nat)} {L : List SP} (hok : WOk w') (hf : rs'.map Prod.fst = i.rs.map Prod.fst) (hws : rs'.map Prod.snd = w'.ws) (hat : w'.at = t) (hr : w' = { w with ws := w'.ws }) :
  ∀ h, sep (Wires rs' :: WoH wb t w i.rs.length i :: own 191 1 i.wa i.rs.length i.wc (pws i.rs) :: SigP i.sb w.hd w.ct :: L) h → sep (WorldP wb w' :: L) h := by
 intro h s
 have hl : rs'.length = i.rs.length := by have := congrArg List.length hf; rwa [List.length_map, List.length_map] at this
 have hp : pws rs' = pws i.rs := by
  have : ∀ l : List (Nat × WireA), pws l = (l.map Prod.fst).map fun b => ptr (some b) := fun l => by unfold pws; rw [List.map_map]; rfl
  rw [this, this, hf]
 have hsg : SigP i.sb w.hd w.ct = SigP i.sb w'.hd w'.ct := by rw [hr]
 refine Ent.sep (.ex { i with rs := rs' } (.pure ⟨hok, hws⟩ ?_)) h s; exact .eq pkk (pt_eq (show fdC t ++ woT w i.rs.length i = fdC w'.at ++ woT w' rs'.length { i with rs := rs' } by rw [hat, hl, hr])) (.eq pkk (own_eq3 hl.symm rfl hp.symm) (.pick pkk (.eq pkk hsg enn)))
abbrev WoS (wb : Nat) (t : Int → Option (Nat × Nat)) (w : WA) (i : WoI) (L : List SP) : List SP := WoH wb t w i.rs.length i :: own 191 1 i.wa i.rs.length i.wc (pws i.rs) :: SigP i.sb w.hd w.ct :: L
theorem wclose_ct (L : List SP) (wb : Nat) (w : WA) (fd : Int) : Ct Tryz.prog 67 #[.pointer (some ⟨wb, 0, none⟩), .int .i64 fd] (WorldP wb w :: L) (fun _ : Unit => .int .i64 (closeF w fd).1) (fun _ : Unit => WorldP wb (closeF w fd).2 :: L) := by
 refine Ct.o2 Tryz.func67 ?_; intro E
 show Hd E 51 _ _ _ _
 refine Hd.world .here (fun i hw hrs => ?_); refine sr fun _ hK1 => ?_
 refine yv y_as <| fk [(0, _), (1, _)] hK1 ?_; refine sr fun _ hK2 => ?_
 refine yv y_mv <| yv y_mv <| callE rfl fk101 (find_ct _ wb w i hw hrs fd) sq ?_; intro _; refine yv y_mv <| yv y_ex <| yv y_ex <| yv y_ex <| Hd.alloc zr190 (fun b5 => ?_); refine Hd.storeA (us := plc (w.at fd)) (by rw [plc_len]; exact sz190) rfl rfl rfl (plc_one _) pkk (by rw [plc_len]; rfl) ?_; refine yv (y_to (v' := ptr (wfb i (w.at fd))) y_as (by rfl)) ?_; refine yv (y_to (v' := .int .i64 (fdErr (w.at fd))) y_as (by rfl)) ?_; refine fk [(0, _), (1, _), (5, _), (6, _), (7, _)] hK2 ?_; refine Hd.seq fun _ hK3 => ?_
 refine sr fun _ hK4 => ?_
 refine yv y_mv <| yv (y_neq rfl rfl) ?_; refine fk [(0, _), (1, _), (5, _), (6, _), (7, _), (18, _)] hK4 ?_; refine Hd.cond rfl (fun hc0 => ?_) (fun hc0 => ?_)
 ·try simp only [hyZ] at hc0
  refine sr fun _ hK5 => ?_
  refine yv y_mv <| yv y_as <| fk [(4, _)] hK5 ?_; refine Hd.ret <| Hd.thenRet ?_
  have hno : w.at fd = none := by
   cases h : w.at fd with
   | none => rfl
   | some p => rw [h] at hc0; exact absurd rfl hc0
  rw [show closeF w fd = (110, w) by unfold closeF; rw [hno]]; exact Hd.ret1 rfl () (by rw [hno]; rfl) (Ent.sep (.ex i (.pure ⟨hw, hrs⟩ enn)))
 ·try simp only [hyZ] at hc0
  obtain ⟨m0, k, hnk⟩ : ∃ m k, w.at fd = some (m, k) := by
   cases h : w.at fd with
   | none => rw [h] at hc0; exact absurd hc0 (by decide)
   | some p => exact ⟨p.1, p.2, rfl⟩
  obtain ⟨hf0, hf1, hk, hn, x, hx, _, _⟩ := hw.at_lt hnk
  obtain ⟨b, hb⟩ := rs_at hrs hx
  have hm0 := hw.ns m0 x hx
  have hcl := closeF_ok hw fd
  have hrd : closeF w fd = (0, { w with ws := closeAll (w.ws.set m0 ((closeW x k).wts [])) x.wt }) := by unfold closeF; rw [hnk]; dsimp only; rw [hx]
  have hml : m0 < i.rs.length := (List.getElem?_eq_some_iff.1 hb).1
  have hwl := wt_le hw hx
  rw [hnk, wfb_eq hb]
  obtain ⟨f, hf⟩ : ∃ f : Nat, fd = (f : Int) := ⟨fd.toNat, by omega⟩
  subst hf
  have hf96 : f < 96 := by omega
  refine Hd.skip <| Hd.toK hK3 ?_; refine sr fun _ hK6 => ?_
  refine yv y_mv <| yv y_mv <| yv (y_build (cs := (plc none).toArray) (vs := []) rfl kq) ?_; refine yv y_np <| yv (y_f 0 207 Tryz.underlying210 sz207) ?_; refine yv (y_idxA Tryz.underlying207 sz190 rfl rfl (by omega)) ?_; refine Hd.store (us := plc none) sz190 rfl rfl rfl (plc_one _) pkk (by rw [List.length_append, fdC_len, plc_len]; omega) ?_; refine Hd.nil ?_; rw [show 0 + 0 + f * 3 = f * 3 by omega, show (plc none).length = 3 from rfl, fdC_set hf96]; refine Hd.heap (WireP b x :: Bag optW ((i.rs.map some).set m0 none) :: pt b5 (plc (some (m0, k))) 190 :: WoS wb (setT w.at f none) w i L) (fun q s => bag_take (by rw [List.getElem?_map, hb]; rfl) (wires_bag (Ent.sep enn q s))) ?_; refine sk [(0, _), (5, _), (6, _)] hK6 ?_; refine sr fun _ hK7 => ?_
  refine yv y_mv <| yv (y_f 2 3 Tryz.underlying190 sz3) ?_; refine yv (y_l1 ag3 rfl) ?_; refine callE rfl fk122 (close_ct _ b x k hk) sq ?_; intro _; refine fk [(0, _), (6, _)] hK7 ?_; refine Hd.seq fun _ hK8 => ?_
  refine Hd.seq fun _ hK9 => ?_
  refine Hd.wire .here k hk (fun i2 hi => ?_); refine Hd.region <| yv y_mv <| yv y_np <| yv (y_f 16 44 Tryz.underlying199 sz44) ?_; refine yv (y_to (v' := .slice i2.wa x.wt.length i2.wc) (y_l1 ag44 rfl) (by rfl)) ?_; refine yv (y_len Tryz.underlying44 rfl) ?_; refine yv y_mv <| fk [(0, _), (6, _), (33, _), (34, _), (35, _)] hK9 ?_; refine Hd.block <| Hd.loopK (ι := Nat) [(0, _), (6, _), (33, _), (34, _)] (fun j => [(35, .int .i64 (j : Int))]) (fun j => pu (j ≤ x.wt.length) :: Bag optW (((closeL i.rs (x.wt.take j)).map some).set m0 none) :: WireH b (closeW x k) i2 :: RgO (i2.p k) (closeW x k).cap ((closeW x k).e k).b :: RgO (i2.p (1 - k)) (closeW x k).cap ((closeW x k).e (1 - k)).b :: own 3 1 i2.wa x.wt.length i2.wc (nats x.wt) :: pt b5 (plc (some (m0, k))) 190 :: WoS wb (setT w.at f none) w i L) (fun j => x.wt.length - j) 0 sbq sbq (Ent.sep (.pure (Nat.zero_le _) (.eq pkk (show Bag optW ((i.rs.map some).set m0 none) = Bag optW (((closeL i.rs (x.wt.take 0)).map some).set m0 none) from rfl) (.pick pkk (.pick pkk (.pick pkk (.eq pkk (show own 3 1 i2.wa (closeW x k).wt.length i2.wc (nats (closeW x k).wt) = own 3 1 i2.wa x.wt.length i2.wc (nats x.wt) from rfl) enn))))))) ?_
  intro j
  try dsimp only
  refine Hd.pure (fun hp0 => ?_)
  try dsimp only at hp0
  refine sr fun _ hK10 => ?_
  refine yv (y_lss rfl rfl) ?_; refine fk [(0, _), (6, _), (33, _), (34, _), (35, _), (36, _)] hK10 ?_; refine Hd.seq fun _ hK11 => ?_
  refine Hd.cond rfl (fun hc1 => ?_) (fun hc1 => ?_)
  ·try simp only [hyZ] at hc1
   have hj : j < x.wt.length := by omega
   have hgj := nats_at hj
   obtain ⟨n, hn⟩ : ∃ n, n = x.wt.getD j 0 := ⟨_, rfl⟩
   have hnj : x.wt[j]? = some n := by rw [hn, List.getD_eq_getElem?_getD, List.getElem?_eq_getElem hj]; rfl
   have hnm : n ∈ x.wt := List.mem_of_getElem? hnj
   obtain ⟨y0, hy0, _⟩ := hw.wm n (List.mem_flatMap.2 ⟨x, List.mem_of_getElem? hx, hnm⟩)
   obtain ⟨bn, hbn⟩ := rs_at hrs hy0
   have hnl : n < i.rs.length := (List.getElem?_eq_some_iff.1 hbn).1
   have hnm0 : n ≠ m0 := fun e => hm0 (e ▸ hnm)
   obtain ⟨yn, hyn⟩ : ∃ yn, (closeL i.rs (x.wt.take j))[n]? = some (bn, yn) := by
    have h1 : (closeL i.rs (x.wt.take j))[n]? = some ((closeL i.rs (x.wt.take j))[n]'(by rw [closeL_len]; exact hnl)) := List.getElem?_eq_getElem _
    have h2 : ((closeL i.rs (x.wt.take j)).map Prod.fst)[n]? = some bn := by rw [closeL_fst, List.getElem?_map, hbn]; rfl
    rw [List.getElem?_map, h1] at h2; exact ⟨_, by rw [h1]; exact congrArg some (Prod.ext (Option.some.inj h2) rfl)⟩
   have htk : closeL i.rs (x.wt.take (j + 1)) = (closeL i.rs (x.wt.take j)).set n (bn, closeW yn 0) := by
    rw [List.take_add_one, hnj]
    show closeL i.rs (x.wt.take j ++ [n]) = _
    rw [closeL_snoc]; unfold clo1; rw [hyn]
   rw [← hn] at hgj; refine Hd.skip <| Hd.toK hK11 ?_; refine Hd.seq fun _ hK12 => ?_
   refine Hd.block <| sr fun _ hK13 => ?_
   refine yv (y_idxR Tryz.underlying44 sz3 rfl rfl (by omega) (by exact RdS.own pkk)) ?_; refine yv (y_loadR1 ag3 rfl (RdS.own (ad := i2.wa) (us := nats x.wt) pkk) hgj) ?_; refine yv y_as <| fk [(0, _), (6, _), (9, _), (33, _), (34, _), (35, _)] hK13 ?_; refine Hd.region <| yv y_mv <| yv y_np <| yv (y_f 288 208 Tryz.underlying210 sz208) ?_; refine yv (y_load1 ag208 rfl (Rd.pt1 pkk (by exact woT_at (j := 0) (by omega) rfl))) ?_; refine yv y_mv <| yv (y_idxR Tryz.underlying208 sz191 rfl rfl (by omega) (by exact RdS.own pkk)) ?_; refine yv (y_loadR1 ag191 rfl (by exact RdS.own pkk) (by exact pws_at hbn)) ?_; refine Hd.heap (WireP bn yn :: Bag optW ((((closeL i.rs (x.wt.take j)).map some).set m0 none).set n none) :: WireH b (closeW x k) i2 :: RgO (i2.p k) (closeW x k).cap ((closeW x k).e k).b :: RgO (i2.p (1 - k)) (closeW x k).cap ((closeW x k).e (1 - k)).b :: own 3 1 i2.wa x.wt.length i2.wc (nats x.wt) :: pt b5 (plc (some (m0, k))) 190 :: WoS wb (setT w.at f none) w i L) (fun q s => bag_take (by rw [List.getElem?_set_ne (Ne.symm hnm0), List.getElem?_map, hyn]; rfl) (Ent.sep enn q s)) ?_
   refine callE rfl fk122 (close_ct _ bn yn 0 (by omega)) sq ?_; intro _
   refine Hd.heap (Bag optW (((closeL i.rs (x.wt.take (j + 1))).map some).set m0 none) :: WireH b (closeW x k) i2 :: RgO (i2.p k) (closeW x k).cap ((closeW x k).e k).b :: RgO (i2.p (1 - k)) (closeW x k).cap ((closeW x k).e (1 - k)).b :: own 3 1 i2.wa x.wt.length i2.wc (nats x.wt) :: pt b5 (plc (some (m0, k))) 190 :: WoS wb (setT w.at f none) w i L) (fun q s => by
    have h1 := bag_give (j := n) (b := bn) (x := closeW yn 0) (by rw [List.getElem?_set_self (by simp [closeL_len]; exact hnl)]) s
    rw [List.set_set, List.set_comm _ _ (Ne.symm hnm0), show (List.map some (closeL i.rs (x.wt.take j))).set n (some (bn, closeW yn 0)) = (closeL i.rs (x.wt.take (j + 1))).map some by rw [htk, List.map_set]] at h1
    exact h1) ?_
   refine Hd.nil <| slots [(0, _), (6, _), (33, _), (34, _), (35, _)] sbq ?_; refine Hd.inB <| Hd.toK hK12 ?_; refine Hd.region <| yv (y_addn rfl rfl (by simp only [InK]; omega)) ?_; refine yv y_mv <| Hd.nil <| slots [(0, _), (6, _), (33, _), (34, _), (35, _)] sbq ?_; refine thenN ?_; exact Hd.again (j + 1) (by omega) sbq (Ent.sep (.pure (by omega) enn))
  ·try simp only [hyZ] at hc1
   obtain rfl : j = x.wt.length := by omega
   rw [List.take_length]; refine Hd.exit <| Hd.thenExit <| Hd.thenExit <| Hd.inBexit <| Hd.toK hK8 ?_; refine sr fun _ hK14 => ?_
   refine yv y_mv <| yv y_np <| yv (y_f 16 44 Tryz.underlying199 sz44) ?_; refine Hd.store1 sz44 rfl rfl rfl pkk (by simp; done) ?_
   try simp only [hyS]
   refine Hd.nil ?_; rw [show (encW (closeW x k) i2).set (0 + 16) (.slice none 0 0) = encW ((closeW x k).wts []) { i2 with wa := none, wc := 0 } from rfl]; refine Hd.heap (WireP b ((closeW x k).wts []) :: Bag optW (((closeL i.rs x.wt).map some).set m0 none) :: WoS wb (setT w.at f none) w i L) (fun q s => wire_fold (x := (closeW x k).wts []) (i := { i2 with wa := none, wc := 0 }) (k := k) ⟨hi.rd⟩ hk q (Ent.sep (show Ent _ (pt b (encW ((closeW x k).wts []) { i2 with wa := none, wc := 0 }) 199 :: RgO (i2.p k) (closeW x k).cap ((closeW x k).e k).b :: RgO (i2.p (1 - k)) (closeW x k).cap ((closeW x k).e (1 - k)).b :: own 3 1 none 0 0 [] :: Bag optW (((closeL i.rs x.wt).map some).set m0 none) :: WoS wb (setT w.at f none) w i L) from .pick pkk (.pick pkk (.pick pkk (.ownNil enn)))) q s)) ?_; refine sk [] hK14 ?_; refine sr fun _ hK15 => ?_
   refine yv y_as <| fk [(4, _)] hK15 ?_; refine Hd.ret ?_
   have hws : ((closeL i.rs x.wt).set m0 (b, (closeW x k).wts [])).map Prod.snd = closeAll (w.ws.set m0 ((closeW x k).wts [])) x.wt := by
    rw [List.map_set, closeL_snd, hrs, closeAll_set _ _ hm0]
   have hfs : ((closeL i.rs x.wt).set m0 (b, (closeW x k).wts [])).map Prod.fst = i.rs.map Prod.fst := by
    rw [List.map_set, closeL_fst]; apply List.ext_getElem?; intro j
    by_cases e : m0 = j
    ·subst e
     rw [List.getElem?_set_self (by rw [List.length_map]; exact hml), List.getElem?_map, hb]; rfl
    ·rw [List.getElem?_set_ne e]
   rw [hrd] at hcl ⊢
   exact Hd.ret1 rfl () rfl (fun q s => world_all hcl.1 hfs hws hcl.2.1 rfl q (bag_wires (by
    have h1 := bag_give (j := m0) (b := b) (x := (closeW x k).wts []) (by rw [List.getElem?_set_self (by simp [closeL_len]; exact hml)]) s
    rw [List.set_set, show (List.map some (closeL i.rs x.wt)).set m0 (some (b, (closeW x k).wts [])) = ((closeL i.rs x.wt).set m0 (b, (closeW x k).wts [])).map some by rw [List.map_set]] at h1
    exact h1)))
end Wo
end Go.Proofs.YtbfddabjbkohdaaGreat
namespace Go.Proofs.YtbfddabjbkohdaaGreat
set_option maxHeartbeats 2000000
open Go.RX.Hd (yv y2 n1 fk sk sr tH callE heldK onlyH endH thenN slots)
open Go.RX Fx
namespace Ep
open Wo
set_option maxRecDepth 8000
theorem same15_ct (L : List SP) (a1 : Option Addr) (c1 : Nat) (xs : List (Int × Int)) (h1 : RdS L 2 a1 xs.length (xs.flatMap encPo)) (hb1 : xs.length ≤ 1000000) (a2 : Option Addr) (c2 : Nat) (ys : List (Int × Int)) (h2 : RdS L 2 a2 ys.length (ys.flatMap encPo)) (hb2 : ys.length ≤ 1000000) : Ct Tryz.prog 23 #[.slice a1 xs.length c1, .slice a2 ys.length c2] (L) (fun _ : Unit => .bool (decide (xs = ys))) (fun _ : Unit => L) := by
 refine Ct.o2 Tryz.func23 ?_; intro E
 show Hd E 26 _ _ _ _
 refine sr fun _ hK1 => ?_
 refine yv y_as <| fk [(0, _), (1, _)] hK1 ?_; refine Hd.seq fun _ hK2 => ?_
 refine sr fun _ hK3 => ?_
 refine yv y_mv <| yv (y_len Tryz.underlying47 rfl) ?_; refine yv y_mv <| yv (y_len Tryz.underlying47 rfl) ?_; refine yv (y_neq rfl rfl) ?_; refine fk [(0, _), (1, _), (10, _)] hK3 ?_; refine Hd.cond rfl (fun hc0 => ?_) (fun hc0 => ?_)
 ·try simp only [hyZ] at hc0
  have hne : xs ≠ ys := fun e => hc0 (by rw [e])
  refine sr fun _ hK4 => ?_
  refine yv y_as <| fk [(4, _)] hK4 ?_; refine Hd.ret <| Hd.thenRet ?_; rw [decide_eq_false hne]; exact Hd.ret1 rfl () rfl sq
 ·try simp only [hyZ] at hc0
  have hl : xs.length = ys.length := by omega
  refine Hd.skip <| Hd.toK hK2 ?_; refine Hd.seq fun _ hK5 => ?_
  refine sr fun _ hK6 => ?_
  refine yv y_as <| fk [(0, _), (1, _), (5, _)] hK6 ?_; refine Hd.block <| Hd.loopK (ι := Nat) [(0, _), (1, _)] (fun i => [(5, .int .i64 (i : Int))]) (fun i => pu (i ≤ xs.length ∧ xs.take i = ys.take i) :: L) (fun i => xs.length - i) 0 sbq sbq (Ent.sep (.pure ⟨Nat.zero_le _, rfl⟩ enn)) ?_; intro i
  try dsimp only
  refine Hd.pure (fun hp0 => ?_)
  try dsimp only at hp0
  refine Hd.seq fun _ hK7 => ?_
  refine sr fun _ hK8 => ?_
  refine yv y_mv <| yv y_mv <| yv (y_len Tryz.underlying47 rfl) ?_; refine yv (y_lss rfl rfl) ?_; refine fk [(0, _), (1, _), (5, _), (14, _)] hK8 ?_; refine Hd.cond rfl (fun hc1 => ?_) (fun hc1 => ?_)
  ·try simp only [hyZ] at hc1
   have hi : i < xs.length := by omega
   have hi2 : i < ys.length := by omega
   have hgx : xs[i]? = some xs[i] := List.getElem?_eq_getElem hi
   have hgy : ys[i]? = some ys[i] := List.getElem?_eq_getElem hi2
   refine Hd.skip <| Hd.toK hK7 ?_; refine Hd.seq fun _ hK9 => ?_
   refine Hd.block <| Hd.seq fun _ hK10 => ?_
   refine Hd.quiet mixed kq ?_; refine Hq.yv y_mv ?_; refine Hq.yv y_mv ?_; refine Hq.yv (y_idxR Tryz.underlying47 sz51 rfl rfl hi h1) ?_; refine Hq.yv (y_loadRn (vs := encPo xs[i]) ag51 rfl h1 (flat_cells encPo 2 (fun _ => rfl) hgx) (by exact sz51) (by simp)) ?_; refine Hq.yv y_mv ?_; refine Hq.yv y_mv ?_; refine Hq.yv (y_idxR Tryz.underlying47 sz51 rfl rfl hi2 h2) ?_; refine Hq.yv (y_loadRn (vs := encPo ys[i]) ag51 rfl h2 (flat_cells encPo 2 (fun _ => rfl) hgy) (by exact sz51) (by simp)) ?_; refine Hq.yv (y_to (v' := .bool (decide (xs[i] ≠ ys[i]))) (y_neq_agg rfl rfl eqt51 rfl ⟨rfl, rfl⟩) (by (congr 1; simp [allEq, eqv, Prod.ext_iff]))) ?_; refine Hq.nil ?_; refine sk [(0, _), (1, _), (5, _), (25, _)] hK10 ?_; refine Hd.cond rfl (fun hc2 => ?_) (fun hc2 => ?_)
   ·try simp only [hyZ] at hc2
    refine sr fun _ hK11 => ?_
    refine yv y_as <| fk [(4, _)] hK11 ?_; refine Hd.ret <| Hd.inBret <| Hd.thenRet <| Hd.thenRet <| Hd.inBret <| Hd.thenRet ?_
    have hne : xs ≠ ys := fun e => hc2 (by subst e; rfl)
    rw [decide_eq_false hne]; exact Hd.ret1 rfl () rfl sq
   ·try simp only [hyZ] at hc2
    refine Hd.skip <| Hd.inB <| Hd.toK hK9 ?_; refine Hd.region <| yv y_mv <| yv (y_addn rfl rfl (by simp only [InK]; omega)) ?_; refine yv y_as <| Hd.nil <| slots [(0, _), (1, _), (5, _)] sbq ?_; refine thenN ?_
    have ht : xs.take (i + 1) = ys.take (i + 1) := by
     rw [List.take_add_one, List.take_add_one, hgx, hgy, hp0.2, hc2]
    exact Hd.again (i + 1) (by omega) sbq (Ent.sep (.pure ⟨hi, ht⟩ enn))
  ·try simp only [hyZ] at hc1
   refine Hd.exit <| Hd.thenExit <| Hd.thenExit <| Hd.inBexit <| Hd.toK hK5 ?_; refine sr fun _ hK12 => ?_
   refine yv y_as <| fk [(4, _)] hK12 ?_; refine Hd.ret ?_
   have he : xs = ys := by
    have := hp0.2
    rwa [List.take_of_length_le (by omega), List.take_of_length_le (by omega)] at this
   rw [decide_eq_true he]; exact Hd.ret1 rfl () rfl sq
theorem swp_perm {α : Type} (xs : List α) (i k : Nat) : (Sh.swp xs i k).Perm xs := by
 unfold Sh.swp
 split
 ·rename_i a b ha hb
  obtain ⟨h1, rfl⟩ := List.getElem?_eq_some_iff.1 ha
  obtain ⟨h2, rfl⟩ := List.getElem?_eq_some_iff.1 hb
  exact List.set_set_perm h1 h2
 ·exact List.Perm.refl _
theorem shuf_perm {α : Type} (ord : List Int) (xs : List α) : ∀ i, (Sh.shufTo ord xs i).Perm xs
 | 0 => List.Perm.refl _
 | i + 1 => by
  show (if ord = [] then Sh.shufTo ord xs i else Sh.swp (Sh.shufTo ord xs i) i (Sh.place ord xs.length i)).Perm xs
  split
  ·exact shuf_perm ord xs i
  ·exact (swp_perm _ _ _).trans (shuf_perm ord xs i)
theorem fm_congr {α β : Type} {f g : α → Option β} : ∀ {l : List α}, (∀ a ∈ l, f a = g a) → l.filterMap f = l.filterMap g
 | [], _ => rfl
 | a :: t, h => by rw [List.filterMap_cons, List.filterMap_cons, h a List.mem_cons_self, fm_congr fun b hb => h b (List.mem_cons_of_mem _ hb)]
theorem updF_eq (f : Int → Option IxA) (a : Int) (o : Option IxA) : updF f a o a = o := if_pos rfl
theorem updF_ne {f : Int → Option IxA} {a b : Int} {o : Option IxA} (h : b ≠ a) : updF f a o b = f b := if_neg h
theorem dueT_fst (f : Int → Option IxA) (w : WA) (l : List Int) : (dueT f w l).map Prod.fst = l.filter fun a => decide (nwF f w a ≠ 0) := by
 unfold dueT
 induction l with
 | nil => rfl
 | cons a t ih =>
  rw [List.filterMap_cons, List.filter_cons]
  by_cases h : nwF f w a = 0
  ·rw [if_pos h, decide_eq_false (by simpa using h)]; simpa using ih
  ·rw [if_neg h, decide_eq_true h, if_pos rfl, List.map_cons, ih]
theorem allL_nd (f : Int → Option IxA) (w : WA) : (allL f w).Nodup := (allL_srt f w).imp fun h => by omega
theorem dueL_nd (f : Int → Option IxA) (w : WA) : ((dueL f w).map Prod.fst).Nodup := by rw [dueT_fst]; exact (allL_nd f w).filter _
theorem polL_sub (f : Int → Option IxA) (w : WA) (most : Int) (ord : List Int) : (∀ y ∈ polL f w most ord, y ∈ dueL f w) ∧ ((polL f w most ord).map Prod.fst).Nodup := by
 have hp := shuf_perm ord (dueL f w) (dueL f w).length
 refine ⟨fun y hy => (hp.mem_iff).1 (List.mem_of_mem_take hy), ?_⟩; unfold polL; rw [List.map_take]; exact ((hp.map Prod.fst).nodup_iff.2 (dueL_nd f w)).sublist (List.take_sublist _ _)
end Ep
end Go.Proofs.YtbfddabjbkohdaaGreat
namespace Go.Proofs.YtbfddabjbkohdaaGreat
set_option maxHeartbeats 2000000
open Go.RX.Hd (yv y2 n1 fk sk sr tH callE heldK onlyH endH thenN slots)
open Go.RX Fx
namespace Wo
set_option maxRecDepth 8000
structure Ov where
 k : Int
 a : Int
 n : Int
 t : Int
 ad : Option Addr
 c : Nat
 d : List UInt8
def mkKW (k n : Int) : WireA := if k = 0 then pipeW n.toNat else if k = 1 then halfW n.toNat 2 else if k = 2 then connW n.toNat else listW n.toNat
def mkKE (k : Int) : Nat := if k = 0 ∨ k = 1 then 2 else 1
def makeR (w : WA) (k n : Int) : WA := if n < 1 ∨ 65536 < n ∨ (k = 3 ∧ 64 < n) then w else mkW w (mkKE k) (mkKW k n)
theorem mkKW_z (k n : Int) : ∀ j, j < 2 → ((mkKW k n).e j).inn = 0 ∧ ((mkKW k n).e j).out = 0 := fun j hj => by
 unfold mkKW
 rcases (show j = 0 ∨ j = 1 by omega) with rfl | rfl
 ·split
  ·exact ⟨rfl, rfl⟩
  ·split
   ·exact ⟨rfl, rfl⟩
   ·split <;> exact ⟨rfl, rfl⟩
 ·split
  ·exact ⟨rfl, rfl⟩
  ·split
   ·exact ⟨rfl, rfl⟩
   ·split <;> exact ⟨rfl, rfl⟩
theorem mkKW_new {k n : Int} {l : Nat} (hb : ¬ (n < 1 ∨ 65536 < n ∨ (k = 3 ∧ 64 < n))) (hk : 0 ≤ k ∧ k ≤ 3) : NewW (mkKW k n) l := by
 unfold mkKW
 split
 ·exact pipe_new (by omega)
 ·split
  ·exact half_new (by omega)
  ·split
   ·exact conn_new (by omega)
   ·exact list_new (by omega)
theorem mkKE_le (k : Int) : mkKE k ≤ 2 := by unfold mkKE; split <;> omega
theorem make_stp (w : WA) (k n : Int) (hk : 0 ≤ k ∧ k ≤ 3) : Stp 1 w (makeR w k n) := by
 unfold makeR
 split
 ·exact Stp.same w
 ·rename_i hb
  have hno := (mkKW_new (l := w.ws.length) hb hk).no 1 (by omega)
  unfold mkW
  split
  ·refine (stp_add w (fun j hj => ?_) (fun e => ?_)).mono (Nat.zero_le _)
   ·have h := mkKW_z k n j hj
    rw [open_e]
    split
    ·exact h
    ·exact h
   ·rw [open_e] at e ⊢
    by_cases h1 : 1 < mkKE k
    ·rw [if_pos (by omega)]; show (1 : Int) ≠ 0; decide
    ·rw [if_neg h1] at e; exact absurd e hno
  ·exact Stp.same w
def doA (w : WA) (o : Ov) : WA :=
 if 0 ≤ o.k ∧ o.k ≤ 3 then makeR w o.k o.n
 else if o.k = 4 then (accR w o.a).2
 else if o.k = 5 then (readR w o.a o.n).2
 else if o.k = 6 then (writeR w o.a o.d).2
 else if o.k = 7 then (shutR w o.a).2
 else if o.k = 8 then (closeF w o.a).2
 else if o.k = 9 then (putR w o.a o.d).2
 else if o.k = 10 then (takR w o.a o.n).2
 else if o.k = 11 then (pshutR w o.a).2
 else if o.k = 12 then (pcloseR w o.a).2
 else if o.k = 13 then (resetR w o.a).2
 else if o.k = 14 then (connR w o.a o.n).2
 else if o.k = 15 then passR w o.t
 else if o.k = 16 then (hanR w o.a (decide (o.n > 0))).2
 else if o.k = 17 then (raiR w o.a).2
 else if o.k = 18 then (sigR w).2
 else if o.k = 19 then (notR w o.a o.n).2
 else w
theorem ite_stp {j : Nat} {c : Prop} [Decidable c] {w a b : WA} (h1 : c → Stp j w a) (h2 : ¬ c → Stp j w b) : Stp j w (if c then a else b) := by
 by_cases h : c
 ·rw [if_pos h]; exact h1 h
 ·rw [if_neg h]; exact h2 h
theorem do_stp {w : WA} (h : WOk w) (o : Ov) (ht : 0 ≤ o.t) : Stp 100 w (doA w o) := by
 unfold doA; refine ite_stp (fun hk => (make_stp w o.k o.n hk).mono (by decide)) fun _ => ?_
 refine ite_stp (fun _ => (acc_ok h o.a).2.mono (by decide)) fun _ => ?_
 refine ite_stp (fun _ => (read_stp h o.a o.n).mono (by decide)) fun _ => ?_
 refine ite_stp (fun _ => (write_stp h o.a o.d).mono (by decide)) fun _ => ?_
 refine ite_stp (fun _ => (shut_stp h o.a).mono (by decide)) fun _ => ?_
 refine ite_stp (fun _ => (closeF_ok h o.a).2.2.mono (by decide)) fun _ => ?_
 refine ite_stp (fun _ => (put_stp h o.a o.d).mono (by decide)) fun _ => ?_
 refine ite_stp (fun _ => (tak_stp h o.a o.n).mono (by decide)) fun _ => ?_
 refine ite_stp (fun _ => (pshut_stp h o.a).mono (by decide)) fun _ => ?_
 refine ite_stp (fun _ => (pclose_stp h o.a).mono (by decide)) fun _ => ?_
 refine ite_stp (fun _ => (reset_stp h o.a).mono (by decide)) fun _ => ?_
 refine ite_stp (fun _ => (conn_ok h o.a o.n).2.2.mono (by decide)) fun _ => ?_
 refine ite_stp (fun _ => (pass_ok h o.t ht).2.mono (by decide)) fun _ => ?_
 refine ite_stp (fun _ => (han_ok h o.a _).2.mono (by decide)) fun _ => ?_
 refine ite_stp (fun _ => (rai_ok h o.a).2.mono (by decide)) fun _ => ?_
 refine ite_stp (fun _ => (sig_ok h).2.mono (by decide)) fun _ => ?_
 refine ite_stp (fun _ => (not_ok h o.a o.n).2.mono (by decide)) fun _ => ?_
 exact Stp.same w
theorem do_mk {w : WA} {o : Ov} (h : 0 ≤ o.k ∧ o.k ≤ 3) : doA w o = makeR w o.k o.n := if_pos h
theorem do_4 {w : WA} {o : Ov} (h : o.k = 4) : doA w o = (accR w o.a).2 := by
 obtain ⟨k, a, n, t, ad, c, d⟩ := o
 obtain rfl : k = 4 := h
 rfl
theorem do_5 {w : WA} {o : Ov} (h : o.k = 5) : doA w o = (readR w o.a o.n).2 := by
 obtain ⟨k, a, n, t, ad, c, d⟩ := o
 obtain rfl : k = 5 := h
 rfl
theorem do_6 {w : WA} {o : Ov} (h : o.k = 6) : doA w o = (writeR w o.a o.d).2 := by
 obtain ⟨k, a, n, t, ad, c, d⟩ := o
 obtain rfl : k = 6 := h
 rfl
theorem do_7 {w : WA} {o : Ov} (h : o.k = 7) : doA w o = (shutR w o.a).2 := by
 obtain ⟨k, a, n, t, ad, c, d⟩ := o
 obtain rfl : k = 7 := h
 rfl
theorem do_8 {w : WA} {o : Ov} (h : o.k = 8) : doA w o = (closeF w o.a).2 := by
 obtain ⟨k, a, n, t, ad, c, d⟩ := o
 obtain rfl : k = 8 := h
 rfl
theorem do_9 {w : WA} {o : Ov} (h : o.k = 9) : doA w o = (putR w o.a o.d).2 := by
 obtain ⟨k, a, n, t, ad, c, d⟩ := o
 obtain rfl : k = 9 := h
 rfl
theorem do_10 {w : WA} {o : Ov} (h : o.k = 10) : doA w o = (takR w o.a o.n).2 := by
 obtain ⟨k, a, n, t, ad, c, d⟩ := o
 obtain rfl : k = 10 := h
 rfl
theorem do_11 {w : WA} {o : Ov} (h : o.k = 11) : doA w o = (pshutR w o.a).2 := by
 obtain ⟨k, a, n, t, ad, c, d⟩ := o
 obtain rfl : k = 11 := h
 rfl
theorem do_12 {w : WA} {o : Ov} (h : o.k = 12) : doA w o = (pcloseR w o.a).2 := by
 obtain ⟨k, a, n, t, ad, c, d⟩ := o
 obtain rfl : k = 12 := h
 rfl
theorem do_13 {w : WA} {o : Ov} (h : o.k = 13) : doA w o = (resetR w o.a).2 := by
 obtain ⟨k, a, n, t, ad, c, d⟩ := o
 obtain rfl : k = 13 := h
 rfl
theorem do_14 {w : WA} {o : Ov} (h : o.k = 14) : doA w o = (connR w o.a o.n).2 := by
 obtain ⟨k, a, n, t, ad, c, d⟩ := o
 obtain rfl : k = 14 := h
 rfl
theorem do_15 {w : WA} {o : Ov} (h : o.k = 15) : doA w o = passR w o.t := by
 obtain ⟨k, a, n, t, ad, c, d⟩ := o
 obtain rfl : k = 15 := h
 rfl
theorem do_16 {w : WA} {o : Ov} (h : o.k = 16) : doA w o = (hanR w o.a (decide (o.n > 0))).2 := by
 obtain ⟨k, a, n, t, ad, c, d⟩ := o
 obtain rfl : k = 16 := h
 rfl
theorem do_17 {w : WA} {o : Ov} (h : o.k = 17) : doA w o = (raiR w o.a).2 := by
 obtain ⟨k, a, n, t, ad, c, d⟩ := o
 obtain rfl : k = 17 := h
 rfl
theorem do_18 {w : WA} {o : Ov} (h : o.k = 18) : doA w o = (sigR w).2 := by
 obtain ⟨k, a, n, t, ad, c, d⟩ := o
 obtain rfl : k = 18 := h
 rfl
theorem do_19 {w : WA} {o : Ov} (h : o.k = 19) : doA w o = (notR w o.a o.n).2 := by
 obtain ⟨k, a, n, t, ad, c, d⟩ := o
 obtain rfl : k = 19 := h
 rfl
theorem do_oth {w : WA} {o : Ov} (h : o.k < 0 ∨ 19 < o.k) : doA w o = w := by
 unfold doA
 repeat rw [if_neg (by omega)]
theorem Lo.bd {K : Nat} {w : WA} (h : Lo K w) {B : Int} (hk : (K : Int) ≤ B) : ∀ c ∈ w.ct, 0 ≤ c ∧ c ≤ B := fun c hc => by have := h.ct c hc; omega
theorem newA_lo : Lo 0 newA := ⟨fun c hc => by have := (List.mem_replicate.1 hc).2; omega, fun x hx => (by cases hx), by decide, fun x hx => (by cases hx)⟩
def runA (w : WA) (l : List Ov) : WA := l.foldl doA w
theorem runA_snoc (w : WA) (l : List Ov) (o : Ov) : runA w (l ++ [o]) = doA (runA w l) o := by unfold runA; rw [List.foldl_append]; rfl
end Wo
end Go.Proofs.YtbfddabjbkohdaaGreat
namespace Go.Proofs.YtbfddabjbkohdaaGreat
set_option maxHeartbeats 2000000
open Go.RX.Hd (yv y2 n1 fk sk sr tH callE heldK onlyH endH thenN slots)
open Go.RX Fx
namespace Ep
open Wo
set_option maxRecDepth 8000
def ixF (g : Int → Option PxA) : Int → Option IxA := fun a => (g a).map PxA.ix
def updP (g : Int → Option PxA) (a : Int) (o : Option PxA) : Int → Option PxA := fun b => if b = a then o else g b
theorem updP_eq (g : Int → Option PxA) (a : Int) (o : Option PxA) : updP g a o a = o := if_pos rfl
theorem updP_ne {g : Int → Option PxA} {a b : Int} {o : Option PxA} (h : b ≠ a) : updP g a o b = g b := if_neg h
theorem ixF_upd (g : Int → Option PxA) (a : Int) (o : Option PxA) : updF (ixF g) a (o.map PxA.ix) = ixF (updP g a o) := by
 funext b
 by_cases h : b = a
 ·subst h; rw [updF_eq]; unfold ixF; rw [updP_eq]
 ·rw [updF_ne h]; unfold ixF; rw [updP_ne h]
def hasT (n k : Int) : Bool := decide (Int.tmod (Int.tdiv n k) 2 = 1)
theorem has1 : ∀ i o e, hasT (evA i o e) 1 = i := by decide
theorem has4 : ∀ i o e, hasT (evA i o e) 4 = o := by decide
theorem has32 : ∀ i o e, hasT (evA i o e) 32 = e := by decide
abbrev sumT (n : Int) : Int := Int.tmod (Int.tdiv n 1) 2 * 1 + Int.tmod (Int.tdiv n 4) 2 * 4 + Int.tmod (Int.tdiv n 32) 2 * 32
theorem sum_ok : ∀ i o e, sumT (evA i o e) = evA i o e ∧ 0 ≤ evA i o e := by decide
theorem bad_ev {n : Int} (hn : InK .i64 n) : (n < 0 ∨ n ≠ sumT n) ↔ bits .andNot .i64 n 37 ≠ 0 := by
 constructor
 ·intro h e
  obtain ⟨i, o, d, rfl⟩ := ev_of hn e
  have := sum_ok i o d
  omega
 ·intro h
  by_cases h0 : n < 0
  ·exact .inl h0
  ·refine .inr fun e => h ?_
   have hb : ∀ k : Int, (0 < k) → Int.tmod (Int.tdiv n k) 2 = 0 ∨ Int.tmod (Int.tdiv n k) 2 = 1 := fun k hk => by
    have h1 : 0 ≤ Int.tdiv n k := Int.tdiv_nonneg (by omega) (by omega)
    have h2 := Int.tmod_nonneg 2 h1
    have h3 := Int.tmod_lt_of_pos (Int.tdiv n k) (b := 2) (by decide)
    omega
   have e1 : n = evA (decide (Int.tmod (Int.tdiv n 1) 2 = 1)) (decide (Int.tmod (Int.tdiv n 4) 2 = 1)) (decide (Int.tmod (Int.tdiv n 32) 2 = 1)) := by
    unfold sumT at e; unfold evA b2; simp only [decide_eq_true_eq]
    rcases hb 1 (by decide) with a | a <;> rcases hb 4 (by decide) with b | b <;> rcases hb 32 (by decide) with c | c <;> rw [a, b, c] at e <;> simp only [a, b, c] <;> simp <;> omega
   rw [e1]; exact ev_ok _ _ _
def newP (w : WA) (fd ev : Int) : PxA := ⟨wireN (w.at fd), hasT ev 1, hasT ev 4, hasT ev 32, hasT ev 1, hasT ev 4, (readyR w fd).r, (readyR w fd).w⟩
def modP (p : PxA) (w : WA) (fd ev : Int) : PxA := { newP w fd ev with a := hasT ev 1 && (p.ra (readyR w fd) || !p.e || !p.i), b := hasT ev 4 && (p.rb (readyR w fd) || !p.e || !p.o) }
def livP (g : Int → Option PxA) (w : WA) (a : Int) : Bool := match g a with
 | none => false
 | some p => decide ((w.at a).isSome = true ∧ wireN (w.at a) = p.wire)
theorem livP_eq (g : Int → Option PxA) (w : WA) (a : Int) : qE (ixF g) w a = livP g w a := by
 unfold qE findE livP ixF
 cases g a with
 | none => rfl
 | some p =>
  show (if (w.at a).isSome = true ∧ wireN (w.at a) = p.wire then some p.ix else none).isSome = _
  by_cases h : (w.at a).isSome = true ∧ wireN (w.at a) = p.wire
  ·rw [if_pos h]; exact (decide_eq_true h).symm
  ·rw [if_neg h]; exact (decide_eq_false h).symm
abbrev allP (g : Int → Option PxA) (w : WA) : List Int := allL (ixF g) w
def badT (op ev : Int) : Prop := (op < 1 ∨ 3 < op) ∨ (op < 3 ∧ (ev < 0 ∨ ev ≠ sumT ev))
instance (op ev : Int) : Decidable (badT op ev) := by unfold badT; exact inferInstance
def ctlG (limit : Int) (g : Int → Option PxA) (w : WA) (op fd ev : Int) : Int × (Int → Option PxA) :=
 if badT op ev then (2, g)
 else if w.at fd = none then (110, g)
 else if op = 1 ∧ livP g w fd = true then (150, g)
 else if op = 1 ∧ limit ≤ ((allP g w).length : Int) then (152, g)
 else if op = 1 then (0, updP g fd (some (newP w fd ev)))
 else if livP g w fd = false then (151, g)
 else if op = 3 then (0, updP g fd none)
 else (0, updP g fd (some (modP ((g fd).getD ⟨0, false, false, false, false, false, 0, 0⟩) w fd ev)))
theorem ctlG_eq {limit : Int} {g : Int → Option PxA} {w : WA} {op fd ev : Int} (hev : InK .i64 ev) : ctlR limit (ixF g) w op fd ev = ((ctlG limit g w op fd ev).1, ixF (ctlG limit g w op fd ev).2) := by
 unfold ctlR ctlG
 have hb := bad_ev hev
 by_cases h1 : badT op ev
 ·rw [if_pos h1, if_pos]
  unfold badT at h1
  rcases h1 with h | ⟨h, h2⟩
  ·exact .inl h
  ·exact .inr ⟨by omega, hb.1 h2⟩
 rw [if_neg h1]
 have h1' : ¬ ((op < 1 ∨ 3 < op) ∨ (op ≠ 3 ∧ bits .andNot .i64 ev 37 ≠ 0)) := fun h => h1 (by
  unfold badT
  rcases h with h | ⟨h, h2⟩
  ·exact .inl h
  ·by_cases h3 : op < 1 ∨ 3 < op
   ·exact .inl h3
   ·exact .inr ⟨by omega, hb.2 h2⟩)
 rw [if_neg h1']
 by_cases h2 : w.at fd = none
 ·rw [if_pos h2, if_pos h2]
 rw [if_neg h2, if_neg h2, livP_eq]
 by_cases h3 : op = 1 ∧ livP g w fd = true
 ·rw [if_pos h3, if_pos h3]
 rw [if_neg h3, if_neg h3]
 by_cases h4 : op = 1 ∧ limit ≤ ((allP g w).length : Int)
 ·rw [if_pos h4, if_pos h4]
 rw [if_neg h4, if_neg h4]
 have hform : op ≠ 3 → ∃ i o e, ev = evA i o e := fun h3 => ev_of hev (by
  by_cases h : bits .andNot .i64 ev 37 = 0
  ·exact h
  ·exact absurd (.inr ⟨h3, h⟩) h1')
 by_cases h5 : op = 1
 ·rw [if_pos h5, if_pos h5]
  obtain ⟨i, o, e, rfl⟩ := hform (by omega)
  refine Prod.ext rfl ?_
  show updF (ixF g) fd (some (addX w fd (evA i o e))) = _
  rw [add_p, ← ixF_upd]; unfold newP; rw [has1, has4, has32]; rfl
 rw [if_neg h5, if_neg h5]
 by_cases h6 : livP g w fd = false
 ·rw [if_pos h6, if_pos h6]
 rw [if_neg h6, if_neg h6]
 by_cases h7 : op = 3
 ·rw [if_pos h7, if_pos h7]
  exact Prod.ext rfl (ixF_upd g fd none)
 rw [if_neg h7, if_neg h7]
 obtain ⟨i, o, e, rfl⟩ := hform h7
 refine Prod.ext rfl ?_
 have hq : qE (ixF g) w fd = true := by rw [livP_eq]; simpa using h6
 obtain ⟨x, _, _, hx, _, _, hfx⟩ := findE_at hq
 cases hg : g fd with
 | none => unfold ixF at hx; rw [hg] at hx; cases hx
 | some p =>
  have : x = p.ix := by
   have h : (g fd).map PxA.ix = some x := hx
   rw [hg] at h; exact (Option.some.inj h).symm
  show updF (ixF g) fd (some (modX ((findE (ixF g) w fd).getD zIx) w fd (evA i o e))) = ixF (updP g fd (some (modP p w fd (evA i o e))))
  rw [hfx, this, ← ixF_upd]
  show updF _ fd (some (modX p.ix w fd (evA i o e))) = updF _ fd (some (modP p w fd (evA i o e)).ix)
  rw [mod_p]; unfold modP newP; rw [has1, has4, has32]
structure RiA where
 fd : Int
 wire : Int
 ev : Int
 i : Bool
 o : Bool
 r : Int
 w : Int
def riP (w : WA) (a : Int) (p : PxA) : RiA := ⟨a, p.wire, evA p.i p.o p.e, p.ra (readyR w a), p.rb (readyR w a), (readyR w a).r, (readyR w a).w⟩
def entP (g : Int → Option PxA) (w : WA) (a : Int) : Option RiA := if livP g w a = true then (g a).map (riP w a) else none
def refL (g : Int → Option PxA) (w : WA) : List RiA := (List.range 96).filterMap fun n : Nat => entP g w (n : Int)
def tidy1 (w : WA) (x : RiA) : Option RiA := if (w.at x.fd).isSome = true ∧ wireN (w.at x.fd) = x.wire then
  some { x with i := x.i || decide ((readyR w x.fd).r > x.r), o := x.o || decide ((readyR w x.fd).w > x.w), r := (readyR w x.fd).r, w := (readyR w x.fd).w } else none
def tidyL (w : WA) (l : List RiA) : List RiA := l.filterMap (tidy1 w)
structure InvP (g : Int → Option PxA) (w : WA) : Prop where
 wr : ∀ a p, g a = some p → ∃ (n : Nat) (y : WireA), p.wire = (n : Int) ∧ w.ws[n]? = some y ∧ (y.e 0).what ≠ 0
 le : ∀ a p, g a = some p → livP g w a = true → p.reads ≤ (readyR w a).r ∧ p.writes ≤ (readyR w a).w
theorem invP_0 (w : WA) : InvP (fun _ => none) w := ⟨fun _ _ h => (by cases h), fun _ _ h => (by cases h)⟩
theorem livP_at {g : Int → Option PxA} {w : WA} {a : Int} (h : livP g w a = true) : ∃ p n k, g a = some p ∧ w.at a = some (n, k) ∧ p.wire = (n : Int) := by
 unfold livP at h
 cases hg : g a with
 | none => rw [hg] at h; cases h
 | some p =>
  rw [hg] at h; dsimp only at h; rw [decide_eq_true_eq] at h
  cases ha : w.at a with
  | none => rw [ha] at h; simp at h
  | some q =>
   obtain ⟨n, k⟩ := q
   rw [ha] at h; exact ⟨p, n, k, rfl, rfl, h.2.symm⟩
theorem rdy_cnt {w : WA} {a : Int} {n k : Nat} {x : WireA} (ha : w.at a = some (n, k)) (hx : w.ws[n]? = some x) : (readyR w a).r = (x.e k).inn ∧ (readyR w a).w = (x.e k).out := by
 unfold readyR; rw [ha]; dsimp only; rw [hx]; dsimp only; unfold readyW
 split <;> exact ⟨rfl, rfl⟩
theorem opn0 {K : Nat} {w : WA} (hw : WOk w) (hl : Lo K w) {a : Int} {n k : Nat} (ha : w.at a = some (n, k)) : ∃ x, w.ws[n]? = some x ∧ (x.e k).what = 1 ∧ (x.e k).fd = a ∧ k < 2 ∧ (x.e 0).what ≠ 0 := by
 obtain ⟨_, _, hk, _, x, hx, h1, h2⟩ := hw.at_lt ha
 refine ⟨x, hx, h1, h2, hk, ?_⟩
 rcases (show k = 0 ∨ k = 1 by omega) with rfl | rfl
 ·rw [h1]; decide
 ·exact hl.g1 x (List.mem_of_getElem? hx) h1
theorem liv_back {g : Int → Option PxA} {w w' : WA} (hw : WOk w) (hw' : WOk w') (hG : Gr w w') (hI : InvP g w) {a : Int} (h : livP g w' a = true) : livP g w a = true ∧ (readyR w a).r ≤ (readyR w' a).r ∧ (readyR w a).w ≤ (readyR w' a).w := by
 obtain ⟨p, n, k, hg, ha', hp⟩ := livP_at h
 obtain ⟨n2, y, hp2, hy, hy0⟩ := hI.wr a p hg
 obtain rfl : n2 = n := by have := hp.symm.trans hp2; omega
 obtain ⟨_, _, hk, _, y', hy', h1, h2⟩ := hw'.at_lt ha'
 obtain ⟨z, hz, _, hz2⟩ := hG.all n2 y hy
 obtain rfl : z = y' := by rw [hy'] at hz; exact (Option.some.inj hz).symm
 obtain ⟨b1, b2, b3⟩ := hz2 k hk
 obtain ⟨c1, c2⟩ := b3 hy0 h1
 have ha : w.at a = some (n2, k) := (atW_iff hw.uq).2 ⟨hk, y, hy, c1, by rw [← c2]; exact h2⟩
 refine ⟨?_, ?_⟩
 ·unfold livP
  rw [hg]; dsimp only; rw [decide_eq_true_eq, ha]; exact ⟨rfl, hp.symm⟩
 ·rw [(rdy_cnt ha hy).1, (rdy_cnt ha hy).2, (rdy_cnt ha' hy').1, (rdy_cnt ha' hy').2]
  exact ⟨b1, b2⟩
theorem InvP.gr {g : Int → Option PxA} {w w' : WA} (hw : WOk w) (hw' : WOk w') (hG : Gr w w') (hI : InvP g w) : InvP g w' where
 wr a p h := by
  obtain ⟨n, y, h1, h2, h3⟩ := hI.wr a p h
  obtain ⟨z, hz, hz0, _⟩ := hG.all n y h2
  exact ⟨n, z, h1, hz, hz0 h3⟩
 le a p h hl := by
  obtain ⟨h1, h2, h3⟩ := liv_back hw hw' hG hI hl
  obtain ⟨h4, h5⟩ := hI.le a p h h1
  omega
theorem tidy_gr {g : Int → Option PxA} {w w' : WA} (hw : WOk w) (hw' : WOk w') (hG : Gr w w') (hI : InvP g w) : tidyL w' (refL g w) = refL g w' := by
 unfold tidyL refL; rw [List.filterMap_filterMap]; refine fm_congr fun n _ => ?_
 generalize (n : Int) = a
 unfold entP
 by_cases h' : livP g w' a = true
 ·obtain ⟨h, hr, hs⟩ := liv_back hw hw' hG hI h'
  rw [if_pos h, if_pos h']
  obtain ⟨p, n, k, hg, ha', hp⟩ := livP_at h'
  obtain ⟨h4, h5⟩ := hI.le a p hg h
  rw [hg]
  show tidy1 w' (riP w a p) = some (riP w' a p)
  unfold tidy1
  rw [if_pos (by
   show (w'.at a).isSome = true ∧ wireN (w'.at a) = p.wire
   rw [ha']; exact ⟨rfl, hp.symm⟩)]
  refine congrArg some ?_
  have e1 : (p.ra (readyR w a) || decide ((readyR w' a).r > (readyR w a).r)) = p.ra (readyR w' a) := by
   unfold PxA.ra; rw [Bool.or_assoc]
   congr 1
   rw [Bool.eq_iff_iff]; simp only [Bool.or_eq_true, decide_eq_true_eq]; omega
  have e2 : (p.rb (readyR w a) || decide ((readyR w' a).w > (readyR w a).w)) = p.rb (readyR w' a) := by
   unfold PxA.rb; rw [Bool.or_assoc]
   congr 1
   rw [Bool.eq_iff_iff]; simp only [Bool.or_eq_true, decide_eq_true_eq]; omega
  unfold riP; dsimp only; rw [e1, e2]
 ·rw [if_neg h']
  by_cases h : livP g w a = true
  ·rw [if_pos h]
   obtain ⟨p, n, k, hg, ha, hp⟩ := livP_at h
   rw [hg]
   show tidy1 w' (riP w a p) = none
   unfold tidy1; refine if_neg fun hc => h' ?_
   unfold livP; rw [hg]; dsimp only; rw [decide_eq_true_eq]; exact hc
  ·rw [if_neg h]; rfl
theorem tidy_id {g : Int → Option PxA} {w : WA} (hw : WOk w) (hI : InvP g w) : tidyL w (refL g w) = refL g w := tidy_gr hw hw (Gr.refl w) hI
def insR (x : RiA) : Bool → List RiA → List RiA
 | d, [] => if d = true then [] else [x]
 | d, y :: t => (if d = false ∧ x.fd ≤ y.fd then [x] else []) ++ ((if y.fd ≠ x.fd then [y] else []) ++ insR x (d || decide (x.fd ≤ y.fd)) t)
theorem insR_lt {x : RiA} {d : Bool} : ∀ {l : List RiA} {m : List RiA}, (∀ y ∈ l, y.fd < x.fd) → insR x d (l ++ m) = l ++ insR x d m
 | [], _, _ => rfl
 | y :: t, m, h => by
  have h1 := h y List.mem_cons_self
  show (if d = false ∧ x.fd ≤ y.fd then [x] else []) ++ ((if y.fd ≠ x.fd then [y] else []) ++ insR x (d || decide (x.fd ≤ y.fd)) (t ++ m)) = _
  rw [if_neg (by omega), if_pos (by omega), decide_eq_false (by omega), Bool.or_false, insR_lt fun z hz => h z (List.mem_cons_of_mem _ hz)]
  rfl
theorem insR_gt {x : RiA} : ∀ {l : List RiA}, (∀ y ∈ l, x.fd < y.fd) → insR x true l = l
 | [], _ => rfl
 | y :: t, h => by
  have h1 := h y List.mem_cons_self
  show (if true = false ∧ x.fd ≤ y.fd then [x] else []) ++ ((if y.fd ≠ x.fd then [y] else []) ++ insR x (true || decide (x.fd ≤ y.fd)) t) = _
  rw [if_neg (by simp), if_pos (by omega), Bool.true_or, insR_gt fun z hz => h z (List.mem_cons_of_mem _ hz)]
  rfl
theorem insR_gt0 {x : RiA} {l : List RiA} (h : ∀ y ∈ l, x.fd < y.fd) : insR x false l = x :: l := by
 cases l with
 | nil => rfl
 | cons y t =>
  have h1 := h y List.mem_cons_self
  show (if false = false ∧ x.fd ≤ y.fd then [x] else []) ++ ((if y.fd ≠ x.fd then [y] else []) ++ insR x (false || decide (x.fd ≤ y.fd)) t) = _
  rw [if_pos ⟨rfl, by omega⟩, if_pos (by omega), decide_eq_true (by omega : x.fd ≤ y.fd), Bool.or_true, insR_gt fun z hz => h z (List.mem_cons_of_mem _ hz)]
  rfl
theorem ent_fd {g : Int → Option PxA} {w : WA} {a : Int} {y : RiA} (h : entP g w a = some y) : y.fd = a := by
 unfold entP at h
 split at h
 ·cases hg : g a with
  | none => rw [hg] at h; cases h
  | some p => rw [hg] at h; obtain rfl := Option.some.inj h; rfl
 ·cases h
theorem range_cut {n : Nat} (h : n < 96) : List.range 96 = List.range n ++ (n :: (List.range (95 - n)).map fun i => n + 1 + i) := by
 have e : 96 = n + (1 + (95 - n)) := by omega
 conv => lhs; rw [e]
 rw [List.range_add, List.range_add]; simp [Nat.add_assoc]
theorem refL_cut (g : Int → Option PxA) (w : WA) {n : Nat} (h : n < 96) : ∃ A B : List RiA, (∀ y ∈ A, y.fd < (n : Int)) ∧ (∀ y ∈ B, (n : Int) < y.fd) ∧ ∀ o : Option PxA, refL (updP g (n : Int) o) w = A ++ ((entP (updP g (n : Int) o) w (n : Int)).toList ++ B) := by
 refine ⟨(List.range n).filterMap fun m : Nat => entP g w (m : Int), ((List.range (95 - n)).map fun i => n + 1 + i).filterMap fun m : Nat => entP g w (m : Int), fun y hy => ?_, fun y hy => ?_, fun o => ?_⟩
 ·obtain ⟨m, hm, e⟩ := List.mem_filterMap.1 hy
  rw [ent_fd e]
  have := List.mem_range.1 hm
  omega
 ·obtain ⟨m, hm, e⟩ := List.mem_filterMap.1 hy
  rw [ent_fd e]
  obtain ⟨i, _, rfl⟩ := List.mem_map.1 hm
  omega
 ·have hne : ∀ m : Nat, m ≠ n → entP (updP g (n : Int) o) w (m : Int) = entP g w (m : Int) := fun m hm => by
   unfold entP livP; rw [updP_ne (by omega)]
  unfold refL; rw [range_cut h, List.filterMap_append, List.filterMap_cons]
  congr 1
  ·refine fm_congr fun m hm => hne m ?_
   have := List.mem_range.1 hm; omega
  ·have e2 : (List.map (fun i => n + 1 + i) (List.range (95 - n))).filterMap (fun m : Nat => entP (updP g (n : Int) o) w (m : Int)) = (List.map (fun i => n + 1 + i) (List.range (95 - n))).filterMap fun m : Nat => entP g w (m : Int) := fm_congr fun m hm => hne m (by
    obtain ⟨i, _, rfl⟩ := List.mem_map.1 hm; omega)
   rw [e2]
   cases entP (updP g (n : Int) o) w (n : Int) <;> rfl
theorem updP_self (g : Int → Option PxA) (a : Int) : updP g a (g a) = g := by
 funext b
 by_cases h : b = a
 ·subst h; rw [updP_eq]
 ·rw [updP_ne h]
theorem ent_new {g : Int → Option PxA} {w : WA} {a : Int} {p : PxA} (ha : (w.at a).isSome = true) (hp : p.wire = wireN (w.at a)) : entP (updP g a (some p)) w a = some (riP w a p) := by
 unfold entP livP; rw [updP_eq]; dsimp only; rw [if_pos (by rw [decide_eq_true_eq]; exact ⟨ha, hp.symm⟩)]; rfl
theorem ent_del (g : Int → Option PxA) (w : WA) (a : Int) : entP (updP g a none) w a = none := by
 unfold entP livP; rw [updP_eq]; rfl
theorem ins_new (g : Int → Option PxA) {w : WA} (hw : WOk w) {a : Int} {p : PxA} (ha : w.at a ≠ none) (hp : p.wire = wireN (w.at a)) : insR (riP w a p) false (refL g w) = refL (updP g a (some p)) w := by
 obtain ⟨q, hq⟩ := Option.ne_none_iff_exists'.1 ha
 obtain ⟨n0, k⟩ := q
 have hb := hw.at_lt hq
 obtain ⟨n, rfl⟩ : ∃ n : Nat, a = (n : Int) := ⟨a.toNat, by omega⟩
 obtain ⟨A, B, hA, hB, he⟩ := refL_cut g w (n := n) (by omega)
 rw [he (some p), ent_new (by rw [hq]; rfl) hp]
 conv => lhs; rw [← updP_self g (n : Int)]
 rw [he (g (n : Int)), updP_self, insR_lt hA]
 congr 1
 cases hx : entP g w (n : Int) with
 | none => exact insR_gt0 hB
 | some y =>
  have hy := ent_fd hx
  show (if false = false ∧ (n : Int) ≤ y.fd then [riP w (n : Int) p] else []) ++ ((if y.fd ≠ (n : Int) then [y] else []) ++ insR (riP w (n : Int) p) (false || decide ((n : Int) ≤ y.fd)) ([] ++ B)) = _
  rw [if_pos ⟨rfl, by omega⟩, if_neg (by omega), decide_eq_true (by omega : (n : Int) ≤ y.fd), Bool.or_true, List.nil_append, List.nil_append, insR_gt hB]
  rfl
theorem ins_del (g : Int → Option PxA) {w : WA} (hw : WOk w) {a : Int} {x : RiA} (hx : x.fd = a) (ha : w.at a ≠ none) : insR x true (refL g w) = refL (updP g a none) w := by
 obtain ⟨q, hq⟩ := Option.ne_none_iff_exists'.1 ha
 obtain ⟨n0, k⟩ := q
 have hb := hw.at_lt hq
 obtain ⟨n, rfl⟩ : ∃ n : Nat, a = (n : Int) := ⟨a.toNat, by omega⟩
 obtain ⟨A, B, hA, hB, he⟩ := refL_cut g w (n := n) (by omega)
 rw [he none, ent_del]
 conv => lhs; rw [← updP_self g (n : Int)]
 rw [he (g (n : Int)), updP_self, insR_lt (by rw [hx]; exact hA)]
 congr 1
 cases hy : entP g w (n : Int) with
 | none => exact insR_gt (by rw [hx]; exact hB)
 | some y =>
  have hy := ent_fd hy
  show (if true = false ∧ x.fd ≤ y.fd then [x] else []) ++ ((if y.fd ≠ x.fd then [y] else []) ++ insR x (true || decide (x.fd ≤ y.fd)) ([] ++ B)) = _
  rw [if_neg (by simp), if_neg (by omega), Bool.true_or, List.nil_append, List.nil_append, List.nil_append, insR_gt (by rw [hx]; exact hB)]
  rfl
end Ep
end Go.Proofs.YtbfddabjbkohdaaGreat
namespace Go.Proofs.YtbfddabjbkohdaaGreat
set_option maxHeartbeats 2000000
open Go.RX.Hd (yv y2 n1 fk sk sr tH callE heldK onlyH endH thenN slots)
open Go.RX Fx
namespace Rf
open Wo
set_option maxRecDepth 8000
structure RwI where
 a : Nat → Option Addr
 c : Nat → Nat
 wa : Option Addr
 wc : Nat
abbrev Row := WireA × RwI
abbrev encRE (x : EndA) (a : Option Addr) (c : Nat) : List Value := [.int .i64 x.what, .int .i64 x.fd, .bool x.rd, .bool x.wr, .slice a x.b.length c, .bool x.shut, .int .u64 x.inn, .int .u64 x.out]
abbrev encRW (p : Row) : List Value := encRE (p.1.e 0) (p.2.a 0) (p.2.c 0) ++ (encRE (p.1.e 1) (p.2.a 1) (p.2.c 1) ++ [.int .i64 (p.1.cap : Int), .bool p.1.rs, .int .i64 p.1.bl, .slice p.2.wa p.1.wt.length p.2.wc])
theorem encRW_len (p : Row) : (encRW p).length = 20 := rfl
theorem encRW_one (p : Row) : ∀ u ∈ encRW p, u.oneCell' = true := by simp [Value.oneCell']
abbrev SdB (p : Row) (k : Nat) : SP := own 5 1 (p.2.a k) (p.1.e k).b.length (p.2.c k) (bsl (p.1.e k).b)
abbrev SdW (p : Row) : SP := own 3 1 p.2.wa p.1.wt.length p.2.wc (nats p.1.wt)
abbrev SdL (p : Row) (k : Nat) (L : List SP) : List SP := SdB p k :: SdB p (1 - k) :: SdW p :: L
def Sd (p : Row) : SP := RX.ex fun k : Nat => pu (k < 2) :: SdL p k []
theorem Hd.sd {E : World} {n : Nat} {ds : List Deferred} {st : List (Nat × Value)} {L L' : List SP} {K : Act → World → Prop} {p : Row} (q : Pick L (Sd p) L') (k : Nat) (hk : k < 2) (h : Hd E n ds st (SdL p k L') K) : Hd E n ds st L K :=
 Hd.exs (f := fun k : Nat => pu (k < 2) :: SdL p k []) q fun j => Hd.pure fun hj => by
  by_cases e : j = k
  ·subst e; exact h
  ·obtain rfl : j = 1 - k := by omega
   refine Hd.heap (SdL p k L') (fun q s => ?_) h
   have e2 : 1 - (1 - k) = k := by omega
   have s' : sep (SdL p (1 - k) L') q := s
   unfold SdL at s'; rw [e2] at s'; exact Ent.sep enn q s'
theorem sd_fold {p : Row} {k : Nat} (hk : k < 2) {L : List SP} : ∀ h, sep (SdL p k L) h → sep (Sd p :: L) h := fun h s => Ent.sep (.ex k (.pure hk enn)) h s
theorem sd_same {p p' : Row} (hb : ∀ k, k < 2 → (p'.1.e k).b = (p.1.e k).b) (hw : p'.1.wt = p.1.wt) (hi : p'.2 = p.2) : Sd p' = Sd p := by
 have h : ∀ k, k < 2 → SdL p' k [] = SdL p k [] := fun k hk => by
  unfold SdL SdB SdW; rw [hb k hk, hb (1 - k) (by omega), hw, hi]
 unfold Sd
 funext q
 refine propext ⟨?_, ?_⟩
 ·rintro ⟨k, s⟩
  have hk : k < 2 := by obtain ⟨_, _, _, _, _, hf, _⟩ := s; exact hf
  exact ⟨k, by show sep (pu (k < 2) :: SdL p k []) q; rw [← h k hk]; exact s⟩
 ·rintro ⟨k, s⟩
  have hk : k < 2 := by obtain ⟨_, _, _, _, _, hf, _⟩ := s; exact hf
  exact ⟨k, by show sep (pu (k < 2) :: SdL p' k []) q; rw [h k hk]; exact s⟩
abbrev ntV : Option (Nat × Nat) → List Value
 | none => [.int .i64 (-1), .int .i64 0]
 | some (n, k) => [.int .i64 (n : Int), .int .i64 (k : Int)]
abbrev RwC (w : WA) (n : Nat) (ad : Option Addr) (c : Nat) : List Value := [.slice ad n c, .int .u64 w.now] ++ (w.hd.map .bool ++ (w.ct.map (Value.int .i64) ++ ntV w.nt))
abbrev RwH (b : Nat) (w : WA) (n : Nat) (ad : Option Addr) (c : Nat) : SP := pt b (RwC w n ad c) 133
abbrev Rows_ := List Row × Option Addr × Nat
abbrev OwR (i : Rows_) : SP := own 221 20 i.2.1 i.1.length i.2.2 (i.1.flatMap encRW)
abbrev RwL (b : Nat) (w : WA) (i : Rows_) (L : List SP) : List SP := RwH b w i.1.length i.2.1 i.2.2 :: OwR i :: Bag Sd i.1 :: L
def RwP (b : Nat) (w : WA) : SP := RX.ex fun i : Rows_ => pu (i.1.map Prod.fst = w.ws) :: RwL b w i []
theorem Hd.rw {E : World} {n : Nat} {ds : List Deferred} {st : List (Nat × Value)} {L L' : List SP} {K : Act → World → Prop} {b : Nat} {w : WA} (p : Pick L (RwP b w) L') (h : ∀ i : Rows_, i.1.map Prod.fst = w.ws → Hd E n ds st (RwL b w i L') K) : Hd E n ds st L K :=
 Hd.exs (f := fun i : Rows_ => pu (i.1.map Prod.fst = w.ws) :: RwL b w i []) p fun i => Hd.pure fun hr => h i hr
theorem rw_fold {b : Nat} {w : WA} {i : Rows_} {L : List SP} (h : i.1.map Prod.fst = w.ws) : ∀ k, sep (RwL b w i L) k → sep (RwP b w :: L) k := fun k s => Ent.sep (.ex i (.pure h enn)) k s
theorem row_at {w : WA} {i : Rows_} (h : i.1.map Prod.fst = w.ws) {n : Nat} {x : WireA} (hn : w.ws[n]? = some x) : ∃ j, i.1[n]? = some (x, j) := by
 rw [← h, List.getElem?_map] at hn
 cases hr : i.1[n]? with
 | none => rw [hr] at hn; cases hn
 | some p => rw [hr] at hn; obtain ⟨y, j⟩ := p; obtain rfl := Option.some.inj hn; exact ⟨j, rfl⟩
theorem rows_n {w : WA} {i : Rows_} (h : i.1.map Prod.fst = w.ws) : i.1.length = w.ws.length := by rw [← h, List.length_map]
theorem rcell {rs : List Row} {n k j o : Nat} {x : WireA} {i : RwI} {v : Value} (h : rs[n]? = some (x, i)) (hk : k < 2) (hj : j < 8) (ho : o = n * 20 + k * 8 + j) (hv : (encRE (x.e k) (i.a k) (i.c k))[j]? = some v) : (rs.flatMap encRW)[o]? = some v := by
 subst ho; rw [Nat.add_assoc]; refine flat_cells encRW 20 encRW_len h (k * 8 + j) v ?_
 rcases (show k = 0 ∨ k = 1 by omega) with rfl | rfl
 ·rw [show 0 * 8 + j = j by omega, List.getElem?_append_left (by simp; omega)]; exact hv
 ·rw [List.getElem?_append_right (by simp), List.getElem?_append_left (by simp; omega)]
  simpa using hv
theorem rcellW {rs : List Row} {n j o : Nat} {x : WireA} {i : RwI} {v : Value} (h : rs[n]? = some (x, i)) (ho : o = n * 20 + j) (hv : (encRW (x, i))[j]? = some v) : (rs.flatMap encRW)[o]? = some v := by
 subst ho; exact flat_cells encRW 20 encRW_len h j v hv
theorem rset {rs : List Row} {n k j o : Nat} {x x' : WireA} {i i' : RwI} {v : Value} (h : rs[n]? = some (x, i)) (hk : k < 2) (hj : j < 8) (ho : o = n * 20 + k * 8 + j) (he : (encRE (x.e k) (i.a k) (i.c k)).set j v = encRE (x'.e k) (i'.a k) (i'.c k))
  (h1 : encRE (x.e (1 - k)) (i.a (1 - k)) (i.c (1 - k)) = encRE (x'.e (1 - k)) (i'.a (1 - k)) (i'.c (1 - k))) (h2 : (encRW (x, i)).drop 16 = (encRW (x', i')).drop 16) : (rs.flatMap encRW).set o v = (rs.set n (x', i')).flatMap encRW := by
 subst ho; refine rows_set (j := k * 8 + j) encRW_len (by omega) ?_ h (by omega)
 have h3 : ([.int .i64 (x.cap : Int), .bool x.rs, .int .i64 x.bl, .slice i.wa x.wt.length i.wc] : List Value) = [.int .i64 (x'.cap : Int), .bool x'.rs, .int .i64 x'.bl, .slice i'.wa x'.wt.length i'.wc] := h2
 rcases (show k = 0 ∨ k = 1 by omega) with rfl | rfl
 ·rw [show 0 * 8 + j = j by omega]
  show (encRE (x.e 0) (i.a 0) (i.c 0) ++ _).set j v = _
  rw [List.set_append_left _ _ (by simp; omega), he]
  show _ ++ (encRE (x.e 1) (i.a 1) (i.c 1) ++ _) = _ ++ (_ ++ _)
  rw [h1, h3]
 ·show (encRE (x.e 0) (i.a 0) (i.c 0) ++ (encRE (x.e 1) (i.a 1) (i.c 1) ++ _)).set (1 * 8 + j) v = _
  rw [List.set_append_right _ _ (by simp), List.set_append_left _ _ (by simp; omega)]; rw [show 1 * 8 + j - (encRE (x.e 0) (i.a 0) (i.c 0)).length = j by simp, he, h3]
  have h1' : encRE (x.e 0) (i.a 0) (i.c 0) = encRE (x'.e 0) (i'.a 0) (i'.c 0) := h1
  rw [h1']
section
variable {E : World} {n : Nat} {ds : List Deferred} {st : List (Nat × Value)} {L L' : List SP} {P : Program} {d : Nat} {ty t : TypeId} {pos : String} {af : Array Edge} {g : Option (Nat × Bool)} {op : Operand} {v : Value}
theorem y_rc {e m c q k o : Nat} {ad : Option Addr} {rs : List Row} {x : WireA} {i : RwI} (ha : agk P t = some false) (hx : evo st op = some (.pointer (some ((adr ad).add o)))) (hr : rs[q]? = some (x, i)) (hk : k < 2) (j : Nat) (hv : (encRE (x.e k) (i.a k) (i.c k))[j]? = some v)
  (p : Pick L (own e 20 ad m c (rs.flatMap encRW)) L' := by repeat (first | with_reducible exact Pick.here | apply Pick.there | with_reducible apply Pick.right)) (ho : o = q * 20 + k * 8 + j := by omega) (hj : j < 8 := by decide) : Yv E n ds st L P ⟨some d, .load t op, ty, pos, af, g⟩ v :=
 y_loadR1 ha hx (RdS.own p) (rcell hr hk hj ho hv)
theorem y_rw {e m c q o : Nat} {ad : Option Addr} {rs : List Row} {x : WireA} {i : RwI} (ha : agk P t = some false) (hx : evo st op = some (.pointer (some ((adr ad).add o)))) (hr : rs[q]? = some (x, i)) (j : Nat) (hv : (encRW (x, i))[j]? = some v)
  (p : Pick L (own e 20 ad m c (rs.flatMap encRW)) L' := by repeat (first | with_reducible exact Pick.here | apply Pick.there | with_reducible apply Pick.right)) (ho : o = q * 20 + j := by omega) : Yv E n ds st L P ⟨some d, .load t op, ty, pos, af, g⟩ v :=
 y_loadR1 ha hx (RdS.own p) (rcellW hr ho hv)
end
end Rf
end Go.Proofs.YtbfddabjbkohdaaGreat
