/-
  Epoll: what rose; what is reported.
-/
import Derived.Test.YtbfddabjbkohdaaGreatZKquPlaysG
set_option linter.unusedSimpArgs false
set_option linter.unusedVariables false
set_option linter.unnecessarySimpa false
set_option maxRecDepth 8000
set_option maxHeartbeats 2000000
open Go.RX.Hd (yv y2 n1 fk sk sr tH callE heldK qo qk qn qt qz qv endH thenN slots)
namespace Go.Proofs.YtbfddabjbkohdaaGreat
open Go.RX Fx
namespace Ep
open Wo
def rs1 (x : IxA) (r : RdyA) : Int := if r.r > x.reads then bits .or .i64 x.armed 1 else x.armed
def rsE (x : IxA) (r : RdyA) : Int := if r.w > x.writes then bits .or .i64 (rs1 x r) 4 else rs1 x r
def edgE (x : IxA) : Bool := decide (bits .and .i64 x.events 32 ≠ 0)
def endE (x : IxA) (r : RdyA) : Bool := edgE x && (r.h || r.e)
def nw0 (x : IxA) (r : RdyA) : Int := if (r.i || endE x r) = true then bits .or .i64 0 1 else 0
def nw1 (x : IxA) (r : RdyA) : Int := if (r.o || endE x r) = true then bits .or .i64 (nw0 x r) 4 else nw0 x r
def nw2 (x : IxA) (r : RdyA) : Int := bits .and .i64 (nw1 x r) x.events
def nw3 (x : IxA) (r : RdyA) : Int := if edgE x = true then bits .and .i64 (nw2 x r) (rsE x r) else nw2 x r
def nw4 (x : IxA) (r : RdyA) : Int := if r.h = true then bits .or .i64 (nw3 x r) 16 else nw3 x r
def nw5 (x : IxA) (r : RdyA) : Int := if r.e = true then bits .or .i64 (nw4 x r) 8 else nw4 x r
def nwE (x : IxA) (r : RdyA) : Int := if edgE x = true ∧ nw3 x r = 0 then 0 else nw5 x r
end Ep
end Go.Proofs.YtbfddabjbkohdaaGreat
namespace Go.Proofs.YtbfddabjbkohdaaGreat
open Go.RX Fx
namespace Wo
end Wo
namespace Ep
open Wo
theorem sorted_ext : ∀ {a b : List Int}, a.Pairwise (· < ·) → b.Pairwise (· < ·) → (∀ x, x ∈ a ↔ x ∈ b) → a = b
 | [], [], _, _, _ => rfl
 | [], y :: b, _, _, h => absurd ((h y).2 List.mem_cons_self) (by simp)
 | x :: a, [], _, _, h => absurd ((h x).1 List.mem_cons_self) (by simp)
 | x :: a, y :: b, ha, hb, h => by
  rw [List.pairwise_cons] at ha hb
  have hxy : x = y := by
   rcases List.mem_cons.1 ((h x).1 List.mem_cons_self) with e | e
   ·exact e
   ·rcases List.mem_cons.1 ((h y).2 List.mem_cons_self) with e2 | e2
    ·exact e2.symm
    ·have h1 := hb.1 x e
     have h2 := ha.1 y e2
     omega
  subst hxy
  congr 1
  refine sorted_ext ha.2 hb.2 fun z => ?_
  have := h z
  simp only [List.mem_cons] at this
  constructor
  ·intro hz
   rcases this.1 (.inr hz) with rfl | e
   ·have := ha.1 z hz; omega
   ·exact e
  ·intro hz
   rcases this.2 (.inr hz) with rfl | e
   ·have := hb.1 z hz; omega
   ·exact e
def allL (f : Int → Option IxA) (w : WA) : List Int := ((List.range 96).filter fun n : Nat => qE f w (n : Int)).map fun n : Nat => (n : Int)
theorem findE_at {f : Int → Option IxA} {w : WA} {a : Int} (h : qE f w a = true) : ∃ x n k, f a = some x ∧ w.at a = some (n, k) ∧ x.wire = (n : Int) ∧ findE f w a = some x := by
 unfold qE at h
 have h1 := h
 unfold findE at h1
 cases hf : f a with
 | none => rw [hf] at h1; simp at h1
 | some x =>
  rw [hf] at h1; dsimp only at h1
  split at h1
  ·rename_i hc
   cases ha : w.at a with
   | none => rw [ha] at hc; simp at hc
   | some p =>
    obtain ⟨n, k⟩ := p
    rw [ha] at hc; refine ⟨x, n, k, rfl, rfl, hc.2.symm, ?_⟩; unfold findE; rw [hf]; exact if_pos (by rw [ha]; exact hc)
  ·simp at h1
theorem mem_allL {f : Int → Option IxA} {w : WA} (hw : WOk w) {a : Int} : a ∈ allL f w ↔ qE f w a = true := by
 unfold allL; rw [List.mem_map]
 constructor
 ·rintro ⟨n, hn, rfl⟩
  exact (List.mem_filter.1 hn).2
 ·intro h
  obtain ⟨x, n, k, _, ha, _, _⟩ := findE_at h
  have := hw.at_lt ha
  have e : ((a.toNat : Nat) : Int) = a := by omega
  exact ⟨a.toNat, List.mem_filter.2 ⟨List.mem_range.2 (by omega), by rw [e]; exact h⟩, e⟩
theorem allL_srt (f : Int → Option IxA) (w : WA) : (allL f w).Pairwise (· < ·) := by
 unfold allL; rw [List.pairwise_map]; exact (List.pairwise_lt_range.filter _).imp fun {a b} h => by omega
theorem AllE.eq {f : Int → Option IxA} {m : Nat} {w : WA} {ks : List Int} (hw : WOk w) (h : AllE f m w ks) : ks = allL f w :=
 sorted_ext h.srt (allL_srt f w) fun a => by rw [h.mem, mem_allL hw]
def nwF (f : Int → Option IxA) (w : WA) (fd : Int) : Int := nwE ((f fd).getD zIx) (readyR w fd)
def dueT (f : Int → Option IxA) (w : WA) (l : List Int) : List (Int × Int) := l.filterMap fun fd => if nwF f w fd = 0 then none else some (fd, nwF f w fd)
end Ep
end Go.Proofs.YtbfddabjbkohdaaGreat
namespace Go.Proofs.YtbfddabjbkohdaaGreat
open Go.RX Fx
namespace Ep
open Wo
theorem fdErr_no {o : Option (Nat × Nat)} : fdErr o ≠ 0 ↔ o = none := by cases o <;> simp [fdErr]
def offX (y : IxA) (r : RdyA) (ev : Int) : IxA := { y with armed := bits .andNot .i64 (rsE y r) ev, reads := r.r, writes := r.w }
theorem swp_perm {α : Type} (xs : List α) (i k : Nat) : (Sh.swp xs i k).Perm xs := by
 unfold Sh.swp
 split
 ·rename_i a b ha hb
  obtain ⟨h1, rfl⟩ := List.getElem?_eq_some_iff.1 ha
  obtain ⟨h2, rfl⟩ := List.getElem?_eq_some_iff.1 hb
  exact List.set_set_perm h1 h2
 ·exact List.Perm.refl _
theorem shuf_perm {α : Type} (ord : List Int) (xs : List α) : ∀ i, (Sh.shufTo ord xs i).Perm xs
 | 0 => List.Perm.refl _
 | i + 1 => by
  show (if ord = [] then Sh.shufTo ord xs i else Sh.swp (Sh.shufTo ord xs i) i (Sh.place ord xs.length i)).Perm xs
  split
  ·exact shuf_perm ord xs i
  ·exact (swp_perm _ _ _).trans (shuf_perm ord xs i)
end Ep
end Go.Proofs.YtbfddabjbkohdaaGreat
namespace Go.Proofs.YtbfddabjbkohdaaGreat
open Go.RX Fx
namespace Kq
open Wo
theorem updK_eq (f : Ky → Option KnA) (a : Ky) (o : Option KnA) : updK f a o a = o := if_pos rfl
theorem updK_ne {f : Ky → Option KnA} {a b : Ky} {o : Option KnA} (h : b ≠ a) : updK f a o b = f b := if_neg h
theorem updK_updK (f : Ky → Option KnA) (a : Ky) (o o' : Option KnA) : updK (updK f a o) a o' = updK f a o' := by
 funext b
 by_cases h : b = a
 ·subst h; rw [updK_eq, updK_eq]
 ·rw [updK_ne h, updK_ne h, updK_ne h]
abbrev keyN (y : NoA) : Ky := (y.1, y.2.1)
def oneF (f : Ky → Option KnA) (a : Ky) : Bool := decide (bits .and .i64 ((f a).getD zKn).flags 32 ≠ 0)
theorem off1_eq (w : WA) (f : Ky → Option KnA) (x : NoA) : off1 w f x = updK f (keyN x) (if oneF f (keyN x) = true then none else some (offX w ((f (keyN x)).getD zKn) (keyN x))) := by
 unfold off1 oneF
 by_cases h : bits .and .i64 (oldK f x).flags 32 ≠ 0
 ·rw [if_pos h, updK_updK, if_pos (by simpa using h)]
 ·rw [if_neg h, if_neg (by simpa using h)]
def flK (d c o : Bool) : Int := (if d = true then 8 else 0) + (if c = true then 16 else 0) + (if o = true then 32 else 0)
theorem fl_32 : ∀ d c o, decide (bits .and .i64 (flK d c o) 32 ≠ 0) = o := by decide
theorem fl_16 : ∀ d c o, decide (bits .and .i64 (flK d c o) 16 ≠ 0) = c := by decide
theorem fl_8 : ∀ d c o, decide (bits .and .i64 (flK d c o) 8 ≠ 0) = d := by decide
theorem land127 (v : BitVec 64) : (v &&& 127#64).toNat ≤ 127 := by rw [BitVec.toNat_and]; exact Nat.and_le_right
theorem lt128 {x : Int} (hx : InK .i64 x) (h : bits .andNot .i64 x 127 = 0) : ∃ k : Nat, x = (k : Int) ∧ k < 128 := by
 rw [bits_andNot_zero] at h
 have e : bv x = bv x &&& bv 127 := by
  apply BitVec.eq_of_getLsbD_eq; intro i hi
  have := congrArg (fun v => BitVec.getLsbD v i) h
  simp only [BitVec.getLsbD_and, BitVec.getLsbD_not, hi, decide_true, Bool.true_and, BitVec.getLsbD_zero] at this; rw [BitVec.getLsbD_and]
  cases h1 : (bv x).getLsbD i <;> cases h2 : (bv 127).getLsbD i <;> simp_all
 have h1 : (bv x).toNat ≤ 127 := by rw [e]; exact land127 _
 simp only [InK] at hx; unfold bv at h1; rw [BitVec.toNat_ofInt] at h1; exact ⟨x.toNat, by omega, by omega⟩
theorem dueK_mem {f : Ky → Option KnA} {w : WA} {y : NoA} (h : y ∈ dueK f w) : isK f w (keyN y) = true ∧ (toldK f w (keyN y)).2 = true ∧ y = (toldK f w (keyN y)).1 := by
 have h0 := due_key h
 obtain ⟨a, ha, hx⟩ := List.mem_filterMap.1 (show y ∈ dueT f w (allK f w) from h)
 split at hx
 ·rename_i h2
  simp only [Option.some.injEq] at hx
  have hk := told_key f w a
  have e : keyN y = a := by rw [← hx]; exact Prod.ext hk.1 hk.2
  rw [e]; exact ⟨e ▸ h0, h2, hx.symm⟩
 ·cases hx
theorem dueK_keys (f : Ky → Option KnA) (w : WA) (l : List Ky) : (dueT f w l).map keyN = l.filter fun a => (toldK f w a).2 := by
 unfold dueT
 induction l with
 | nil => rfl
 | cons a t ih =>
  rw [List.filterMap_cons, List.filter_cons]
  have hk := told_key f w a
  cases h : (toldK f w a).2 with
  | false => rw [if_neg (by simp)]; simpa using ih
  | true =>
   rw [if_pos rfl, List.map_cons, ih, if_pos rfl]
   congr 1
   exact Prod.ext hk.1 hk.2
theorem allK_nd (f : Ky → Option KnA) (w : WA) : (allK f w).Nodup := (grid_srt.sublist List.filter_sublist).imp fun {a b} h e => by subst e; unfold ltK at h; omega
theorem dueK_nd (f : Ky → Option KnA) (w : WA) : ((dueK f w).map keyN).Nodup := by rw [dueK_keys]; exact (allK_nd f w).filter _
end Kq
end Go.Proofs.YtbfddabjbkohdaaGreat
namespace Go.Proofs.YtbfddabjbkohdaaGreat
open Go.RX Fx
namespace Ep
open Wo
def b2 (b : Bool) (k : Int) : Int := if b = true then k else 0
abbrev evA (i o e : Bool) : Int := b2 i 1 + b2 o 4 + b2 e 32
structure PxA where
 wire : Int
 i : Bool
 o : Bool
 e : Bool
 a : Bool
 b : Bool
 reads : Int
 writes : Int
def PxA.ra (x : PxA) (r : RdyA) : Bool := x.a || decide (r.r > x.reads)
def PxA.rb (x : PxA) (r : RdyA) : Bool := x.b || decide (r.w > x.writes)
def PxA.end (x : PxA) (r : RdyA) : Bool := x.e && (r.h || r.e)
def PxA.p (x : PxA) (r : RdyA) : Bool := x.i && (r.i || x.end r) && (!x.e || x.ra r)
def PxA.q (x : PxA) (r : RdyA) : Bool := x.o && (r.o || x.end r) && (!x.e || x.rb r)
def PxA.now (x : PxA) (r : RdyA) : Int := if x.e = true ∧ x.p r = false ∧ x.q r = false then 0 else b2 (x.p r) 1 + b2 (x.q r) 4 + b2 r.h 16 + b2 r.e 8
def PxA.off (x : PxA) (r : RdyA) (p q : Bool) : PxA := { x with a := x.ra r && !p, b := x.rb r && !q, reads := r.r, writes := r.w }
end Ep
end Go.Proofs.YtbfddabjbkohdaaGreat
namespace Go.Proofs.YtbfddabjbkohdaaGreat
open Go.RX Fx
namespace Wo
structure Ov where
 k : Int
 a : Int
 n : Int
 t : Int
 ad : Option Addr
 c : Nat
 d : List UInt8
def mkKW (k n : Int) : WireA := if k = 0 then pipeW n.toNat else if k = 1 then halfW n.toNat 2 else if k = 2 then connW n.toNat else listW n.toNat
def mkKE (k : Int) : Nat := if k = 0 ∨ k = 1 then 2 else 1
def makeR (w : WA) (k n : Int) : WA := if n < 1 ∨ 65536 < n ∨ (k = 3 ∧ 64 < n) then w else mkW w (mkKE k) (mkKW k n)
theorem mkKW_z (k n : Int) : ∀ j, j < 2 → ((mkKW k n).e j).inn = 0 ∧ ((mkKW k n).e j).out = 0 := fun j hj => by
 unfold mkKW
 rcases (show j = 0 ∨ j = 1 by omega) with rfl | rfl
 ·split
  ·exact ⟨rfl, rfl⟩
  ·split
   ·exact ⟨rfl, rfl⟩
   ·split <;> exact ⟨rfl, rfl⟩
 ·split
  ·exact ⟨rfl, rfl⟩
  ·split
   ·exact ⟨rfl, rfl⟩
   ·split <;> exact ⟨rfl, rfl⟩
theorem mkKW_new {k n : Int} {l : Nat} (hb : ¬ (n < 1 ∨ 65536 < n ∨ (k = 3 ∧ 64 < n))) (hk : 0 ≤ k ∧ k ≤ 3) : NewW (mkKW k n) l := by
 unfold mkKW
 split
 ·exact pipe_new (by omega)
 ·split
  ·exact half_new (by omega)
  ·split
   ·exact conn_new (by omega)
   ·exact list_new (by omega)
theorem mkKE_le (k : Int) : mkKE k ≤ 2 := by unfold mkKE; split <;> omega
theorem make_stp (w : WA) (k n : Int) (hk : 0 ≤ k ∧ k ≤ 3) : Stp 1 w (makeR w k n) := by
 unfold makeR
 split
 ·exact Stp.same w
 ·rename_i hb
  have hno := (mkKW_new (l := w.ws.length) hb hk).no 1 (by omega)
  unfold mkW
  split
  ·refine (stp_add w (fun j hj => ?_) (fun e => ?_)).mono (Nat.zero_le _)
   ·have h := mkKW_z k n j hj
    rw [open_e]
    split
    ·exact h
    ·exact h
   ·rw [open_e] at e ⊢
    by_cases h1 : 1 < mkKE k
    ·rw [if_pos (by omega)]; show (1 : Int) ≠ 0; decide
    ·rw [if_neg h1] at e; exact absurd e hno
  ·exact Stp.same w
def doA (w : WA) (o : Ov) : WA :=
 if 0 ≤ o.k ∧ o.k ≤ 3 then makeR w o.k o.n
 else if o.k = 4 then (accR w o.a).2
 else if o.k = 5 then (readR w o.a o.n).2
 else if o.k = 6 then (writeR w o.a o.d).2
 else if o.k = 7 then (shutR w o.a).2
 else if o.k = 8 then (closeF w o.a).2
 else if o.k = 9 then (putR w o.a o.d).2
 else if o.k = 10 then (takR w o.a o.n).2
 else if o.k = 11 then (pshutR w o.a).2
 else if o.k = 12 then (pcloseR w o.a).2
 else if o.k = 13 then (resetR w o.a).2
 else if o.k = 14 then (connR w o.a o.n).2
 else if o.k = 15 then passR w o.t
 else if o.k = 16 then (hanR w o.a (decide (o.n > 0))).2
 else if o.k = 17 then (raiR w o.a).2
 else if o.k = 18 then (sigR w).2
 else if o.k = 19 then (notR w o.a o.n).2
 else w
theorem ite_stp {j : Nat} {c : Prop} [Decidable c] {w a b : WA} (h1 : c → Stp j w a) (h2 : ¬ c → Stp j w b) : Stp j w (if c then a else b) := by
 by_cases h : c
 ·rw [if_pos h]; exact h1 h
 ·rw [if_neg h]; exact h2 h
theorem do_stp {w : WA} (h : WOk w) (o : Ov) (ht : 0 ≤ o.t) : Stp 100 w (doA w o) := by
 unfold doA; refine ite_stp (fun hk => (make_stp w o.k o.n hk).mono (by decide)) fun _ => ?_
 refine ite_stp (fun _ => (acc_ok h o.a).2.mono (by decide)) fun _ => ?_
 refine ite_stp (fun _ => (read_stp h o.a o.n).mono (by decide)) fun _ => ?_
 refine ite_stp (fun _ => (write_stp h o.a o.d).mono (by decide)) fun _ => ?_
 refine ite_stp (fun _ => (shut_stp h o.a).mono (by decide)) fun _ => ?_
 refine ite_stp (fun _ => (closeF_ok h o.a).2.2.mono (by decide)) fun _ => ?_
 refine ite_stp (fun _ => (put_stp h o.a o.d).mono (by decide)) fun _ => ?_
 refine ite_stp (fun _ => (tak_stp h o.a o.n).mono (by decide)) fun _ => ?_
 refine ite_stp (fun _ => (pshut_stp h o.a).mono (by decide)) fun _ => ?_
 refine ite_stp (fun _ => (pclose_stp h o.a).mono (by decide)) fun _ => ?_
 refine ite_stp (fun _ => (reset_stp h o.a).mono (by decide)) fun _ => ?_
 refine ite_stp (fun _ => (conn_ok h o.a o.n).2.2.mono (by decide)) fun _ => ?_
 refine ite_stp (fun _ => (pass_ok h o.t ht).2.mono (by decide)) fun _ => ?_
 refine ite_stp (fun _ => (han_ok h o.a _).2.mono (by decide)) fun _ => ?_
 refine ite_stp (fun _ => (rai_ok h o.a).2.mono (by decide)) fun _ => ?_
 refine ite_stp (fun _ => (sig_ok h).2.mono (by decide)) fun _ => ?_
 refine ite_stp (fun _ => (not_ok h o.a o.n).2.mono (by decide)) fun _ => ?_
 exact Stp.same w
theorem do_mk {w : WA} {o : Ov} (h : 0 ≤ o.k ∧ o.k ≤ 3) : doA w o = makeR w o.k o.n := if_pos h
theorem do_4 {w : WA} {o : Ov} (h : o.k = 4) : doA w o = (accR w o.a).2 := by
 obtain ⟨k, a, n, t, ad, c, d⟩ := o
 obtain rfl : k = 4 := h
 rfl
theorem do_5 {w : WA} {o : Ov} (h : o.k = 5) : doA w o = (readR w o.a o.n).2 := by
 obtain ⟨k, a, n, t, ad, c, d⟩ := o
 obtain rfl : k = 5 := h
 rfl
theorem do_6 {w : WA} {o : Ov} (h : o.k = 6) : doA w o = (writeR w o.a o.d).2 := by
 obtain ⟨k, a, n, t, ad, c, d⟩ := o
 obtain rfl : k = 6 := h
 rfl
theorem do_7 {w : WA} {o : Ov} (h : o.k = 7) : doA w o = (shutR w o.a).2 := by
 obtain ⟨k, a, n, t, ad, c, d⟩ := o
 obtain rfl : k = 7 := h
 rfl
theorem do_8 {w : WA} {o : Ov} (h : o.k = 8) : doA w o = (closeF w o.a).2 := by
 obtain ⟨k, a, n, t, ad, c, d⟩ := o
 obtain rfl : k = 8 := h
 rfl
theorem do_9 {w : WA} {o : Ov} (h : o.k = 9) : doA w o = (putR w o.a o.d).2 := by
 obtain ⟨k, a, n, t, ad, c, d⟩ := o
 obtain rfl : k = 9 := h
 rfl
theorem do_10 {w : WA} {o : Ov} (h : o.k = 10) : doA w o = (takR w o.a o.n).2 := by
 obtain ⟨k, a, n, t, ad, c, d⟩ := o
 obtain rfl : k = 10 := h
 rfl
theorem do_11 {w : WA} {o : Ov} (h : o.k = 11) : doA w o = (pshutR w o.a).2 := by
 obtain ⟨k, a, n, t, ad, c, d⟩ := o
 obtain rfl : k = 11 := h
 rfl
theorem do_12 {w : WA} {o : Ov} (h : o.k = 12) : doA w o = (pcloseR w o.a).2 := by
 obtain ⟨k, a, n, t, ad, c, d⟩ := o
 obtain rfl : k = 12 := h
 rfl
theorem do_13 {w : WA} {o : Ov} (h : o.k = 13) : doA w o = (resetR w o.a).2 := by
 obtain ⟨k, a, n, t, ad, c, d⟩ := o
 obtain rfl : k = 13 := h
 rfl
theorem do_14 {w : WA} {o : Ov} (h : o.k = 14) : doA w o = (connR w o.a o.n).2 := by
 obtain ⟨k, a, n, t, ad, c, d⟩ := o
 obtain rfl : k = 14 := h
 rfl
theorem do_15 {w : WA} {o : Ov} (h : o.k = 15) : doA w o = passR w o.t := by
 obtain ⟨k, a, n, t, ad, c, d⟩ := o
 obtain rfl : k = 15 := h
 rfl
theorem do_16 {w : WA} {o : Ov} (h : o.k = 16) : doA w o = (hanR w o.a (decide (o.n > 0))).2 := by
 obtain ⟨k, a, n, t, ad, c, d⟩ := o
 obtain rfl : k = 16 := h
 rfl
theorem do_17 {w : WA} {o : Ov} (h : o.k = 17) : doA w o = (raiR w o.a).2 := by
 obtain ⟨k, a, n, t, ad, c, d⟩ := o
 obtain rfl : k = 17 := h
 rfl
theorem do_18 {w : WA} {o : Ov} (h : o.k = 18) : doA w o = (sigR w).2 := by
 obtain ⟨k, a, n, t, ad, c, d⟩ := o
 obtain rfl : k = 18 := h
 rfl
theorem do_19 {w : WA} {o : Ov} (h : o.k = 19) : doA w o = (notR w o.a o.n).2 := by
 obtain ⟨k, a, n, t, ad, c, d⟩ := o
 obtain rfl : k = 19 := h
 rfl
theorem do_oth {w : WA} {o : Ov} (h : o.k < 0 ∨ 19 < o.k) : doA w o = w := by
 unfold doA
 repeat rw [if_neg (by omega)]
theorem Lo.bd {K : Nat} {w : WA} (h : Lo K w) {B : Int} (hk : (K : Int) ≤ B) : ∀ c ∈ w.ct, 0 ≤ c ∧ c ≤ B := fun c hc => by have := h.ct c hc; omega
theorem newA_lo : Lo 0 newA := ⟨fun c hc => by have := (List.mem_replicate.1 hc).2; omega, fun x hx => (by cases hx), by decide, fun x hx => (by cases hx)⟩
def runA (w : WA) (l : List Ov) : WA := l.foldl doA w
theorem runA_snoc (w : WA) (l : List Ov) (o : Ov) : runA w (l ++ [o]) = doA (runA w l) o := by unfold runA; rw [List.foldl_append]; rfl
end Wo
end Go.Proofs.YtbfddabjbkohdaaGreat
namespace Go.Proofs.YtbfddabjbkohdaaGreat
open Go.RX Fx
namespace Ep
open Wo
def hasT (n k : Int) : Bool := decide (Int.tmod (Int.tdiv n k) 2 = 1)
abbrev sumT (n : Int) : Int := Int.tmod (Int.tdiv n 1) 2 * 1 + Int.tmod (Int.tdiv n 4) 2 * 4 + Int.tmod (Int.tdiv n 32) 2 * 32
def livP (g : Int → Option PxA) (w : WA) (a : Int) : Bool := match g a with
 | none => false
 | some p => decide ((w.at a).isSome = true ∧ wireN (w.at a) = p.wire)
def badT (op ev : Int) : Prop := (op < 1 ∨ 3 < op) ∨ (op < 3 ∧ (ev < 0 ∨ ev ≠ sumT ev))
instance (op ev : Int) : Decidable (badT op ev) := by unfold badT; exact inferInstance
structure RiA where
 fd : Int
 wire : Int
 ev : Int
 i : Bool
 o : Bool
 r : Int
 w : Int
def riP (w : WA) (a : Int) (p : PxA) : RiA := ⟨a, p.wire, evA p.i p.o p.e, p.ra (readyR w a), p.rb (readyR w a), (readyR w a).r, (readyR w a).w⟩
def entP (g : Int → Option PxA) (w : WA) (a : Int) : Option RiA := if livP g w a = true then (g a).map (riP w a) else none
structure InvP (g : Int → Option PxA) (w : WA) : Prop where
 wr : ∀ a p, g a = some p → ∃ (n : Nat) (y : WireA), p.wire = (n : Int) ∧ w.ws[n]? = some y ∧ (y.e 0).what ≠ 0
 le : ∀ a p, g a = some p → livP g w a = true → p.reads ≤ (readyR w a).r ∧ p.writes ≤ (readyR w a).w
theorem livP_at {g : Int → Option PxA} {w : WA} {a : Int} (h : livP g w a = true) : ∃ p n k, g a = some p ∧ w.at a = some (n, k) ∧ p.wire = (n : Int) := by
 unfold livP at h
 cases hg : g a with
 | none => rw [hg] at h; cases h
 | some p =>
  rw [hg] at h; dsimp only at h; rw [decide_eq_true_eq] at h
  cases ha : w.at a with
  | none => rw [ha] at h; simp at h
  | some q =>
   obtain ⟨n, k⟩ := q
   rw [ha] at h; exact ⟨p, n, k, rfl, rfl, h.2.symm⟩
theorem rdy_cnt {w : WA} {a : Int} {n k : Nat} {x : WireA} (ha : w.at a = some (n, k)) (hx : w.ws[n]? = some x) : (readyR w a).r = (x.e k).inn ∧ (readyR w a).w = (x.e k).out := by
 unfold readyR; rw [ha]; dsimp only; rw [hx]; dsimp only; unfold readyW
 split <;> exact ⟨rfl, rfl⟩
theorem opn0 {K : Nat} {w : WA} (hw : WOk w) (hl : Lo K w) {a : Int} {n k : Nat} (ha : w.at a = some (n, k)) : ∃ x, w.ws[n]? = some x ∧ (x.e k).what = 1 ∧ (x.e k).fd = a ∧ k < 2 ∧ (x.e 0).what ≠ 0 := by
 obtain ⟨_, _, hk, _, x, hx, h1, h2⟩ := hw.at_lt ha
 refine ⟨x, hx, h1, h2, hk, ?_⟩
 rcases (show k = 0 ∨ k = 1 by omega) with rfl | rfl
 ·rw [h1]; decide
 ·exact hl.g1 x (List.mem_of_getElem? hx) h1
theorem liv_back {g : Int → Option PxA} {w w' : WA} (hw : WOk w) (hw' : WOk w') (hG : Gr w w') (hI : InvP g w) {a : Int} (h : livP g w' a = true) : livP g w a = true ∧ (readyR w a).r ≤ (readyR w' a).r ∧ (readyR w a).w ≤ (readyR w' a).w := by
 obtain ⟨p, n, k, hg, ha', hp⟩ := livP_at h
 obtain ⟨n2, y, hp2, hy, hy0⟩ := hI.wr a p hg
 obtain rfl : n2 = n := by have := hp.symm.trans hp2; omega
 obtain ⟨_, _, hk, _, y', hy', h1, h2⟩ := hw'.at_lt ha'
 obtain ⟨z, hz, _, hz2⟩ := hG.all n2 y hy
 obtain rfl : z = y' := by rw [hy'] at hz; exact (Option.some.inj hz).symm
 obtain ⟨b1, b2, b3⟩ := hz2 k hk
 obtain ⟨c1, c2⟩ := b3 hy0 h1
 have ha : w.at a = some (n2, k) := (atW_iff hw.uq).2 ⟨hk, y, hy, c1, by rw [← c2]; exact h2⟩
 refine ⟨?_, ?_⟩
 ·unfold livP
  rw [hg]; dsimp only; rw [decide_eq_true_eq, ha]; exact ⟨rfl, hp.symm⟩
 ·rw [(rdy_cnt ha hy).1, (rdy_cnt ha hy).2, (rdy_cnt ha' hy').1, (rdy_cnt ha' hy').2]
  exact ⟨b1, b2⟩
theorem InvP.gr {g : Int → Option PxA} {w w' : WA} (hw : WOk w) (hw' : WOk w') (hG : Gr w w') (hI : InvP g w) : InvP g w' where
 wr a p h := by
  obtain ⟨n, y, h1, h2, h3⟩ := hI.wr a p h
  obtain ⟨z, hz, hz0, _⟩ := hG.all n y h2
  exact ⟨n, z, h1, hz, hz0 h3⟩
 le a p h hl := by
  obtain ⟨h1, h2, h3⟩ := liv_back hw hw' hG hI hl
  obtain ⟨h4, h5⟩ := hI.le a p h h1
  omega
end Ep
end Go.Proofs.YtbfddabjbkohdaaGreat
namespace Go.Proofs.YtbfddabjbkohdaaGreat
open Go.RX Fx
namespace Kq
open Wo
structure QnA where
 wire : Int
 d : Bool
 c : Bool
 o : Bool
 armed : Bool
 seen : Int
 rs : Int
def QnA.kn (q : QnA) : KnA := ⟨q.wire, flK q.d q.c q.o, q.armed, q.seen⟩
def knF (g : Ky → Option QnA) : Ky → Option KnA := fun a => (g a).map QnA.kn
def updQ (g : Ky → Option QnA) (a : Ky) (o : Option QnA) : Ky → Option QnA := fun b => if b = a then o else g b
theorem updQ_eq (g : Ky → Option QnA) (a : Ky) (o : Option QnA) : updQ g a o a = o := if_pos rfl
theorem updQ_ne {g : Ky → Option QnA} {a b : Ky} {o : Option QnA} (h : b ≠ a) : updQ g a o b = g b := if_neg h
theorem updQ_self (g : Ky → Option QnA) (a : Ky) : updQ g a (g a) = g := by
 funext b
 by_cases h : b = a
 ·subst h; rw [updQ_eq]
 ·rw [updQ_ne h]
theorem knF_upd (g : Ky → Option QnA) (a : Ky) (o : Option QnA) : updK (knF g) a (o.map QnA.kn) = knF (updQ g a o) := by
 funext b
 by_cases h : b = a
 ·subst h; rw [updK_eq]; unfold knF; rw [updQ_eq]
 ·rw [updK_ne h]; unfold knF; rw [updQ_ne h]
def hasN (n k : Int) : Bool := decide (0 ≤ n) && Ep.hasT n k
theorem bit_has : ∀ k : Nat, k < 128 → decide (bits .and .i64 (k : Int) 1 ≠ 0) = hasN k 1 ∧ decide (bits .and .i64 (k : Int) 2 ≠ 0) = hasN k 2 ∧ decide (bits .and .i64 (k : Int) 64 ≠ 0) = hasN k 64 := by decide +kernel
theorem bit_new : ∀ k : Nat, k < 128 → bits .and .i64 (k : Int) 56 = flK (hasN k 8) (hasN k 16) (hasN k 32) := by decide +kernel
theorem bit_mod : ∀ d c o, ∀ k : Nat, k < 128 → bits .or .i64 (bits .andNot .i64 (flK d c o) 8) (bits .and .i64 (k : Int) 8) = flK (hasN k 8) c o := by decide +kernel
def mayF (n : Int) : Bool :=
 if hasN n 1 = true then !hasN n 2 && !hasN n 4
 else if hasN n 2 = true then !hasN n 4 && !hasN n 8 && !(hasN n 16 || hasN n 32)
 else (hasN n 4 != hasN n 8) && !(hasN n 16 || hasN n 32)
def mayR (p : NoA) : Bool := if p.2.2.2 ≠ 0 ∨ p.2.2.1 < 0 ∨ 127 < p.2.2.1 ∨ p.2.1 < 1 ∨ 3 < p.2.1 then false else mayF p.2.2.1
theorem may_f : ∀ k : Nat, k < 128 → (if bits .and .i64 (k : Int) 1 ≠ 0 then !decide (bits .and .i64 (k : Int) 6 ≠ 0) else if bits .and .i64 (k : Int) 2 ≠ 0 then !decide (bits .and .i64 (k : Int) 60 ≠ 0) else (decide (bits .and .i64 (k : Int) 4 ≠ 0) != decide (bits .and .i64 (k : Int) 8 ≠ 0)) && !decide (bits .and .i64 (k : Int) 48 ≠ 0)) = mayF k := by decide +kernel
theorem not127 : ∀ k : Nat, k < 128 → bits .andNot .i64 (k : Int) 127 = 0 := by decide +kernel
theorem bad_fl {x : Int} (hx : InK .i64 x) : (x < 0 ∨ 127 < x) ↔ bits .andNot .i64 x 127 ≠ 0 := by
 constructor
 ·intro h e
  obtain ⟨k, rfl, hk⟩ := lt128 hx e
  omega
 ·intro h
  by_cases hb : x < 0 ∨ 127 < x
  ·exact hb
  ·obtain ⟨k, rfl⟩ : ∃ k : Nat, x = (k : Int) := ⟨x.toNat, by omega⟩
   exact absurd (not127 k (by omega)) h
theorem may_eq {p : NoA} (hp : InK .i64 p.2.2.1) : mayK p = mayR p := by
 unfold mayK mayR
 have hb := bad_fl hp
 show (if badN p then _ else _) = _
 by_cases h : badN p
 ·rw [if_pos h, if_pos]
  unfold badN at h
  rcases h with h | h | h
  ·exact .inl h
  ·have := hb.2 h; omega
  ·omega
 ·have h' : ¬ (p.2.2.2 ≠ 0 ∨ p.2.2.1 < 0 ∨ 127 < p.2.2.1 ∨ p.2.1 < 1 ∨ 3 < p.2.1) := by
   rintro (e | e | e | e)
   ·exact h (.inl e)
   ·exact h (.inr (.inl (hb.1 (.inl e))))
   ·exact h (.inr (.inl (hb.1 (.inr e))))
   ·exact h (.inr (.inr e))
  have h0 : bits .andNot .i64 p.2.2.1 127 = 0 := by
   by_cases e : bits .andNot .i64 p.2.2.1 127 = 0
   ·exact e
   ·exact absurd (show badN p from .inr (.inl e)) h
  obtain ⟨k, hk, hk2⟩ := lt128 hp h0
  rw [if_neg h, if_neg h']; unfold hasF; rw [hk]; exact may_f k hk2
theorem may_lt {p : NoA} (h : ¬ (mayR p = false)) : (∃ k : Nat, p.2.2.1 = (k : Int) ∧ k < 128) ∧ 1 ≤ p.2.1 ∧ p.2.1 ≤ 3 := by
 unfold mayR at h
 split at h
 ·exact absurd rfl h
 ·exact ⟨⟨p.2.2.1.toNat, by omega, by omega⟩, by omega, by omega⟩
def livQ (g : Ky → Option QnA) (w : WA) (a : Ky) : Bool := match g a with
 | none => false
 | some q => if a.2 = 3 then true else decide ((w.at a.1).isSome = true ∧ wireN (w.at a.1) = q.wire)
theorem livQ_eq (g : Ky → Option QnA) (w : WA) (a : Ky) : isK (knF g) w a = livQ g w a := by
 unfold isK livQ knF
 cases g a <;> rfl
def zQ : QnA := ⟨0, false, false, false, false, 0, 0⟩
def newQ (w : WA) (p : NoA) : QnA := ⟨wireK w p, hasN p.2.2.1 8, hasN p.2.2.1 16, hasN p.2.2.1 32, true, riseK p.2.1 (readyR w p.1), riseK p.2.1 (readyR w p.1)⟩
def addQ (g : Ky → Option QnA) (w : WA) (p : NoA) : QnA :=
 if livQ g w (p.1, p.2.1) = true ∧ (((g (p.1, p.2.1)).getD zQ).c = true ∨ hasN p.2.2.1 16 = false) then
  { newQ w p with armed := ((g (p.1, p.2.1)).getD zQ).armed, seen := ((g (p.1, p.2.1)).getD zQ).seen } else newQ w p
def chgG (g : Ky → Option QnA) (w : WA) (p : NoA) : Int × (Ky → Option QnA) :=
 if mayR p = false then (2, g)
 else if p.2.1 = 3 ∧ (p.1 < 1 ∨ 31 < p.1) then (100, g)
 else if p.2.1 ≠ 3 ∧ w.at p.1 = none then (110, g)
 else if hasN p.2.2.1 1 = true then (0, updQ g (p.1, p.2.1) (some (addQ g w p)))
 else if livQ g w (p.1, p.2.1) = false then (151, g)
 else if hasN p.2.2.1 2 = true then (0, updQ g (p.1, p.2.1) none)
 else (0, updQ g (p.1, p.2.1) ((g (p.1, p.2.1)).map fun q => { q with d := hasN p.2.2.1 8 }))
theorem liv_some {g : Ky → Option QnA} {w : WA} {a : Ky} (h : livQ g w a = true) : ∃ q, g a = some q := by
 unfold livQ at h
 cases hg : g a with
 | none => rw [hg] at h; cases h
 | some q => exact ⟨q, rfl⟩
theorem chgG_eq {g : Ky → Option QnA} {w : WA} {p : NoA} (hp : InK .i64 p.2.2.1) : chgK (knF g) w p = ((chgG g w p).1, knF (chgG g w p).2) := by
 unfold chgK chgG; rw [may_eq hp]
 by_cases h1 : mayR p = false
 ·rw [if_pos h1, if_pos h1]
 rw [if_neg h1, if_neg h1]
 obtain ⟨⟨k, hk, hk128⟩, _⟩ := may_lt h1
 obtain ⟨b1, b2, _⟩ := bit_has k hk128
 by_cases h2 : p.2.1 = 3 ∧ (p.1 < 1 ∨ 31 < p.1)
 ·rw [if_pos h2, if_pos h2]
 rw [if_neg h2, if_neg h2]
 by_cases h3 : p.2.1 ≠ 3 ∧ w.at p.1 = none
 ·rw [if_pos h3, if_pos h3]
 rw [if_neg h3, if_neg h3]
 have e1 : hasF p 1 ↔ hasN p.2.2.1 1 = true := by unfold hasF; rw [hk, ← b1, decide_eq_true_eq]
 have e2 : hasF p 2 ↔ hasN p.2.2.1 2 = true := by unfold hasF; rw [hk, ← b2, decide_eq_true_eq]
 have hnew : newK w p = (newQ w p).kn := by
  unfold newK newQ QnA.kn; dsimp only; rw [hk, bit_new k hk128]
 by_cases h4 : hasF p 1
 ·rw [if_pos h4, if_pos (e1.1 h4)]
  refine Prod.ext rfl ?_
  show updK (knF g) (p.1, p.2.1) (some (addK (knF g) w p)) = knF (updQ g (p.1, p.2.1) (some (addQ g w p)))
  rw [← knF_upd]
  congr 1
  refine congrArg some ?_; unfold addK addQ
  by_cases hl : livQ g w (p.1, p.2.1) = true
  ·obtain ⟨q, hq⟩ := liv_some hl
   have ho : oldK (knF g) p = q.kn := by show (knF g (p.1, p.2.1)).getD zKn = _; unfold knF; rw [hq]; rfl
   have hc : keepK (knF g) w p ↔ (livQ g w (p.1, p.2.1) = true ∧ (((g (p.1, p.2.1)).getD zQ).c = true ∨ hasN p.2.2.1 16 = false)) := by
    unfold keepK; rw [livQ_eq, ho, hnew, hq]
    show _ ∧ (bits .and .i64 (flK q.d q.c q.o) 16 ≠ 0 ∨ bits .and .i64 (flK (hasN p.2.2.1 8) (hasN p.2.2.1 16) (hasN p.2.2.1 32)) 16 = 0) ↔ _ ∧ (q.c = true ∨ _)
    have f1 := fl_16 q.d q.c q.o
    have f2 := fl_16 (hasN p.2.2.1 8) (hasN p.2.2.1 16) (hasN p.2.2.1 32)
    refine and_congr_right fun _ => or_congr (by rw [← decide_eq_true_eq (p := bits .and .i64 (flK q.d q.c q.o) 16 ≠ 0), f1]) ?_
    cases h16 : hasN p.2.2.1 16 with
    | true => rw [h16, decide_eq_true_eq] at f2; simpa using f2
    | false => rw [h16, decide_eq_false_iff_not] at f2; simpa using f2
   by_cases hk2 : keepK (knF g) w p
   ·rw [if_pos hk2, if_pos (hc.1 hk2), hnew, ho, hq]; rfl
   ·rw [if_neg hk2, if_neg (fun h => hk2 (hc.2 h)), hnew]
  ·rw [if_neg (fun h => hl (by rw [← livQ_eq]; exact h.1)), if_neg (fun h => hl h.1), hnew]
 rw [if_neg h4, if_neg (fun h => h4 (e1.2 h)), livQ_eq]
 by_cases h5 : livQ g w (p.1, p.2.1) = false
 ·rw [if_pos h5, if_pos h5]
 rw [if_neg h5, if_neg h5]
 by_cases h6 : hasF p 2
 ·rw [if_pos h6, if_pos (e2.1 h6)]
  exact Prod.ext rfl (knF_upd g _ none)
 rw [if_neg h6, if_neg (fun h => h6 (e2.2 h))]
 obtain ⟨q, hq⟩ := liv_some (g := g) (w := w) (a := (p.1, p.2.1)) (by simpa using h5)
 refine Prod.ext rfl ?_
 show updK (knF g) (p.1, p.2.1) (some (modK (knF g) p)) = _
 rw [← knF_upd, hq]
 congr 1
 refine congrArg some ?_
 have ho : oldK (knF g) p = q.kn := by show (knF g (p.1, p.2.1)).getD zKn = _; unfold knF; rw [hq]; rfl
 unfold modK; rw [ho]
 show KnA.mk q.wire (bits .or .i64 (bits .andNot .i64 (flK q.d q.c q.o) 8) (bits .and .i64 p.2.2.1 8)) q.armed q.seen = KnA.mk q.wire (flK (hasN p.2.2.1 8) q.c q.o) q.armed q.seen
 rw [hk, bit_mod _ _ _ k hk128]
def oneR (e : Int) (p : NoA) : List NoA := if e ≠ 0 ∨ hasN p.2.2.1 64 = true then [(p.1, p.2.1, 256, e)] else []
def chsG (g : Ky → Option QnA) (w : WA) : List NoA → List NoA × (Ky → Option QnA)
 | [] => ([], g)
 | p :: t => (oneR (chgG g w p).1 p ++ (chsG (chgG g w p).2 w t).1, (chsG (chgG g w p).2 w t).2)
theorem one_eq {g : Ky → Option QnA} {w : WA} {p : NoA} : oneK (chgG g w p).1 p = oneR (chgG g w p).1 p := by
 unfold oneK oneR
 by_cases he : (chgG g w p).1 = 0
 ·have hm : ¬ (mayR p = false) := fun h => by
   have : (chgG g w p).1 = 2 := by unfold chgG; rw [if_pos h]
   omega
  obtain ⟨⟨k, hk, hk128⟩, _⟩ := may_lt hm
  obtain ⟨_, _, b3⟩ := bit_has k hk128
  rw [hk, ← b3]
  by_cases h : bits .and .i64 (k : Int) 64 = 0
  ·rw [if_pos ⟨he, h⟩, if_neg (by simp [he, h])]
  ·rw [if_neg (fun e => h e.2), if_pos (.inr (by simpa using h))]
 ·rw [if_neg (fun e => he e.1), if_pos (.inl he)]
theorem chsG_eq {w : WA} : ∀ (l : List NoA) (g : Ky → Option QnA), (∀ p ∈ l, InK .i64 p.2.2.1) → chsK (knF g) w l = ((chsG g w l).1, knF (chsG g w l).2)
 | [], _, _ => rfl
 | p :: t, g, h => by
  have e := chgG_eq (g := g) (w := w) (h p List.mem_cons_self)
  show (oneK (chgK (knF g) w p).1 p ++ (chsK (chgK (knF g) w p).2 w t).1, (chsK (chgK (knF g) w p).2 w t).2) = _
  rw [e]; dsimp only; rw [chsG_eq t _ fun q hq => h q (List.mem_cons_of_mem _ hq), one_eq]
  rfl
structure RnA where
 id : Int
 flt : Int
 wire : Int
 d : Bool
 c : Bool
 o : Bool
 a : Bool
 s : Int
def keyR (x : RnA) : Ky := (x.id, x.flt)
def rnQ (w : WA) (k : Ky) (q : QnA) : RnA := ⟨k.1, k.2, q.wire, q.d, q.c, q.o, if k.2 = 3 then q.armed else (q.armed || decide (riseK k.2 (readyR w k.1) > q.seen)), if k.2 = 3 then q.rs else riseK k.2 (readyR w k.1)⟩
def entQ (g : Ky → Option QnA) (w : WA) (k : Ky) : Option RnA := if livQ g w k = true then (g k).map (rnQ w k) else none
def refN (g : Ky → Option QnA) (w : WA) : List RnA := gridK.filterMap (entQ g w)
def tidN (w : WA) (x : RnA) : Option RnA := if x.flt = 3 then some x else if (w.at x.id).isSome = true ∧ wireN (w.at x.id) = x.wire then
  some { x with a := x.a || decide (riseK x.flt (readyR w x.id) > x.s), s := riseK x.flt (readyR w x.id) } else none
def tidyN (w : WA) (l : List RnA) : List RnA := l.filterMap (tidN w)
structure InvQ (g : Ky → Option QnA) (w : WA) : Prop where
 ok : OkK (knF g)
 wr : ∀ a q, g a = some q → a.2 ≠ 3 → ∃ (n : Nat) (y : WireA), q.wire = (n : Int) ∧ w.ws[n]? = some y ∧ (y.e 0).what ≠ 0
 le : ∀ a q, g a = some q → a.2 ≠ 3 → livQ g w a = true → q.seen ≤ riseK a.2 (readyR w a.1)
theorem invQ_0 (w : WA) : InvQ (fun _ => none) w := ⟨⟨fun _ _ h => (by cases h), fun _ _ h => (by cases h)⟩, fun _ _ h => (by cases h), fun _ _ h => (by cases h)⟩
theorem livQ_at {g : Ky → Option QnA} {w : WA} {a : Ky} (h : livQ g w a = true) (h3 : a.2 ≠ 3) : ∃ q n k, g a = some q ∧ w.at a.1 = some (n, k) ∧ q.wire = (n : Int) := by
 unfold livQ at h
 cases hg : g a with
 | none => rw [hg] at h; cases h
 | some q =>
  rw [hg] at h; dsimp only at h; rw [if_neg h3, decide_eq_true_eq] at h
  cases ha : w.at a.1 with
  | none => rw [ha] at h; simp at h
  | some x =>
   obtain ⟨n, k⟩ := x
   rw [ha] at h; exact ⟨q, n, k, rfl, rfl, h.2.symm⟩
theorem livQ_back {g : Ky → Option QnA} {w w' : WA} (hw : WOk w) (hw' : WOk w') (hG : Gr w w') (hI : InvQ g w) {a : Ky} (h3 : a.2 ≠ 3) (h : livQ g w' a = true) : livQ g w a = true ∧ riseK a.2 (readyR w a.1) ≤ riseK a.2 (readyR w' a.1) := by
 obtain ⟨q, n, k, hg, ha', hp⟩ := livQ_at h h3
 obtain ⟨n2, y, hp2, hy, hy0⟩ := hI.wr a q hg h3
 obtain rfl : n2 = n := by have := hp.symm.trans hp2; omega
 obtain ⟨_, _, hk, _, y', hy', h1, h2⟩ := hw'.at_lt ha'
 obtain ⟨z, hz, _, hz2⟩ := hG.all n2 y hy
 obtain rfl : z = y' := by rw [hy'] at hz; exact (Option.some.inj hz).symm
 obtain ⟨b1, b2, b3⟩ := hz2 k hk
 obtain ⟨c1, c2⟩ := b3 hy0 h1
 have ha : w.at a.1 = some (n2, k) := (atW_iff hw.uq).2 ⟨hk, y, hy, c1, by rw [← c2]; exact h2⟩
 refine ⟨?_, ?_⟩
 ·unfold livQ
  rw [hg]; dsimp only; rw [if_neg h3, decide_eq_true_eq, ha]; exact ⟨rfl, hp.symm⟩
 ·unfold riseK
  rw [(Ep.rdy_cnt ha hy).1, (Ep.rdy_cnt ha hy).2, (Ep.rdy_cnt ha' hy').1, (Ep.rdy_cnt ha' hy').2]
  split
  ·exact b1
  ·exact b2
theorem InvQ.gr {g : Ky → Option QnA} {w w' : WA} (hw : WOk w) (hw' : WOk w') (hG : Gr w w') (hI : InvQ g w) : InvQ g w' where
 ok := hI.ok
 wr a q h h3 := by
  obtain ⟨n, y, h1, h2, h4⟩ := hI.wr a q h h3
  obtain ⟨z, hz, hz0, _⟩ := hG.all n y h2
  exact ⟨n, z, h1, hz, hz0 h4⟩
 le a q h h3 hl := by
  obtain ⟨h1, h2⟩ := livQ_back hw hw' hG hI h3 hl
  have := hI.le a q h h3 h1
  omega
theorem fmK_congr {α β : Type} {f g : α → Option β} : ∀ {l : List α}, (∀ x ∈ l, f x = g x) → l.filterMap f = l.filterMap g
 | [], _ => rfl
 | x :: t, h => by rw [List.filterMap_cons, List.filterMap_cons, h x List.mem_cons_self, fmK_congr fun y hy => h y (List.mem_cons_of_mem _ hy)]
theorem tidyN_gr {g : Ky → Option QnA} {w w' : WA} (hw : WOk w) (hw' : WOk w') (hG : Gr w w') (hI : InvQ g w) : tidyN w' (refN g w) = refN g w' := by
 unfold tidyN refN; rw [List.filterMap_filterMap]; refine fmK_congr fun a _ => ?_
 unfold entQ
 by_cases h3 : a.2 = 3
 ·have hl : ∀ v : WA, livQ g v a = (g a).isSome := fun v => by unfold livQ; cases g a <;> simp [h3]
  rw [hl w, hl w']
  cases hg : g a with
  | none => rfl
  | some q =>
   show tidN w' (rnQ w a q) = some (rnQ w' a q)
   unfold tidN; rw [if_pos (show (rnQ w a q).flt = 3 from h3)]; unfold rnQ; rw [if_pos h3, if_pos h3, if_pos h3, if_pos h3]
 by_cases h' : livQ g w' a = true
 ·obtain ⟨h, hr⟩ := livQ_back hw hw' hG hI h3 h'
  rw [if_pos h, if_pos h']
  obtain ⟨q, n, k, hg, ha', hp⟩ := livQ_at h' h3
  have h4 := hI.le a q hg h3 h
  rw [hg]
  show tidN w' (rnQ w a q) = some (rnQ w' a q)
  unfold tidN
  rw [if_neg (show ¬ (rnQ w a q).flt = 3 from h3), if_pos (by
   show (w'.at a.1).isSome = true ∧ wireN (w'.at a.1) = q.wire
   rw [ha']; exact ⟨rfl, hp.symm⟩)]
  refine congrArg some ?_; unfold rnQ; dsimp only; rw [if_neg h3, if_neg h3, if_neg h3, if_neg h3]
  have e1 : ((q.armed || decide (riseK a.2 (readyR w a.1) > q.seen)) || decide (riseK a.2 (readyR w' a.1) > riseK a.2 (readyR w a.1))) = (q.armed || decide (riseK a.2 (readyR w' a.1) > q.seen)) := by
   rw [Bool.or_assoc]
   congr 1
   rw [Bool.eq_iff_iff]; simp only [Bool.or_eq_true, decide_eq_true_eq]; omega
  rw [e1]
 ·rw [if_neg h']
  by_cases h : livQ g w a = true
  ·rw [if_pos h]
   obtain ⟨q, n, k, hg, ha, hp⟩ := livQ_at h h3
   rw [hg]
   show tidN w' (rnQ w a q) = none
   unfold tidN; rw [if_neg (show ¬ (rnQ w a q).flt = 3 from h3)]; refine if_neg fun hc => h' ?_
   unfold livQ; rw [hg]; dsimp only; rw [if_neg h3, decide_eq_true_eq]; exact hc
  ·rw [if_neg h]; rfl
theorem tidyN_id {g : Ky → Option QnA} {w : WA} (hw : WOk w) (hI : InvQ g w) : tidyN w (refN g w) = refN g w := tidyN_gr hw hw (Gr.refl w) hI
abbrev geR (y x : RnA) : Prop := x.id < y.id ∨ (y.id = x.id ∧ x.flt ≤ y.flt)
def insN (x : RnA) : Bool → List RnA → List RnA
 | d, [] => if d = true then [] else [x]
 | d, y :: t => (if d = false ∧ geR y x then [x] else []) ++ ((if y.id ≠ x.id ∨ y.flt ≠ x.flt then [y] else []) ++ insN x (d || decide (geR y x)) t)
theorem insN_lt {x : RnA} {d : Bool} : ∀ {l : List RnA} {m : List RnA}, (∀ y ∈ l, ltK (keyR y) (keyR x)) → insN x d (l ++ m) = l ++ insN x d m
 | [], _, _ => rfl
 | y :: t, m, h => by
  have h1 : y.id < x.id ∨ (y.id = x.id ∧ y.flt < x.flt) := h y List.mem_cons_self
  show (if d = false ∧ geR y x then [x] else []) ++ ((if y.id ≠ x.id ∨ y.flt ≠ x.flt then [y] else []) ++ insN x (d || decide (geR y x)) (t ++ m)) = _
  rw [if_neg (by omega), if_pos (by omega), decide_eq_false (by omega), Bool.or_false, insN_lt fun z hz => h z (List.mem_cons_of_mem _ hz)]
  rfl
theorem insN_gt {x : RnA} : ∀ {l : List RnA}, (∀ y ∈ l, ltK (keyR x) (keyR y)) → insN x true l = l
 | [], _ => rfl
 | y :: t, h => by
  have h1 : x.id < y.id ∨ (x.id = y.id ∧ x.flt < y.flt) := h y List.mem_cons_self
  show (if true = false ∧ geR y x then [x] else []) ++ ((if y.id ≠ x.id ∨ y.flt ≠ x.flt then [y] else []) ++ insN x (true || decide (geR y x)) t) = _
  rw [if_neg (by simp), if_pos (by omega), Bool.true_or, insN_gt fun z hz => h z (List.mem_cons_of_mem _ hz)]
  rfl
theorem insN_gt0 {x : RnA} {l : List RnA} (h : ∀ y ∈ l, ltK (keyR x) (keyR y)) : insN x false l = x :: l := by
 cases l with
 | nil => rfl
 | cons y t =>
  have h1 : x.id < y.id ∨ (x.id = y.id ∧ x.flt < y.flt) := h y List.mem_cons_self
  show (if false = false ∧ geR y x then [x] else []) ++ ((if y.id ≠ x.id ∨ y.flt ≠ x.flt then [y] else []) ++ insN x (false || decide (geR y x)) t) = _
  rw [if_pos ⟨rfl, by omega⟩, if_pos (by omega), decide_eq_true (by omega : geR y x), Bool.or_true, insN_gt fun z hz => h z (List.mem_cons_of_mem _ hz)]
  rfl
theorem entQ_key {g : Ky → Option QnA} {w : WA} {a : Ky} {y : RnA} (h : entQ g w a = some y) : keyR y = a := by
 unfold entQ at h
 split at h
 ·cases hg : g a with
  | none => rw [hg] at h; cases h
  | some p => rw [hg] at h; obtain rfl := Option.some.inj h; rfl
 ·cases h
theorem refN_cut (g : Ky → Option QnA) (w : WA) {a : Ky} (h : a ∈ gridK) : ∃ A B : List RnA, (∀ y ∈ A, ltK (keyR y) a) ∧ (∀ y ∈ B, ltK a (keyR y)) ∧ ∀ o : Option QnA, refN (updQ g a o) w = A ++ ((entQ (updQ g a o) w a).toList ++ B) := by
 obtain ⟨s, t, e⟩ := List.append_of_mem h
 have hp := grid_srt
 rw [e, List.pairwise_append, List.pairwise_cons] at hp
 obtain ⟨_, ⟨ht, _⟩, hs⟩ := hp
 have hsl : ∀ b ∈ s, ltK b a := fun b hb => hs b hb a List.mem_cons_self
 refine ⟨s.filterMap (entQ g w), t.filterMap (entQ g w), fun y hy => ?_, fun y hy => ?_, fun o => ?_⟩
 ·obtain ⟨b, hb, e2⟩ := List.mem_filterMap.1 hy
  rw [entQ_key e2]; exact hsl b hb
 ·obtain ⟨b, hb, e2⟩ := List.mem_filterMap.1 hy
  rw [entQ_key e2]; exact ht b hb
 ·have hne : ∀ b : Ky, b ≠ a → entQ (updQ g a o) w b = entQ g w b := fun b hb => by
   unfold entQ livQ; rw [updQ_ne hb]
  unfold refN; rw [e, List.filterMap_append, List.filterMap_cons]
  have e1 : s.filterMap (entQ (updQ g a o) w) = s.filterMap (entQ g w) := fmK_congr fun b hb => hne b fun e3 => by
   have := hsl b hb
   rw [e3] at this; unfold ltK at this; omega
  have e2 : t.filterMap (entQ (updQ g a o) w) = t.filterMap (entQ g w) := fmK_congr fun b hb => hne b fun e3 => by
   have := ht b hb
   rw [e3] at this; unfold ltK at this; omega
  rw [e1, e2]
  cases entQ (updQ g a o) w a <;> rfl
theorem entQ_new {g : Ky → Option QnA} {w : WA} {a : Ky} {q : QnA} (h : a.2 ≠ 3 → (w.at a.1).isSome = true ∧ wireN (w.at a.1) = q.wire) : entQ (updQ g a (some q)) w a = some (rnQ w a q) := by
 have hl : livQ (updQ g a (some q)) w a = true := by
  unfold livQ; rw [updQ_eq]; dsimp only
  by_cases h3 : a.2 = 3
  ·rw [if_pos h3]
  ·rw [if_neg h3, decide_eq_true_eq]; exact h h3
 unfold entQ; rw [hl, updQ_eq]; rfl
theorem entQ_del (g : Ky → Option QnA) (w : WA) (a : Ky) : entQ (updQ g a none) w a = none := by
 unfold entQ livQ; rw [updQ_eq]; rfl
theorem insN_new (g : Ky → Option QnA) {w : WA} {a : Ky} (ha : a ∈ gridK) {q : QnA} (h : a.2 ≠ 3 → (w.at a.1).isSome = true ∧ wireN (w.at a.1) = q.wire) : insN (rnQ w a q) false (refN g w) = refN (updQ g a (some q)) w := by
 obtain ⟨A, B, hA, hB, he⟩ := refN_cut g w ha
 rw [he (some q), entQ_new h]
 conv => lhs; rw [← updQ_self g a]
 rw [he (g a), updQ_self, insN_lt hA]
 congr 1
 cases hx : entQ g w a with
 | none => exact insN_gt0 hB
 | some y =>
  have hy := entQ_key hx
  have hy1 : y.id = a.1 := congrArg Prod.fst hy
  have hy2 : y.flt = a.2 := congrArg Prod.snd hy
  show (if false = false ∧ (a.1 < y.id ∨ (y.id = a.1 ∧ a.2 ≤ y.flt)) then [rnQ w a q] else []) ++ ((if y.id ≠ a.1 ∨ y.flt ≠ a.2 then [y] else []) ++ insN (rnQ w a q) (false || decide (a.1 < y.id ∨ (y.id = a.1 ∧ a.2 ≤ y.flt))) ([] ++ B)) = _
  rw [if_pos ⟨rfl, by omega⟩, if_neg (by omega), decide_eq_true (by omega), Bool.or_true, List.nil_append, List.nil_append, insN_gt hB]
  rfl
def posN (l : List RnA) (a : Ky) : Int := match l.findIdx? fun x => x.id == a.1 && x.flt == a.2 with
 | some i => (i : Int)
 | none => -1
theorem posN_at {A B : List RnA} {x : RnA} {a : Ky} (hA : ∀ y ∈ A, ltK (keyR y) a) (hx : keyR x = a) : posN (A ++ x :: B) a = (A.length : Int) := by
 unfold posN
 have : (A ++ x :: B).findIdx? (fun x => x.id == a.1 && x.flt == a.2) = some A.length := by
  rw [List.findIdx?_eq_some_iff_getElem]; refine ⟨by simp, ?_, fun j hj => ?_⟩
  ·rw [List.getElem_append_right (Nat.le_refl _)]
   subst hx; simp [keyR]
  ·rw [List.getElem_append_left hj]
   have h1 : ltK (keyR A[j]) a := hA _ (List.getElem_mem hj)
   unfold ltK keyR at h1; dsimp only at h1; simp only [Bool.and_eq_true, beq_iff_eq]; omega
 rw [this]
theorem refN_mem {g : Ky → Option QnA} {w : WA} {x : RnA} (h : x ∈ refN g w) : ∃ q, livQ g w (keyR x) = true ∧ g (keyR x) = some q ∧ x = rnQ w (keyR x) q := by
 obtain ⟨a, _, e⟩ := List.mem_filterMap.1 h
 have hk := entQ_key e
 rw [hk]; unfold entQ at e
 split at e
 ·rename_i hl
  obtain ⟨q, hq⟩ := liv_some hl
  rw [hq] at e; exact ⟨q, hl, hq, (Option.some.inj e).symm⟩
 ·cases e
theorem posN_lt {l : List RnA} {a : Ky} (h : 0 ≤ posN l a) : ∃ (k : Nat) (x : RnA), posN l a = (k : Int) ∧ l[k]? = some x ∧ keyR x = a := by
 unfold posN at h ⊢
 split at h
 ·rename_i i hi
  obtain ⟨hlt, h1, _⟩ := List.findIdx?_eq_some_iff_getElem.1 hi
  refine ⟨i, l[i], rfl, List.getElem?_eq_getElem hlt, ?_⟩; simp only [Bool.and_eq_true, beq_iff_eq] at h1; exact Prod.ext h1.1 h1.2
 ·omega
theorem grid_liv {g : Ky → Option QnA} {w : WA} (hw : WOk w) (hf : OkK (knF g)) {a : Ky} (h : livQ g w a = true) : a ∈ gridK := by
 have := (mem_allK hw hf (a := a)).2 (by rw [livQ_eq]; exact h)
 exact (List.mem_filter.1 this).1
theorem refN_at {g : Ky → Option QnA} {w : WA} (hw : WOk w) (hf : OkK (knF g)) {a : Ky} (h : livQ g w a = true) : ∃ (A B : List RnA) (q : QnA), g a = some q ∧ refN g w = A ++ rnQ w a q :: B ∧ posN (refN g w) a = (A.length : Int) ∧ ∀ o : Option QnA, refN (updQ g a o) w = A ++ ((entQ (updQ g a o) w a).toList ++ B) := by
 obtain ⟨A, B, hA, hB, he⟩ := refN_cut g w (grid_liv hw hf h)
 obtain ⟨q, hq⟩ := liv_some h
 have e0 : refN g w = A ++ rnQ w a q :: B := by
  conv => lhs; rw [← updQ_self g a]
  rw [he (g a), updQ_self]; unfold entQ; rw [if_pos h, hq]; rfl
 exact ⟨A, B, q, hq, e0, by rw [e0]; exact posN_at hA rfl, he⟩
theorem refN_pos {g : Ky → Option QnA} {w : WA} (hw : WOk w) (hf : OkK (knF g)) (a : Ky) : 0 ≤ posN (refN g w) a ↔ livQ g w a = true := by
 constructor
 ·intro h
  obtain ⟨k, x, _, hk, rfl⟩ := posN_lt h
  obtain ⟨q, hl, _⟩ := refN_mem (List.mem_of_getElem? hk)
  exact hl
 ·intro h
  obtain ⟨A, B, q, _, _, hp, _⟩ := refN_at hw hf h
  omega
def cutN (l : List RnA) (i : Nat) : List RnA := l.take i ++ l.drop (i + 1)
theorem cutN_at (A B : List RnA) (x : RnA) : cutN (A ++ x :: B) A.length = A ++ B := by
 unfold cutN; rw [List.take_left, show A.length + 1 = (A ++ [x]).length by simp, show A ++ x :: B = (A ++ [x]) ++ B by simp, List.drop_left]
theorem set_at (A B : List RnA) (x y : RnA) : (A ++ x :: B).set A.length y = A ++ y :: B := by
 rw [List.set_append_right _ _ (Nat.le_refl _), Nat.sub_self]; rfl
theorem get_at (A B : List RnA) (x : RnA) : (A ++ x :: B)[A.length]? = some x := by
 rw [List.getElem?_append_right (Nat.le_refl _), Nat.sub_self]; rfl
def zRn : RnA := ⟨0, 0, 0, false, false, false, false, 0⟩
theorem getD_at (A B : List RnA) (x z : RnA) : (A ++ x :: B).getD A.length z = x := by rw [List.getD_eq_getElem?_getD, get_at]; rfl
abbrev atT (T : List RnA) (a : Ky) : RnA := T.getD (posN T a).toNat zRn
def newN (w : WA) (T : List RnA) (p : NoA) : RnA := ⟨p.1, p.2.1, wireK w p, hasN p.2.2.1 8, hasN p.2.2.1 16, hasN p.2.2.1 32, if 0 ≤ posN T (keyN p) ∧ ((atT T (keyN p)).c = true ∨ hasN p.2.2.1 16 = false) then (atT T (keyN p)).a else true, riseK p.2.1 (readyR w p.1)⟩
def chgT (w : WA) (T : List RnA) (p : NoA) : Int × List RnA :=
 if p.2.1 = 3 ∧ (p.1 < 1 ∨ 31 < p.1) then (100, T)
 else if p.2.1 ≠ 3 ∧ w.at p.1 = none then (110, T)
 else if hasN p.2.2.1 1 = true then (0, insN (newN w T p) false T)
 else if posN T (keyN p) < 0 then (151, T)
 else if hasN p.2.2.1 2 = true then (0, cutN T (posN T (keyN p)).toNat)
 else (0, insN { atT T (keyN p) with d := hasN p.2.2.1 8 } false T)
def chR (w : WA) (l : List RnA) (p : NoA) : Int × List RnA := if mayR p = false then (2, l) else chgT w (tidyN w l) p
theorem chg_grid {w : WA} (hw : WOk w) {p : NoA} (h0 : ¬ (mayR p = false)) (h2 : ¬ (p.2.1 = 3 ∧ (p.1 < 1 ∨ 31 < p.1))) (h3 : ¬ (p.2.1 ≠ 3 ∧ w.at p.1 = none)) : keyN p ∈ gridK ∧ ((keyN p).2 ≠ 3 → (w.at p.1).isSome = true) := by
 obtain ⟨_, hf1, hf2⟩ := may_lt h0
 have hs : p.2.1 ≠ 3 → ∃ n k, w.at p.1 = some (n, k) := fun h => by
  obtain ⟨q, hq⟩ := Option.ne_none_iff_exists'.1 (fun e => h3 ⟨h, e⟩)
  exact ⟨q.1, q.2, hq⟩
 refine ⟨mem_grid.2 ⟨?_, hf1, hf2⟩, fun h => ?_⟩
 ·show 0 ≤ p.1 ∧ p.1 < 96
  by_cases h : p.2.1 = 3
  ·omega
  ·obtain ⟨n, k, e⟩ := hs h
   have := hw.at_lt e
   omega
 ·obtain ⟨n, k, e⟩ := hs h
  rw [e]; rfl
theorem chg_ref {g : Ky → Option QnA} {w : WA} (hw : WOk w) (hI : InvQ g w) {p : NoA} (h0 : ¬ (mayR p = false)) : chgT w (refN g w) p = ((chgG g w p).1, refN (chgG g w p).2 w) := by
 have hp := refN_pos (g := g) hw hI.ok (keyN p)
 unfold chgT chgG; rw [if_neg h0]
 by_cases h2 : p.2.1 = 3 ∧ (p.1 < 1 ∨ 31 < p.1)
 ·rw [if_pos h2, if_pos h2]
 rw [if_neg h2, if_neg h2]
 by_cases h3 : p.2.1 ≠ 3 ∧ w.at p.1 = none
 ·rw [if_pos h3, if_pos h3]
 rw [if_neg h3, if_neg h3]
 obtain ⟨hgr, hsm⟩ := chg_grid hw h0 h2 h3
 by_cases h4 : hasN p.2.2.1 1 = true
 ·rw [if_pos h4, if_pos h4]
  refine Prod.ext rfl ?_
  show insN (newN w (refN g w) p) false (refN g w) = refN (updQ g (keyN p) (some (addQ g w p))) w
  have hwr : (addQ g w p).wire = wireK w p := by unfold addQ; split <;> rfl
  rw [← insN_new g hgr (q := addQ g w p) (fun h => ⟨hsm h, by rw [hwr]; exact (if_neg h).symm⟩)]
  congr 1
  have hd : (addQ g w p).d = hasN p.2.2.1 8 ∧ (addQ g w p).c = hasN p.2.2.1 16 ∧ (addQ g w p).o = hasN p.2.2.1 32 ∧ (addQ g w p).rs = riseK p.2.1 (readyR w p.1) := by unfold addQ; split <;> exact ⟨rfl, rfl, rfl, rfl⟩
  unfold newN rnQ; rw [hwr, hd.1, hd.2.1, hd.2.2.1, hd.2.2.2, ite_self]
  have ha : (if 0 ≤ posN (refN g w) (keyN p) ∧ ((atT (refN g w) (keyN p)).c = true ∨ hasN p.2.2.1 16 = false) then (atT (refN g w) (keyN p)).a else true) = if (keyN p).2 = 3 then (addQ g w p).armed else (addQ g w p).armed || decide (riseK (keyN p).2 (readyR w (keyN p).1) > (addQ g w p).seen) := by
   by_cases hl : livQ g w (keyN p) = true
   ·obtain ⟨A, B, q, hq, e0, hps, _⟩ := refN_at hw hI.ok hl
    have hat : atT (refN g w) (keyN p) = rnQ w (keyN p) q := by
     unfold atT; rw [hps, Int.toNat_natCast, e0, getD_at]
    rw [hat]; unfold addQ
    by_cases hk : livQ g w (keyN p) = true ∧ (((g (keyN p)).getD zQ).c = true ∨ hasN p.2.2.1 16 = false)
    ·rw [if_pos hk, if_pos ⟨hp.2 hl, by have := hk.2; rw [hq] at this; exact this⟩, hq]; rfl
    ·rw [if_neg hk, if_neg (fun h => hk ⟨hl, by rw [hq]; exact h.2⟩)]
     show true = if _ then true else (true || _)
     split <;> rfl
   ·have hA : addQ g w p = newQ w p := by unfold addQ; exact if_neg (fun h => hl h.1)
    rw [if_neg (fun h => hl (hp.1 h.1)), hA]
    show true = if _ then true else (true || _)
    split <;> rfl
  rw [ha]
 rw [if_neg h4, if_neg h4]
 by_cases h5 : livQ g w (keyN p) = false
 ·rw [if_pos h5, if_pos (by
   by_cases hc : posN (refN g w) (keyN p) < 0
   ·exact hc
   ·rw [hp.1 (by omega)] at h5; cases h5)]
 have h5' : livQ g w (keyN p) = true := by simpa using h5
 rw [if_neg h5, if_neg (by have := hp.2 h5'; omega)]
 obtain ⟨A, B, q, hq, e0, hps, he⟩ := refN_at hw hI.ok h5'
 by_cases h6 : hasN p.2.2.1 2 = true
 ·rw [if_pos h6, if_pos h6]
  refine Prod.ext rfl ?_
  show cutN (refN g w) (posN (refN g w) (keyN p)).toNat = refN (updQ g (keyN p) none) w
  rw [hps, Int.toNat_natCast, he none, entQ_del, e0, cutN_at]; rfl
 ·rw [if_neg h6, if_neg h6]
  refine Prod.ext rfl ?_
  show insN { atT (refN g w) (keyN p) with d := hasN p.2.2.1 8 } false (refN g w) = refN (updQ g (keyN p) ((g (keyN p)).map fun q => { q with d := hasN p.2.2.1 8 })) w
  have hat : atT (refN g w) (keyN p) = rnQ w (keyN p) q := by
   unfold atT; rw [hps, Int.toNat_natCast, e0, getD_at]
  rw [hat, hq]
  show _ = refN (updQ g (keyN p) (some { q with d := hasN p.2.2.1 8 })) w
  rw [← insN_new g hgr (q := { q with d := hasN p.2.2.1 8 }) (fun h => ⟨hsm h, by
   unfold livQ at h5'; rw [hq] at h5'; dsimp only at h5'; rw [if_neg h, decide_eq_true_eq] at h5'
   exact h5'.2⟩)]
  rfl
theorem InvQ.upd {g : Ky → Option QnA} {w : WA} (hI : InvQ g w) {a : Ky} {o : Option QnA} (hok : OkK (knF (updQ g a o))) (h : ∀ q, o = some q → a.2 ≠ 3 → (∃ (n : Nat) (y : WireA), q.wire = (n : Int) ∧ w.ws[n]? = some y ∧ (y.e 0).what ≠ 0) ∧ q.seen ≤ riseK a.2 (readyR w a.1)) : InvQ (updQ g a o) w where
 ok := hok
 wr b q hq h3 := by
  by_cases e : b = a
  ·subst e; rw [updQ_eq] at hq; exact (h q hq h3).1
  ·rw [updQ_ne e] at hq; exact hI.wr b q hq h3
 le b q hq h3 hl := by
  by_cases e : b = a
  ·subst e; rw [updQ_eq] at hq; exact (h q hq h3).2
  ·rw [updQ_ne e] at hq
   refine hI.le b q hq h3 ?_; unfold livQ at hl ⊢; rw [updQ_ne e] at hl; exact hl
theorem InvQ.chg {K : Nat} {g : Ky → Option QnA} {w : WA} (hw : WOk w) (hl : Lo K w) (hI : InvQ g w) {p : NoA} (hp : InK .i64 p.2.2.1) : InvQ (chgG g w p).2 w := by
 have hok : OkK (knF (chgG g w p).2) := by
  have := hI.ok.chg w p
  rw [chgG_eq hp] at this; exact this
 revert hok
 unfold chgG
 by_cases h1 : mayR p = false
 ·rw [if_pos h1]; exact fun _ => hI
 rw [if_neg h1]
 by_cases h2 : p.2.1 = 3 ∧ (p.1 < 1 ∨ 31 < p.1)
 ·rw [if_pos h2]; exact fun _ => hI
 rw [if_neg h2]
 by_cases h3 : p.2.1 ≠ 3 ∧ w.at p.1 = none
 ·rw [if_pos h3]; exact fun _ => hI
 rw [if_neg h3]
 by_cases h4 : hasN p.2.2.1 1 = true
 ·rw [if_pos h4]
  refine fun hok => hI.upd hok fun q hq h7 => ?_
  obtain rfl := Option.some.inj hq
  refine ⟨?_, ?_⟩
  ·obtain ⟨x, hx⟩ := Option.ne_none_iff_exists'.1 (fun e => h3 ⟨h7, e⟩)
   obtain ⟨n, k⟩ := x
   obtain ⟨y, hy, _, _, _, hy0⟩ := Ep.opn0 hw hl hx
   have hwr : (addQ g w p).wire = wireK w p := by unfold addQ; split <;> rfl
   refine ⟨n, y, ?_, hy, hy0⟩; rw [hwr]; unfold wireK; rw [if_neg h7, hx]; rfl
  ·unfold addQ
   split
   ·rename_i hk
    obtain ⟨q, hq⟩ := liv_some hk.1
    rw [hq]; exact hI.le _ q hq h7 hk.1
   ·exact Int.le_refl _
 rw [if_neg h4]
 by_cases h5 : livQ g w (p.1, p.2.1) = false
 ·rw [if_pos h5]; exact fun _ => hI
 rw [if_neg h5]
 by_cases h6 : hasN p.2.2.1 2 = true
 ·rw [if_pos h6]
  exact fun hok => hI.upd hok fun q hq => by cases hq
 rw [if_neg h6]; refine fun hok => hI.upd hok fun q hq h7 => ?_
 obtain ⟨q0, hq0⟩ := liv_some (g := g) (w := w) (a := (p.1, p.2.1)) (by simpa using h5)
 rw [hq0] at hq
 obtain rfl := Option.some.inj hq
 exact ⟨hI.wr _ q0 hq0 h7, hI.le _ q0 hq0 h7 (by simpa using h5)⟩
def chsR (w : WA) : List RnA → List NoA → List NoA × List RnA
 | l, [] => ([], l)
 | l, p :: t => (oneR (chR w l p).1 p ++ (chsR w (chR w l p).2 t).1, (chsR w (chR w l p).2 t).2)
theorem chR_ref {g : Ky → Option QnA} {w : WA} (hw : WOk w) (hI : InvQ g w) (p : NoA) : chR w (refN g w) p = ((chgG g w p).1, refN (chgG g w p).2 w) := by
 unfold chR
 by_cases h : mayR p = false
 ·rw [if_pos h]
  unfold chgG; rw [if_pos h]
 ·rw [if_neg h, tidyN_id hw hI, chg_ref hw hI h]
theorem chs_ref {K : Nat} {w : WA} (hw : WOk w) (hl : Lo K w) : ∀ (l : List NoA) (g : Ky → Option QnA), InvQ g w → (∀ p ∈ l, InK .i64 p.2.2.1) → chsR w (refN g w) l = ((chsG g w l).1, refN (chsG g w l).2 w) ∧ InvQ (chsG g w l).2 w
 | [], g, hI, _ => ⟨rfl, hI⟩
 | p :: t, g, hI, h => by
  have h1 := h p List.mem_cons_self
  obtain ⟨e, hI2⟩ := chs_ref hw hl t (chgG g w p).2 (hI.chg hw hl h1) fun q hq => h q (List.mem_cons_of_mem _ hq)
  refine ⟨?_, hI2⟩
  show (oneR (chR w (refN g w) p).1 p ++ (chsR w (chR w (refN g w) p).2 t).1, (chsR w (chR w (refN g w) p).2 t).2) = _
  rw [chR_ref hw hI p]; dsimp only; rw [e]; rfl
def dueN1 (w : WA) (x : RnA) : Option NoA :=
 if x.d = true then none
 else if x.flt = 3 then (if 0 < cntS w.ct x.id then some (x.id, x.flt, 0, cntS w.ct x.id) else none)
 else if onK x.flt (readyR w x.id) = true ∧ (x.c = false ∨ x.a = true) then some (x.id, x.flt, eofK (readyR w x.id), 0) else none
def dueN (w : WA) (l : List RnA) : List NoA := l.filterMap (dueN1 w)
theorem due_N (g : Ky → Option QnA) (w : WA) : dueN w (refN g w) = dueK (knF g) w := by
 unfold dueN refN
 show _ = dueT (knF g) w (allK (knF g) w)
 unfold dueT allK; rw [List.filterMap_filterMap, List.filterMap_filter]; refine fmK_congr fun a _ => ?_
 rw [livQ_eq]; unfold entQ
 cases hv : livQ g w a with
 | false => rw [if_neg (by decide), if_neg (by decide)]; rfl
 | true =>
  rw [if_pos rfl, if_pos rfl]
  obtain ⟨q, hq⟩ := liv_some hv
  rw [hq]
  show dueN1 w (rnQ w a q) = _
  have hk : (knF g a).getD zKn = q.kn := by unfold knF; rw [hq]; rfl
  unfold dueN1 toldK; rw [hk]
  show (if q.d = true then none else if a.2 = 3 then _ else _) = if (if bits .and .i64 (flK q.d q.c q.o) 8 ≠ 0 then _ else _ : NoA × Bool).2 = true then some (if bits .and .i64 (flK q.d q.c q.o) 8 ≠ 0 then _ else _ : NoA × Bool).1 else none
  have h8 := fl_8 q.d q.c q.o
  cases hd : q.d with
  | true =>
   rw [hd] at h8
   have e8 : bits .and .i64 (flK true q.c q.o) 8 ≠ 0 := by simpa using h8
   rw [if_pos rfl, if_pos e8]; rfl
  | false =>
   rw [hd] at h8
   have e8 : ¬ bits .and .i64 (flK false q.c q.o) 8 ≠ 0 := by simpa using h8
   rw [if_neg (by decide), if_neg e8]
   by_cases h3 : a.2 = 3
   ·rw [if_pos h3, if_pos h3]
    show (if 0 < cntS w.ct a.1 then some (a.1, a.2, 0, cntS w.ct a.1) else none) = if decide (cntS w.ct a.1 > 0) = true then some (a.1, a.2, 0, cntS w.ct a.1) else none
    by_cases hc : 0 < cntS w.ct a.1
    ·rw [if_pos hc, if_pos (decide_eq_true hc)]
    ·rw [if_neg hc, if_neg (by simpa using hc)]
   ·rw [if_neg h3, if_neg h3]
    show (if onK a.2 (readyR w a.1) = true ∧ (q.c = false ∨ (rnQ w a q).a = true) then some (a.1, a.2, eofK (readyR w a.1), 0) else none) = if (onK a.2 (readyR w a.1) && newsK q.kn a.2 (readyR w a.1)) = true then some (a.1, a.2, eofK (readyR w a.1), (0 : Int)) else none
    have h16 := fl_16 q.d q.c q.o
    have e : (onK a.2 (readyR w a.1) = true ∧ (q.c = false ∨ (rnQ w a q).a = true)) ↔ (onK a.2 (readyR w a.1) && newsK q.kn a.2 (readyR w a.1)) = true := by
     rw [Bool.and_eq_true]; refine and_congr_right fun _ => ?_
     unfold newsK rnQ; dsimp only; rw [if_neg h3]
     show _ ↔ (decide (bits .and .i64 (flK q.d q.c q.o) 16 = 0) || q.armed || decide (riseK a.2 (readyR w a.1) > q.seen)) = true
     rw [Bool.or_assoc, Bool.or_eq_true, Bool.or_eq_true, Bool.or_eq_true]; refine or_congr ?_ Iff.rfl
     cases hc : q.c with
     | true => rw [hc, decide_eq_true_eq] at h16; simpa using h16
     | false => rw [hc, decide_eq_false_iff_not] at h16; simpa using h16
    by_cases hc : onK a.2 (readyR w a.1) = true ∧ (q.c = false ∨ (rnQ w a q).a = true)
    ·rw [if_pos hc, if_pos (e.1 hc)]
    ·rw [if_neg hc, if_neg (fun h => hc (e.2 h))]
def noteN (x : RnA) : NoA := (x.id, x.flt, flK x.d x.c x.o, 0)
theorem notes_N (g : Ky → Option QnA) (w : WA) : (refN g w).map noteN = (allK (knF g) w).map (noK (knF g)) := by
 unfold refN allK; rw [List.map_filterMap, ← List.filterMap_eq_map, List.filterMap_filter]; refine fmK_congr fun a _ => ?_
 rw [livQ_eq]; unfold entQ
 cases hv : livQ g w a with
 | false => rw [if_neg (by decide), if_neg (by decide)]; rfl
 | true =>
  rw [if_pos rfl, if_pos rfl]
  obtain ⟨q, hq⟩ := liv_some hv
  rw [hq]
  show some (noteN (rnQ w a q)) = some (noK (knF g) a)
  unfold noK knF; rw [hq]; rfl
def offQ1 (w : WA) (g : Ky → Option QnA) (a : Ky) : Ky → Option QnA := updQ g a ((g a).bind fun q => if q.o = true then none else some { q with armed := false, seen := riseK a.2 (readyR w a.1) })
def offQ (w : WA) (g : Ky → Option QnA) : List NoA → (Ky → Option QnA)
 | [] => g
 | y :: t => offQ w (offQ1 w g (keyN y)) t
theorem offQ_app (w : WA) (y : NoA) : ∀ (l : List NoA) (g : Ky → Option QnA), offQ w g (l ++ [y]) = offQ1 w (offQ w g l) (keyN y)
 | [], _ => rfl
 | x :: t, g => offQ_app w y t _
theorem offQ1_eq {w : WA} {g : Ky → Option QnA} {y : NoA} {q : QnA} (hq : g (keyN y) = some q) : off1 w (knF g) y = knF (offQ1 w g (keyN y)) := by
 rw [off1_eq]; unfold offQ1 oneF
 have hk : (knF g (keyN y)).getD zKn = q.kn := by unfold knF; rw [hq]; rfl
 rw [hk, hq, ← knF_upd]
 congr 1
 show (if decide (bits .and .i64 (flK q.d q.c q.o) 32 ≠ 0) = true then none else some (offX w q.kn (keyN y))) = Option.map QnA.kn (if q.o = true then none else _)
 rw [fl_32]
 by_cases ho : q.o = true
 ·rw [if_pos ho, if_pos ho]; rfl
 ·rw [if_neg ho, if_neg ho]; rfl
theorem offQ_liv {w : WA} : ∀ (l : List NoA) (g : Ky → Option QnA) {a : Ky}, a ∉ l.map keyN → offQ w g l a = g a
 | [], _, _, _ => rfl
 | y :: t, g, a, h => by
  rw [List.map_cons, List.mem_cons] at h
  show offQ w (offQ1 w g (keyN y)) t a = g a
  rw [offQ_liv t _ fun e => h (.inr e)]; exact updQ_ne fun e => h (.inl e)
theorem offQ_eq {w : WA} : ∀ (l : List NoA) (g : Ky → Option QnA), (l.map keyN).Nodup → (∀ y ∈ l, (g (keyN y)).isSome = true) → offK w (knF g) l = knF (offQ w g l)
 | [], _, _, _ => rfl
 | y :: t, g, hn, h => by
  rw [List.map_cons, List.nodup_cons] at hn
  obtain ⟨q, hq⟩ := Option.isSome_iff_exists.1 (h y List.mem_cons_self)
  show offK w (off1 w (knF g) y) t = knF (offQ w (offQ1 w g (keyN y)) t)
  rw [offQ1_eq hq]; refine offQ_eq t _ hn.2 fun z hz => ?_
  have : offQ1 w g (keyN y) (keyN z) = g (keyN z) := updQ_ne fun e => hn.1 (e ▸ List.mem_map_of_mem hz)
  rw [this]; exact h z (List.mem_cons_of_mem _ hz)
theorem OkK.offQ1 {g : Ky → Option QnA} (h : OkK (knF g)) (w : WA) (a : Ky) : OkK (knF (offQ1 w g a)) := by
 have : ∀ b x, knF (Kq.offQ1 w g a) b = some x → ∃ y, knF g b = some y := fun b x hx => by
  unfold Kq.offQ1 at hx
  by_cases e : b = a
  ·subst e
   unfold knF at hx ⊢; rw [updQ_eq] at hx
   cases hg : g b with
   | none => rw [hg] at hx; cases hx
   | some q => exact ⟨_, rfl⟩
  ·unfold knF at hx ⊢
   rw [updQ_ne e] at hx; exact ⟨x, hx⟩
 exact ⟨fun b x hx => by obtain ⟨y, hy⟩ := this b x hx; exact h.fl b y hy, fun b x hx => by obtain ⟨y, hy⟩ := this b x hx; exact h.sg b y hy⟩
theorem InvQ.off1 {g : Ky → Option QnA} {w : WA} (hI : InvQ g w) (a : Ky) : InvQ (offQ1 w g a) w := by
 refine hI.upd (hI.ok.offQ1 w a) fun q hq h3 => ?_
 cases hg : g a with
 | none => rw [hg] at hq; cases hq
 | some p =>
  rw [hg] at hq
  replace hq : (if p.o = true then none else some { p with armed := false, seen := riseK a.2 (readyR w a.1) }) = some q := hq
  split at hq
  ·cases hq
  ·obtain rfl := Option.some.inj hq
   exact ⟨hI.wr a p hg h3, Int.le_refl _⟩
theorem InvQ.off {w : WA} : ∀ (l : List NoA) {g : Ky → Option QnA}, InvQ g w → InvQ (offQ w g l) w
 | [], _, h => h
 | y :: t, _, h => InvQ.off t (h.off1 (keyN y))
theorem off_N {g : Ky → Option QnA} {w : WA} (hw : WOk w) (hf : OkK (knF g)) {a : Ky} (h : livQ g w a = true) : ∃ (k : Nat) (x : RnA), posN (refN g w) a = (k : Int) ∧ (refN g w)[k]? = some x ∧ keyR x = a ∧ (x.o = true → cutN (refN g w) k = refN (offQ1 w g a) w) ∧ (x.o = false → (refN g w).set k { x with a := false } = refN (offQ1 w g a) w) := by
 obtain ⟨A, B, q, hq, e0, hps, he⟩ := refN_at hw hf h
 refine ⟨A.length, rnQ w a q, hps, by rw [e0]; exact get_at _ _ _, rfl, fun ho => ?_, fun ho => ?_⟩
 ·unfold offQ1
  rw [hq]
  show _ = refN (updQ g a (if q.o = true then none else some _)) w
  rw [if_pos (show q.o = true from ho), he none, entQ_del, e0, cutN_at]; rfl
 ·unfold offQ1
  rw [hq]
  show _ = refN (updQ g a (if q.o = true then none else some { q with armed := false, seen := riseK a.2 (readyR w a.1) })) w
  rw [if_neg (by have : q.o = false := ho; rw [this]; decide), he (some _), entQ_new (fun h3 => by
   unfold livQ at h; rw [hq] at h; dsimp only at h; rw [if_neg h3, decide_eq_true_eq] at h
   exact h), e0, set_at]
  show A ++ _ :: B = A ++ ([_] ++ B)
  congr 2
  unfold rnQ; dsimp only; rw [decide_eq_false (Int.lt_irrefl _), Bool.or_false, ite_self]
end Kq
end Go.Proofs.YtbfddabjbkohdaaGreat
namespace Go.Proofs.YtbfddabjbkohdaaGreat
open Go.RX Fx
namespace Rf
open Wo
structure RwI where
 a : Nat → Option Addr
 c : Nat → Nat
 wa : Option Addr
 wc : Nat
abbrev Row := WireA × RwI
abbrev encRE (x : EndA) (a : Option Addr) (c : Nat) : List Value := [.int .i64 x.what, .int .i64 x.fd, .bool x.rd, .bool x.wr, .slice a x.b.length c, .bool x.shut, .int .u64 x.inn, .int .u64 x.out]
abbrev encRW (p : Row) : List Value := encRE (p.1.e 0) (p.2.a 0) (p.2.c 0) ++ (encRE (p.1.e 1) (p.2.a 1) (p.2.c 1) ++ [.int .i64 (p.1.cap : Int), .bool p.1.rs, .int .i64 p.1.bl, .slice p.2.wa p.1.wt.length p.2.wc])
theorem encRW_len (p : Row) : (encRW p).length = 20 := rfl
theorem encRW_one (p : Row) : ∀ u ∈ encRW p, u.oneCell' = true := by simp [Value.oneCell']
abbrev SdB (p : Row) (k : Nat) : SP := own 5 1 (p.2.a k) (p.1.e k).b.length (p.2.c k) (bsl (p.1.e k).b)
abbrev SdW (p : Row) : SP := own 3 1 p.2.wa p.1.wt.length p.2.wc (nats p.1.wt)
abbrev SdL (p : Row) (k : Nat) (L : List SP) : List SP := SdB p k :: SdB p (1 - k) :: SdW p :: L
def Sd (p : Row) : SP := RX.ex fun k : Nat => pu (k < 2) :: SdL p k []
theorem Hd.sd {E : World} {n : Nat} {ds : List Deferred} {st : List (Nat × Value)} {L L' : List SP} {K : Act → World → Prop} {p : Row} (q : Pick L (Sd p) L') (k : Nat) (hk : k < 2) (h : Hd E n ds st (SdL p k L') K) : Hd E n ds st L K :=
 Hd.exs (f := fun k : Nat => pu (k < 2) :: SdL p k []) q fun j => Hd.pure fun hj => by
  by_cases e : j = k
  ·subst e; exact h
  ·obtain rfl : j = 1 - k := by omega
   refine Hd.heap (SdL p k L') (fun q s => ?_) h
   have e2 : 1 - (1 - k) = k := by omega
   have s' : sep (SdL p (1 - k) L') q := s
   unfold SdL at s'; rw [e2] at s'; exact Ent.sep enn q s'
theorem sd_fold {p : Row} {k : Nat} (hk : k < 2) {L : List SP} : ∀ h, sep (SdL p k L) h → sep (Sd p :: L) h := fun h s => Ent.sep (.ex k (.pure hk enn)) h s
theorem sd_same {p p' : Row} (hb : ∀ k, k < 2 → (p'.1.e k).b = (p.1.e k).b) (hw : p'.1.wt = p.1.wt) (hi : p'.2 = p.2) : Sd p' = Sd p := by
 have h : ∀ k, k < 2 → SdL p' k [] = SdL p k [] := fun k hk => by
  unfold SdL SdB SdW; rw [hb k hk, hb (1 - k) (by omega), hw, hi]
 unfold Sd
 funext q
 refine propext ⟨?_, ?_⟩
 ·rintro ⟨k, s⟩
  have hk : k < 2 := by obtain ⟨_, _, _, _, _, hf, _⟩ := s; exact hf
  exact ⟨k, by show sep (pu (k < 2) :: SdL p k []) q; rw [← h k hk]; exact s⟩
 ·rintro ⟨k, s⟩
  have hk : k < 2 := by obtain ⟨_, _, _, _, _, hf, _⟩ := s; exact hf
  exact ⟨k, by show sep (pu (k < 2) :: SdL p' k []) q; rw [h k hk]; exact s⟩
abbrev ntV : Option (Nat × Nat) → List Value
 | none => [.int .i64 (-1), .int .i64 0]
 | some (n, k) => [.int .i64 (n : Int), .int .i64 (k : Int)]
abbrev RwC (w : WA) (n : Nat) (ad : Option Addr) (c : Nat) : List Value := [.slice ad n c, .int .u64 w.now] ++ (w.hd.map .bool ++ (w.ct.map (Value.int .i64) ++ ntV w.nt))
abbrev RwH (b : Nat) (w : WA) (n : Nat) (ad : Option Addr) (c : Nat) : SP := pt b (RwC w n ad c) 133
abbrev Rows_ := List Row × Option Addr × Nat
abbrev OwR (i : Rows_) : SP := own 221 20 i.2.1 i.1.length i.2.2 (i.1.flatMap encRW)
abbrev RwL (b : Nat) (w : WA) (i : Rows_) (L : List SP) : List SP := RwH b w i.1.length i.2.1 i.2.2 :: OwR i :: Bag Sd i.1 :: L
def RwP (b : Nat) (w : WA) : SP := RX.ex fun i : Rows_ => pu (i.1.map Prod.fst = w.ws) :: RwL b w i []
theorem Hd.rw {E : World} {n : Nat} {ds : List Deferred} {st : List (Nat × Value)} {L L' : List SP} {K : Act → World → Prop} {b : Nat} {w : WA} (p : Pick L (RwP b w) L') (h : ∀ i : Rows_, i.1.map Prod.fst = w.ws → Hd E n ds st (RwL b w i L') K) : Hd E n ds st L K :=
 Hd.exs (f := fun i : Rows_ => pu (i.1.map Prod.fst = w.ws) :: RwL b w i []) p fun i => Hd.pure fun hr => h i hr
theorem rw_fold {b : Nat} {w : WA} {i : Rows_} {L : List SP} (h : i.1.map Prod.fst = w.ws) : ∀ k, sep (RwL b w i L) k → sep (RwP b w :: L) k := fun k s => Ent.sep (.ex i (.pure h enn)) k s
theorem row_at {w : WA} {i : Rows_} (h : i.1.map Prod.fst = w.ws) {n : Nat} {x : WireA} (hn : w.ws[n]? = some x) : ∃ j, i.1[n]? = some (x, j) := by
 rw [← h, List.getElem?_map] at hn
 cases hr : i.1[n]? with
 | none => rw [hr] at hn; cases hn
 | some p => rw [hr] at hn; obtain ⟨y, j⟩ := p; obtain rfl := Option.some.inj hn; exact ⟨j, rfl⟩
theorem rows_n {w : WA} {i : Rows_} (h : i.1.map Prod.fst = w.ws) : i.1.length = w.ws.length := by rw [← h, List.length_map]
theorem rcell {rs : List Row} {n k j o : Nat} {x : WireA} {i : RwI} {v : Value} (h : rs[n]? = some (x, i)) (hk : k < 2) (hj : j < 8) (ho : o = n * 20 + k * 8 + j) (hv : (encRE (x.e k) (i.a k) (i.c k))[j]? = some v) : (rs.flatMap encRW)[o]? = some v := by
 subst ho; rw [Nat.add_assoc]; refine flat_cells encRW 20 encRW_len h (k * 8 + j) v ?_
 rcases (show k = 0 ∨ k = 1 by omega) with rfl | rfl
 ·rw [show 0 * 8 + j = j by omega, List.getElem?_append_left (by simp; omega)]; exact hv
 ·rw [List.getElem?_append_right (by simp), List.getElem?_append_left (by simp; omega)]
  simpa using hv
theorem rcellW {rs : List Row} {n j o : Nat} {x : WireA} {i : RwI} {v : Value} (h : rs[n]? = some (x, i)) (ho : o = n * 20 + j) (hv : (encRW (x, i))[j]? = some v) : (rs.flatMap encRW)[o]? = some v := by
 subst ho; exact flat_cells encRW 20 encRW_len h j v hv
theorem rset {rs : List Row} {n k j o : Nat} {x x' : WireA} {i i' : RwI} {v : Value} (h : rs[n]? = some (x, i)) (hk : k < 2) (hj : j < 8) (ho : o = n * 20 + k * 8 + j) (he : (encRE (x.e k) (i.a k) (i.c k)).set j v = encRE (x'.e k) (i'.a k) (i'.c k))
  (h1 : encRE (x.e (1 - k)) (i.a (1 - k)) (i.c (1 - k)) = encRE (x'.e (1 - k)) (i'.a (1 - k)) (i'.c (1 - k))) (h2 : (encRW (x, i)).drop 16 = (encRW (x', i')).drop 16) : (rs.flatMap encRW).set o v = (rs.set n (x', i')).flatMap encRW := by
 subst ho; refine rows_set (j := k * 8 + j) encRW_len (by omega) ?_ h (by omega)
 have h3 : ([.int .i64 (x.cap : Int), .bool x.rs, .int .i64 x.bl, .slice i.wa x.wt.length i.wc] : List Value) = [.int .i64 (x'.cap : Int), .bool x'.rs, .int .i64 x'.bl, .slice i'.wa x'.wt.length i'.wc] := h2
 rcases (show k = 0 ∨ k = 1 by omega) with rfl | rfl
 ·rw [show 0 * 8 + j = j by omega]
  show (encRE (x.e 0) (i.a 0) (i.c 0) ++ _).set j v = _
  rw [List.set_append_left _ _ (by simp; omega), he]
  show _ ++ (encRE (x.e 1) (i.a 1) (i.c 1) ++ _) = _ ++ (_ ++ _)
  rw [h1, h3]
 ·show (encRE (x.e 0) (i.a 0) (i.c 0) ++ (encRE (x.e 1) (i.a 1) (i.c 1) ++ _)).set (1 * 8 + j) v = _
  rw [List.set_append_right _ _ (by simp), List.set_append_left _ _ (by simp; omega)]; rw [show 1 * 8 + j - (encRE (x.e 0) (i.a 0) (i.c 0)).length = j by simp, he, h3]
  have h1' : encRE (x.e 0) (i.a 0) (i.c 0) = encRE (x'.e 0) (i'.a 0) (i'.c 0) := h1
  rw [h1']
section
variable {E : World} {n : Nat} {ds : List Deferred} {st : List (Nat × Value)} {L L' : List SP} {P : Program} {d : Nat} {ty t : TypeId} {pos : String} {af : Array Edge} {g : Option (Nat × Bool)} {op : Operand} {v : Value}
theorem y_rc {e m c q k o : Nat} {ad : Option Addr} {rs : List Row} {x : WireA} {i : RwI} (ha : agk P t = some false) (hx : evo st op = some (.pointer (some ((adr ad).add o)))) (hr : rs[q]? = some (x, i)) (hk : k < 2) (j : Nat) (hv : (encRE (x.e k) (i.a k) (i.c k))[j]? = some v)
  (p : Pick L (own e 20 ad m c (rs.flatMap encRW)) L' := by repeat (first | with_reducible exact Pick.here | apply Pick.there | with_reducible apply Pick.right)) (ho : o = q * 20 + k * 8 + j := by omega) (hj : j < 8 := by decide) : Yv E n ds st L P ⟨some d, .load t op, ty, pos, af, g⟩ v :=
 y_loadR1 ha hx (RdS.own p) (rcell hr hk hj ho hv)
theorem y_rw {e m c q o : Nat} {ad : Option Addr} {rs : List Row} {x : WireA} {i : RwI} (ha : agk P t = some false) (hx : evo st op = some (.pointer (some ((adr ad).add o)))) (hr : rs[q]? = some (x, i)) (j : Nat) (hv : (encRW (x, i))[j]? = some v)
  (p : Pick L (own e 20 ad m c (rs.flatMap encRW)) L' := by repeat (first | with_reducible exact Pick.here | apply Pick.there | with_reducible apply Pick.right)) (ho : o = q * 20 + j := by omega) : Yv E n ds st L P ⟨some d, .load t op, ty, pos, af, g⟩ v :=
 y_loadR1 ha hx (RdS.own p) (rcellW hr ho hv)
end
end Rf
end Go.Proofs.YtbfddabjbkohdaaGreat
namespace Go.Proofs.YtbfddabjbkohdaaGreat
open Go.RX Fx
namespace Wo
theorem free_itR (wb bx : Nat) (t : Int → Option (Nat × Nat)) : RX.ItR Tryz.prog 174 [.pointer (some ⟨bx, 0, none⟩)] encF (fun ys => ys = frees t) (fun ys => ys <+: frees t) wb 0 (fdC t)
  [pt bx [.pointer (some ⟨wb, 0, none⟩)] 38] [pt bx [.pointer (some ⟨wb, 0, none⟩)] 38] := by
 intro l J X hy hRd; refine Ct.of (vs := [.func (.yield l) #[] #[], .pointer (some ⟨bx, 0, none⟩)]) Tryz.func174 rfl rfl [(0, .func (.yield l) #[] #[]), (1, .pointer (some ⟨bx, 0, none⟩))] ⟨rfl, rfl, trivial⟩ ?_; intro E
 show Hd E 23 _ _ _ _
 refine Hd.heap (pt bx [.pointer (some ⟨wb, 0, none⟩)] 38 :: J []) (fun k h => by have := sep_app h; exact this) ?_; refine sr fun _ K1 => ?_
 refine yv (y_l1 ag38 rfl) <| yv y_np <| yv (y_f 0 207 Tryz.underlying210 sz207) <| yv (y_loadn (us := fdC t) ag207 rfl (hRd.mono (fun k s => by obtain ⟨_, _, _, _, b, _, y⟩ := s; exact y.up b)) (by rw [fdC_len]; exact sz207)) ?_; refine yv y_mv <| fk [(0,_),(8,_),(9,_)] K1 ?_; refine Hd.block <| Hd.loopK (ι := Nat) [(0,_),(8,_)] (fun i => [(9, .int .i64 (i : Int))]) (fun i => pu (i ≤ 96) :: pt bx [.pointer (some ⟨wb, 0, none⟩)] 38 :: J ((List.range i).filter fun fd : Nat => (t (fd : Int)).isNone)) (fun i => 96 - i) 0 sbq sbq (Ent.sep (.pure (by omega) enn)) ?_; intro i
 try dsimp only
 refine Hd.pure (fun hp0 => ?_)
 try dsimp only at hp0
 refine sr fun _ K2 => ?_
 refine yv (y_lss rfl rfl) ?_; refine fk [(0,_),(8,_),(9,_),(10,_)] K2 ?_; refine Hd.seq fun _ K3 => ?_
 refine qz ?_ ?_ <;> intro hc0 <;> try simp only [hyZ] at hc0
 ·have hi : i < 96 := by omega
  have hsf := range_succ_filter (fun fd : Nat => (t (fd : Int)).isNone) i
  refine qv K3 <| Hd.seq fun _ K4 => ?_
  refine Hd.block <| sr fun _ K5 => ?_
  refine yv y_mv <| yv (y_indexn (us := plc (t (i : Int))) Tryz.underlying207 ag190 sz190 rfl rfl hi (fdC_drop hi)) ?_; refine Hd.alloc zr190 (fun b4 => ?_); refine yv y_as <| Hd.storeA (us := plc (t (i : Int))) (by rw [plc_len]; exact sz190) rfl rfl rfl (plc_one _) pkk (by rw [plc_len]; rfl) ?_; refine fk [(0,_),(3,_),(4,_),(8,_),(9,_)] K5 ?_; refine sr fun _ K6 => ?_
  refine yv (y_f 0 4 Tryz.underlying190 sz4) <| yv (y_load1 ag4 rfl (Rd.pt1 pkk (by exact plc0 _))) ?_; refine yv (y_not rfl) <| yv y_mv <| Hd.part (gd := 16) rfl (fun hg3_16 => ?_) (fun hg3_16 => ?_)
  ·try simp only [hyZ] at hg3_16
   have hfr : (t (i : Int)).isNone = true := by cases h : t (i : Int) <;> simp [h] at hg3_16 ⊢
   rw [if_pos hfr] at hsf
   have hpr : ((List.range i).filter fun fd : Nat => (t (fd : Int)).isNone) ++ [i] <+: frees t := by rw [← hsf]; exact range_prefix _ hi
   refine y2 y_mv <| y2 y_mv <| Hd.unguard rfl rfl ?_; refine Hd.yield (pre := (List.range i).filter fun fd : Nat => (t (fd : Int)).isNone) (c := i) (M := [pt bx [.pointer (some ⟨wb, 0, none⟩)] 38]) hy rfl rfl hpr (fun k' h => sep_app (show sep ([pt bx [.pointer (some ⟨wb, 0, none⟩)] 38] ++ J ((List.range i).filter fun fd : Nat => (t (fd : Int)).isNone)) k' from Ent.sep (show Ent _ (pt bx [.pointer (some ⟨wb, 0, none⟩)] 38 :: J ((List.range i).filter fun fd : Nat => (t (fd : Int)).isNone)) from enn) k' h)) ?_; intro yb; refine y2 (y_not rfl) <| yv (y_pickT rfl rfl) ?_; refine fk [(0,_),(8,_),(9,_),(21,_)] K6 ?_; refine qz ?_ ?_ <;> intro hc1 <;> try simp only [hyZ] at hc1
   ·subst hc1
    simp only [cond_false]; refine Hd.ret <| Hd.inBret <| Hd.thenRet <| Hd.thenRet <| Hd.inBret ?_; exact Hd.ret0 rfl (((List.range i).filter fun fd : Nat => (t (fd : Int)).isNone) ++ [i], false) rfl (fun k' h => Ent.sep (.pure hpr .same) k' h)
   subst hc1; simp only [cond_true]; refine Hd.heap (pt bx [.pointer (some ⟨wb, 0, none⟩)] 38 :: J (((List.range i).filter fun fd : Nat => (t (fd : Int)).isNone) ++ [i])) (fun k' h => sep_app h) ?_; rw [← hsf]; refine Hd.skip <| Hd.inB <| Hd.toK K4 ?_; refine Hd.region <| yv (y_addn rfl rfl (by simp only [InK]; omega)) ?_; refine yv y_mv <| Hd.nil <| slots [(0,_),(8,_),(9,_)] sbq ?_; refine thenN ?_; exact Hd.again (i + 1) (by omega) sbq (Ent.sep (.pure (by omega) enn))
  try simp only [hyZ] at hg3_16
  have hfr : (t (i : Int)).isNone = false := by cases h : t (i : Int) <;> simp [h] at hg3_16 ⊢
  rw [if_neg (by rw [hfr]; simp)] at hsf; refine n1 <| n1 <| n1 <| n1 <| yv (y_pickF rfl rfl) ?_; refine fk [(0,_),(8,_),(9,_),(21,_)] K6 ?_; refine Hd.condF rfl ?_; refine Hd.skip <| Hd.inB <| Hd.toK K4 ?_; refine Hd.region <| yv (y_addn rfl rfl (by simp only [InK]; omega)) ?_; refine yv y_mv <| Hd.nil <| slots [(0,_),(8,_),(9,_)] sbq ?_; refine thenN ?_; rw [← hsf]; exact Hd.again (i + 1) (by omega) sbq (Ent.sep (.pure (by omega) enn))
 refine Hd.exit <| Hd.thenExit <| Hd.thenExit <| Hd.inBexit ?_
 obtain rfl : i = 96 := by omega
 exact Hd.end0 rfl (frees t, true) rfl (fun k' h => Ent.sep (.pure rfl .same) k' (sep_app (M := [pt bx [.pointer (some ⟨wb, 0, none⟩)] 38]) (N := J (frees t)) (Ent.sep enn k' h)))
theorem acc_yes {w : WA} (h : WOk w) {fd : Int} {m k a f : Nat} {x : WireA} {t fs : List Nat} (hm : w.at fd = some (m, k)) (hx : w.ws[m]? = some x) (hbl : x.bl ≠ 0) (hwt : x.wt = a :: t) (hfs : frees w.at = f :: fs) :
  ∃ y, (w.setW m (x.wts t)).ws[a]? = some y ∧ accR w fd = (((f : Int), (a : Int), 0), (w.setW m (x.wts t)).setW a (giveW y f)) ∧ WOk ((w.setW m (x.wts t)).setW a (giveW y f)) ∧ ((w.setW m (x.wts t)).setW a (giveW y f)).at = setT w.at (f : Int) (some (a, 0)) := by
 have hwf := h.wf x (List.mem_of_getElem? hx)
 have hs : SbW x (x.wts t) := sbW_wts hwf (by rw [hwt]; exact List.sublist_cons_self _ _)
 have hsub := flatMap_set_sub (f := WireA.wt) (x' := x.wts t) hx hs.wt
 have hm0 : m ∈ (w.setW m (x.wts t)).ws.flatMap WireA.wt → ((x.wts t).e 0).what = 0 := fun e => by
  obtain ⟨z, hz, hz0⟩ := h.wm m (hsub.subset e)
  rw [hx] at hz; obtain rfl := Option.some.inj hz; exact hz0
 have hat := h.setS_at hx hs hm0 (fun _ _ e => e)
 have hok := h.setS hx hs hm0
 obtain ⟨y0, hy0, hy00⟩ := h.wm a (List.mem_flatMap.2 ⟨x, List.mem_of_getElem? hx, by rw [hwt]; exact List.mem_cons_self⟩)
 have ham : a ≠ m := fun e => h.ns m x hx (by rw [hwt, ← e]; exact List.mem_cons_self)
 have hy : (w.setW m (x.wts t)).ws[a]? = some y0 := by rw [setW_ne ham]; exact hy0
 have hR : accR w fd = (((f : Int), (a : Int), 0), (w.setW m (x.wts t)).setW a (giveW y0 f)) := by
  unfold accR; rw [hm]; dsimp only; rw [hx]; dsimp only; rw [if_neg hbl, hwt]; dsimp only; rw [hfs]; dsimp only; rw [hy]
 have hamw : a ∉ (w.setW m (x.wts t)).ws.flatMap WireA.wt := by
  have hp2 := flatMap_set_app (f := WireA.wt) (bs := [a] ++ t) (l := (w.setW m (x.wts [])).ws) (n := m) (x := x.wts []) (x' := x) (setW_self hx) (by rw [hwt]; rfl)
  have hp3 := flatMap_set_app (f := WireA.wt) (bs := t) (l := (w.setW m (x.wts [])).ws) (n := m) (x := x.wts []) (x' := x.wts t) (setW_self hx) rfl
  have e1 : (w.setW m (x.wts [])).ws.set m x = w.ws := by
   show (w.ws.set m _).set m x = w.ws
   rw [List.set_set]
   obtain ⟨hl, e⟩ := List.getElem?_eq_some_iff.1 hx
   rw [← e, List.set_getElem_self]
  have e2 : (w.setW m (x.wts [])).ws.set m (x.wts t) = (w.setW m (x.wts t)).ws := by
   show (w.ws.set m _).set m _ = w.ws.set m _
   rw [List.set_set]
  rw [e1] at hp2; rw [e2] at hp3
  have hn := hp2.nodup_iff.1 h.wn
  intro hm
  have := hp3.mem_iff.1 hm
  rw [List.append_assoc] at hn; exact (List.nodup_cons.1 hn).1 this
 have hff := frees_mem.1 (show f ∈ frees w.at by rw [hfs]; exact List.mem_cons_self)
 have hg := hok.give (f := f) hy (by rw [hy00]; decide) hamw hff.1 (by rw [hat]; exact hff.2)
 exact ⟨y0, hy, hR, hg.1, by rw [hg.2, hat]⟩
theorem sep_trans {A B C : List SP} (f : ∀ q, sep A q → sep B q) (g : ∀ q, sep B q → sep C q) : ∀ q, sep A q → sep C q := fun q s => g q (f q s)
theorem wire_wts {b k : Nat} {x : WireA} {i : WI} {t : List Nat} {wa : Option Addr} {wc : Nat} {L : List SP} (hi : WIOk x i) (hk : k < 2) : ∀ h, sep (pt b (encW (x.wts t) { i with wa := wa, wc := wc }) 199 :: RgO (i.p k) x.cap (x.e k).b :: RgO (i.p (1 - k)) x.cap (x.e (1 - k)).b :: own 3 1 wa t.length wc (nats t) :: L) h → sep (WireP b (x.wts t) :: L) h := fun h s =>
 wire_fold (x := x.wts t) (i := { i with wa := wa, wc := wc }) (k := k) ⟨hi.rd⟩ hk h s
theorem wire_give {b f : Nat} {y : WireA} {i : WI} {L : List SP} (hi : WIOk y i) : ∀ h, sep (pt b (encW (giveW y f) i) 199 :: RgO (i.p 0) y.cap (y.e 0).b :: RgO (i.p (1 - 0)) y.cap (y.e (1 - 0)).b :: own 3 1 i.wa y.wt.length i.wc (nats y.wt) :: L) h → sep (WireP b (giveW y f) :: L) h := fun h s =>
 wire_fold (x := giveW y f) (i := i) (k := 0) ⟨fun j hj => by
  rcases (show j = 0 ∨ j = 1 by omega) with rfl | rfl
  ·rw [give0]; exact hi.rd 0 hj
  ·rw [give1]; exact hi.rd 1 hj⟩ (by omega) h s
theorem set_fst {rs : List (Nat × WireA)} {n b : Nat} {x x' : WireA} (h : rs[n]? = some (b, x)) : (rs.set n (b, x')).map Prod.fst = rs.map Prod.fst := by
 rw [List.map_set]; apply List.ext_getElem?; intro j
 by_cases e : n = j
 ·subst e
  rw [List.getElem?_set_self (by rw [List.length_map]; exact (List.getElem?_eq_some_iff.1 h).1), List.getElem?_map, h]; rfl
 ·rw [List.getElem?_set_ne e]
abbrev AcH (b2 b4 b5 b6 b7 b8 wb b m k : Nat) (w : WA) (i : WoI) (x : WireA) (L : List SP) : List SP := WireP b x :: pt b2 [.pointer (some ⟨wb, 0, none⟩)] 38 :: pt b4 [.int .i64 0] 3 :: pt b5 [.int .i64 0] 3 :: pt b6 [.int .i64 (fdErr (some (m, k)))] 35 :: pt b7 (plc (some (m, k))) 190 :: pt b8 [ptr (some b)] 191 :: WoR wb m w i L
theorem waccept_ct (L : List SP) (wb : Nat) (w : WA) (fd : Int) : Ct Tryz.prog 59 #[.pointer (some ⟨wb, 0, none⟩), .int .i64 fd] (WorldP wb w :: L) (fun _ : Unit => .tuple #[.int .i64 (accR w fd).1.1, .int .i64 (accR w fd).1.2.1, .int .i64 (accR w fd).1.2.2]) (fun _ : Unit => WorldP wb (accR w fd).2 :: L) := by
 refine Ct.o2M Tryz.func59 ?_; intro E
 show Hd E 79 _ _ _ _
 refine Hd.world .here (fun i hw hrs => ?_); refine sr fun _ K1 => ?_
 refine Hd.box rfl rfl (fun b2 => ?_); refine Hd.alloc zr3 (fun b4 => ?_); refine Hd.alloc zr3 (fun b5 => ?_); refine Hd.alloc zr35 (fun b6 => ?_); refine fk [(1,_),(2,_),(4,_),(5,_),(6,_)] K1 ?_; refine sr fun _ K2 => ?_
 refine yv (y_l1 ag38 rfl) <| yv y_mv <| callE rfl fk101 (find_ct _ wb w i hw hrs fd) sq ?_; intro _; refine yv y_mv <| yv (y_to (v' := .agg (plc (w.at fd)).toArray) y_ex (by rfl)) ?_; refine yv (y_to (v' := ptr (wfb i (w.at fd))) y_ex (by rfl)) ?_; refine yv (y_to (v' := .int .i64 (fdErr (w.at fd))) y_ex (by rfl)) ?_; refine Hd.alloc zr190 (fun b7 => ?_); refine Hd.alloc zr191 (fun b8 => ?_); refine Hd.storeA (us := plc (w.at fd)) (by rw [plc_len]; exact sz190) rfl rfl rfl (plc_one _) pkk (by rw [plc_len]; rfl) ?_; refine Hd.store1 sz191 rfl rfl rfl pkk (by decide) ?_
 try simp only [hyS]
 refine Hd.store1 sz35 rfl rfl rfl pkk (by decide) ?_
 try simp only [hyS]
 refine fk [(2,_),(4,_),(5,_),(6,_),(8,_)] K2 ?_; refine Hd.seq fun _ K3 => ?_
 refine Hd.block <| sr fun _ K4 => ?_
 refine yv (y_l1 ag35 rfl) <| yv (y_neq rfl rfl) ?_; refine yv y_as <| fk [(2,_),(4,_),(5,_),(6,_),(8,_),(18,_)] K4 ?_; refine qz ?_ ?_ <;> intro hc0 <;> try simp only [hyZ] at hc0
 ·have hno : w.at fd = none := by
   cases h : w.at fd with
   | none => rfl
   | some p => rw [h] at hc0; exact absurd rfl hc0
  refine Hd.seq fun _ K5 => ?_
  refine Hd.drawsH ([pt b6 [.int .i64 (fdErr (w.at fd))] 35]) (fun j => !([3].contains j)) mixed ?_; simp only [List.length, Nat.zero_add, Nat.reduceAdd]; refine tH 0 rfl (y_l1 ag35 rfl) <| qo 1 ?_; refine Hd.store1 sz3 rfl rfl rfl pkk (by decide) ?_
  try simp only [hyS]
  refine qk <| qo 2 ?_; refine Hd.store1 sz3 rfl rfl rfl pkk (by decide) ?_
  try simp only [hyS]
  refine qk <| qo 3 ?_; refine Hd.store1 sz35 rfl rfl rfl pkk (by simp; done) ?_
  try simp only [hyS]
  refine qn <| endH kq ?_; refine sk [(4,_),(5,_),(6,_)] K5 ?_; refine Hd.ret <| Hd.inBret <| Hd.thenRet ?_; rw [show accR w fd = ((0, 0, 110), w) by unfold accR; rw [hno]]; rw [hno]; exact Hd.retM (fun a fr => Lv.endC3 fr rfl () ag3 ag3 ag35 rfl rfl rfl (Rd.pt1 pkk rfl) (Rd.pt1 pkk rfl) (Rd.pt1 pkk rfl) rfl (Ent.sep (.ex i (.pure ⟨hw, hrs⟩ enn))))
 obtain ⟨m, k, hnk⟩ : ∃ m k, w.at fd = some (m, k) := by
  cases h : w.at fd with
  | none => rw [h] at hc0; exact absurd hc0 (by decide)
  | some p => exact ⟨p.1, p.2, rfl⟩
 obtain ⟨hf0, hf1, hk, hn, x, hx, _, _⟩ := hw.at_lt hnk
 obtain ⟨b, hb⟩ := rs_at hrs hx
 have hwf := hw.wf x (List.mem_of_getElem? hx)
 have hml : m < i.rs.length := (List.getElem?_eq_some_iff.1 hb).1
 rw [hnk, wfb_eq hb]; refine Hd.wOut pkk hb ?_; refine Hd.wire .here 0 (by omega) (fun i2 hi => ?_); refine sr fun _ K6 => ?_
 refine yv (y_l1 ag191 rfl) <| yv y_np <| yv (y_f 15 3 Tryz.underlying199 sz3) <| yv (y_l1 ag3 rfl) <| yv (y_eql rfl rfl) ?_; refine yv y_as <| fk [(2,_),(4,_),(5,_),(6,_),(8,_),(22,_)] K6 ?_; refine qz ?_ ?_ <;> intro hc1 <;> try simp only [hyZ] at hc1
 ·refine sr fun _ K7 => ?_
  refine Hd.store1 sz3 rfl rfl rfl pkk (by decide) ?_
  try simp only [hyS]
  refine Hd.store1 sz3 rfl rfl rfl pkk (by decide) ?_
  try simp only [hyS]
  refine Hd.store1 sz35 rfl rfl rfl pkk (by simp; done) ?_
  try simp only [hyS]
  refine fk [(4,_),(5,_),(6,_)] K7 ?_; refine Hd.ret <| Hd.inBret <| Hd.thenRet ?_; rw [show accR w fd = ((0, 0, 111), w) by unfold accR; rw [hnk]; dsimp only; rw [hx]; exact if_pos hc1]; exact Hd.retM (fun a fr => Lv.endC3 fr rfl () ag3 ag3 ag35 rfl rfl rfl (Rd.pt1 pkk rfl) (Rd.pt1 pkk rfl) (Rd.pt1 pkk rfl) rfl (fun q s => world_back (k := 0) hw hrs hb hi (by omega) q (Ent.sep enn q s)))
 refine sr fun _ K8 => ?_
 refine yv (y_l1 ag191 rfl) <| yv y_np <| yv (y_f 16 44 Tryz.underlying199 sz44) <| yv (y_l1 ag44 rfl) <| yv (y_len Tryz.underlying44 rfl) ?_; refine yv (y_eql rfl rfl) ?_; refine yv y_as <| fk [(2,_),(4,_),(5,_),(6,_),(8,_),(28,_)] K8 ?_; refine qz ?_ ?_ <;> intro hc2 <;> try simp only [hyZ] at hc2
 ·refine sr fun _ K9 => ?_
  refine Hd.store1 sz3 rfl rfl rfl pkk (by decide) ?_
  try simp only [hyS]
  refine Hd.store1 sz3 rfl rfl rfl pkk (by decide) ?_
  try simp only [hyS]
  refine Hd.store1 sz35 rfl rfl rfl pkk (by simp; done) ?_
  try simp only [hyS]
  refine fk [(4,_),(5,_),(6,_)] K9 ?_; refine Hd.ret <| Hd.inBret <| Hd.thenRet ?_
  have hnil : x.wt = [] := List.eq_nil_of_length_eq_zero (by omega)
  rw [show accR w fd = ((0, 0, 113), w) by unfold accR; rw [hnk]; dsimp only; rw [hx]; dsimp only; rw [if_neg hc1, hnil]]; exact Hd.retM (fun a fr => Lv.endC3 fr rfl () ag3 ag3 ag35 rfl rfl rfl (Rd.pt1 pkk rfl) (Rd.pt1 pkk rfl) (Rd.pt1 pkk rfl) rfl (fun q s => world_back (k := 0) hw hrs hb hi (by omega) q (Ent.sep enn q s)))
 obtain ⟨a, t, hwt⟩ : ∃ a t, x.wt = a :: t := by
  cases h : x.wt with
  | nil => rw [h] at hc2; exact absurd rfl hc2
  | cons a t => exact ⟨a, t, rfl⟩
 refine Hd.skip <| Hd.inB <| Hd.toK K3 ?_; refine Hd.seq fun _ K10 => ?_
 refine Hd.seq fun _ K11 => ?_
 refine Hd.heap (AcH b2 b4 b5 b6 b7 b8 wb b m k w i x L) (fun q s => wire_fold (k := 0) hi (by omega) q (Ent.sep enn q s)) ?_; refine Hd.region <| yv (y_l1 ag38 rfl) <| callE rfl fk115 (free_ct _ wb) sq ?_; intro bx; refine fk [(2,_),(4,_),(5,_),(6,_),(8,_),(36,_)] K11 ?_; refine Hd.block <| Hd.rangeR (enc := encF) (S := fun ys => ys = frees w.at) (Sp := fun ys => ys <+: frees w.at)
  (fun pre => pu (pre = []) :: AcH b2 b4 b5 b6 b7 b8 wb b m k w i x L) (fun j _ => [pu (j = none), pt b4 [.int .i64 (accR w fd).1.1] 3, pt b5 [.int .i64 (accR w fd).1.2.1] 3, pt b6 [.int .i64 (accR w fd).1.2.2] 35, WorldP wb (accR w fd).2] ++ L)
  rfl kq (fun _ => rfl) rfl (free_itR wb bx w.at) (Rd.pt pkk (fun j v e => by rw [Nat.zero_add, List.getElem?_append_left (List.getElem?_eq_some_iff.1 e).1]; exact e)) (by refine Ent.sep ?_; refine Ent.pure rfl ?_; exact Ent.swap (L := [_])) ?_ ?_ ?_
 ·intro E l' R pre f N hR hG
  unfold Rnd; simp only [List.cons_append, List.nil_append, pz, encF]; refine Hd.region <| yv y_as <| Hd.nil <| slots [(2,_),(4,_),(5,_),(6,_),(8,_),(9,_)] sbq ?_; refine thenN <| Hd.begin hR pkk ?_; refine Hd.block <| Hd.seq fun _ K12 => ?_
  refine Hd.pull (A := pu (pre = [])) pkk ?_; refine Hd.pure (fun hpn => ?_); subst hpn
  obtain ⟨fs, hfs0⟩ := hG
  have hfs : frees w.at = f :: fs := hfs0.symm
  have hf96 : f < 96 := (frees_mem.1 (show f ∈ frees w.at by rw [hfs]; exact List.mem_cons_self)).1
  obtain ⟨y, hy, hAR, hok, hat⟩ := acc_yes hw hnk hx hc1 hwt hfs
  have ham : a ≠ m := fun e => hw.ns m x hx (by rw [hwt, ← e]; exact List.mem_cons_self)
  have hyw : w.ws[a]? = some y := by rw [setW_ne ham] at hy; exact hy
  obtain ⟨ba, hba⟩ := rs_at hrs hyw
  have hal : a < i.rs.length := (List.getElem?_eq_some_iff.1 hba).1
  have hra : (i.rs.set m (b, x.wts t))[a]? = some (ba, y) := by rw [List.getElem?_set_ne (Ne.symm ham)]; exact hba
  have hwl : 0 < x.wt.length := by rw [hwt]; exact Nat.succ_pos _
  have hlt : x.wt.length - 1 = t.length := by rw [hwt]; rfl
  have hw0 : (nats x.wt)[0 * 1]? = some (.int .i64 (a : Int)) := by rw [hwt]; rfl
  refine Hd.wire pkk 0 (by omega) (fun i3 hi3 => ?_); refine Hd.region <| yv (y_l1 ag191 rfl) <| yv y_np <| yv (y_f 16 44 Tryz.underlying199 sz44) <| yv (y_l1 ag44 rfl) <| yv (y_idxR Tryz.underlying44 sz3 rfl rfl (by exact (show (0 : Nat) < _ by omega)) (by exact RdS.own pkk)) ?_; refine yv (y_loadR1 ag3 rfl (RdS.own (ad := i3.wa) (us := nats x.wt) pkk) hw0) ?_; refine Hd.store1 sz3 rfl rfl rfl pkk (by decide) ?_
  try simp only [hyS]
  refine fk [(2,_),(4,_),(5,_),(6,_),(8,_),(9,_)] K12 ?_; refine Hd.seq fun _ K13 => ?_
  refine Hd.tail 8 mixed kq ?_; simp only [List.take, List.drop]; refine Ht.yv (y_l1 ag191 rfl) ?_; refine Ht.yv (y_l1 ag191 rfl) ?_; refine Ht.yv y_np ?_; refine Ht.yv (y_f 16 44 Tryz.underlying199 sz44) ?_; refine Ht.yv (y_l1 ag44 rfl) ?_; refine Ht.yv (y_slo_oxx Tryz.underlying44 sz3 rfl rfl (by omega) (by omega)) ?_; refine Ht.yv y_np ?_; refine Ht.yv (y_f 16 44 Tryz.underlying199 sz44) ?_; refine Ht.nil ?_; refine Hd.store1 sz44 rfl rfl rfl pkk (by simp; done) ?_
  try simp only [hyS]
  refine Hd.nil ?_; simp only [show Int.toNat 1 = 1 from rfl]; refine Hd.ownDrop (e := 3) (ad := i3.wa) (m := x.wt.length) (cap := i3.wc) pkk 1 (nats [a]) (nats t) (by omega) (by rw [hwt]; rfl) rfl ?_; rw [hlt, show (encW x i3).set (0 + 16) (.slice (cutA i3.wa 1 1 i3.wc) t.length (i3.wc - 1)) = encW (x.wts t) { i3 with wa := cutA i3.wa 1 1 i3.wc, wc := i3.wc - 1 } from rfl]; refine Hd.heap (WireP b (x.wts t) :: _) (fun q s => wire_wts (k := 0) hi3 (by omega) q (by exact Ent.sep enn q s)) ?_; refine Hd.heap (Wires (i.rs.set m (b, x.wts t)) :: _) (fun q s => ws_in hml (by exact Ent.sep enn q s)) ?_; refine sk [(2,_),(4,_),(5,_),(6,_),(9,_)] K13 ?_; refine Hd.seq fun _ K14 => ?_
  refine Hd.quiet mixed kq ?_; refine Hq.yv (y_l1 ag38 rfl) ?_; refine Hq.yv y_np ?_; refine Hq.yv (y_f 288 208 Tryz.underlying210 sz208) ?_; refine Hq.yv (y_load1 ag208 rfl (Rd.pt1 pkk (by exact woT_at (j := 0) (by omega) rfl))) ?_; refine Hq.yv (y_l1 ag3 rfl) ?_; refine Hq.yv (y_idxR Tryz.underlying208 sz191 rfl rfl (by omega) (by exact RdS.own pkk)) ?_; refine Hq.yv (y_loadR1 ag191 rfl (by exact RdS.own pkk) (by exact pws_at hba)) ?_; refine Hq.yv y_as ?_; refine Hq.nil ?_; refine sk [(2,_),(4,_),(5,_),(6,_),(9,_),(10,_)] K14 ?_; refine Hd.seq fun _ K15 => ?_
  refine Hd.wOut pkk hra ?_; refine Hd.wire .here 0 (by omega) (fun i4 hi4 => ?_); refine Hd.drawsH ([]) (fun j => !(([1000] : List Nat).contains j)) mixed ?_; simp only [List.length, Nat.zero_add, Nat.reduceAdd]; refine tH 0 rfl y_mv <| tH 1 rfl y_mv <| tH 2 rfl y_mv <| tH 3 rfl y_np <| tH 4 rfl (y_f 0 197 Tryz.underlying199 sz197) <| tH 5 rfl (y_idxA Tryz.underlying197 sz196 rfl rfl (by decide)) ?_; refine tH 6 rfl (y_f 0 3 Tryz.underlying196 sz3) <| tH 8 rfl y_np <| tH 9 rfl (y_f 0 197 Tryz.underlying199 sz197) <| qo 7 ?_; refine Hd.store1 sz3 rfl rfl rfl pkk (by simp; done) ?_
  try simp only [hyS]
  refine qk <| tH 10 rfl (y_idxA Tryz.underlying197 sz196 rfl rfl (by decide)) ?_; refine tH 11 rfl (y_f 1 3 Tryz.underlying196 sz3) <| qo 12 ?_; refine Hd.store1 sz3 rfl rfl rfl pkk (by simp; done) ?_
  try simp only [hyS]
  refine qk <| endH kq ?_; refine Hd.heap (WireP ba (giveW y f) :: _) (fun q s => wire_give hi4 q (by exact Ent.sep (.eq pkk (pt_eq (by rfl)) enn) q s)) ?_; refine Hd.heap (Wires ((i.rs.set m (b, x.wts t)).set a (ba, giveW y f)) :: _) (fun q s => ws_in (by rw [List.length_set]; exact hal) (by exact Ent.sep enn q s)) ?_; refine sk [(2,_),(4,_),(5,_),(6,_),(9,_)] K15 ?_; refine Hd.seq fun _ K16 => ?_
  refine Hd.tail 7 mixed kq ?_; simp only [List.take, List.drop]; refine Ht.yv (y_l1 ag38 rfl) ?_; refine Ht.yv y_mv ?_; refine Ht.yv (y_l1 ag3 rfl) ?_; refine Ht.yv (y_build (vs := [(0,_),(1,_),(2,_)]) rfl (by exact bd59_73 ..)) ?_; refine Ht.yv y_np ?_; refine Ht.yv (y_f 0 207 Tryz.underlying210 sz207) ?_; refine Ht.yv (y_idxA Tryz.underlying207 sz190 rfl rfl (by omega)) ?_; refine Ht.nil ?_; refine Hd.store (us := plc (some (a, 0))) sz190 rfl rfl rfl (plc_one _) pkk (by rw [List.length_append, fdC_len, plc_len]; omega) ?_; refine Hd.nil ?_; rw [show 0 + 0 + f * 3 = f * 3 by omega, show (plc (some (a, 0))).length = 3 from rfl, fdC_set hf96]; refine sk [(4,_),(5,_),(6,_),(9,_)] K16 ?_; refine Hd.seq fun _ K17 => ?_
  refine Hd.drawsH ([pt b5 [.int .i64 (a : Int)] 3]) (fun j => !([3].contains j)) mixed ?_; simp only [List.length, Nat.zero_add, Nat.reduceAdd]; refine tH 0 rfl y_mv <| tH 1 rfl (y_l1 ag3 rfl) <| qo 2 ?_; refine Hd.store1 sz3 rfl rfl rfl pkk (by decide) ?_
  try simp only [hyS]
  refine qk <| qo 3 ?_; refine Hd.store1 sz3 rfl rfl rfl pkk (by simp; done) ?_
  try simp only [hyS]
  refine qn <| qo 4 ?_; refine Hd.store1 sz35 rfl rfl rfl pkk (by simp; done) ?_
  try simp only [hyS]
  refine qk <| endH kq ?_; refine sk [(4,_),(5,_),(6,_)] K17 ?_; refine Hd.ret <| Hd.inBret <| Hd.reR ?_; simp only [List.cons_append, List.nil_append]; rw [hAR]
  have hfs2 : ((i.rs.set m (b, x.wts t)).set a (ba, giveW y f)).map Prod.fst = i.rs.map Prod.fst := by rw [set_fst hra, set_fst hb]
  have hws2 : ((i.rs.set m (b, x.wts t)).set a (ba, giveW y f)).map Prod.snd = ((w.setW m (x.wts t)).setW a (giveW y f)).ws := by
   rw [List.map_set, List.map_set, hrs]; rfl
  dsimp only; refine sep_trans (Ent.sep (.pick pkk (.eq pkk (pt_eq (by rfl)) enn))) (sep_trans (world_all (w := w) (wb := wb) hok hfs2 hws2 hat rfl) (Ent.sep ?_)); exact .pick pkk (.pure (by trivial) enn)
 ·intro r0 ys hys
  obtain rfl : ys = frees w.at := hys
  simp only [List.cons_append, List.nil_append]; refine Hd.pure (fun hfn => ?_)
  try simp only [List.cons_append, List.nil_append]
  refine Hd.inB <| Hd.toK K10 ?_; refine sr fun _ K18 => ?_
  refine Hd.store1 sz3 rfl rfl rfl pkk (by decide) ?_
  try simp only [hyS]
  refine Hd.store1 sz3 rfl rfl rfl pkk (by decide) ?_
  try simp only [hyS]
  refine Hd.store1 sz35 rfl rfl rfl pkk (by simp; done) ?_
  try simp only [hyS]
  refine fk [(4,_),(5,_),(6,_)] K18 ?_; refine Hd.ret ?_; rw [show accR w fd = ((0, 0, 112), w) by unfold accR; rw [hnk]; dsimp only; rw [hx]; dsimp only; rw [if_neg hc1, hwt]; dsimp only; rw [hfn]]; exact Hd.retM (fun a fr => Lv.mark pkk (Lv.endC3 fr rfl () ag3 ag3 ag35 rfl rfl rfl (Rd.pt1 pkk rfl) (Rd.pt1 pkk rfl) (Rd.pt1 pkk rfl) rfl (fun q s => world_same hw hrs hb q (Ent.sep enn q s))))
 rintro r0_0 (_ | id0) pre0 hG0
 ·simp only [List.cons_append, List.nil_append]
  refine Hd.pure (fun _ => ?_)
  try simp only [List.cons_append, List.nil_append]
  refine Hd.ret <| Hd.inBret <| Hd.thenRet ?_; exact Hd.retM (fun a fr => Lv.mark pkk (Lv.endC3 fr rfl () ag3 ag3 ag35 rfl rfl rfl (Rd.pt1 pkk rfl) (Rd.pt1 pkk rfl) (Rd.pt1 pkk rfl) rfl sq))
 exact Hd.absurd (by simp)
end Wo
end Go.Proofs.YtbfddabjbkohdaaGreat
namespace Go.Proofs.YtbfddabjbkohdaaGreat
open Go.RX Fx
namespace Rf
open Wo
theorem rw_head {b n : Nat} {w : WA} {i : Rows_} {x x' : WireA} {j : RwI} {L : List SP} (hi : i.1.map Prod.fst = w.ws) (hn : i.1[n]? = some (x, j)) (hb : ∀ k, k < 2 → (x'.e k).b = (x.e k).b) (hw : x'.wt = x.wt) :
  ∀ h, sep (RwH b w i.1.length i.2.1 i.2.2 :: own 221 20 i.2.1 i.1.length i.2.2 ((i.1.set n (x', j)).flatMap encRW) :: Bag Sd i.1 :: L) h → sep (RwP b (w.setW n x') :: L) h := fun h s => by
 have e1 : Bag Sd i.1 = Bag Sd (i.1.set n (x', j)) := (bag_set hn (sd_same (p := (x, j)) (p' := (x', j)) hb hw rfl)).symm
 have hl : (i.1.set n (x', j)).length = i.1.length := List.length_set ..
 refine rw_fold (i := (i.1.set n (x', j), i.2)) (by show (i.1.set n (x', j)).map Prod.fst = w.ws.set n x'; rw [List.map_set, hi]) h (Ent.sep ?_ h s); exact .eq pkk (pt_eq (by show _ = RwC (w.setW n x') (i.1.set n (x', j)).length i.2.1 i.2.2; rw [hl]; rfl)) (.eq pkk (own_eq3 hl.symm rfl rfl) (.eq pkk e1 enn))
theorem rw_put {b n : Nat} {w : WA} {i : Rows_} {x' : WireA} {j' : RwI} {L : List SP} (hi : i.1.map Prod.fst = w.ws) (hn : n < i.1.length) :
  ∀ h, sep (Sd (x', j') :: RwH b w i.1.length i.2.1 i.2.2 :: own 221 20 i.2.1 i.1.length i.2.2 ((i.1.set n (x', j')).flatMap encRW) :: Bag Sd (i.1.take n) :: Bag Sd (i.1.drop (n + 1)) :: L) h → sep (RwP b (w.setW n x') :: L) h := fun h s => by
 have hl : (i.1.set n (x', j')).length = i.1.length := List.length_set ..
 have h1 : sep (Sd (x', j') :: Bag Sd (i.1.take n) :: Bag Sd (i.1.drop (n + 1)) :: RwH b w i.1.length i.2.1 i.2.2 :: own 221 20 i.2.1 i.1.length i.2.2 ((i.1.set n (x', j')).flatMap encRW) :: L) h := Ent.sep enn h s
 have h2 := bag_in hn h1
 refine rw_fold (i := (i.1.set n (x', j'), i.2)) (by show (i.1.set n (x', j')).map Prod.fst = w.ws.set n x'; rw [List.map_set, hi]) h (Ent.sep ?_ h h2); exact .eq pkk (pt_eq (by show _ = RwC (w.setW n x') (i.1.set n (x', j')).length i.2.1 i.2.2; rw [hl]; rfl)) (.eq pkk (own_eq3 hl.symm rfl rfl) enn)
def atN : Option (Nat × Nat) → Int
 | none => -1
 | some p => (p.1 : Int)
def atK : Option (Nat × Nat) → Int
 | none => -1
 | some p => (p.2 : Int)
theorem rat_ct (L : List SP) (b : Nat) (w : WA) (hw : WOk w) (fd : Int) : Ct Tryz.prog 116 #[.pointer (some ⟨b, 0, none⟩), .int .i64 fd] (RwP b w :: L) (fun _ : Unit => .tuple #[.int .i64 (atN (w.at fd)), .int .i64 (atK (w.at fd))]) (fun _ : Unit => RwP b w :: L) := by
 refine Ct.o2 Tryz.func116 ?_; intro E
 show Hd E 50 _ _ _ _
 refine Hd.rw .here (fun i hi => ?_)
 have hrl := rows_n hi
 have hwl := hw.len
 refine sr fun _ K1 => ?_
 refine yv y_as <| yv y_as <| fk [(0,_),(1,_)] K1 ?_; refine Hd.seq fun _ K2 => ?_
 refine sr fun _ K3 => ?_
 refine yv y_as <| fk [(0,_),(1,_),(6,_)] K3 ?_; refine Hd.block <| Hd.loopK (ι := Nat) [(0,_),(1,_)] (fun n => [(6, .int .i64 (n : Int))]) (fun n => pu (n ≤ w.ws.length ∧ ∀ m y, m < n → w.ws[m]? = some y → atE y fd = none) :: RwL b w i L) (fun n => w.ws.length - n) 0 sbq sbq (Ent.sep (.pure ⟨Nat.zero_le _, fun _ _ h => absurd h (Nat.not_lt_zero _)⟩ enn)) ?_; intro n
 try dsimp only
 refine Hd.pure (fun hp0 => ?_)
 try dsimp only at hp0
 refine Hd.seq fun _ K4 => ?_
 refine sr fun _ K5 => ?_
 refine yv y_mv <| yv y_mv <| yv y_np <| yv (y_f 0 129 Tryz.underlying133 sz129) <| yv (y_l1 ag129 rfl) <| yv (y_len Tryz.underlying129 rfl) ?_; refine yv (y_lss rfl rfl) ?_; refine fk [(0,_),(1,_),(6,_),(14,_)] K5 ?_; refine qz ?_ ?_ <;> intro hc0 <;> try simp only [hyZ] at hc0
 ·have hn : n < w.ws.length := by omega
  obtain ⟨x, hx⟩ : ∃ x, w.ws[n]? = some x := ⟨_, List.getElem?_eq_getElem hn⟩
  obtain ⟨j, hrow⟩ := row_at hi hx
  refine qv K4 <| Hd.seq fun _ K6 => ?_
  refine Hd.block <| sr fun _ K7 => ?_
  refine yv y_as <| fk [(0,_),(1,_),(6,_),(7,_)] K7 ?_; refine Hd.block <| Hd.loopK (ι := Nat) [(0,_),(1,_),(6,_)] (fun k => [(7, .int .i64 (k : Int))]) (fun k => pu (k ≤ 2 ∧ ∀ q, q < k → ¬ ((x.e q).what = 1 ∧ (x.e q).fd = fd)) :: RwL b w i L) (fun k => 2 - k) 0 sbq sbq (Ent.sep (.pure ⟨Nat.zero_le _, fun _ h => absurd h (Nat.not_lt_zero _)⟩ enn)) ?_; intro k
  try dsimp only
  refine Hd.pure (fun hp1 => ?_)
  try dsimp only at hp1
  refine Hd.seq fun _ K8 => ?_
  refine sr fun _ K9 => ?_
  refine yv y_mv <| yv (y_lss rfl rfl) ?_; refine fk [(0,_),(1,_),(6,_),(7,_),(18,_)] K9 ?_; refine qz ?_ ?_ <;> intro hc1 <;> try simp only [hyZ] at hc1
  ·have hk : k < 2 := by omega
   refine qv K8 <| Hd.seq fun _ K10 => ?_
   refine Hd.block <| sr fun _ K11 => ?_
   refine yv y_mv <| yv y_np <| yv (y_f 0 129 Tryz.underlying133 sz129) <| yv (y_l1 ag129 rfl) <| yv y_mv <| yv y_mv <| yv (y_idxR Tryz.underlying129 sz221 rfl rfl (by omega) (by exact RdS.own pkk)) ?_; refine yv (y_fR 0 219 Tryz.underlying221 sz219) ?_; refine yv (y_idxAR Tryz.underlying219 sz218 rfl rfl (by omega)) ?_; refine yv (y_fR 0 3 Tryz.underlying218 sz3) ?_; refine yv (y_rc ag3 rfl hrow hk 0 rfl) ?_; refine yv (y_eql rfl rfl) ?_; refine yv y_mv ?_; apply Hd.andg 14 33 47 [(0,_),(1,_),(6,_),(7,_)] rfl sbq
   ·intro hg7_33
    try simp only [hyZ] at hg7_33
    simp only [List.take]; refine y2 y_mv <| y2 y_np <| y2 (y_f 0 129 Tryz.underlying133 sz129) <| y2 (y_l1 ag129 rfl) <| y2 y_mv <| y2 y_mv <| y2 (y_idxR Tryz.underlying129 sz221 rfl rfl (by omega) (by exact RdS.own pkk)) ?_; refine y2 (y_fR 0 219 Tryz.underlying221 sz219) ?_; refine y2 (y_idxAR Tryz.underlying219 sz218 rfl rfl (by omega)) ?_; refine y2 (y_fR 1 3 Tryz.underlying218 sz3) ?_; refine y2 (y_rc ag3 rfl hrow hk 1 rfl) ?_; refine y2 y_mv <| y2 (y_eql rfl rfl) ?_; refine yv (y_pickT rfl rfl) ?_; exact Hd.mn
   ·intro hg7_33
    try simp only [hyZ] at hg7_33
    simp only [List.take]; refine n1 <| n1 <| n1 <| n1 <| n1 <| n1 <| n1 <| n1 <| n1 <| n1 <| n1 <| n1 <| n1 <| yv (y_pickF rfl rfl) ?_; exact Hd.mn
   simp only [List.drop]; refine fk [(0,_),(1,_),(6,_),(7,_),(47,_)] K11 ?_; refine qz ?_ ?_ <;> intro hc2 <;> try simp only [hyZ] at hc2
   ·refine sr fun _ K12 => ?_
    refine yv y_mv <| yv y_mv <| yv y_as <| yv y_as <| fk [(4,_),(5,_)] K12 ?_; refine Hd.ret <| Hd.inBret <| Hd.thenRet <| Hd.thenRet <| Hd.inBret <| Hd.inBret <| Hd.thenRet <| Hd.thenRet <| Hd.inBret <| Hd.thenRet ?_
    have e : w.at fd = some (n, k) := (atW_iff hw.uq).2 ⟨hk, x, hx, hc2⟩
    rw [e]; exact Hd.ret2 rfl () rfl rfl rfl (rw_fold hi)
   refine Hd.skip <| Hd.inB <| Hd.toK K10 ?_; refine Hd.region <| yv y_mv <| yv (y_addn rfl rfl (by simp only [InK]; omega)) ?_; refine yv y_as <| Hd.nil <| slots [(0,_),(1,_),(6,_),(7,_)] sbq ?_; refine thenN ?_
   have hne : ∀ q, q < k + 1 → ¬ ((x.e q).what = 1 ∧ (x.e q).fd = fd) := by
    intro q hq
    rcases (show q < k ∨ q = k by omega) with h | rfl
    ·exact hp1.2 q h
    ·rintro ⟨h1, h2⟩
     rcases hc2 with h | h
     ·exact h h1
     ·exact h h2
   exact Hd.again (k + 1) (by omega) sbq (Ent.sep (.pure ⟨hk, hne⟩ enn))
  have hk2 : k = 2 := by omega
  refine Hd.exit <| Hd.thenExit <| Hd.thenExit <| Hd.inBexit <| Hd.inB <| Hd.toK K6 ?_; refine Hd.region <| yv y_mv <| yv (y_addn rfl rfl (by simp only [InK]; omega)) ?_; refine yv y_as <| Hd.nil <| slots [(0,_),(1,_),(6,_)] sbq ?_; refine thenN ?_
  have hne : ∀ m y, m < n + 1 → w.ws[m]? = some y → atE y fd = none := by
   intro m y hm hy
   rcases (show m < n ∨ m = n by omega) with h | rfl
   ·exact hp0.2 m y h hy
   ·rw [hx] at hy; obtain rfl := Option.some.inj hy
    exact atE_no fun q hq => hp1.2 q (by omega)
  exact Hd.again (n + 1) (by omega) sbq (Ent.sep (.pure ⟨hn, hne⟩ enn))
 refine Hd.exit <| Hd.thenExit <| Hd.thenExit <| Hd.inBexit <| Hd.toK K2 ?_; refine sr fun _ K13 => ?_
 refine yv y_as <| yv y_as <| fk [(4,_),(5,_)] K13 ?_; refine Hd.ret ?_
 have e : w.at fd = none := atW_none.2 fun y hy => by
  obtain ⟨m, hm, e⟩ := List.getElem_of_mem hy
  exact hp0.2 m y (by omega) (by rw [List.getElem?_eq_getElem hm, e])
 rw [e]; exact Hd.ret2 rfl () rfl rfl rfl (rw_fold hi)
theorem rset_inn {rs : List Row} {n k o : Nat} {x : WireA} {j : RwI} {v : Int} (h : rs[n]? = some (x, j)) (hk : k < 2) (ho : o = n * 20 + k * 8 + 6) : (rs.flatMap encRW).set o (.int .u64 v) = (rs.set n (x.up k fun e => { e with inn := v }, j)).flatMap encRW :=
 rset h hk (j := 6) (by decide) ho (by rw [up_at]; rfl) (by rw [up_ne _ _ (by omega)]) rfl
theorem rset_out {rs : List Row} {n k o : Nat} {x : WireA} {j : RwI} {v : Int} (h : rs[n]? = some (x, j)) (hk : k < 2) (ho : o = n * 20 + k * 8 + 7) : (rs.flatMap encRW).set o (.int .u64 v) = (rs.set n (x.up k fun e => { e with out := v }, j)).flatMap encRW :=
 rset h hk (j := 7) (by decide) ho (by rw [up_at]; rfl) (by rw [up_ne _ _ (by omega)]) rfl
theorem rset_shut {rs : List Row} {n k o : Nat} {x : WireA} {j : RwI} {v : Bool} (h : rs[n]? = some (x, j)) (hk : k < 2) (ho : o = n * 20 + k * 8 + 5) : (rs.flatMap encRW).set o (.bool v) = (rs.set n (x.up k fun e => { e with shut := v }, j)).flatMap encRW :=
 rset h hk (j := 5) (by decide) ho (by rw [up_at]; rfl) (by rw [up_ne _ _ (by omega)]) rfl
theorem rset_what {rs : List Row} {n k o : Nat} {x : WireA} {j : RwI} {v : Int} (h : rs[n]? = some (x, j)) (hk : k < 2) (ho : o = n * 20 + k * 8 + 0) : (rs.flatMap encRW).set o (.int .i64 v) = (rs.set n (x.up k fun e => { e with what := v }, j)).flatMap encRW :=
 rset h hk (j := 0) (by decide) ho (by rw [up_at]; rfl) (by rw [up_ne _ _ (by omega)]) rfl
theorem row_set {rs : List Row} {n : Nat} {p q : Row} (h : rs[n]? = some p) : (rs.set n q)[n]? = some q := by
 rw [List.getElem?_set_self (List.getElem?_eq_some_iff.1 h).1]
theorem up_b (x : WireA) (k : Nat) {f : EndA → EndA} (hf : ∀ e, (f e).b = e.b) (j : Nat) : ((x.up k f).e j).b = (x.e j).b := by
 by_cases e : j = k
 ·subst e; rw [up_at]; exact hf _
 ·rw [up_ne _ _ e]
abbrev OwS (i : Rows_) (rs : List Row) : SP := own 221 20 i.2.1 i.1.length i.2.2 (rs.flatMap encRW)
theorem rrise_ct (L : List SP) (b : Nat) (w : WA) (n : Nat) (x : WireA) (hx : w.ws[n]? = some x) (k : Nat) (hk : k < 2) (vi vo : Bool) : Ct Tryz.prog 176 #[.pointer (some ⟨b, 0, none⟩), .int .i64 (n : Int), .int .i64 (k : Int), .bool vi, .bool vo] (RwP b w :: L) (fun _ : Unit => .tuple #[]) (fun _ : Unit => RwP b (w.setW n (x.up k (riseE vi vo))) :: L) := by
 refine Ct.o5 Tryz.func176 ?_; intro E
 show Hd E 70 _ _ _ _
 refine Hd.rw .here (fun i hi => ?_)
 have hrl := rows_n hi
 obtain ⟨j, hrow⟩ := row_at hi hx
 have hn : n < i.1.length := (List.getElem?_eq_some_iff.1 hrow).1
 have hrow2 : (i.1.set n (x.up k (riseE vi false), j))[n]? = some (x.up k (riseE vi false), j) := row_set hrow
 refine Hd.cutK (ι := Unit) [(0,_),(1,_),(2,_),(4,_)] (fun _ => []) (fun _ => RwH b w i.1.length i.2.1 i.2.2 :: OwS i (i.1.set n (x.up k (riseE vi false), j)) :: Bag Sd i.1 :: L) ?_ ?_ ⟨rfl, rfl, rfl, rfl, trivial⟩
 ·refine sr fun _ K1 => ?_
  refine yv y_mv <| yv y_mv ?_; apply Hd.andg 12 11 23 [(0,_),(1,_),(2,_),(4,_)] rfl sbq
  ·intro hg0_11
   try simp only [hyZ] at hg0_11
   simp only [List.take]; refine y2 y_mv <| y2 y_np <| y2 (y_f 0 129 Tryz.underlying133 sz129) <| y2 (y_l1 ag129 rfl) <| y2 y_mv <| y2 y_mv <| y2 (y_idxR Tryz.underlying129 sz221 rfl rfl (by omega) (by exact RdS.own pkk)) ?_; refine y2 (y_fR 0 219 Tryz.underlying221 sz219) ?_; refine y2 (y_idxAR Tryz.underlying219 sz218 rfl rfl (by omega)) ?_; refine y2 (y_fR 2 4 Tryz.underlying218 sz4) ?_; refine y2 (y_rc ag4 rfl hrow hk 2 rfl) ?_; refine yv (y_pickT rfl rfl) ?_; exact Hd.mn
  ·intro hg0_11
   try simp only [hyZ] at hg0_11
   simp only [List.take]; refine n1 <| n1 <| n1 <| n1 <| n1 <| n1 <| n1 <| n1 <| n1 <| n1 <| n1 <| yv (y_pickF rfl rfl) ?_; exact Hd.mn
  simp only [List.drop]; refine fk [(0,_),(1,_),(2,_),(4,_),(23,_)] K1 ?_; refine qz ?_ ?_ <;> intro hc0 <;> try simp only [hyZ] at hc0
  ·have h2 : x.up k (fun e => { e with inn := IntKind.u64.wrap ((x.e k).inn + 1) }) = x.up k (riseE vi false) := up_eq (by simp [riseE, hc0.1, hc0.2])
   refine Hd.drawsH ([RwH b w i.1.length i.2.1 i.2.2, OwR i]) (fun j => !([16].contains j)) mixed ?_; simp only [List.length, Nat.zero_add, Nat.reduceAdd]; refine tH 0 rfl y_mv <| tH 1 rfl y_np <| tH 2 rfl (y_f 0 129 Tryz.underlying133 sz129) <| tH 3 rfl (y_l1 ag129 rfl) <| tH 4 rfl y_mv <| tH 5 rfl y_mv <| tH 6 rfl (y_idxR Tryz.underlying129 sz221 rfl rfl (by omega) (by exact RdS.own pkk)) ?_; refine tH 7 rfl (y_fR 0 219 Tryz.underlying221 sz219) ?_; refine tH 8 rfl (y_idxAR Tryz.underlying219 sz218 rfl rfl (by omega)) ?_; refine tH 9 rfl (y_fR 6 30 Tryz.underlying218 sz30) ?_; refine tH 10 rfl (y_rc ag30 rfl hrow hk 6 rfl) ?_; refine tH 11 rfl (y_add rfl rfl) ?_; refine qo 12 ?_; refine yv (y_idxR Tryz.underlying129 sz221 rfl rfl (by omega) (by exact RdS.own pkk)) ?_; refine qk <| qo 13 ?_; refine yv (y_fR 0 219 Tryz.underlying221 sz219) ?_
   refine qk <| qo 14 ?_; refine yv (y_idxAR Tryz.underlying219 sz218 rfl rfl (by omega)) ?_; refine qk <| tH 15 rfl (y_fR 6 30 Tryz.underlying218 sz30) ?_; refine qo 16 ?_; refine Hd.storeO1 sz30 rfl rfl rfl pkk (by rw [rows_len encRW_len]; omega) ?_
   try simp only [hyS]
   refine qn <| endH kq ?_; rw [rset_inn hrow hk (by omega)]; refine slots [(0,_),(1,_),(2,_),(4,_)] sbq ?_; refine thenN ?_; exact Hd.meet () sbq (Ent.sep (.pick pkk (.eq pkk (own_eq3 rfl rfl (by rw [h2])) enn)))
  have h2 : x.up k (riseE vi false) = x := up_id (by
   have h : (vi && (x.e k).rd) = false := by rcases hc0 with h | h <;> simp [h]
   unfold riseE; rw [if_neg (by rw [h]; simp), if_neg (by simp)])
  have h3 : i.1.set n (x, j) = i.1 := by
   obtain ⟨hl, e⟩ := List.getElem?_eq_some_iff.1 hrow
   rw [← e, List.set_getElem_self]
  refine Hd.skip <| thenN ?_; exact Hd.meet () sbq (Ent.sep (.pick pkk (.eq pkk (own_eq3 rfl rfl (by rw [h2, h3])) enn)))
 intro _; refine sr fun _ K2 => ?_
 refine yv y_mv <| yv y_mv ?_; apply Hd.andg 12 41 53 [(0,_),(1,_),(2,_)] rfl sbq
 ·intro hg2_41
  try simp only [hyZ] at hg2_41
  simp only [List.take]; refine y2 y_mv <| y2 y_np <| y2 (y_f 0 129 Tryz.underlying133 sz129) <| y2 (y_l1 ag129 rfl) <| y2 y_mv <| y2 y_mv <| y2 (y_idxR Tryz.underlying129 sz221 rfl rfl (by omega) (by exact RdS.own pkk)) ?_; refine y2 (y_fR 0 219 Tryz.underlying221 sz219) ?_; refine y2 (y_idxAR Tryz.underlying219 sz218 rfl rfl (by omega)) ?_; refine y2 (y_fR 3 4 Tryz.underlying218 sz4) ?_; refine y2 (y_to (v' := .bool (x.e k).wr) (y_rc ag4 rfl hrow2 hk 3 rfl) (by (rw [up_at]; rfl))) ?_; refine yv (y_pickT rfl rfl) ?_; exact Hd.mn
 ·intro hg2_41
  try simp only [hyZ] at hg2_41
  simp only [List.take]; refine n1 <| n1 <| n1 <| n1 <| n1 <| n1 <| n1 <| n1 <| n1 <| n1 <| n1 <| yv (y_pickF rfl rfl) ?_; exact Hd.mn
 simp only [List.drop]; refine fk [(0,_),(1,_),(2,_),(53,_)] K2 ?_; refine qz ?_ ?_ <;> intro hc1 <;> try simp only [hyZ] at hc1
 ·refine Hd.drawsH ([RwH b w i.1.length i.2.1 i.2.2, OwS i (i.1.set n (x.up k (riseE vi false), j))]) (fun j => !([16].contains j)) mixed ?_
  simp only [List.length, Nat.zero_add, Nat.reduceAdd]; refine tH 0 rfl y_mv <| tH 1 rfl y_np <| tH 2 rfl (y_f 0 129 Tryz.underlying133 sz129) <| tH 3 rfl (y_l1 ag129 rfl) <| tH 4 rfl y_mv <| tH 5 rfl y_mv <| tH 6 rfl (y_idxR Tryz.underlying129 sz221 rfl rfl (by omega) (by exact RdS.own pkk)) ?_; refine tH 7 rfl (y_fR 0 219 Tryz.underlying221 sz219) ?_; refine tH 8 rfl (y_idxAR Tryz.underlying219 sz218 rfl rfl (by omega)) ?_; refine tH 9 rfl (y_fR 7 30 Tryz.underlying218 sz30) ?_; refine tH 10 rfl (y_to (v' := .int .u64 (x.e k).out) (y_rc ag30 rfl hrow2 hk 7 rfl) (by (rw [up_at]; simp [riseE]))) ?_; refine tH 11 rfl (y_add rfl rfl) ?_; refine qo 12 ?_; refine yv (y_idxR Tryz.underlying129 sz221 rfl rfl (by omega) (by exact RdS.own pkk)) ?_; refine qk <| qo 13 ?_; refine yv (y_fR 0 219 Tryz.underlying221 sz219) ?_; refine qk <| qo 14 ?_
  refine yv (y_idxAR Tryz.underlying219 sz218 rfl rfl (by omega)) ?_; refine qk <| tH 15 rfl (y_fR 7 30 Tryz.underlying218 sz30) ?_; refine qo 16 ?_; refine Hd.storeO1 sz30 rfl rfl rfl pkk (by rw [rows_len encRW_len, List.length_set]; omega) ?_
  try simp only [hyS]
  refine qn <| endH kq ?_; rw [rset_out hrow2 hk (by omega), List.set_set, up_up]; refine slots [] sbq ?_
  have h2 : (x.up k fun e => { riseE vi false e with out := IntKind.u64.wrap ((x.e k).out + 1) }) = x.up k (riseE vi vo) := up_eq (by simp [riseE, hc1.1, hc1.2])
  rw [h2]; exact Hd.end0 rfl () rfl (fun q s => rw_head (x' := x.up k (riseE vi vo)) hi hrow (fun j _ => up_b x k (f := riseE vi vo) (fun _ => rfl) j) rfl q (Ent.sep enn q s))
 refine Hd.skip ?_
 have h2 : x.up k (riseE vi false) = x.up k (riseE vi vo) := up_eq (by
  have h : (vo && (x.e k).wr) = false := by rcases hc1 with h | h <;> simp [h]
  unfold riseE; congr 1; rw [if_neg (by simp), if_neg (by rw [h]; simp)])
 rw [h2]; exact Hd.end0 rfl () rfl (fun q s => rw_head (x' := x.up k (riseE vi vo)) hi hrow (fun j _ => up_b x k (f := riseE vi vo) (fun _ => rfl) j) rfl q (Ent.sep enn q s))
theorem setW_setW {w : WA} {n : Nat} {x y : WireA} : (w.setW n x).setW n y = w.setW n y := by
 show ({ w with ws := _ } : WA) = { w with ws := _ }
 congr 1
 show (w.ws.set n x).set n y = _
 rw [List.set_set]
theorem rshut_ct (L : List SP) (b : Nat) (w : WA) (n : Nat) (x : WireA) (hx : w.ws[n]? = some x) (k : Nat) (hk : k < 2) : Ct Tryz.prog 121 #[.pointer (some ⟨b, 0, none⟩), .int .i64 (n : Int), .int .i64 (k : Int)] (RwP b w :: L) (fun _ : Unit => .tuple #[]) (fun _ : Unit => RwP b (w.setW n (shutW x k)) :: L) := by
 refine Ct.o3 Tryz.func121 ?_; intro E
 show Hd E 33 _ _ _ _
 refine Hd.rw .here (fun i hi => ?_)
 have hrl := rows_n hi
 obtain ⟨j, hrow⟩ := row_at hi hx
 have hn : n < i.1.length := (List.getElem?_eq_some_iff.1 hrow).1
 have hk1 : 1 - k < 2 := by omega
 refine sr fun _ K1 => ?_
 refine yv y_mv <| yv y_np <| yv (y_f 0 129 Tryz.underlying133 sz129) <| yv (y_l1 ag129 rfl) <| yv y_mv <| yv y_mv <| yv (y_idxR Tryz.underlying129 sz221 rfl rfl (by omega) (by exact RdS.own pkk)) ?_; refine yv (y_fR 0 219 Tryz.underlying221 sz219) ?_; refine yv (y_idxAR Tryz.underlying219 sz218 rfl rfl (by omega)) ?_; refine yv (y_fR 5 4 Tryz.underlying218 sz4) ?_; refine yv (y_rc ag4 rfl hrow hk 5 rfl) ?_; refine yv (y_not rfl) <| fk [(0,_),(1,_),(2,_),(17,_)] K1 ?_; refine qz ?_ ?_ <;> intro hc0 <;> try simp only [hyZ] at hc0
 ·refine sr fun _ K2 => ?_
  refine yv y_mv <| yv y_np <| yv (y_f 0 129 Tryz.underlying133 sz129) <| yv (y_l1 ag129 rfl) <| yv y_mv <| yv y_mv <| yv (y_idxR Tryz.underlying129 sz221 rfl rfl (by omega) (by exact RdS.own pkk)) ?_; refine yv (y_fR 0 219 Tryz.underlying221 sz219) ?_; refine yv (y_idxAR Tryz.underlying219 sz218 rfl rfl (by omega)) ?_; refine yv (y_fR 5 4 Tryz.underlying218 sz4) ?_; refine Hd.storeO1 sz4 rfl rfl rfl pkk (by rw [rows_len encRW_len]; omega) ?_
  try simp only [hyS]
  refine Hd.nil ?_; rw [rset_shut hrow hk (by omega)]; refine Hd.heap (RwP b (w.setW n (x.up k fun e => { e with shut := true })) :: L) (fun q s => rw_head (x' := x.up k fun e => { e with shut := true }) hi hrow (fun j _ => up_b x k (f := fun e => { e with shut := true }) (fun _ => rfl) j) rfl q (Ent.sep enn q s)) ?_; refine sk [(0,_),(1,_),(2,_)] K2 ?_; refine Hd.region <| yv y_mv <| yv y_mv <| yv y_mv <| yv (y_to (v' := .int .i64 ((1 - k : Nat) : Int)) (y_subn rfl rfl (by simp only [InK]; omega)) (by (congr 1; omega))) ?_; refine callE rfl fk176 (rrise_ct _ b _ n _ (setW_self hx) (1 - k) hk1 true false) sq ?_; intro _; rw [setW_setW]; refine Hd.nil <| slots [] sbq ?_; rw [show shutW x k = (x.up k fun e => { e with shut := true }).up (1 - k) (riseE true false) from if_neg (by simpa using hc0)]; exact Hd.end0 rfl () rfl sq
 refine Hd.skip ?_; rw [show shutW x k = x from if_pos (by simpa using hc0), setW_same hx]; exact Hd.end0 rfl () rfl (rw_fold hi)
theorem rclose_ct (L : List SP) (b : Nat) (w : WA) (n : Nat) (x : WireA) (hx : w.ws[n]? = some x) (k : Nat) (hk : k < 2) : Ct Tryz.prog 123 #[.pointer (some ⟨b, 0, none⟩), .int .i64 (n : Int), .int .i64 (k : Int)] (RwP b w :: L) (fun _ : Unit => .tuple #[]) (fun _ : Unit => RwP b (w.setW n (closeW x k)) :: L) := by
 refine Ct.o3 Tryz.func123 ?_; intro E
 show Hd E 33 _ _ _ _
 refine Hd.rw .here (fun i hi => ?_)
 have hrl := rows_n hi
 obtain ⟨j, hrow⟩ := row_at hi hx
 have hn : n < i.1.length := (List.getElem?_eq_some_iff.1 hrow).1
 have hk1 : 1 - k < 2 := by omega
 refine sr fun _ K1 => ?_
 refine yv y_mv <| yv y_mv <| yv y_mv <| yv (y_to (v' := .int .i64 ((1 - k : Nat) : Int)) (y_subn rfl rfl (by simp only [InK]; omega)) (by (congr 1; omega))) ?_; refine yv y_mv <| yv y_np <| yv (y_f 0 129 Tryz.underlying133 sz129) <| yv (y_l1 ag129 rfl) <| yv y_mv <| yv y_mv <| yv (y_idxR Tryz.underlying129 sz221 rfl rfl (by omega) (by exact RdS.own pkk)) ?_; refine yv (y_fR 0 219 Tryz.underlying221 sz219) ?_; refine yv (y_idxAR Tryz.underlying219 sz218 rfl rfl (by omega)) ?_; refine yv (y_fR 5 4 Tryz.underlying218 sz4) ?_; refine yv (y_rc ag4 rfl hrow hk 5 rfl) ?_; refine yv (y_not rfl) <| Hd.heap (RwP b w :: L) (rw_fold hi) ?_; refine callE rfl fk176 (rrise_ct _ b w n x hx (1 - k) hk1 (!(x.e k).shut) true) sq ?_; intro _; refine fk [(0,_),(1,_),(2,_)] K1 ?_; refine Hd.rw .here (fun i' hi' => ?_)
 have hx1 : (w.setW n (x.up (1 - k) (riseE (!(x.e k).shut) true))).ws[n]? = some (x.up (1 - k) (riseE (!(x.e k).shut) true)) := setW_self hx
 have hrl' := rows_n hi'
 obtain ⟨j', hrow'⟩ := row_at hi' hx1
 have hn' : n < i'.1.length := (List.getElem?_eq_some_iff.1 hrow').1
 refine Hd.region <| yv y_mv <| yv y_np <| yv (y_f 0 129 Tryz.underlying133 sz129) <| yv (y_l1 ag129 rfl) <| yv y_mv <| yv y_mv <| yv (y_idxR Tryz.underlying129 sz221 rfl rfl (by omega) (by exact RdS.own pkk)) ?_; refine yv (y_fR 0 219 Tryz.underlying221 sz219) ?_; refine yv (y_idxAR Tryz.underlying219 sz218 rfl rfl (by omega)) ?_; refine yv (y_fR 0 3 Tryz.underlying218 sz3) ?_; refine Hd.storeO1 sz3 rfl rfl rfl pkk (by rw [rows_len encRW_len]; omega) ?_
 try simp only [hyS]
 refine Hd.nil <| slots [] sbq ?_; rw [rset_what hrow' hk (by omega)]
 have e : w.setW n (closeW x k) = (w.setW n (x.up (1 - k) (riseE (!(x.e k).shut) true))).setW n ((x.up (1 - k) (riseE (!(x.e k).shut) true)).up k fun e => { e with what := 3 }) := by rw [setW_setW]; rfl
 rw [e]; exact Hd.end0 rfl () rfl (fun q s => rw_head (x' := (x.up (1 - k) (riseE (!(x.e k).shut) true)).up k fun e => { e with what := 3 }) hi' hrow' (fun j _ => up_b _ k (f := fun e => { e with what := 3 }) (fun _ => rfl) j) rfl q (Ent.sep enn q s))
theorem router1_ct (L : List SP) (b : Nat) (w : WA) (n : Nat) (x : WireA) (hx : w.ws[n]? = some x) : Ct Tryz.prog 177 #[.pointer (some ⟨b, 0, none⟩), .int .i64 (n : Int)] (RwP b w :: L) (fun _ : Unit => .bool (decide ((x.e 1).what = 2))) (fun _ : Unit => RwP b w :: L) := by
 refine Ct.o2 Tryz.func177 ?_; intro E
 show Hd E 29 _ _ _ _
 refine Hd.rw .here (fun i hi => ?_)
 have hrl := rows_n hi
 obtain ⟨j, hrow⟩ := row_at hi hx
 have hn : n < i.1.length := (List.getElem?_eq_some_iff.1 hrow).1
 refine sr fun _ K1 => ?_
 refine yv y_as <| fk [(0,_),(1,_)] K1 ?_; refine sr fun _ K2 => ?_
 refine yv y_mv <| yv (y_geq rfl rfl) ?_; refine yv y_mv ?_; apply Hd.andg 8 7 15 [(0,_),(1,_)] rfl sbq
 ·intro hg1_7
  try simp only [hyZ] at hg1_7
  simp only [List.take]; refine y2 y_mv <| y2 y_mv <| y2 y_np <| y2 (y_f 0 129 Tryz.underlying133 sz129) <| y2 (y_l1 ag129 rfl) <| y2 (y_len Tryz.underlying129 rfl) ?_; refine y2 (y_lss rfl rfl) ?_; refine yv (y_pickT rfl rfl) ?_; exact Hd.mn
 ·intro hg1_7
  try simp only [hyZ] at hg1_7
  simp only [List.take]; refine n1 <| n1 <| n1 <| n1 <| n1 <| n1 <| n1 <| yv (y_pickF rfl rfl) ?_; exact Hd.mn
 simp only [List.drop]; refine yv y_mv ?_; apply Hd.andg (q := decide ((x.e 1).what = 2)) 12 16 28 [] rfl sbq
 ·intro hg1_16
  try simp only [hyZ] at hg1_16
  simp only [List.take]; refine y2 y_mv <| y2 y_np <| y2 (y_f 0 129 Tryz.underlying133 sz129) <| y2 (y_l1 ag129 rfl) <| y2 y_mv <| y2 (y_idxR Tryz.underlying129 sz221 rfl rfl (by omega) (by exact RdS.own pkk)) ?_; refine y2 (y_fR 0 219 Tryz.underlying221 sz219) ?_; refine y2 (y_idxAR Tryz.underlying219 sz218 rfl rfl (by decide)) ?_; refine y2 (y_f 0 3 Tryz.underlying218 sz3) <| y2 (y_rc (o := n * 20 + 0 + 1 * 8 + 0) ag3 rfl hrow (show 1 < 2 from Nat.lt_succ_self 1) 0 rfl) ?_; refine y2 (y_eql rfl rfl) ?_; refine yv (y_pickT rfl rfl) ?_; exact Hd.mn
 ·intro hg1_16
  try simp only [hyZ] at hg1_16
  simp only [List.take]; refine n1 <| n1 <| n1 <| n1 <| n1 <| n1 <| n1 <| n1 <| n1 <| n1 <| n1 <| yv (y_pickF rfl rfl) ?_; exact Hd.mn
 simp only [List.drop]; refine yv (y_to (v' := .bool (decide ((x.e 1).what = 2))) y_as (by (congr 1; simp; omega))) ?_; refine fk [(4,_)] K2 ?_; refine Hd.ret ?_; exact Hd.ret1 rfl () rfl (rw_fold hi)
theorem router0_ct (L : List SP) (b : Nat) (w : WA) (n : Int) (hn : n < 0 ∨ (w.ws.length : Int) ≤ n) : Ct Tryz.prog 177 #[.pointer (some ⟨b, 0, none⟩), .int .i64 n] (RwP b w :: L) (fun _ : Unit => .bool false) (fun _ : Unit => RwP b w :: L) := by
 refine Ct.o2 Tryz.func177 ?_; intro E
 show Hd E 29 _ _ _ _
 refine Hd.rw .here (fun i hi => ?_)
 have hrl := rows_n hi
 refine sr fun _ K1 => ?_
 refine yv y_as <| fk [(0,_),(1,_)] K1 ?_; refine sr fun _ K2 => ?_
 refine yv y_mv <| yv (y_geq rfl rfl) ?_; refine yv y_mv <| Hd.part (gd := 7) rfl (fun hg1_7 => ?_) (fun hg1_7 => ?_)
 ·try simp only [hyZ] at hg1_7
  refine y2 y_mv <| y2 y_mv <| y2 y_np <| y2 (y_f 0 129 Tryz.underlying133 sz129) <| y2 (y_l1 ag129 rfl) <| y2 (y_len Tryz.underlying129 rfl) ?_; refine y2 (y_lss rfl rfl) ?_; refine yv (y_pickT rfl rfl) ?_; refine yv y_mv <| Hd.part (gd := 16) rfl (fun hg1_16 => ?_) (fun hg1_16 => ?_)
  ·try simp only [hyZ] at hg1_16
   exfalso; omega
  try simp only [hyZ] at hg1_16
  refine n1 <| n1 <| n1 <| n1 <| n1 <| n1 <| n1 <| n1 <| n1 <| n1 <| n1 <| yv (y_pickF rfl rfl) ?_; refine yv y_as <| fk [(4,_)] K2 ?_; refine Hd.ret ?_; exact Hd.ret1 rfl () rfl (rw_fold hi)
 try simp only [hyZ] at hg1_7
 refine n1 <| n1 <| n1 <| n1 <| n1 <| n1 <| n1 <| yv (y_pickF rfl rfl) ?_; refine yv y_mv <| Hd.part (gd := 16) rfl (fun hg1_16 => ?_) (fun hg1_16 => ?_)
 ·try simp only [hyZ] at hg1_16
  exfalso; simp at hg1_16; done
 try simp only [hyZ] at hg1_16
 refine n1 <| n1 <| n1 <| n1 <| n1 <| n1 <| n1 <| n1 <| n1 <| n1 <| n1 <| yv (y_pickF rfl rfl) ?_; refine yv y_as <| fk [(4,_)] K2 ?_; refine Hd.ret ?_; exact Hd.ret1 rfl () rfl (rw_fold hi)
theorem router_ct (L : List SP) (b : Nat) (w : WA) (n : Int) :
  Ct Tryz.prog 177 #[.pointer (some ⟨b, 0, none⟩), .int .i64 n] (RwP b w :: L) (fun _ : Unit => .bool (outW w n).isSome) (fun _ => RwP b w :: L) := by
 by_cases h : n < 0 ∨ (w.ws.length : Int) ≤ n
 ·rw [outW_off h]
  exact router0_ct L b w n h
 ·obtain ⟨k, rfl⟩ : ∃ k : Nat, n = (k : Int) := ⟨n.toNat, by omega⟩
  have hx : w.ws[k]? = some w.ws[k] := List.getElem?_eq_getElem (by omega)
  have := router1_ct L b w k _ hx
  rw [outW_nat hx]
  by_cases h2 : (w.ws[k].e 1).what = 2
  ·rw [if_pos h2]; rw [decide_eq_true h2] at this; exact this
  ·rw [if_neg h2]; rw [decide_eq_false h2] at this; exact this
def RwI.upB (j : RwI) (k : Nat) (a : Option Addr) (c : Nat) : RwI := { j with a := fun q => if q = k then a else j.a q, c := fun q => if q = k then c else j.c q }
theorem upB_a (j : RwI) (k : Nat) (a : Option Addr) (c : Nat) : (j.upB k a c).a k = a ∧ (j.upB k a c).c k = c := ⟨if_pos rfl, if_pos rfl⟩
theorem upB_ne (j : RwI) {k q : Nat} (a : Option Addr) (c : Nat) (h : q ≠ k) : (j.upB k a c).a q = j.a q ∧ (j.upB k a c).c q = j.c q := ⟨if_neg h, if_neg h⟩
theorem rset_b {rs : List Row} {n k o m c : Nat} {x : WireA} {j : RwI} {l : List UInt8} {a : Option Addr} (h : rs[n]? = some (x, j)) (hk : k < 2) (ho : o = n * 20 + k * 8 + 4) (hl : l.length = m) : (rs.flatMap encRW).set o (.slice a m c) = (rs.set n (x.up k fun e => { e with b := l }, j.upB k a c)).flatMap encRW := by
 refine rset h hk (j := 4) (by decide) ho ?_ ?_ rfl
 ·rw [up_at, (upB_a j k a c).1, (upB_a j k a c).2, ← hl]; rfl
 ·rw [up_ne _ _ (by omega), (upB_ne j a c (by omega : 1 - k ≠ k)).1, (upB_ne j a c (by omega : 1 - k ≠ k)).2]
theorem sd_b {k c : Nat} {x : WireA} {j : RwI} {l : List UInt8} {a : Option Addr} {L : List SP} (hk : k < 2) : ∀ h, sep (own 5 1 a l.length c (bsl l) :: SdB (x, j) (1 - k) :: SdW (x, j) :: L) h → sep (Sd (x.up k fun e => { e with b := l }, j.upB k a c) :: L) h := fun h s => by
 refine sd_fold hk h ?_; unfold SdL SdB; dsimp only; rw [up_at, up_ne _ _ (by omega : 1 - k ≠ k), (upB_a j k a c).1, (upB_a j k a c).2, (upB_ne j a c (by omega : 1 - k ≠ k)).1, (upB_ne j a c (by omega : 1 - k ≠ k)).2]; exact s
theorem rget_ct (L : List SP) (b : Nat) (w : WA) (n : Nat) (x : WireA) (hx : w.ws[n]? = some x) (k : Nat) (hk : k < 2) (many : Int) (hm : 0 ≤ many) : Ct Tryz.prog 118 #[.pointer (some ⟨b, 0, none⟩), .int .i64 (n : Int), .int .i64 (k : Int), .int .i64 many] (RwP b w :: L) (fun q_ : Option Addr × Nat => .slice q_.1 ((x.e k).b.take many.toNat).length q_.2) (fun q_ : Option Addr × Nat => own 5 1 q_.1 ((x.e k).b.take many.toNat).length ((x.e k).b.take many.toNat).length (bsl ((x.e k).b.take many.toNat)) :: RwP b (w.setW n (takeW x k many.toNat)) :: L) := by
 refine Ct.o4 Tryz.func118 ?_; intro E
 show Hd E 50 _ _ _ _
 refine Hd.rw .here (fun i hi => ?_)
 have hrl := rows_n hi
 obtain ⟨j, hrow⟩ := row_at hi hx
 have hn : n < i.1.length := (List.getElem?_eq_some_iff.1 hrow).1
 have hk1 : 1 - k < 2 := by omega
 refine Hd.bagOut pkk hrow ?_; refine Hd.sd .here k hk ?_
 obtain ⟨bs, hbs⟩ : ∃ bs, bs = (x.e k).b := ⟨_, rfl⟩
 obtain ⟨kn, hkn⟩ : ∃ q, q = min many.toNat bs.length := ⟨_, rfl⟩
 have htk : bs.take many.toNat = bs.take kn := by
  rw [hkn]
  rcases Nat.le_total many.toNat bs.length with h | h
  ·rw [Nat.min_eq_left h]
  ·rw [Nat.min_eq_right h, List.take_length, List.take_of_length_le h]
 have hdk : bs.drop many.toNat = bs.drop kn := by
  rw [hkn]
  rcases Nat.le_total many.toNat bs.length with h | h
  ·rw [Nat.min_eq_left h]
  ·rw [Nat.min_eq_right h, List.drop_length, List.drop_of_length_le h]
 have hkl : kn ≤ bs.length := by omega
 have htl : (bs.take kn).length = kn := by rw [List.length_take]; omega
 refine Hd.ownCap (e := 5) (ad := j.a k) (m := (x.e k).b.length) (cap := j.c k) pkk (fun hcap => ?_); rw [← hbs] at hcap
 have hkc : kn ≤ j.c k := by omega
 have ex : takeW x k many.toNat = (x.up k fun e => { e with b := bs.drop kn }).up (1 - k) (riseE false (decide (0 < kn))) := by
  unfold takeW; rw [← hbs, htk, htl, show (x.up k fun e => { e with b := e.b.drop many.toNat }) = x.up k fun e => { e with b := bs.drop kn } from up_eq (by rw [← hbs, hdk])]
 rw [← hbs, htk, htl, ex]; refine sr fun _ K1 => ?_
 refine yv y_as <| fk [(0,_),(1,_),(2,_),(3,_)] K1 ?_; refine sr fun _ K2 => ?_
 refine yv y_mv <| yv y_np <| yv (y_f 0 129 Tryz.underlying133 sz129) <| yv (y_l1 ag129 rfl) <| yv y_mv <| yv y_mv <| yv (y_idxR Tryz.underlying129 sz221 rfl rfl (by omega) (by exact RdS.own pkk)) ?_; refine yv (y_fR 0 219 Tryz.underlying221 sz219) ?_; refine yv (y_idxAR Tryz.underlying219 sz218 rfl rfl (by omega)) ?_; refine yv (y_fR 4 31 Tryz.underlying218 sz31) ?_; refine yv (y_to (v' := .slice (j.a k) bs.length (j.c k)) (y_rc ag31 rfl hrow hk 4 rfl) (by (rw [hbs]))) ?_; refine yv y_as <| fk [(0,_),(1,_),(2,_),(3,_),(9,_)] K2 ?_; refine Hd.cutK (ι := Unit) [(0,_),(1,_),(2,_),(9,_)] (fun _ => [(3, .int .i64 (kn : Int))]) (fun _ => SdL (x, j) k (Bag Sd (i.1.take n) :: Bag Sd (i.1.drop (n + 1)) :: RwH b w i.1.length i.2.1 i.2.2 :: OwR i :: L)) ?_ ?_ ⟨rfl, rfl, rfl, rfl, trivial⟩
 ·refine sr fun _ K3 => ?_
  refine yv y_mv <| yv y_mv <| yv (y_len Tryz.underlying31 rfl) ?_; refine yv (y_gtr rfl rfl) ?_; refine fk [(0,_),(1,_),(2,_),(3,_),(9,_),(24,_)] K3 ?_; refine qz ?_ ?_ <;> intro hc0 <;> try simp only [hyZ] at hc0
  ·refine Hd.region ?_
   refine yv y_mv <| yv (y_len Tryz.underlying31 rfl) ?_; refine yv y_as <| Hd.nil <| slots [(0,_),(1,_),(2,_),(3,_),(9,_)] sbq ?_; refine thenN ?_; exact Hd.meet () ⟨congrArg (fun z => some (Value.int .i64 z)) (by omega), by repeat (first | exact trivial | refine ⟨rfl, ?_⟩)⟩ sq
  refine Hd.skip <| thenN ?_; exact Hd.meet () ⟨congrArg (fun z => some (Value.int .i64 z)) (by omega), by repeat (first | exact trivial | refine ⟨rfl, ?_⟩)⟩ sq
 intro _; refine Hd.seq fun _ K4 => ?_
 refine Hd.drawsH ([RwH b w i.1.length i.2.1 i.2.2, OwR i]) (fun j => !([13].contains j)) mixed ?_; simp only [List.length, Nat.zero_add, Nat.reduceAdd]; refine tH 0 rfl y_mv <| tH 1 rfl y_np <| tH 2 rfl (y_f 0 129 Tryz.underlying133 sz129) <| tH 3 rfl (y_l1 ag129 rfl) <| tH 4 rfl y_mv <| tH 5 rfl y_mv <| tH 6 rfl y_mv <| tH 7 rfl y_mv <| tH 8 rfl (y_slo_oxxN Tryz.underlying31 sz5 rfl rfl (by omega)) ?_; refine qo 9 ?_; refine yv (y_idxR Tryz.underlying129 sz221 rfl rfl (by omega) (by exact RdS.own pkk)) ?_; refine qk <| qo 10 ?_; refine yv (y_fR 0 219 Tryz.underlying221 sz219) ?_; refine qk <| qo 11 ?_; refine yv (y_idxAR Tryz.underlying219 sz218 rfl rfl (by omega)) ?_; refine qk <| tH 12 rfl (y_fR 4 31 Tryz.underlying218 sz31) ?_; refine qo 13 ?_; refine Hd.storeO1 sz31 rfl rfl rfl pkk (by rw [rows_len encRW_len]; omega) ?_
 try simp only [hyS]
 refine qn <| endH kq ?_; rw [rset_b (l := bs.drop kn) hrow hk (by omega) (by rw [List.length_drop])]; refine Hd.ownSplit (e := 5) (ad := j.a k) (m := (x.e k).b.length) (cap := j.c k) (us := bsl (x.e k).b) pkk kn (bsl (bs.take kn)) (bsl (bs.drop kn)) (by rw [← hbs]; exact hkl) (by rw [← hbs]; unfold bsl; rw [← List.map_append, List.take_append_drop]) (by unfold bsl; rw [List.length_map, htl, Nat.mul_one]) ?_; refine Hd.heap (RwP b (w.setW n (x.up k fun e => { e with b := bs.drop kn })) :: own 5 1 (j.a k) kn kn (bsl (bs.take kn)) :: L) (sep_trans (sep_trans (Ent.sep (.eq pkk (own_eq3 (by rw [List.length_drop, ← hbs]) rfl rfl) enn)) (sd_b (l := bs.drop kn) (a := cutA (j.a k) 1 kn (j.c k)) (c := j.c k - kn) hk)) (sep_trans sq (rw_put hi hn))) ?_; refine sk [(0,_),(1,_),(2,_),(3,_),(9,_)] K4 ?_; refine sr fun _ K5 => ?_
 refine yv y_mv <| yv y_mv <| yv y_mv <| yv (y_to (v' := .int .i64 ((1 - k : Nat) : Int)) (y_subn rfl rfl (by simp only [InK]; omega)) (by (congr 1; omega))) ?_; refine yv y_mv <| yv (y_to (v' := .bool (decide (0 < kn))) (y_gtr rfl rfl) (by (congr 1; simp only [decide_eq_decide]; omega))) ?_; refine callE rfl fk176 (rrise_ct _ b _ n _ (setW_self hx) (1 - k) hk1 false (decide (0 < kn))) sq ?_; intro _; rw [setW_setW]; refine fk [(3,_),(9,_)] K5 ?_; refine sr fun _ K6 => ?_
 refine yv y_mv <| yv y_mv <| yv (y_slo_xoxN Tryz.underlying31 sz5 rfl rfl (by omega)) ?_; refine yv y_as <| fk [(8,_)] K6 ?_; refine Hd.ret ?_; exact Hd.ret1 rfl (j.a k, j.c k) rfl sq
theorem rfill_ct (L : List SP) (b : Nat) (w : WA) (n : Nat) (x : WireA) (hx : w.ws[n]? = some x) (hwf : WfW x) (k : Nat) (hk : k < 2) (ad : Option Addr) (m c : Nat) (bs : List UInt8) (hm : bs.length = m) (hR : RdS L 1 ad m (bsl bs)) (hml : m ≤ 70368744177664) (hmc : m ≤ c) : Ct Tryz.prog 119 #[.pointer (some ⟨b, 0, none⟩), .int .i64 (n : Int), .int .i64 (k : Int), .slice ad m c] (RwP b w :: L) (fun _ : Unit => .int .i64 (putN x k bs : Nat)) (fun _ : Unit => RwP b (w.setW n (putW x k bs)) :: L) := by
 refine Ct.o4 Tryz.func119 ?_; intro E
 show Hd E 78 _ _ _ _
 refine Hd.rw .here (fun i hi => ?_)
 have hrl := rows_n hi
 obtain ⟨j, hrow⟩ := row_at hi hx
 have hn : n < i.1.length := (List.getElem?_eq_some_iff.1 hrow).1
 have hk1 : 1 - k < 2 := by omega
 have hle := hwf.le (1 - k) hk1
 have hcp := hwf.cap
 refine Hd.bagOut pkk hrow ?_; refine Hd.sd .here (1 - k) hk1 ?_
 obtain ⟨kn, hkn⟩ : ∃ q, q = putN x k bs := ⟨_, rfl⟩
 have hkn2 : kn = min m (x.cap - (x.e (1 - k)).b.length) := by rw [hkn, ← hm]; rfl
 have htl : (bs.take kn).length = kn := by rw [List.length_take, hm]; omega
 have hRk : RdS L 1 ad kn (bsl (bs.take kn)) := by
  have := RdS.head (l := kn) hR (by omega)
  rwa [Nat.mul_one, bsl_take] at this
 have ex : putW x k bs = (x.up (1 - k) fun e => { e with b := (x.e (1 - k)).b ++ bs.take kn }).up (1 - k) (riseE (decide (0 < kn)) false) := by
  unfold putW; rw [← hkn, show (x.up (1 - k) fun e => { e with b := e.b ++ bs.take kn }) = x.up (1 - k) fun e => { e with b := (x.e (1 - k)).b ++ bs.take kn } from up_eq rfl]
 rw [← hkn, ex]; refine sr fun _ K1 => ?_
 refine yv y_as <| fk [(0,_),(1,_),(2,_),(3,_)] K1 ?_; refine Hd.seq fun _ K2 => ?_
 refine Hd.quiet mixed kq ?_; refine Hq.yv y_mv ?_; refine Hq.yv y_np ?_; refine Hq.yv (y_f 0 129 Tryz.underlying133 sz129) ?_; refine Hq.yv (y_l1 ag129 rfl) ?_; refine Hq.yv y_mv ?_; refine Hq.yv (y_idxR Tryz.underlying129 sz221 rfl rfl (by omega) (by exact RdS.own pkk)) ?_; refine Hq.yv (y_fR 16 3 Tryz.underlying221 sz3) ?_; refine Hq.yv (y_to (v' := .int .i64 (x.cap : Int)) (y_rw ag3 rfl hrow 16 rfl) (by rfl)) ?_; refine Hq.yv y_mv ?_; refine Hq.yv y_np ?_; refine Hq.yv (y_f 0 129 Tryz.underlying133 sz129) ?_; refine Hq.yv (y_l1 ag129 rfl) ?_; refine Hq.yv y_mv ?_; refine Hq.yv y_mv ?_; refine Hq.yv (y_to (v' := .int .i64 ((1 - k : Nat) : Int)) (y_subn rfl rfl (by simp only [InK]; omega)) (by (congr 1; omega))) ?_; refine Hq.yv (y_idxR Tryz.underlying129 sz221 rfl rfl (by omega) (by exact RdS.own pkk)) ?_; refine Hq.yv (y_fR 0 219 Tryz.underlying221 sz219) ?_; refine Hq.yv (y_idxAR Tryz.underlying219 sz218 rfl rfl (by omega)) ?_
 refine Hq.yv (y_fR 4 31 Tryz.underlying218 sz31) ?_; refine Hq.yv (y_rc ag31 rfl hrow hk1 4 rfl) ?_; refine Hq.yv (y_len Tryz.underlying31 rfl) ?_; refine Hq.yv (y_to (v' := .int .i64 ((x.cap - (x.e (1 - k)).b.length : Nat) : Int)) (y_subn rfl rfl (by simp only [InK]; omega)) (by (congr 1; omega))) ?_; refine Hq.yv y_as ?_; refine Hq.nil ?_; refine sk [(0,_),(1,_),(2,_),(3,_),(9,_)] K2 ?_; refine sr fun _ K3 => ?_
 refine yv y_mv <| yv (y_len Tryz.underlying31 rfl) ?_; refine yv y_as <| fk [(0,_),(1,_),(2,_),(3,_),(9,_),(10,_)] K3 ?_; refine Hd.cutK (ι := Unit) [(0,_),(1,_),(2,_),(3,_)] (fun _ => [(10, .int .i64 (kn : Int))]) (fun _ => SdL (x, j) (1 - k) (Bag Sd (i.1.take n) :: Bag Sd (i.1.drop (n + 1)) :: RwH b w i.1.length i.2.1 i.2.2 :: OwR i :: L)) ?_ ?_ ⟨rfl, rfl, rfl, rfl, trivial⟩
 ·refine sr fun _ K4 => ?_
  refine yv y_mv <| yv y_mv <| yv (y_gtr rfl rfl) ?_; refine fk [(0,_),(1,_),(2,_),(3,_),(9,_),(10,_),(38,_)] K4 ?_; refine qz ?_ ?_ <;> intro hc0 <;> try simp only [hyZ] at hc0
  ·refine Hd.region ?_
   refine yv y_mv <| yv y_as <| Hd.nil <| slots [(0,_),(1,_),(2,_),(3,_),(10,_)] sbq ?_; refine thenN ?_; exact Hd.meet () ⟨congrArg (fun z => some (Value.int .i64 z)) (by omega), by repeat (first | exact trivial | refine ⟨rfl, ?_⟩)⟩ sq
  refine Hd.skip <| thenN ?_; exact Hd.meet () ⟨congrArg (fun z => some (Value.int .i64 z)) (by omega), by repeat (first | exact trivial | refine ⟨rfl, ?_⟩)⟩ sq
 intro _; refine sr fun _ K5 => ?_
 refine yv y_as <| fk [(0,_),(1,_),(2,_),(3,_),(10,_),(11,_)] K5 ?_; refine Hd.seq fun _ K6 => ?_
 refine Hd.ownNil 5 1 none ?_; refine Hd.region <| yv y_mv <| yv y_mv <| yv y_np <| yv (y_f 0 129 Tryz.underlying133 sz129) <| yv (y_l1 ag129 rfl) <| yv y_mv <| yv y_mv <| yv (y_to (v' := .int .i64 ((1 - k : Nat) : Int)) (y_subn rfl rfl (by simp only [InK]; omega)) (by (congr 1; omega))) ?_; refine yv (y_idxR Tryz.underlying129 sz221 rfl rfl (by omega) (by exact RdS.own pkk)) ?_; refine yv (y_fR 0 219 Tryz.underlying221 sz219) ?_; refine yv (y_idxAR Tryz.underlying219 sz218 rfl rfl (by omega)) ?_; refine yv (y_fR 4 31 Tryz.underlying218 sz31) ?_; refine yv (y_rc ag31 rfl hrow hk1 4 rfl) ?_; refine Hd.append Tryz.underlying31 ty5 rfl rfl rfl pkk (by first | exact RdS.rd (Rd.pt pkk (fun j v e => by simpa using e)) rfl | (exact RdS.own pkk)) (by simp [Value.oneCell']; done) (by simp only [maxLen]; omega) (by omega) (fun ad53 cap53 => ?_)
 refine yv y_as <| fk [(0,_),(1,_),(2,_),(3,_),(10,_),(11,_)] K6 ?_; refine Hd.seq fun _ K7 => ?_
 refine Hd.drawsH ([RwH b w i.1.length i.2.1 i.2.2, OwR i]) (fun j => !([16].contains j)) mixed ?_; simp only [List.length, Nat.zero_add, Nat.reduceAdd]; refine tH 0 rfl y_mv <| tH 1 rfl y_np <| tH 2 rfl (y_f 0 129 Tryz.underlying133 sz129) <| tH 3 rfl (y_l1 ag129 rfl) <| tH 4 rfl y_mv <| tH 5 rfl y_mv <| tH 6 rfl (y_to (v' := .int .i64 ((1 - k : Nat) : Int)) (y_subn rfl rfl (by simp only [InK]; omega)) (by (congr 1; omega))) ?_; refine tH 7 rfl y_mv <| tH 8 rfl y_mv <| tH 9 rfl y_mv <| tH 10 rfl (y_slo_xoxN Tryz.underlying31 sz5 rfl rfl (by omega)) ?_; refine Hd.eitherH 11 12 rfl rfl kq ?_ ?_
 ·refine Hd.append Tryz.underlying31 ty5 rfl rfl rfl pkk (by exact RdS.mono hRk sq) (by exact B_one) (by simp only [maxLen]; omega) (by omega) (fun ad65 cap65 => ?_)
  refine qk <| qo 12 ?_; refine yv (y_idxR Tryz.underlying129 sz221 rfl rfl (by omega) (by exact RdS.own pkk)) ?_; refine qk <| qo 13 ?_; refine yv (y_fR 0 219 Tryz.underlying221 sz219) ?_; refine qk <| qo 14 ?_; refine yv (y_idxAR Tryz.underlying219 sz218 rfl rfl (by omega)) ?_; refine qk <| tH 15 rfl (y_fR 4 31 Tryz.underlying218 sz31) ?_; refine qo 16 ?_; refine Hd.storeO1 sz31 rfl rfl rfl pkk (by rw [rows_len encRW_len]; omega) ?_
  try simp only [hyS]
  refine qn <| endH kq ?_; rw [rset_b (l := (x.e (1 - k)).b ++ bs.take kn) hrow hk1 (by omega) (by rw [List.length_append, htl])]; refine Hd.heap (RwP b (w.setW n (x.up (1 - k) fun e => { e with b := (x.e (1 - k)).b ++ bs.take kn })) :: L) (sep_trans (sep_trans (Ent.sep (.eq pkk (own_eq3 (by rw [List.length_append, htl]) rfl (by unfold bsl; simp)) (.pick pkk (.pick pkk .same)))) (sd_b (l := (x.e (1 - k)).b ++ bs.take kn) (a := ad65) (c := cap65) hk1)) (sep_trans sq (rw_put hi hn))) ?_; refine sk [(0,_),(1,_),(2,_),(10,_)] K7 ?_; refine sr fun _ K8 => ?_
  refine yv y_mv <| yv y_mv <| yv y_mv <| yv (y_to (v' := .int .i64 ((1 - k : Nat) : Int)) (y_subn rfl rfl (by simp only [InK]; omega)) (by (congr 1; omega))) ?_; refine yv y_mv <| yv (y_to (v' := .bool (decide (0 < kn))) (y_gtr rfl rfl) (by (congr 1; simp only [decide_eq_decide]; omega))) ?_; refine callE rfl fk176 (rrise_ct _ b _ n _ (setW_self hx) (1 - k) hk1 (decide (0 < kn)) false) sq ?_; intro _; rw [setW_setW]; refine fk [(10,_)] K8 ?_; refine sr fun _ K9 => ?_
  refine yv y_mv <| yv y_as <| fk [(8,_)] K9 ?_; refine Hd.ret ?_; exact Hd.ret1 rfl () rfl sq
 refine yv (y_idxR Tryz.underlying129 sz221 rfl rfl (by omega) (by exact RdS.own pkk)) ?_; refine qk <| Hd.eitherH 11 13 rfl rfl kq ?_ ?_
 ·refine Hd.append Tryz.underlying31 ty5 rfl rfl rfl pkk (by exact RdS.mono hRk sq) (by exact B_one) (by simp only [maxLen]; omega) (by omega) (fun ad65 cap65 => ?_)
  refine qk <| qo 13 ?_; refine yv (y_fR 0 219 Tryz.underlying221 sz219) ?_; refine qk <| qo 14 ?_; refine yv (y_idxAR Tryz.underlying219 sz218 rfl rfl (by omega)) ?_; refine qk <| tH 15 rfl (y_fR 4 31 Tryz.underlying218 sz31) ?_; refine qo 16 ?_; refine Hd.storeO1 sz31 rfl rfl rfl pkk (by rw [rows_len encRW_len]; omega) ?_
  try simp only [hyS]
  refine qn <| endH kq ?_; rw [rset_b (l := (x.e (1 - k)).b ++ bs.take kn) hrow hk1 (by omega) (by rw [List.length_append, htl])]; refine Hd.heap (RwP b (w.setW n (x.up (1 - k) fun e => { e with b := (x.e (1 - k)).b ++ bs.take kn })) :: L) (sep_trans (sep_trans (Ent.sep (.eq pkk (own_eq3 (by rw [List.length_append, htl]) rfl (by unfold bsl; simp)) (.pick pkk (.pick pkk .same)))) (sd_b (l := (x.e (1 - k)).b ++ bs.take kn) (a := ad65) (c := cap65) hk1)) (sep_trans sq (rw_put hi hn))) ?_; refine sk [(0,_),(1,_),(2,_),(10,_)] K7 ?_; refine sr fun _ K10 => ?_
  refine yv y_mv <| yv y_mv <| yv y_mv <| yv (y_to (v' := .int .i64 ((1 - k : Nat) : Int)) (y_subn rfl rfl (by simp only [InK]; omega)) (by (congr 1; omega))) ?_; refine yv y_mv <| yv (y_to (v' := .bool (decide (0 < kn))) (y_gtr rfl rfl) (by (congr 1; simp only [decide_eq_decide]; omega))) ?_; refine callE rfl fk176 (rrise_ct _ b _ n _ (setW_self hx) (1 - k) hk1 (decide (0 < kn)) false) sq ?_; intro _; rw [setW_setW]; refine fk [(10,_)] K10 ?_; refine sr fun _ K11 => ?_
  refine yv y_mv <| yv y_as <| fk [(8,_)] K11 ?_; refine Hd.ret ?_; exact Hd.ret1 rfl () rfl sq
 refine yv (y_fR 0 219 Tryz.underlying221 sz219) ?_; refine qk <| qo 11 ?_; refine Hd.append Tryz.underlying31 ty5 rfl rfl rfl pkk (by exact RdS.mono hRk sq) (by exact B_one) (by simp only [maxLen]; omega) (by omega) (fun ad65 cap65 => ?_); refine qk <| qo 14 ?_; refine yv (y_idxAR Tryz.underlying219 sz218 rfl rfl (by omega)) ?_; refine qk <| tH 15 rfl (y_fR 4 31 Tryz.underlying218 sz31) ?_; refine qo 16 ?_; refine Hd.storeO1 sz31 rfl rfl rfl pkk (by rw [rows_len encRW_len]; omega) ?_
 try simp only [hyS]
 refine qn <| endH kq ?_; rw [rset_b (l := (x.e (1 - k)).b ++ bs.take kn) hrow hk1 (by omega) (by rw [List.length_append, htl])]; refine Hd.heap (RwP b (w.setW n (x.up (1 - k) fun e => { e with b := (x.e (1 - k)).b ++ bs.take kn })) :: L) (sep_trans (sep_trans (Ent.sep (.eq pkk (own_eq3 (by rw [List.length_append, htl]) rfl (by unfold bsl; simp)) (.pick pkk (.pick pkk .same)))) (sd_b (l := (x.e (1 - k)).b ++ bs.take kn) (a := ad65) (c := cap65) hk1)) (sep_trans sq (rw_put hi hn))) ?_; refine sk [(0,_),(1,_),(2,_),(10,_)] K7 ?_; refine sr fun _ K12 => ?_
 refine yv y_mv <| yv y_mv <| yv y_mv <| yv (y_to (v' := .int .i64 ((1 - k : Nat) : Int)) (y_subn rfl rfl (by simp only [InK]; omega)) (by (congr 1; omega))) ?_; refine yv y_mv <| yv (y_to (v' := .bool (decide (0 < kn))) (y_gtr rfl rfl) (by (congr 1; simp only [decide_eq_decide]; omega))) ?_; refine callE rfl fk176 (rrise_ct _ b _ n _ (setW_self hx) (1 - k) hk1 (decide (0 < kn)) false) sq ?_; intro _; rw [setW_setW]; refine fk [(10,_)] K12 ?_; refine sr fun _ K13 => ?_
 refine yv y_mv <| yv y_as <| fk [(8,_)] K13 ?_; refine Hd.ret ?_; exact Hd.ret1 rfl () rfl sq
end Rf
end Go.Proofs.YtbfddabjbkohdaaGreat
