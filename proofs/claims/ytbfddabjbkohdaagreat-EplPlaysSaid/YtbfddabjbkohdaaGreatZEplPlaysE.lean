/-
  Epoll: how it lies in memory; find. Epoll: the descriptors of interests that are not gone. Epoll: DeleteFunc over all's closure. Epoll: all. Epoll: New, none, Interests. Epoll: Interests; risen. Epoll: what rose; what is reported. Epoll: what is reported of an interest. Epoll: what is due. Lists in an order: Shuffle over integers, reports of epoll, notes. Epoll: Due; what is due, collected. Epoll: Ctl. Epoll: what is due, collected; Poll. Epoll in plain words: wants and arms as bits. Worlds: what turns a wire may take; what never goes back.
-/
import Derived.Test.YtbfddabjbkohdaaGreatZEplPlaysD
set_option linter.unusedSimpArgs false
set_option linter.unusedVariables false
set_option linter.unnecessarySimpa false
namespace Go.Proofs.YtbfddabjbkohdaaGreat
set_option maxHeartbeats 2000000
open Go.RX.Hd (yv y2 n1 fk sk sr tH callE heldK onlyH endH thenN slots)
open Go.RX Fx
namespace Ep
open Wo
set_option maxRecDepth 8000
structure IxA where
 wire : Int
 events : Int
 armed : Int
 reads : Int
 writes : Int
abbrev encIx (x : IxA) : List Value := [.int .i64 x.wire, .int .i64 x.events, .int .i64 x.armed, .int .u64 x.reads, .int .u64 x.writes]
abbrev zIx : IxA := ⟨0, 0, 0, 0, 0⟩
def fmap (f : Int → Option IxA) : Int → Option Value := fun a => (f a).map fun x => .agg (encIx x).toArray
theorem fmap_get (f : Int → Option IxA) (a : Int) : (fmap f a).getD (.agg (encIx zIx).toArray) = .agg (encIx ((f a).getD zIx)).toArray := by
 unfold fmap; cases f a <;> rfl
theorem fmap_some (f : Int → Option IxA) (a : Int) : (fmap f a).isSome = (f a).isSome := by unfold fmap; cases f a <;> rfl
abbrev EpH (pb wb mb : Nat) (limit : Int) : SP := pt pb [.pointer (some ⟨wb, 0, none⟩), .int .i64 limit, .map (some mb)] 145
def findE (f : Int → Option IxA) (w : WA) (fd : Int) : Option IxA := match f fd with
 | none => none
 | some x => if (w.at fd).isSome = true ∧ wireN (w.at fd) = x.wire then some x else none
theorem efind_ct (L : List SP) (pb wb mb : Nat) (limit : Int) (f : Int → Option IxA) (m : Nat) (w : WA) (fd : Int) : Ct Tryz.prog 72 #[.pointer (some ⟨pb, 0, none⟩), .int .i64 fd] (EpH pb wb mb limit :: mp mb .i64 (fmap f) m :: WorldP wb w :: L) (fun _ : Unit => .tuple #[.agg (encIx ((findE f w fd).getD zIx)).toArray, .bool (findE f w fd).isSome]) (fun _ : Unit => EpH pb wb mb limit :: mp mb .i64 (fmap f) m :: WorldP wb w :: L) := by
 refine Ct.o2 Tryz.func72 ?_; intro E
 show Hd E 42 _ _ _ _
 refine sr fun _ hK1 => ?_
 refine Hd.alloc zr148 (fun b4 => ?_); refine yv y_as <| fk [(0, _), (1, _), (4, _)] hK1 ?_; refine sr fun _ hK2 => ?_
 refine yv y_mv <| yv y_np <| yv (y_f 2 143 Tryz.underlying145 sz143) ?_; refine yv (y_l1 ag143 rfl) ?_; refine yv y_mv <| yv (y_lookup2 mapt143 rfl rfl pkk) ?_; refine yv y_mv <| yv (y_to (v' := .agg (encIx ((f fd).getD zIx)).toArray) y_ex (by exact fmap_get f fd)) ?_; refine yv (y_to (v' := .bool (f fd).isSome) y_ex (by (rw [← fmap_some]; rfl))) ?_; refine Hd.alloc zr148 (fun b6 => ?_); refine Hd.storeA (us := encIx ((f fd).getD zIx)) sz148 rfl rfl rfl (by simp [Value.oneCell']) pkk (by exact rfl) ?_; refine yv y_as <| fk [(0, _), (1, _), (4, _), (6, _), (7, _)] hK2 ?_; refine sr fun _ hK3 => ?_
 refine yv y_mv <| yv y_np <| yv (y_f 0 38 Tryz.underlying145 sz38) ?_; refine yv (y_l1 ag38 rfl) ?_; refine yv y_mv <| callE rfl fk71 (wwire_ct _ wb w fd) sq ?_; intro _; refine yv y_mv <| yv y_ex <| yv y_ex <| yv y_as <| yv y_as <| fk [(4, _), (6, _), (7, _), (8, _), (9, _)] hK3 ?_; refine Hd.seq fun _ hK4 => ?_
 refine sr fun _ hK5 => ?_
 refine yv y_mv <| yv (y_not rfl) ?_; refine yv y_mv ?_; apply Hd.org 3 30 33 [(4, _), (6, _), (8, _)] rfl sbq
 ·intro _
  simp only [List.take]; refine n1 <| n1 <| yv (y_pickT rfl rfl) ?_; refine Hd.nil ?_; exact Hd.mq
 ·intro _
  simp only [List.take]; refine y2 y_mv <| y2 (y_neq rfl rfl) ?_; refine yv (y_pickF rfl rfl) ?_; refine Hd.nil ?_; exact Hd.mq
 simp only [List.drop]; refine yv y_mv ?_; apply Hd.org 5 34 39 [(4, _), (6, _)] rfl sbq
 ·intro _
  simp only [List.take]; refine n1 <| n1 <| n1 <| n1 <| yv (y_pickT rfl rfl) ?_; refine Hd.nil ?_; exact Hd.mq
 ·intro _
  simp only [List.take]; refine y2 y_mv <| y2 (y_f 0 3 Tryz.underlying148 sz3) ?_; refine y2 (y_l1 ag3 rfl) ?_; refine y2 (y_neq rfl rfl) ?_; refine yv (y_pickF rfl rfl) ?_; refine Hd.nil ?_; exact Hd.mq
 simp only [List.drop]; refine fk [(4, _), (6, _), (39, _)] hK5 ?_; refine Hd.cond rfl (fun hc0 => ?_) (fun hc0 => ?_)
 ·try simp only [hyZ] at hc0
  refine sr fun _ hK6 => ?_
  refine yv (y_build (vs := []) rfl (by exact bd72_40 ..)) ?_; refine Hd.storeA (us := [_, _, _, _, _]) sz148 rfl rfl rfl (by simp [Value.oneCell']) pkk rfl ?_
  try simp only [hyS]
  refine yv y_as <| fk [(4, _), (5, _)] hK6 ?_; refine Hd.ret <| Hd.thenRet ?_
  have hno : findE f w fd = none := by
   unfold findE
   cases hf : f fd with
   | none => rfl
   | some x =>
    refine if_neg (fun h => ?_); rw [hf] at hc0; unfold fdErr at hc0; rw [h.1] at hc0; simp [h.2] at hc0
  rw [hno]; exact Hd.retCT rfl () ag148 rfl rfl (Rd.pt (b := b4) (us := encIx zIx) pkk (fun j v e => by rw [Nat.zero_add]; exact e)) (by exact sz148) rfl sq
 ·try simp only [hyZ] at hc0
  refine Hd.skip <| Hd.toK hK4 ?_; refine sr fun _ hK7 => ?_
  refine yv (y_loadn (us := [_, _, _, _, _]) ag148 rfl (Rd.pt pkk (by (first | (intro j v e; rcases j with _|_|_|_|_|_|_|_|_|_|_|_|j <;> first | exact e | exact absurd e (by simp))))) (by exact sz148)) ?_; refine Hd.storeA (us := encIx ((f fd).getD zIx)) sz148 rfl rfl rfl (by simp [Value.oneCell']) pkk (by exact rfl) ?_; refine yv y_as <| fk [(4, _), (5, _)] hK7 ?_; refine Hd.ret ?_
  have hyes : findE f w fd = f fd ∧ (f fd).isSome = true := by
   unfold findE
   cases hf : f fd with
   | none => rw [hf] at hc0; simp at hc0
   | some x =>
    rw [hf] at hc0
    cases ho : w.at fd with
    | none => rw [ho] at hc0; simp [fdErr] at hc0
    | some p =>
     rw [ho] at hc0; simp [fdErr] at hc0; exact ⟨if_pos ⟨rfl, hc0⟩, rfl⟩
  rw [hyes.1, hyes.2]; exact Hd.retCT rfl () ag148 rfl rfl (Rd.pt (b := b4) (us := encIx ((f fd).getD zIx)) pkk (fun j v e => by rw [Nat.zero_add]; exact e)) (by exact sz148) rfl sq
abbrev EpM (px pb wb mb : Nat) (limit : Int) (f : Int → Option IxA) (m : Nat) (w : WA) (L : List SP) : List SP := pt px [.pointer (some ⟨pb, 0, none⟩)] 34 :: EpH pb wb mb limit :: mp mb .i64 (fmap f) m :: WorldP wb w :: L
theorem all1_ct (L : List SP) (px pb wb mb : Nat) (limit : Int) (f : Int → Option IxA) (m : Nat) (w : WA) (fd : Int) : Ct Tryz.prog 148 #[.int .i64 fd, .pointer (some ⟨px, 0, none⟩)] (EpM px pb wb mb limit f m w L) (fun _ : Unit => .bool (!(findE f w fd).isSome)) (fun _ : Unit => EpM px pb wb mb limit f m w L) := by
 refine Ct.o2 Tryz.func148 ?_; intro E
 show Hd E 14 _ _ _ _
 refine sr fun _ hK1 => ?_
 refine yv y_as <| fk [(0, _), (1, _)] hK1 ?_; refine sr fun _ hK2 => ?_
 refine yv (y_l1 ag34 rfl) ?_; refine yv y_mv <| callE rfl fk72 (efind_ct _ pb wb mb limit f m w fd) sq ?_; intro _; refine yv y_mv <| yv y_ex <| yv y_ex <| Hd.alloc zr148 (fun b4 => ?_); refine Hd.storeA (us := encIx ((findE f w fd).getD zIx)) sz148 rfl rfl rfl (by simp [Value.oneCell']) pkk (by exact rfl) ?_; refine yv y_as <| fk [(5, _)] hK2 ?_; refine sr fun _ hK3 => ?_
 refine yv y_mv <| yv (y_not rfl) ?_; refine yv y_as <| fk [(3, _)] hK3 ?_; refine Hd.ret ?_; exact Hd.ret1 rfl () (by rfl) sq
abbrev qE (f : Int → Option IxA) (w : WA) (fd : Int) : Bool := (findE f w fd).isSome
abbrev allK (px : Nat) : Value := .func (.func 148) #[] #[.pointer (some ⟨px, 0, none⟩)]
theorem vi_at {xs : List Int} {i : Nat} (h : i < xs.length) : (vi xs)[i * 1]? = some (.int .i64 xs[i]) := by rw [Nat.mul_one, List.getElem?_map, List.getElem?_eq_getElem h]; rfl
theorem idxn_ct (L : List SP) (px pb wb mb : Nat) (limit : Int) (f : Int → Option IxA) (m : Nat) (w : WA) (ad : Option Addr) (cap : Nat) (xs : List Int) (hb : xs.length ≤ 1000000) (hq : ∀ y ∈ xs, qE f w y = true) : Ct Tryz.prog 185 #[.slice ad xs.length cap, allK px] (own 3 1 ad xs.length cap (vi xs) :: EpM px pb wb mb limit f m w L) (fun _ : Unit => .int .i64 (-1)) (fun _ : Unit => own 3 1 ad xs.length cap (vi xs) :: EpM px pb wb mb limit f m w L) := by
 refine Ct.o2 Tryz.func185 ?_; intro E
 show Hd E 19 _ _ _ _
 refine sr fun _ hK1 => ?_
 refine yv y_as <| fk [(0, _), (1, _)] hK1 ?_; refine Hd.seq fun _ hK2 => ?_
 refine sr fun _ hK3 => ?_
 refine yv y_mv <| yv (y_len Tryz.underlying44 rfl) ?_; refine yv y_mv <| fk [(0, _), (1, _), (7, _), (8, _)] hK3 ?_; refine Hd.block <| Hd.loopK (ι := Nat) [(0, _), (1, _), (7, _)] (fun i => [(8, .int .i64 (i : Int))]) (fun i => pu (i ≤ xs.length) :: own 3 1 ad xs.length cap (vi xs) :: EpM px pb wb mb limit f m w L) (fun i => xs.length - i) 0 sbq sbq (Ent.sep (.pure (by omega) enn)) ?_; intro i
 try dsimp only
 refine Hd.pure (fun hp0 => ?_)
 try dsimp only at hp0
 refine sr fun _ hK4 => ?_
 refine yv (y_lss rfl rfl) ?_; refine fk [(0, _), (1, _), (7, _), (8, _), (9, _)] hK4 ?_; refine Hd.seq fun _ hK5 => ?_
 refine Hd.cond rfl (fun hc0 => ?_) (fun hc0 => ?_)
 ·try simp only [hyZ] at hc0
  have hi : i < xs.length := by omega
  have hgi := vi_at hi
  have hqi := hq xs[i] (List.getElem_mem hi)
  refine Hd.skip <| Hd.toK hK5 ?_; refine Hd.seq fun _ hK6 => ?_
  refine Hd.block <| sr fun _ hK7 => ?_
  refine yv y_mv <| yv y_as <| fk [(0, _), (1, _), (5, _), (7, _), (8, _)] hK7 ?_; refine sr fun _ hK8 => ?_
  refine yv y_mv <| yv y_mv <| yv y_mv <| yv (y_idxR Tryz.underlying44 sz3 rfl rfl (by omega) (by exact RdS.own pkk)) ?_; refine yv (y_loadR1 ag3 rfl (RdS.own (ad := ad) (us := vi xs) pkk) hgi) ?_; refine Hd.callvE (vs := [_]) (cap := [_]) rfl rfl kq (all1_ct _ px pb wb mb limit f m w xs[i]) sq ?_; intro _; rw [show (!(findE f w xs[i]).isSome) = false by rw [show (findE f w xs[i]).isSome = true from hqi]; rfl]; refine fk [(0, _), (1, _), (5, _), (7, _), (8, _), (16, _)] hK8 ?_; refine Hd.condF rfl ?_; refine Hd.skip <| Hd.inB <| Hd.toK hK6 ?_; refine Hd.region <| yv (y_addn rfl rfl (by simp only [InK]; omega)) ?_; refine yv y_mv <| Hd.nil <| slots [(0, _), (1, _), (7, _), (8, _)] sbq ?_; refine thenN ?_; exact Hd.again (i + 1) (by omega) sbq (Ent.sep (.pure (by omega) enn))
 ·try simp only [hyZ] at hc0
  refine Hd.exit <| Hd.thenExit <| Hd.thenExit <| Hd.inBexit <| Hd.toK hK2 ?_; refine sr fun _ hK9 => ?_
  refine yv y_as <| fk [(4, _)] hK9 ?_; refine Hd.ret ?_; exact Hd.ret1 rfl () (by rfl) sq
theorem idxf_ct (L : List SP) (px pb wb mb : Nat) (limit : Int) (f : Int → Option IxA) (m : Nat) (w : WA) (ad : Option Addr) (cap : Nat) (xs : List Int) (hb : xs.length ≤ 1000000) (n : Nat) (hn : n < xs.length) (hq : ∀ j (h : j < xs.length), j < n → qE f w xs[j] = true) (hx : qE f w xs[n] = false) : Ct Tryz.prog 185 #[.slice ad xs.length cap, allK px] (own 3 1 ad xs.length cap (vi xs) :: EpM px pb wb mb limit f m w L) (fun _ : Unit => .int .i64 (n : Int)) (fun _ : Unit => own 3 1 ad xs.length cap (vi xs) :: EpM px pb wb mb limit f m w L) := by
 refine Ct.o2 Tryz.func185 ?_; intro E
 show Hd E 19 _ _ _ _
 refine sr fun _ hK1 => ?_
 refine yv y_as <| fk [(0, _), (1, _)] hK1 ?_; refine Hd.seq fun _ hK2 => ?_
 refine sr fun _ hK3 => ?_
 refine yv y_mv <| yv (y_len Tryz.underlying44 rfl) ?_; refine yv y_mv <| fk [(0, _), (1, _), (7, _), (8, _)] hK3 ?_; refine Hd.block <| Hd.loopK (ι := Nat) [(0, _), (1, _), (7, _)] (fun i => [(8, .int .i64 (i : Int))]) (fun i => pu (i ≤ n) :: own 3 1 ad xs.length cap (vi xs) :: EpM px pb wb mb limit f m w L) (fun i => xs.length - i) 0 sbq sbq (Ent.sep (.pure (by omega) enn)) ?_; intro i
 try dsimp only
 refine Hd.pure (fun hp0 => ?_)
 try dsimp only at hp0
 refine sr fun _ hK4 => ?_
 refine yv (y_lss rfl rfl) ?_; refine fk [(0, _), (1, _), (7, _), (8, _), (9, _)] hK4 ?_; refine Hd.seq fun _ hK5 => ?_
 refine Hd.cond rfl (fun hc0 => ?_) (fun hc0 => ?_)
 ·try simp only [hyZ] at hc0
  have hi : i < xs.length := by omega
  have hgi := vi_at hi
  refine Hd.skip <| Hd.toK hK5 ?_; refine Hd.seq fun _ hK6 => ?_
  refine Hd.block <| sr fun _ hK7 => ?_
  refine yv y_mv <| yv y_as <| fk [(0, _), (1, _), (5, _), (7, _), (8, _)] hK7 ?_; refine sr fun _ hK8 => ?_
  refine yv y_mv <| yv y_mv <| yv y_mv <| yv (y_idxR Tryz.underlying44 sz3 rfl rfl (by omega) (by exact RdS.own pkk)) ?_; refine yv (y_loadR1 ag3 rfl (RdS.own (ad := ad) (us := vi xs) pkk) hgi) ?_; refine Hd.callvE (vs := [_]) (cap := [_]) rfl rfl kq (all1_ct _ px pb wb mb limit f m w xs[i]) sq ?_; intro _; refine fk [(0, _), (1, _), (5, _), (7, _), (8, _), (16, _)] hK8 ?_; refine Hd.cond rfl (fun hc1 => ?_) (fun hc1 => ?_)
  ·try simp only [hyZ] at hc1
   refine sr fun _ hK9 => ?_
   refine yv y_mv <| yv y_as <| fk [(4, _)] hK9 ?_; refine Hd.ret <| Hd.inBret <| Hd.thenRet <| Hd.thenRet <| Hd.inBret <| Hd.thenRet ?_
   have hin : i = n := by
    refine Decidable.byContradiction fun hne => ?_
    have := hq i hi (by omega)
    rw [show (findE f w xs[i]).isSome = true from this] at hc1; simp at hc1
   exact Hd.ret1 rfl () (by rw [← hin]; rfl) sq
  ·try simp only [hyZ] at hc1
   refine Hd.skip <| Hd.inB <| Hd.toK hK6 ?_; refine Hd.region <| yv (y_addn rfl rfl (by simp only [InK]; omega)) ?_; refine yv y_mv <| Hd.nil <| slots [(0, _), (1, _), (7, _), (8, _)] sbq ?_; refine thenN ?_
   have hin : i ≠ n := by
    rintro rfl; rw [show (findE f w xs[i]).isSome = false from hx] at hc1; simp at hc1
   exact Hd.again (i + 1) (by omega) sbq (Ent.sep (.pure (by omega) enn))
 ·try simp only [hyZ] at hc0
  omega
structure DlI (q : Int → Bool) (xs cs : List Int) (i j : Nat) : Prop where
 len : cs.length = xs.length
 lt : i < j
 le : j ≤ xs.length
 tk : cs.take i = (xs.take j).filter q
 dr : cs.drop j = xs.drop j
theorem DlI.init {q : Int → Bool} {xs : List Int} {n : Nat} (hn : n < xs.length) (hq : ∀ j (h : j < xs.length), j < n → q xs[j] = true) (hx : q xs[n] = false) : DlI q xs xs n (n + 1) := by
 refine ⟨rfl, Nat.lt_succ_self n, hn, ?_, rfl⟩; rw [List.take_add_one, List.getElem?_eq_getElem hn, List.filter_append]
 show _ = _ ++ [xs[n]].filter q
 rw [List.filter_cons_of_neg (by rw [hx]; simp), List.filter_nil, List.append_nil]; refine (List.filter_eq_self.2 fun a ha => ?_).symm
 obtain ⟨j, hj, rfl⟩ := List.getElem_of_mem ha
 rw [List.length_take] at hj; rw [List.getElem_take]; exact hq j (by omega) (by omega)
theorem DlI.at_ {q : Int → Bool} {xs cs : List Int} {i j : Nat} (h : DlI q xs cs i j) (hj : j < xs.length) : cs[j]? = some xs[j] := by
 have h1 := congrArg (fun l : List Int => l[0]?) h.dr
 simpa [List.getElem?_drop, hj] using h1
theorem DlI.keep {q : Int → Bool} {xs cs : List Int} {i j : Nat} (h : DlI q xs cs i j) (hj : j < xs.length) (hq : q xs[j] = true) : DlI q xs (cs.set i xs[j]) (i + 1) (j + 1) := by
 have hl := h.len
 have hlt := h.lt
 refine ⟨by rw [List.length_set]; exact hl, by omega, hj, ?_, ?_⟩
 ·rw [List.take_add_one, List.getElem?_set_self (by omega), List.take_set_of_le (Nat.le_refl i), h.tk, List.take_add_one, List.getElem?_eq_getElem hj, List.filter_append]
  show _ = _ ++ [xs[j]].filter q
  rw [List.filter_cons_of_pos hq]; rfl
 ·rw [List.drop_set_of_lt (by omega)]
  have := congrArg (fun l : List Int => l.drop 1) h.dr
  simpa [List.drop_drop, Nat.add_comm] using this
theorem DlI.drop {q : Int → Bool} {xs cs : List Int} {i j : Nat} (h : DlI q xs cs i j) (hj : j < xs.length) (hq : q xs[j] = false) : DlI q xs cs i (j + 1) := by
 refine ⟨h.len, by have := h.lt; omega, hj, ?_, ?_⟩
 ·rw [h.tk, List.take_add_one, List.getElem?_eq_getElem hj, List.filter_append]
  show _ = _ ++ [xs[j]].filter q
  rw [List.filter_cons_of_neg (by rw [hq]; simp), List.filter_nil, List.append_nil]
 ·have := congrArg (fun l : List Int => l.drop 1) h.dr
  simpa [List.drop_drop, Nat.add_comm] using this
theorem DlI.done {q : Int → Bool} {xs cs : List Int} {i j : Nat} (h : DlI q xs cs i j) (hj : j = xs.length) : cs.take i = xs.filter q := by rw [h.tk, hj, List.take_length]
theorem deln_ct (L : List SP) (px pb wb mb : Nat) (limit : Int) (f : Int → Option IxA) (m : Nat) (w : WA) (ad : Option Addr) (cap : Nat) (xs : List Int) (hb : xs.length ≤ 1000000) (hq : ∀ y ∈ xs, qE f w y = true) : Ct Tryz.prog 145 #[.slice ad xs.length cap, allK px] (own 3 1 ad xs.length cap (vi xs) :: EpM px pb wb mb limit f m w L) (fun _ : Unit => .slice ad xs.length cap) (fun _ : Unit => own 3 1 ad xs.length cap (vi xs) :: EpM px pb wb mb limit f m w L) := by
 refine Ct.o2 Tryz.func145 ?_; intro E
 show Hd E 42 _ _ _ _
 refine sr fun _ hK1 => ?_
 refine yv y_as <| fk [(0, _), (1, _)] hK1 ?_; refine sr fun _ hK2 => ?_
 refine yv y_mv <| yv y_mv <| callE rfl fk185 (idxn_ct _ px pb wb mb limit f m w ad cap xs hb hq) sq ?_; intro _; refine yv y_as <| fk [(0, _), (1, _), (5, _)] hK2 ?_; refine Hd.seq fun _ hK3 => ?_
 refine sr fun _ hK4 => ?_
 refine yv y_mv <| yv (y_eqlT rfl rfl) ?_; refine fk [(0, _), (1, _), (5, _), (12, _)] hK4 ?_; refine Hd.condT rfl ?_; refine sr fun _ hK5 => ?_
 refine yv y_mv <| yv y_as <| fk [(4, _)] hK5 ?_; refine Hd.ret <| Hd.thenRet ?_; exact Hd.ret1 rfl () (by rfl) sq
theorem delf_ct (L : List SP) (px pb wb mb : Nat) (limit : Int) (f : Int → Option IxA) (m : Nat) (w : WA) (ad : Option Addr) (cap : Nat) (xs : List Int) (hb : xs.length ≤ 1000000) (n : Nat) (hn : n < xs.length) (hq : ∀ j (h : j < xs.length), j < n → qE f w xs[j] = true) (hx : qE f w xs[n] = false) : Ct Tryz.prog 145 #[.slice ad xs.length cap, allK px] (own 3 1 ad xs.length cap (vi xs) :: EpM px pb wb mb limit f m w L) (fun _ : Unit => .slice ad (xs.filter (qE f w)).length cap) (fun _ : Unit => own 3 1 ad (xs.filter (qE f w)).length cap (vi (xs.filter (qE f w))) :: EpM px pb wb mb limit f m w L) := by
 refine Ct.o2 Tryz.func145 ?_; intro E
 show Hd E 42 _ _ _ _
 refine Hd.ownCap (e := 3) (ad := ad) (m := xs.length) (cap := cap) pkk (fun hcap => ?_); refine sr fun _ hK1 => ?_
 refine yv y_as <| fk [(0, _), (1, _)] hK1 ?_; refine sr fun _ hK2 => ?_
 refine yv y_mv <| yv y_mv <| callE rfl fk185 (idxf_ct _ px pb wb mb limit f m w ad cap xs hb n hn hq hx) sq ?_; intro _; refine yv y_as <| fk [(0, _), (1, _), (5, _)] hK2 ?_; refine Hd.seq fun _ hK3 => ?_
 refine sr fun _ hK4 => ?_
 refine yv y_mv <| yv (y_eql rfl rfl) ?_; refine fk [(0, _), (1, _), (5, _), (12, _)] hK4 ?_; refine Hd.cond rfl (fun hc0 => ?_) (fun hc0 => ?_)
 ·try simp only [hyZ] at hc0
  omega
 ·try simp only [hyZ] at hc0
  refine Hd.skip <| Hd.toK hK3 ?_; refine Hd.seq fun _ hK5 => ?_
  refine sr fun _ hK6 => ?_
  refine yv y_mv <| yv (y_addn rfl rfl (by simp only [InK]; omega)) ?_; refine yv y_as <| fk [(0, _), (1, _), (5, _), (6, _)] hK6 ?_; refine Hd.block <| Hd.loopK (ι := Nat × Nat × List Int) [(0, _), (1, _)] (fun q_ => [(5, .int .i64 (q_.1 : Int)), (6, .int .i64 (q_.2.1 : Int))]) (fun q_ => pu (DlI (qE f w) xs q_.2.2 q_.1 q_.2.1) :: own 3 1 ad xs.length cap (vi q_.2.2) :: EpM px pb wb mb limit f m w L) (fun q_ => xs.length - q_.2.1) (n, n + 1, xs) sbq sbq (Ent.sep (.pure (DlI.init hn hq hx) enn)) ?_; rintro ⟨i, j, cs⟩
  try dsimp only
  refine Hd.pure (fun hp0 => ?_)
  try dsimp only at hp0
  refine Hd.seq fun _ hK7 => ?_
  refine sr fun _ hK8 => ?_
  refine yv y_mv <| yv y_mv <| yv (y_len Tryz.underlying44 rfl) ?_; refine yv (y_lss rfl rfl) ?_; refine fk [(0, _), (1, _), (5, _), (6, _), (19, _)] hK8 ?_; refine Hd.cond rfl (fun hc1 => ?_) (fun hc1 => ?_)
  ·try simp only [hyZ] at hc1
   have hj : j < xs.length := by omega
   have hil : i < j := hp0.lt
   have hvl : (vi cs).length = xs.length := by rw [List.length_map]; exact hp0.len
   have hgj : (vi cs)[j * 1]? = some (.int .i64 xs[j]) := by rw [Nat.mul_one, List.getElem?_map, hp0.at_ hj]; rfl
   refine Hd.skip <| Hd.toK hK7 ?_; refine Hd.seq fun _ hK9 => ?_
   refine Hd.block <| sr fun _ hK10 => ?_
   refine yv y_mv <| yv y_mv <| yv (y_idxR Tryz.underlying44 sz3 rfl rfl (by omega) (by exact RdS.own pkk)) ?_; refine yv (y_loadR1 ag3 rfl (RdS.own (ad := ad) (us := vi cs) pkk) hgj) ?_; refine yv y_as <| fk [(0, _), (1, _), (5, _), (6, _), (7, _)] hK10 ?_; refine sr fun _ hK11 => ?_
   refine yv y_mv <| yv y_mv <| Hd.callvE (vs := [_]) (cap := [_]) rfl rfl kq (all1_ct _ px pb wb mb limit f m w xs[j]) sq ?_; intro _; refine yv (y_not rfl) ?_; refine fk [(0, _), (1, _), (5, _), (6, _), (7, _), (29, _)] hK11 ?_; refine Hd.cond rfl (fun hc2 => ?_) (fun hc2 => ?_)
   ·try simp only [hyZ] at hc2
    refine sr fun _ hK12 => ?_
    refine yv y_mv <| yv y_mv <| yv y_mv <| yv (y_idxR Tryz.underlying44 sz3 rfl rfl (by omega) (by exact RdS.own pkk)) ?_; refine Hd.storeO1 sz3 rfl rfl rfl pkk (by rw [hvl]; omega) ?_
    try simp only [hyS]
    refine fk [(0, _), (1, _), (5, _), (6, _)] hK12 ?_; refine Hd.region <| yv y_mv <| yv (y_addn rfl rfl (by simp only [InK]; omega)) ?_; refine yv y_as <| Hd.nil <| slots [(0, _), (1, _), (5, _), (6, _)] sbq ?_; refine Hd.inB <| Hd.toK hK9 ?_; refine Hd.region <| yv y_mv <| yv (y_addn rfl rfl (by simp only [InK]; omega)) ?_; refine yv y_as <| Hd.nil <| slots [(0, _), (1, _), (5, _), (6, _)] sbq ?_; refine thenN ?_
    have hqj : qE f w xs[j] = true := by
     show (findE f w xs[j]).isSome = true
     simpa using hc2
    have hk := hp0.keep hj hqj
    refine Hd.again (i + 1, j + 1, cs.set i xs[j]) (by show xs.length - (j + 1) < xs.length - j; omega) sbq (fun q t => ?_); exact Ent.sep (.pure hk (.eq pkk (own_eq3 rfl rfl (by simp [vi, List.map_set])) enn)) q t
   ·try simp only [hyZ] at hc2
    refine Hd.skip <| Hd.inB <| Hd.toK hK9 ?_; refine Hd.region <| yv y_mv <| yv (y_addn rfl rfl (by simp only [InK]; omega)) ?_; refine yv y_as <| Hd.nil <| slots [(0, _), (1, _), (5, _), (6, _)] sbq ?_; refine thenN ?_
    have hqj : qE f w xs[j] = false := by
     show (findE f w xs[j]).isSome = false
     simpa using hc2
    have hk := hp0.drop hj hqj
    refine Hd.again (i, j + 1, cs) (by show xs.length - (j + 1) < xs.length - j; omega) sbq (fun q t => ?_); exact Ent.sep (.pure hk enn) q t
  ·try simp only [hyZ] at hc1
   have hjl : j = xs.length := by have := hp0.le; omega
   have hd := hp0.done hjl
   have hil : i < j := hp0.lt
   have hvl : (vi cs).length = xs.length := by rw [List.length_map]; exact hp0.len
   have hcl : cs.length = xs.length := hp0.len
   have hfl : (xs.filter (qE f w)).length = i := by rw [← hd, List.length_take]; omega
   refine Hd.exit <| Hd.thenExit <| Hd.thenExit <| Hd.inBexit <| Hd.toK hK5 ?_; refine sr fun _ hK13 => ?_
   refine yv y_mv <| yv y_mv <| yv (y_slo_oxxN Tryz.underlying44 sz3 rfl rfl (by omega)) ?_; refine Hd.clearTail (sz := 1) Tryz.underlying44 zr3 rfl rfl rfl pkk (by omega) ?_; refine fk [(0, _), (5, _)] hK13 ?_; refine sr fun _ hK14 => ?_
   refine yv y_mv <| yv y_mv <| yv (y_slo_xoxN Tryz.underlying44 sz3 rfl rfl (by omega)) ?_; refine yv y_as <| fk [(4, _)] hK14 ?_; refine Hd.ret ?_; rw [hfl]; exact Hd.ret1 rfl () rfl (Ent.sep (.eq pkk (own_eq3 rfl rfl (by rw [← hd, Nat.mul_one]; exact (List.map_take ..).symm)) enn))
theorem dela_ct (L : List SP) (px pb wb mb : Nat) (limit : Int) (f : Int → Option IxA) (m : Nat) (w : WA) (ad : Option Addr) (cap : Nat) (xs : List Int) (hb : xs.length ≤ 1000000) :
  Ct Tryz.prog 145 #[.slice ad xs.length cap, allK px] (own 3 1 ad xs.length cap (vi xs) :: EpM px pb wb mb limit f m w L) (fun _ : Unit => .slice ad (xs.filter (qE f w)).length cap) (fun _ => own 3 1 ad (xs.filter (qE f w)).length cap (vi (xs.filter (qE f w))) :: EpM px pb wb mb limit f m w L) := by
 by_cases h : ∀ y ∈ xs, qE f w y = true
 ·rw [List.filter_eq_self.2 h]
  exact deln_ct L px pb wb mb limit f m w ad cap xs hb h
 ·have he : ∃ y ∈ xs, (!qE f w y) = true := by
   refine Decidable.byContradiction fun hn => h fun y hy => ?_
   cases hq : qE f w y with
   | true => rfl
   | false => exact absurd ⟨y, hy, by rw [hq]; rfl⟩ hn
  have hlt := List.findIdx_lt_length_of_exists he
  refine delf_ct L px pb wb mb limit f m w ad cap xs hb (xs.findIdx fun y => !qE f w y) hlt (fun j hj hjn => ?_) ?_
  ·have := List.not_of_lt_findIdx hjn
   simpa using this
  ·have := List.findIdx_getElem (w := hlt)
   simpa using this
structure AllE (f : Int → Option IxA) (m : Nat) (w : WA) (ks : List Int) : Prop where
 srt : ks.Pairwise (· < ·)
 mem : ∀ a, a ∈ ks ↔ (findE f w a).isSome = true
 len : ks.length ≤ m
theorem all_of {f : Int → Option IxA} {m : Nat} {w : WA} {ks : List Int} (h : KeysOf (fmap f) ks) (hl : ks.length ≤ m) (hs : ks.Pairwise (· ≤ ·)) : AllE f m w (ks.filter (qE f w)) where
 srt := by
  have h1 : ks.Pairwise (· < ·) := (hs.and h.nd).imp fun ⟨a, b⟩ => by omega
  exact h1.sublist List.filter_sublist
 mem a := by
  rw [List.mem_filter, h.mem, fmap_some]; refine ⟨fun q => q.2, fun q => ⟨?_, q⟩⟩; unfold findE at q
  cases hf : f a with
  | none => rw [hf] at q; simp at q
  | some x => rfl
 len := Nat.le_trans (List.length_filter_le _ _) hl
theorem all_ct (L : List SP) (pb wb mb : Nat) (limit : Int) (f : Int → Option IxA) (m : Nat) (hm : m ≤ 1000000) (w : WA) : Ct Tryz.prog 73 #[.pointer (some ⟨pb, 0, none⟩)] (EpH pb wb mb limit :: mp mb .i64 (fmap f) m :: WorldP wb w :: L) (fun q_ : Option Addr × Nat × List Int => .slice q_.1 q_.2.2.length q_.2.1) (fun q_ : Option Addr × Nat × List Int => pu (AllE f m w q_.2.2) :: own 3 1 q_.1 q_.2.2.length q_.2.1 (vi q_.2.2) :: EpH pb wb mb limit :: mp mb .i64 (fmap f) m :: WorldP wb w :: L) := by
 refine Ct.o1 Tryz.func73 ?_; intro E
 show Hd E 11 _ _ _ _
 refine sr fun _ hK1 => ?_
 refine Hd.box rfl rfl (fun b1 => ?_); refine yv y_as <| fk [(1, _)] hK1 ?_; refine sr fun _ hK2 => ?_
 refine yv (y_l1 ag34 rfl) ?_; refine yv y_np <| yv (y_f 2 143 Tryz.underlying145 sz143) ?_; refine yv (y_l1 ag143 rfl) ?_; refine callE rfl fk147 (keys_ct _ mb) sq ?_; intro kb; refine callE rfl fk146 (sortedk_ct _ kb mb (fmap f) m hm) sq ?_; rintro ⟨ad, c, ks⟩; dsimp only; refine Hd.pure (fun hks => ?_); refine yv (y_mkf (fv := []) (cv := [_]) rfl rfl) ?_; refine callE rfl fk145 (dela_ct _ b1 pb wb mb limit f m w ad c ks (by omega)) sq ?_; intro _; refine yv y_as <| fk [(2, _)] hK2 ?_; refine Hd.ret ?_; exact Hd.ret1 rfl (ad, c, ks.filter (qE f w)) rfl (Ent.sep (.pure (all_of hks.1 hks.2.1 hks.2.2) enn))
theorem enone_ct (L : List SP) (pb wb mb : Nat) (limit : Int) : Ct Tryz.prog 70 #[.pointer (some ⟨pb, 0, none⟩)] (EpH pb wb mb limit :: L) (fun _ : Unit => .bool false) (fun _ : Unit => EpH pb wb mb limit :: L) := by
 refine Ct.o1 Tryz.func70 ?_; intro E
 show Hd E 12 _ _ _ _
 refine sr fun _ hK1 => ?_
 refine yv y_as <| fk [(0, _)] hK1 ?_; refine sr fun _ hK2 => ?_
 refine yv y_mv <| yv (y_eql_pointer Tryz.underlying34 rfl rfl) ?_; refine yv y_mv <| y2 y_mv <| y2 y_np <| y2 (y_f 0 38 Tryz.underlying145 sz38) ?_; refine y2 (y_l1 ag38 rfl) ?_; refine y2 (y_eql_pointer Tryz.underlying38 rfl rfl) ?_; refine yv (y_pickF rfl rfl) ?_; refine yv y_as <| fk [(2, _)] hK2 ?_; refine Hd.ret ?_; exact Hd.ret1 rfl () (by rfl) sq
abbrev f0 : Int → Option IxA := fun _ => none
theorem enew_ct (L : List SP) (wb : Nat) (limit : Int) (hl : 0 ≤ limit) : Ct Tryz.prog 18 #[.pointer (some ⟨wb, 0, none⟩), .int .i64 limit] (L) (fun q_ : Nat × Nat => .tuple #[.pointer (some ⟨q_.1, 0, none⟩), .int .i64 0]) (fun q_ : Nat × Nat => EpH q_.1 wb q_.2 limit :: mp q_.2 .i64 (fmap f0) 0 :: L) := by
 refine Ct.o2 Tryz.func18 ?_; intro E
 show Hd E 17 _ _ _ _
 refine sr fun _ hK1 => ?_
 refine yv y_as <| yv y_as <| fk [(0, _), (1, _)] hK1 ?_; refine Hd.seq fun _ hK2 => ?_
 refine Hd.block <| sr fun _ hK3 => ?_
 refine yv y_mv <| yv (y_eql_pointer Tryz.underlying38 rfl rfl) ?_; refine yv y_as <| fk [(0, _), (1, _), (6, _)] hK3 ?_; refine Hd.condF rfl ?_; refine sr fun _ hK4 => ?_
 refine yv y_mv <| yv (y_lss rfl rfl) ?_; refine yv y_as <| fk [(0, _), (1, _), (9, _)] hK4 ?_; refine Hd.cond rfl (fun hc1 => ?_) (fun hc1 => ?_)
 ·try simp only [hyZ] at hc1
  omega
 ·try simp only [hyZ] at hc1
  refine Hd.skip <| Hd.inB <| Hd.toK hK2 ?_; refine sr fun _ hK5 => ?_
  refine yv y_mv <| yv y_mv <| Hd.makeMap .i64 (fun b14 => ?_); refine yv (y_build (vs := [(0, _), (1, _), (2, _)]) rfl (by exact bd18_15 ..)) ?_; refine Hd.box rfl rfl (fun b16 => ?_); refine yv y_as <| yv y_as <| fk [(4, _), (5, _)] hK5 ?_; refine Hd.ret ?_; exact Hd.ret2 rfl (b16, b14) rfl rfl rfl (Ent.sep (.eq pkk (pt_eq (by rfl)) enn))
abbrev encPo (p : Int × Int) : List Value := [.int .i64 p.1, .int .i64 p.2]
def evE (f : Int → Option IxA) (fd : Int) : Int := ((f fd).getD zIx).events
def intE (f : Int → Option IxA) (ks : List Int) : List (Int × Int) := ks.map fun fd => (fd, evE f fd)
theorem intE_succ (f : Int → Option IxA) {ks : List Int} {i : Nat} (h : i < ks.length) : intE f (ks.take (i + 1)) = intE f (ks.take i) ++ [(ks[i], evE f ks[i])] := by
 unfold intE; rw [List.take_add_one, List.getElem?_eq_getElem h, List.map_append]; rfl
theorem inter_ct (L : List SP) (pb wb mb : Nat) (limit : Int) (f : Int → Option IxA) (m : Nat) (hm : m ≤ 1000000) (w : WA) : Ct Tryz.prog 22 #[.pointer (some ⟨pb, 0, none⟩)] (EpH pb wb mb limit :: mp mb .i64 (fmap f) m :: WorldP wb w :: L) (fun q_ : Option Addr × Nat × List Int => .slice q_.1 q_.2.2.length q_.2.1) (fun q_ : Option Addr × Nat × List Int => pu (AllE f m w q_.2.2) :: own 51 2 q_.1 q_.2.2.length q_.2.1 ((intE f q_.2.2).flatMap encPo) :: EpH pb wb mb limit :: mp mb .i64 (fmap f) m :: WorldP wb w :: L) := by
 refine Ct.o1 Tryz.func22 ?_; intro E
 show Hd E 29 _ _ _ _
 refine sr fun _ hK1 => ?_
 refine yv y_as <| fk [(0, _)] hK1 ?_; refine Hd.seq fun _ hK2 => ?_
 refine sr fun _ hK3 => ?_
 refine yv y_mv <| callE rfl fk70 (enone_ct _ pb wb mb limit) sq ?_; intro _; refine fk [(0, _), (7, _)] hK3 ?_; refine Hd.condF rfl ?_; refine Hd.skip <| Hd.toK hK2 ?_; refine sr fun _ hK4 => ?_
 refine yv y_as <| fk [(0, _), (3, _)] hK4 ?_; refine Hd.seq fun _ hK5 => ?_
 refine sr fun _ hK6 => ?_
 refine yv y_mv <| callE rfl fk73 (all_ct _ pb wb mb limit f m hm w) sq ?_; rintro ⟨ka, kc, ks⟩; dsimp only; refine Hd.pure (fun hA => ?_); refine yv (y_len Tryz.underlying44 rfl) ?_; refine yv y_mv <| fk [(0, _), (3, _), (9, _), (10, _), (11, _)] hK6 ?_; refine Hd.block <| Hd.loopK (ι := Nat × Option Addr × Nat) [(0, _), (9, _), (10, _)] (fun q_ => [(3, .slice q_.2.1 q_.1 q_.2.2), (11, .int .i64 (q_.1 : Int))]) (fun q_ => pu (q_.1 ≤ ks.length) :: own 51 2 q_.2.1 q_.1 q_.2.2 ((intE f (ks.take q_.1)).flatMap encPo) :: own 3 1 ka ks.length kc (vi ks) :: EpH pb wb mb limit :: mp mb .i64 (fmap f) m :: WorldP wb w :: L) (fun q_ => ks.length - q_.1) (0, none, 0) sbq sbq (fun q t => Ent.sep (.pure (Nat.zero_le _) (.ownNil .same)) q t) ?_; rintro ⟨i, ad, c⟩
 try dsimp only
 refine Hd.pure (fun hp0 => ?_)
 try dsimp only at hp0
 refine sr fun _ hK7 => ?_
 refine yv (y_lss rfl rfl) ?_; refine fk [(0, _), (3, _), (9, _), (10, _), (11, _), (12, _)] hK7 ?_; refine Hd.seq fun _ hK8 => ?_
 refine Hd.cond rfl (fun hc1 => ?_) (fun hc1 => ?_)
 ·try simp only [hyZ] at hc1
  have hi : i < ks.length := by omega
  have hgi := vi_at hi
  have hkl := hA.len
  have hsc := intE_succ f hi
  refine Hd.skip <| Hd.toK hK8 ?_; refine Hd.seq fun _ hK9 => ?_
  refine Hd.block <| sr fun _ hK10 => ?_
  refine yv (y_idxR Tryz.underlying44 sz3 rfl rfl (by omega) (by exact RdS.own pkk)) ?_; refine yv (y_loadR1 ag3 rfl (RdS.own (ad := ka) (us := vi ks) pkk) hgi) ?_; refine yv y_as <| fk [(0, _), (3, _), (5, _), (9, _), (10, _), (11, _)] hK10 ?_; refine Hd.region <| yv y_mv <| yv y_mv <| yv y_mv <| yv y_np <| yv (y_f 2 143 Tryz.underlying145 sz143) ?_; refine yv (y_l1 ag143 rfl) ?_; refine yv y_mv <| yv (y_to (v' := .agg (encIx ((f ks[i]).getD zIx)).toArray) (y_lookup mapt143 rfl rfl pkk) (by exact fmap_get f ks[i])) ?_; refine yv (y_fieldv1 (q := 1) (ft := 3) (cs := encIx ((f ks[i]).getD zIx)) (v := .int .i64 (evE f ks[i])) Tryz.underlying148 rfl ag3 rfl rfl) ?_; refine yv (y_build (vs := [(0, _), (1, _)]) rfl (by exact bd22_24 ..)) ?_; refine Hd.bslice (vs := [(0, _)]) rfl (by exact bs22_25 ..) (fun b25 => ?_); refine Hd.append Tryz.underlying47 ty51 rfl rfl rfl pkk (by exact RdS.rd (Rd.pt pkk (fun j v e => by simpa using e)) rfl) (by simp [Value.oneCell']; done) (by simp only [maxLen]; omega) (by omega) (fun ad26 cap26 => ?_)
  refine yv y_as <| Hd.nil <| slots [(0, _), (3, _), (9, _), (10, _), (11, _)] sbq ?_; refine Hd.inB <| Hd.toK hK9 ?_; refine Hd.region <| yv (y_addn rfl rfl (by simp only [InK]; omega)) ?_; refine yv y_mv <| Hd.nil <| slots [(0, _), (3, _), (9, _), (10, _), (11, _)] sbq ?_; refine thenN <| Hd.again (i + 1, ad26, cap26) (by show ks.length - (i + 1) < ks.length - i; omega) sbq (fun q t => ?_); exact Ent.sep (.pure (show i + 1 ≤ ks.length by omega) (.eq pkk (own_eq3 rfl rfl (by simp only [hsc, List.flatMap_append]; rfl)) enn)) q t
 ·try simp only [hyZ] at hc1
  obtain rfl : i = ks.length := by omega
  rw [List.take_length]; refine Hd.exit <| Hd.thenExit <| Hd.thenExit <| Hd.inBexit <| Hd.toK hK5 ?_; refine sr fun _ hK11 => ?_
  refine yv y_mv <| yv y_as <| fk [(2, _)] hK11 ?_; refine Hd.ret ?_; exact Hd.ret1 rfl (ad, c, ks) rfl (Ent.sep (.pure hA enn))
def rs1 (x : IxA) (r : RdyA) : Int := if r.r > x.reads then bits .or .i64 x.armed 1 else x.armed
def rsE (x : IxA) (r : RdyA) : Int := if r.w > x.writes then bits .or .i64 (rs1 x r) 4 else rs1 x r
theorem risen_ct (L : List SP) (x : IxA) (r : RdyA) : Ct Tryz.prog 74 #[.agg (encIx x).toArray, .agg (encR r).toArray] (L) (fun _ : Unit => .int .i64 (rsE x r)) (fun _ : Unit => L) := by
 refine Ct.o2 Tryz.func74 ?_; intro E
 show Hd E 23 _ _ _ _
 refine sr fun _ hK1 => ?_
 refine Hd.box rfl rfl (fun b2 => ?_); refine Hd.box rfl rfl (fun b3 => ?_); refine yv y_as <| fk [(2, _), (3, _)] hK1 ?_; refine sr fun _ hK2 => ?_
 refine yv (y_f 2 3 Tryz.underlying148 sz3) ?_; refine yv (y_l1 ag3 rfl) ?_; refine yv y_as <| fk [(2, _), (3, _), (5, _)] hK2 ?_; refine Hd.seq fun _ hK3 => ?_
 refine sr fun _ hK4 => ?_
 refine yv (y_f 5 30 Tryz.underlying105 sz30) ?_; refine yv (y_l1 ag30 rfl) ?_; refine yv (y_f 3 30 Tryz.underlying148 sz30) ?_; refine yv (y_l1 ag30 rfl) ?_; refine yv (y_gtr rfl rfl) ?_; refine fk [(2, _), (3, _), (5, _), (12, _)] hK4 ?_; refine Hd.cond rfl (fun hc0 => ?_) (fun hc0 => ?_)
 ·try simp only [hyZ] at hc0
  refine Hd.region <| yv y_mv <| yv (y_or rfl rfl) ?_; refine yv y_as <| fk [(2, _), (3, _), (5, _)] hK3 ?_; refine Hd.seq fun _ hK5 => ?_
  refine sr fun _ hK6 => ?_
  refine yv (y_f 6 30 Tryz.underlying105 sz30) ?_; refine yv (y_l1 ag30 rfl) ?_; refine yv (y_f 4 30 Tryz.underlying148 sz30) ?_; refine yv (y_l1 ag30 rfl) ?_; refine yv (y_gtr rfl rfl) ?_; refine fk [(5, _), (19, _)] hK6 ?_; refine Hd.cond rfl (fun hc1 => ?_) (fun hc1 => ?_)
  ·try simp only [hyZ] at hc1
   refine Hd.region <| yv y_mv <| yv (y_or rfl rfl) ?_; refine yv y_as <| fk [(5, _)] hK5 ?_; refine sr fun _ hK7 => ?_
   refine yv y_mv <| yv y_as <| fk [(4, _)] hK7 ?_; refine Hd.ret ?_
   rw [show rsE x r = bits .or .i64 (bits .or .i64 x.armed 1) 4 by
    have e1 : rs1 x r = bits .or .i64 x.armed 1 := if_pos (by omega)
    unfold rsE; rw [if_pos (by omega), e1]]
   exact Hd.ret1 rfl () rfl sq
  ·try simp only [hyZ] at hc1
   refine Hd.skip <| Hd.toK hK5 ?_; refine sr fun _ hK8 => ?_
   refine yv y_mv <| yv y_as <| fk [(4, _)] hK8 ?_; refine Hd.ret ?_
   rw [show rsE x r = bits .or .i64 x.armed 1 by
    have e1 : rs1 x r = bits .or .i64 x.armed 1 := if_pos (by omega)
    unfold rsE; rw [if_neg (by omega), e1]]
   exact Hd.ret1 rfl () rfl sq
 ·try simp only [hyZ] at hc0
  refine Hd.skip <| Hd.toK hK3 ?_; refine Hd.seq fun _ hK9 => ?_
  refine sr fun _ hK10 => ?_
  refine yv (y_f 6 30 Tryz.underlying105 sz30) ?_; refine yv (y_l1 ag30 rfl) ?_; refine yv (y_f 4 30 Tryz.underlying148 sz30) ?_; refine yv (y_l1 ag30 rfl) ?_; refine yv (y_gtr rfl rfl) ?_; refine fk [(5, _), (19, _)] hK10 ?_; refine Hd.cond rfl (fun hc1 => ?_) (fun hc1 => ?_)
  ·try simp only [hyZ] at hc1
   refine Hd.region <| yv y_mv <| yv (y_or rfl rfl) ?_; refine yv y_as <| fk [(5, _)] hK9 ?_; refine sr fun _ hK11 => ?_
   refine yv y_mv <| yv y_as <| fk [(4, _)] hK11 ?_; refine Hd.ret ?_
   rw [show rsE x r = bits .or .i64 (x.armed) 4 by
    have e1 : rs1 x r = x.armed := if_neg (by omega)
    unfold rsE; rw [if_pos (by omega), e1]]
   exact Hd.ret1 rfl () rfl sq
  ·try simp only [hyZ] at hc1
   refine Hd.skip <| Hd.toK hK9 ?_; refine sr fun _ hK12 => ?_
   refine yv y_mv <| yv y_as <| fk [(4, _)] hK12 ?_; refine Hd.ret ?_
   rw [show rsE x r = x.armed by
    have e1 : rs1 x r = x.armed := if_neg (by omega)
    unfold rsE; rw [if_neg (by omega), e1]]
   exact Hd.ret1 rfl () rfl sq
def edgE (x : IxA) : Bool := decide (bits .and .i64 x.events 32 ≠ 0)
def endE (x : IxA) (r : RdyA) : Bool := edgE x && (r.h || r.e)
def nw0 (x : IxA) (r : RdyA) : Int := if (r.i || endE x r) = true then bits .or .i64 0 1 else 0
def nw1 (x : IxA) (r : RdyA) : Int := if (r.o || endE x r) = true then bits .or .i64 (nw0 x r) 4 else nw0 x r
def nw2 (x : IxA) (r : RdyA) : Int := bits .and .i64 (nw1 x r) x.events
def nw3 (x : IxA) (r : RdyA) : Int := if edgE x = true then bits .and .i64 (nw2 x r) (rsE x r) else nw2 x r
def nw4 (x : IxA) (r : RdyA) : Int := if r.h = true then bits .or .i64 (nw3 x r) 16 else nw3 x r
def nw5 (x : IxA) (r : RdyA) : Int := if r.e = true then bits .or .i64 (nw4 x r) 8 else nw4 x r
def nwE (x : IxA) (r : RdyA) : Int := if edgE x = true ∧ nw3 x r = 0 then 0 else nw5 x r
theorem now_ct (L : List SP) (x : IxA) (r : RdyA) : Ct Tryz.prog 152 #[.agg (encIx x).toArray, .agg (encR r).toArray] (L) (fun _ : Unit => .int .i64 (nwE x r)) (fun _ : Unit => L) := by
 refine Ct.o2 Tryz.func152 ?_; intro E
 show Hd E 56 _ _ _ _
 refine sr fun _ hK1 => ?_
 refine Hd.box rfl rfl (fun b2 => ?_); refine Hd.box rfl rfl (fun b3 => ?_); refine yv y_as <| fk [(2, _), (3, _)] hK1 ?_; refine Hd.seq fun _ hK2 => ?_
 refine Hd.quiet mixed kq ?_; refine Hq.yv (y_f 1 3 Tryz.underlying148 sz3) ?_; refine Hq.yv (y_l1 ag3 rfl) ?_; refine Hq.yv (y_and rfl rfl) ?_; refine Hq.yv (y_neq rfl rfl) ?_; refine Hq.yv y_as ?_; refine Hq.yv (y_to (v' := .bool (edgE x)) y_as (by rfl)) ?_; refine Hq.nil ?_; refine sk [(2, _), (3, _), (5, _), (6, _)] hK2 ?_; refine sr fun _ hK3 => ?_
 refine yv y_mv <| yv y_mv ?_; apply Hd.andg (q := (r.h || r.e)) 7 13 20 [(2, _), (3, _), (5, _), (6, _)] rfl sbq
 ·intro hg2_13
  try simp only [hyZ] at hg2_13
  simp only [List.take]; refine y2 (y_f 3 4 Tryz.underlying105 sz4) ?_; refine y2 (y_l1 ag4 rfl) ?_; refine y2 y_mv ?_; apply Hd.org 3 16 19 [(2, _), (3, _), (5, _), (6, _), (13, _)] rfl sbq
  ·intro _
   simp only [List.take]; refine n1 <| n1 <| y2 (y_pickT rfl rfl) ?_; refine Hd.nil ?_; exact Hd.mq
  ·intro _
   simp only [List.take]; refine y2 (y_f 4 4 Tryz.underlying105 sz4) ?_; refine y2 (y_l1 ag4 rfl) ?_; refine y2 (y_pickF rfl rfl) ?_; refine Hd.nil ?_; exact Hd.mq
  simp only [List.drop]; refine yv (y_pickT rfl rfl) ?_; refine Hd.nil ?_; exact Hd.mq
 ·intro _
  simp only [List.take]; refine n1 <| n1 <| n1 <| n1 <| n1 <| n1 <| yv (y_pickF rfl rfl) ?_; refine Hd.nil ?_; exact Hd.mq
 simp only [List.drop]; refine yv (y_to (v' := .bool (endE x r)) y_as (by rfl)) ?_; refine fk [(2, _), (3, _), (5, _), (6, _), (7, _)] hK3 ?_; refine Hd.cutK (ι := Unit) [(2, _), (3, _), (6, _), (7, _)] (fun _ => [(5, .int .i64 (nw0 x r))]) (fun _ => pt b2 (encIx x) 148 :: pt b3 (encR r) 105 :: L) ?_ ?_ ⟨rfl, rfl, rfl, rfl, trivial⟩
 ·refine sr fun _ hK4 => ?_
  refine yv (y_f 1 4 Tryz.underlying105 sz4) ?_; refine yv (y_l1 ag4 rfl) ?_; refine yv y_mv ?_; apply Hd.org 2 23 25 [(2, _), (3, _), (5, _), (6, _), (7, _)] rfl sbq
  ·intro _
   simp only [List.take]; refine n1 <| yv (y_pickT rfl rfl) ?_; refine Hd.nil ?_; exact Hd.mq
  ·intro _
   simp only [List.take]; refine y2 y_mv <| yv (y_pickF rfl rfl) ?_; refine Hd.nil ?_; exact Hd.mq
  simp only [List.drop]; refine fk [(2, _), (3, _), (5, _), (6, _), (7, _), (25, _)] hK4 ?_; refine Hd.cond rfl (fun hc0 => ?_) (fun hc0 => ?_)
  ·try simp only [hyZ] at hc0
   refine Hd.region <| yv y_mv <| yv (y_or rfl rfl) ?_; refine yv y_as <| Hd.nil <| slots [(2, _), (3, _), (5, _), (6, _), (7, _)] sbq ?_; refine thenN ?_; exact Hd.meet () ⟨congrArg (fun z => some (Value.int .i64 z)) (show bits .or .i64 0 1 = nw0 x r from (if_pos (by simpa using hc0)).symm), by repeat (first | exact trivial | refine ⟨rfl, ?_⟩)⟩ sq
  ·try simp only [hyZ] at hc0
   refine Hd.skip <| thenN ?_; exact Hd.meet () ⟨congrArg (fun z => some (Value.int .i64 z)) (show 0 = nw0 x r from (if_neg (by rw [hc0.1, hc0.2]; decide)).symm), by repeat (first | exact trivial | refine ⟨rfl, ?_⟩)⟩ sq
 ·intro _
  refine Hd.cutK (ι := Unit) [(2, _), (3, _), (6, _)] (fun _ => [(5, .int .i64 (nw1 x r))]) (fun _ => pt b2 (encIx x) 148 :: pt b3 (encR r) 105 :: L) ?_ ?_ ⟨rfl, rfl, rfl, trivial⟩
  ·refine sr fun _ hK5 => ?_
   refine yv (y_f 2 4 Tryz.underlying105 sz4) ?_; refine yv (y_l1 ag4 rfl) ?_; refine yv y_mv ?_; apply Hd.org 2 30 32 [(2, _), (3, _), (5, _), (6, _)] rfl sbq
   ·intro _
    simp only [List.take]; refine n1 <| yv (y_pickT rfl rfl) ?_; refine Hd.nil ?_; exact Hd.mq
   ·intro _
    simp only [List.take]; refine y2 y_mv <| yv (y_pickF rfl rfl) ?_; refine Hd.nil ?_; exact Hd.mq
   simp only [List.drop]; refine fk [(2, _), (3, _), (5, _), (6, _), (32, _)] hK5 ?_; refine Hd.cond rfl (fun hc1 => ?_) (fun hc1 => ?_)
   ·try simp only [hyZ] at hc1
    refine Hd.region <| yv y_mv <| yv (y_or rfl rfl) ?_; refine yv y_as <| Hd.nil <| slots [(2, _), (3, _), (5, _), (6, _)] sbq ?_; refine thenN ?_; exact Hd.meet () ⟨congrArg (fun z => some (Value.int .i64 z)) (show bits .or .i64 (nw0 x r) 4 = nw1 x r from (if_pos (by simpa using hc1)).symm), by repeat (first | exact trivial | refine ⟨rfl, ?_⟩)⟩ sq
   ·try simp only [hyZ] at hc1
    refine Hd.skip <| thenN ?_; exact Hd.meet () ⟨congrArg (fun z => some (Value.int .i64 z)) (show nw0 x r = nw1 x r from (if_neg (by rw [hc1.1, hc1.2]; decide)).symm), by repeat (first | exact trivial | refine ⟨rfl, ?_⟩)⟩ sq
  ·intro _
   refine sr fun _ hK6 => ?_
   refine yv y_mv <| yv (y_f 1 3 Tryz.underlying148 sz3) ?_; refine yv (y_l1 ag3 rfl) ?_; refine yv (y_to (v' := .int .i64 (nw2 x r)) (y_and rfl rfl) (by rfl)) ?_; refine yv y_as <| fk [(2, _), (3, _), (5, _), (6, _)] hK6 ?_; refine Hd.cutK (ι := Unit) [(3, _)] (fun _ => [(5, .int .i64 (nw3 x r))]) (fun _ => pu (¬ (edgE x = true ∧ nw3 x r = 0)) :: pt b2 (encIx x) 148 :: pt b3 (encR r) 105 :: L) ?_ ?_ ⟨rfl, trivial⟩
   ·refine sr fun _ hK7 => ?_
    refine yv y_mv <| fk [(2, _), (3, _), (5, _), (39, _)] hK7 ?_; refine Hd.cond rfl (fun hc2 => ?_) (fun hc2 => ?_)
    ·try simp only [hyZ] at hc2
     have h3 : nw3 x r = bits .and .i64 (nw2 x r) (rsE x r) := if_pos hc2
     refine sr fun _ hK8 => ?_
     refine yv y_mv <| yv (y_loadn (us := [_, _, _, _, _]) ag148 rfl (Rd.pt pkk (by (first | (intro j v e; rcases j with _|_|_|_|_|_|_|_|_|_|_|_|j <;> first | exact e | exact absurd e (by simp))))) (by exact sz148)) ?_; refine yv (y_loadn (us := [_, _, _, _, _, _, _]) ag105 rfl (Rd.pt pkk (by (first | (intro j v e; rcases j with _|_|_|_|_|_|_|_|_|_|_|_|j <;> first | exact e | exact absurd e (by simp))))) (by exact sz105)) ?_; refine callE rfl fk74 (risen_ct _ x r) sq ?_; intro _; refine yv (y_and rfl rfl) ?_; refine yv y_as <| fk [(3, _), (5, _)] hK8 ?_; refine sr fun _ hK9 => ?_
     refine yv y_mv <| yv (y_eql rfl rfl) ?_; refine fk [(3, _), (5, _), (46, _)] hK9 ?_; refine Hd.cond rfl (fun hc3 => ?_) (fun hc3 => ?_)
     ·try simp only [hyZ] at hc3
      refine sr fun _ hK10 => ?_
      refine yv y_as <| fk [(4, _)] hK10 ?_; refine Hd.ret <| Hd.thenRet ?_; rw [show nwE x r = 0 from if_pos ⟨hc2, by rw [h3]; exact hc3⟩]; exact Hd.ret1 rfl () rfl sq
     ·try simp only [hyZ] at hc3
      refine Hd.skip <| thenN ?_; exact Hd.meet () ⟨congrArg (fun z => some (Value.int .i64 z)) h3.symm, by repeat (first | exact trivial | refine ⟨rfl, ?_⟩)⟩ (Ent.sep (.pure (fun h => hc3 (by rw [← h3]; exact h.2)) enn))
    ·try simp only [hyZ] at hc2
     refine Hd.skip <| thenN ?_; exact Hd.meet () ⟨congrArg (fun z => some (Value.int .i64 z)) (show nw2 x r = nw3 x r from (if_neg (by rw [hc2]; decide)).symm), by repeat (first | exact trivial | refine ⟨rfl, ?_⟩)⟩ (Ent.sep (.pure (fun h => by rw [hc2] at h; exact absurd h.1 (by decide)) enn))
   ·intro _
    refine Hd.pure (fun hne => ?_); refine Hd.cutK (ι := Unit) [(3, _)] (fun _ => [(5, .int .i64 (nw4 x r))]) (fun _ => pt b2 (encIx x) 148 :: pt b3 (encR r) 105 :: L) ?_ ?_ ⟨rfl, trivial⟩
    ·refine sr fun _ hK11 => ?_
     refine yv (y_f 3 4 Tryz.underlying105 sz4) ?_; refine yv (y_l1 ag4 rfl) ?_; refine fk [(3, _), (5, _), (48, _)] hK11 ?_; refine Hd.cond rfl (fun hc4 => ?_) (fun hc4 => ?_)
     ·try simp only [hyZ] at hc4
      refine Hd.region <| yv y_mv <| yv (y_or rfl rfl) ?_; refine yv y_as <| Hd.nil <| slots [(3, _), (5, _)] sbq ?_; refine thenN ?_; exact Hd.meet () ⟨congrArg (fun z => some (Value.int .i64 z)) (show bits .or .i64 (nw3 x r) 16 = nw4 x r from (if_pos hc4).symm), by repeat (first | exact trivial | refine ⟨rfl, ?_⟩)⟩ sq
     ·try simp only [hyZ] at hc4
      refine Hd.skip <| thenN ?_; exact Hd.meet () ⟨congrArg (fun z => some (Value.int .i64 z)) (show nw3 x r = nw4 x r from (if_neg (by rw [hc4]; decide)).symm), by repeat (first | exact trivial | refine ⟨rfl, ?_⟩)⟩ sq
    ·intro _
     refine Hd.seq fun _ hK12 => ?_
     refine sr fun _ hK13 => ?_
     refine yv (y_f 4 4 Tryz.underlying105 sz4) ?_; refine yv (y_l1 ag4 rfl) ?_; refine fk [(5, _), (52, _)] hK13 ?_; refine Hd.cond rfl (fun hc5 => ?_) (fun hc5 => ?_)
     ·try simp only [hyZ] at hc5
      refine Hd.region <| yv y_mv <| yv (y_or rfl rfl) ?_; refine yv y_as <| fk [(5, _)] hK12 ?_; refine sr fun _ hK14 => ?_
      refine yv y_mv <| yv y_as <| fk [(4, _)] hK14 ?_; refine Hd.ret ?_; rw [show nwE x r = bits .or .i64 (nw4 x r) 8 by unfold nwE; rw [if_neg hne]; exact if_pos hc5]; exact Hd.ret1 rfl () rfl sq
     ·try simp only [hyZ] at hc5
      refine Hd.skip <| Hd.toK hK12 ?_; refine sr fun _ hK15 => ?_
      refine yv y_mv <| yv y_as <| fk [(4, _)] hK15 ?_; refine Hd.ret ?_; rw [show nwE x r = nw4 x r by unfold nwE; rw [if_neg hne]; exact if_neg (by rw [hc5]; decide)]; exact Hd.ret1 rfl () rfl sq
end Ep
end Go.Proofs.YtbfddabjbkohdaaGreat
namespace Go.Proofs.YtbfddabjbkohdaaGreat
set_option maxHeartbeats 2000000
open Go.RX.Hd (yv y2 n1 fk sk sr tH callE heldK onlyH endH thenN slots)
open Go.RX Fx
namespace Wo
theorem Hd.wok {E : World} {n : Nat} {ds : List Deferred} {st : List (Nat × Value)} {L L' : List SP} {K : Act → World → Prop} {wb : Nat} {w : WA} (p : Pick L (WorldP wb w) L') (h : WOk w → Hd E n ds st L K) : Hd E n ds st L K := fun a v f s => by
 refine h ?_ a v f s
 obtain ⟨h1, s1, i, x⟩ := sep.one p s.2.2.2
 obtain ⟨_, _, _, _, _, hq, _⟩ := x
 exact hq.1
end Wo
namespace Ep
open Wo
set_option maxRecDepth 8000
theorem sorted_ext : ∀ {a b : List Int}, a.Pairwise (· < ·) → b.Pairwise (· < ·) → (∀ x, x ∈ a ↔ x ∈ b) → a = b
 | [], [], _, _, _ => rfl
 | [], y :: b, _, _, h => absurd ((h y).2 List.mem_cons_self) (by simp)
 | x :: a, [], _, _, h => absurd ((h x).1 List.mem_cons_self) (by simp)
 | x :: a, y :: b, ha, hb, h => by
  rw [List.pairwise_cons] at ha hb
  have hxy : x = y := by
   rcases List.mem_cons.1 ((h x).1 List.mem_cons_self) with e | e
   ·exact e
   ·rcases List.mem_cons.1 ((h y).2 List.mem_cons_self) with e2 | e2
    ·exact e2.symm
    ·have h1 := hb.1 x e
     have h2 := ha.1 y e2
     omega
  subst hxy
  congr 1
  refine sorted_ext ha.2 hb.2 fun z => ?_
  have := h z
  simp only [List.mem_cons] at this
  constructor
  ·intro hz
   rcases this.1 (.inr hz) with rfl | e
   ·have := ha.1 z hz; omega
   ·exact e
  ·intro hz
   rcases this.2 (.inr hz) with rfl | e
   ·have := hb.1 z hz; omega
   ·exact e
def allL (f : Int → Option IxA) (w : WA) : List Int := ((List.range 96).filter fun n : Nat => qE f w (n : Int)).map fun n : Nat => (n : Int)
theorem findE_at {f : Int → Option IxA} {w : WA} {a : Int} (h : qE f w a = true) : ∃ x n k, f a = some x ∧ w.at a = some (n, k) ∧ x.wire = (n : Int) ∧ findE f w a = some x := by
 unfold qE at h
 have h1 := h
 unfold findE at h1
 cases hf : f a with
 | none => rw [hf] at h1; simp at h1
 | some x =>
  rw [hf] at h1; dsimp only at h1
  split at h1
  ·rename_i hc
   cases ha : w.at a with
   | none => rw [ha] at hc; simp at hc
   | some p =>
    obtain ⟨n, k⟩ := p
    rw [ha] at hc; refine ⟨x, n, k, rfl, rfl, hc.2.symm, ?_⟩; unfold findE; rw [hf]; exact if_pos (by rw [ha]; exact hc)
  ·simp at h1
theorem mem_allL {f : Int → Option IxA} {w : WA} (hw : WOk w) {a : Int} : a ∈ allL f w ↔ qE f w a = true := by
 unfold allL; rw [List.mem_map]
 constructor
 ·rintro ⟨n, hn, rfl⟩
  exact (List.mem_filter.1 hn).2
 ·intro h
  obtain ⟨x, n, k, _, ha, _, _⟩ := findE_at h
  have := hw.at_lt ha
  have e : ((a.toNat : Nat) : Int) = a := by omega
  exact ⟨a.toNat, List.mem_filter.2 ⟨List.mem_range.2 (by omega), by rw [e]; exact h⟩, e⟩
theorem allL_srt (f : Int → Option IxA) (w : WA) : (allL f w).Pairwise (· < ·) := by
 unfold allL; rw [List.pairwise_map]; exact (List.pairwise_lt_range.filter _).imp fun {a b} h => by omega
theorem AllE.eq {f : Int → Option IxA} {m : Nat} {w : WA} {ks : List Int} (hw : WOk w) (h : AllE f m w ks) : ks = allL f w :=
 sorted_ext h.srt (allL_srt f w) fun a => by rw [h.mem, mem_allL hw]
theorem allL_len (f : Int → Option IxA) (w : WA) : (allL f w).length ≤ 96 := by
 unfold allL; rw [List.length_map]
 have := List.length_filter_le (fun n : Nat => qE f w (n : Int)) (List.range 96)
 rwa [List.length_range] at this
def nwF (f : Int → Option IxA) (w : WA) (fd : Int) : Int := nwE ((f fd).getD zIx) (readyR w fd)
def dueT (f : Int → Option IxA) (w : WA) (l : List Int) : List (Int × Int) := l.filterMap fun fd => if nwF f w fd = 0 then none else some (fd, nwF f w fd)
abbrev dueL (f : Int → Option IxA) (w : WA) : List (Int × Int) := dueT f w (allL f w)
theorem dueT_app (f : Int → Option IxA) (w : WA) (a b : List Int) : dueT f w (a ++ b) = dueT f w a ++ dueT f w b := List.filterMap_append
theorem dueT_one (f : Int → Option IxA) (w : WA) (a : Int) : dueT f w [a] = if nwF f w a = 0 then [] else [(a, nwF f w a)] := by
 unfold dueT; rw [List.filterMap_cons]
 by_cases h : nwF f w a = 0
 ·rw [if_pos h, if_pos h]; rfl
 ·rw [if_neg h, if_neg h]; rfl
theorem dueT_succ (f : Int → Option IxA) (w : WA) {l : List Int} {i : Nat} (h : i < l.length) : dueT f w (l.take (i + 1)) = dueT f w (l.take i) ++ (if nwF f w l[i] = 0 then [] else [(l[i], nwF f w l[i])]) := by
 rw [List.take_add_one, List.getElem?_eq_getElem h, Option.toList_some, dueT_app, dueT_one]
theorem dueT_pre (f : Int → Option IxA) (w : WA) (l : List Int) (i : Nat) : dueT f w (l.take i) <+: dueT f w l := by
 conv => rhs; rw [← List.take_append_drop i l]
 rw [dueT_app]; exact List.prefix_append _ _
theorem dueT_len (f : Int → Option IxA) (w : WA) (l : List Int) : (dueT f w l).length ≤ l.length := List.length_filterMap_le _ _
abbrev encPA (p : Int × Int) : List Value := [.agg (encPo p).toArray]
abbrev EpB (pb wb mb : Nat) (limit : Int) (f : Int → Option IxA) (m : Nat) (w : WA) (L : List SP) : List SP := EpH pb wb mb limit :: mp mb .i64 (fmap f) m :: WorldP wb w :: L
theorem due_ct (L : List SP) (pb : Nat) : Ct Tryz.prog 77 #[.pointer (some ⟨pb, 0, none⟩)] (L) (fun b : Nat => .func (.func 151) #[] #[.pointer (some ⟨b, 0, none⟩)]) (fun b : Nat => pt b [.pointer (some ⟨pb, 0, none⟩)] 34 :: L) := by
 refine Ct.o1 Tryz.func77 ?_; intro E
 show Hd E 4 _ _ _ _
 refine sr fun _ hK1 => ?_
 refine Hd.box rfl rfl (fun b1 => ?_); refine yv y_as <| fk [(1, _)] hK1 ?_; refine sr fun _ hK2 => ?_
 refine yv (y_mkf (fv := []) (cv := [_]) rfl rfl) ?_; refine yv y_as <| fk [(2, _)] hK2 ?_; refine Hd.ret ?_; exact Hd.ret1 rfl b1 rfl sq
theorem due_it (px pb wb mb : Nat) (limit : Int) (f : Int → Option IxA) (m : Nat) (hm : m ≤ 1000000) (w : WA) : RX.It Tryz.prog 151 [.pointer (some ⟨px, 0, none⟩)] encPA (fun ys => ys = dueL f w) (fun ys => ys <+: dueL f w)
  (EpM px pb wb mb limit f m w []) (EpM px pb wb mb limit f m w []) := by
 intro l J X hy; refine Ct.of (vs := [.func (.yield l) #[] #[], .pointer (some ⟨px, 0, none⟩)]) Tryz.func151 rfl rfl [(0, .func (.yield l) #[] #[]), (1, .pointer (some ⟨px, 0, none⟩))] ⟨rfl, rfl, trivial⟩ ?_; intro E
 show Hd E 35 _ _ _ _
 refine Hd.heap (EpM px pb wb mb limit f m w (J [])) (fun k h => by have := sep_app h; exact this) ?_; refine Hd.wok pkk (fun hw => ?_); refine Hd.scope ?_; refine Hd.seq fun _ hK1 => ?_
 refine Hd.label ?_; refine Hd.toK hK1 ?_; refine sr fun _ hK2 => ?_
 refine yv (y_l1 ag34 rfl) ?_; refine callE rfl fk73 (all_ct _ pb wb mb limit f m hm w) sq ?_; rintro ⟨ka, kc, ks⟩; dsimp only; refine Hd.pure (fun hA => ?_)
 obtain rfl := hA.eq hw
 clear hA
 have hkl := allL_len f w
 refine yv (y_len Tryz.underlying44 rfl) ?_; refine yv y_mv <| fk [(0, _), (1, _), (7, _), (8, _), (9, _)] hK2 ?_; refine Hd.block <| Hd.loopK (ι := Nat) [(0, _), (1, _), (7, _), (8, _)] (fun i => [(9, .int .i64 (i : Int))]) (fun i => pu (i ≤ (allL f w).length) :: own 3 1 ka (allL f w).length kc (vi (allL f w)) :: EpM px pb wb mb limit f m w (J (dueT f w ((allL f w).take i)))) (fun i => (allL f w).length - i) 0 sbq sbq (Ent.sep (.pure (by omega) enn)) ?_; intro i
 try dsimp only
 refine Hd.pure (fun hp0 => ?_)
 try dsimp only at hp0
 refine sr fun _ hK3 => ?_
 refine yv (y_lss rfl rfl) ?_; refine fk [(0, _), (1, _), (7, _), (8, _), (9, _), (10, _)] hK3 ?_; refine Hd.seq fun _ hK4 => ?_
 refine Hd.cond rfl (fun hc0 => ?_) (fun hc0 => ?_)
 ·try simp only [hyZ] at hc0
  have hi : i < (allL f w).length := by omega
  have hgi := vi_at hi
  have hsc := dueT_succ f w hi
  have hpr := dueT_pre f w (allL f w) (i + 1)
  refine Hd.skip <| Hd.toK hK4 ?_; refine Hd.seq fun _ hK5 => ?_
  refine Hd.block <| sr fun _ hK6 => ?_
  refine yv (y_idxR Tryz.underlying44 sz3 rfl rfl (by omega) (by exact RdS.own pkk)) ?_; refine yv (y_loadR1 ag3 rfl (RdS.own (ad := ka) (us := vi (allL f w)) pkk) hgi) ?_; refine yv y_as <| fk [(0, _), (1, _), (4, _), (7, _), (8, _), (9, _)] hK6 ?_; refine Hd.seq fun _ hK7 => ?_
  refine Hd.quiet mixed kq ?_; refine Hq.yv (y_l1 ag34 rfl) ?_; refine Hq.yv y_np ?_; refine Hq.yv (y_f 2 143 Tryz.underlying145 sz143) ?_; refine Hq.yv (y_l1 ag143 rfl) ?_; refine Hq.yv y_mv ?_; refine Hq.yv (y_to (v' := .agg (encIx ((f (allL f w)[i]).getD zIx)).toArray) (y_lookup mapt143 rfl rfl pkk) (by exact fmap_get f (allL f w)[i])) ?_; refine Hq.yv (y_l1 ag34 rfl) ?_; refine Hq.yv y_np ?_; refine Hq.yv (y_f 0 38 Tryz.underlying145 sz38) ?_; refine Hq.yv (y_l1 ag38 rfl) ?_; refine Hq.yv y_mv ?_; refine Hq.call rfl fk43 ((wready_ct _ wb w (allL f w)[i]).swap sq sq) ?_; refine Hq.call rfl fk152 (now_ct _ ((f (allL f w)[i]).getD zIx) (readyR w (allL f w)[i])) ?_; refine Hq.yv y_as ?_; refine Hq.nil ?_; refine sk [(0, _), (1, _), (4, _), (5, _), (7, _), (8, _), (9, _)] hK7 ?_; refine Hd.seq fun _ hK8 => ?_
  refine sr fun _ hK9 => ?_
  refine yv y_mv <| yv (y_eql rfl rfl) ?_; refine fk [(0, _), (1, _), (4, _), (5, _), (7, _), (8, _), (9, _), (27, _)] hK9 ?_; refine Hd.cond rfl (fun hc1 => ?_) (fun hc1 => ?_)
  ·try simp only [hyZ] at hc1
   refine Hd.exit <| Hd.thenExit <| Hd.inBexit <| Hd.toK hK5 ?_; refine Hd.region <| yv (y_addn rfl rfl (by simp only [InK]; omega)) ?_; refine yv y_mv <| Hd.nil <| slots [(0, _), (1, _), (7, _), (8, _), (9, _)] sbq ?_; refine thenN ?_; rw [if_pos (show nwF f w (allL f w)[i] = 0 from hc1), List.append_nil] at hsc; rw [← hsc]; exact Hd.again (i + 1) (by omega) sbq (Ent.sep (.pure (by omega) enn))
  ·try simp only [hyZ] at hc1
   rw [if_neg (show ¬ nwF f w (allL f w)[i] = 0 from hc1)] at hsc; rw [hsc] at hpr; refine Hd.skip <| Hd.toK hK8 ?_; refine sr fun _ hK10 => ?_
   refine yv y_mv <| yv y_mv <| yv y_mv <| yv (y_build (vs := [(0, _), (1, _)]) rfl (by exact bd151_31 ..)) ?_; refine Hd.yield (pre := dueT f w ((allL f w).take i)) (c := ((allL f w)[i], nwF f w (allL f w)[i])) (M := own 3 1 ka (allL f w).length kc (vi (allL f w)) :: EpM px pb wb mb limit f m w []) hy rfl rfl hpr (fun k' h => sep_app (show sep ((own 3 1 ka (allL f w).length kc (vi (allL f w)) :: EpM px pb wb mb limit f m w []) ++ J (dueT f w ((allL f w).take i))) k' from Ent.sep enn k' h)) ?_; intro yb; refine yv (y_not rfl) ?_; refine fk [(0, _), (1, _), (7, _), (8, _), (9, _), (33, _)] hK10 ?_; refine Hd.cond rfl (fun hc2 => ?_) (fun hc2 => ?_)
   ·try simp only [hyZ] at hc2
    subst hc2; simp only [cond_false]; refine Hd.ret <| Hd.inBret <| Hd.thenRet <| Hd.thenRet <| Hd.inBret <| Hd.scRet ?_; exact Hd.ret0 rfl (dueT f w ((allL f w).take i) ++ [((allL f w)[i], nwF f w (allL f w)[i])], false) rfl (fun k' h => Ent.sep (.pure hpr .same) k' (sep_right (fun k s => Ent.sep (show Ent (own 3 1 ka (allL f w).length kc (vi (allL f w)) :: EpM px pb wb mb limit f m w []) (EpM px pb wb mb limit f m w []) from .skip .same) k s) h))
   ·try simp only [hyZ] at hc2
    subst hc2; simp only [cond_true]; refine Hd.heap (own 3 1 ka (allL f w).length kc (vi (allL f w)) :: EpM px pb wb mb limit f m w (J (dueT f w ((allL f w).take i) ++ [((allL f w)[i], nwF f w (allL f w)[i])]))) (fun k' h => sep_app h) ?_; rw [← hsc]; refine Hd.skip <| Hd.inB <| Hd.toK hK5 ?_; refine Hd.region <| yv (y_addn rfl rfl (by simp only [InK]; omega)) ?_; refine yv y_mv <| Hd.nil <| slots [(0, _), (1, _), (7, _), (8, _), (9, _)] sbq ?_; refine thenN ?_; exact Hd.again (i + 1) (by omega) sbq (Ent.sep (.pure (by omega) enn))
 ·try simp only [hyZ] at hc0
  refine Hd.exit <| Hd.thenExit <| Hd.thenExit <| Hd.inBexit <| Hd.scNorm ?_
  obtain rfl : i = (allL f w).length := by omega
  rw [List.take_length]; exact Hd.end0 rfl (dueL f w, true) rfl (fun k' h => Ent.sep (.pure rfl .same) k' (sep_app (M := EpM px pb wb mb limit f m w []) (N := J (dueL f w)) (Ent.sep enn k' h)))
end Ep
end Go.Proofs.YtbfddabjbkohdaaGreat
namespace Go.Proofs.YtbfddabjbkohdaaGreat
set_option maxHeartbeats 2000000
open Go.RX.Hd (yv y2 n1 fk sk sr tH callE heldK onlyH endH thenN slots)
open Go.RX Fx
namespace Sh
set_option maxRecDepth 8000
def swp {α : Type} (xs : List α) (i k : Nat) : List α :=
 match xs[i]?, xs[k]? with
 | some a, some b => (xs.set i b).set k a
 | _, _ => xs
theorem swp_len {α : Type} (xs : List α) (i k : Nat) : (swp xs i k).length = xs.length := by
 unfold swp; split <;> simp
theorem swp_map {α β : Type} (f : α → β) (xs : List α) (i k : Nat) : swp (xs.map f) i k = (swp xs i k).map f := by
 unfold swp; simp only [List.getElem?_map]
 cases xs[i]? <;> cases xs[k]? <;> simp [List.map_set]
def place (ord : List Int) (n i : Nat) : Nat := i + ((max 0 (ord.getD (i % ord.length) 0)) % ((n : Int) - i)).toNat
def shufTo {α : Type} (ord : List Int) (xs : List α) : Nat → List α
 | 0 => xs
 | i + 1 => if ord = [] then shufTo ord xs i else swp (shufTo ord xs i) i (place ord xs.length i)
theorem shuf_len {α : Type} (ord : List Int) (xs : List α) : ∀ i, (shufTo ord xs i).length = xs.length
 | 0 => rfl
 | i + 1 => by simp only [shufTo]; split <;> simp [swp_len, shuf_len ord xs i]
theorem shuf_map {α β : Type} (f : α → β) (ord : List Int) (xs : List α) : ∀ i, shufTo ord (xs.map f) i = (shufTo ord xs i).map f
 | 0 => rfl
 | i + 1 => by
  simp only [shufTo]
  split
  ·exact shuf_map f ord xs i
  ·rw [shuf_map f ord xs i, swp_map, List.length_map]
theorem shuf_nil {α : Type} {ord : List Int} (h : ord = []) (xs : List α) : ∀ i, shufTo ord xs i = xs
 | 0 => rfl
 | i + 1 => by simp only [shufTo, if_pos h]; exact shuf_nil h xs i
abbrev V (a : Int) : Value := .int .i64 a
abbrev VN (a : Nat) : Value := .int .i64 (a : Int)
theorem place_lt {ord : List Int} {n i : Nat} (h : i < n) : place ord n i < n := by
 unfold place
 have h1 := Int.emod_lt_of_pos (max 0 (ord.getD (i % ord.length) 0)) (b := (n : Int) - i) (by omega)
 have h2 := Int.emod_nonneg (max 0 (ord.getD (i % ord.length) 0)) (b := (n : Int) - i) (by omega)
 omega
theorem place_eq {ord : List Int} {n i : Nat} (h : i < n) {o : Int} (ho : ord[i % ord.length]? = some o) : (i : Int) + (max 0 o) % ((n : Int) - i) = (place ord n i : Int) := by
 unfold place
 have h2 := Int.emod_nonneg (max 0 o) (b := (n : Int) - i) (by omega)
 simp only [List.getD_eq_getElem?_getD, ho, Option.getD_some]; omega
theorem swp_eq {α : Type} {xs : List α} {i k : Nat} (hi : i < xs.length) (hk : k < xs.length) : swp xs i k = (xs.set i xs[k]).set k xs[i] := by
 unfold swp; rw [List.getElem?_eq_getElem hi, List.getElem?_eq_getElem hk]
theorem swp_mem {α : Type} {xs : List α} {i k : Nat} {a : α} (h : a ∈ swp xs i k) : a ∈ xs := by
 unfold swp at h
 split at h
 ·rename_i b c hb hc
  rcases List.mem_or_eq_of_mem_set h with h | rfl
  ·rcases List.mem_or_eq_of_mem_set h with h | rfl
   ·exact h
   ·exact List.mem_of_getElem? hc
  ·exact List.mem_of_getElem? hb
 ·exact h
theorem shuf_mem {α : Type} {ord : List Int} {xs : List α} {a : α} : ∀ {i : Nat}, a ∈ shufTo ord xs i → a ∈ xs
 | 0, h => h
 | i + 1, h => by
  simp only [shufTo] at h
  split at h
  ·exact shuf_mem h
  ·exact shuf_mem (swp_mem h)
abbrev encPo2 (p : Int × Int) : List Value := [.int .i64 p.1, .int .i64 p.2]
theorem encPo2_one (p : Int × Int) : ∀ u ∈ encPo2 p, u.oneCell' = true := by simp [Value.oneCell']
theorem cloneP_ct (L : List SP) (ad : Option Addr) (c : Nat) (xs : List (Int × Int)) (h : RdS L 2 ad xs.length (xs.flatMap encPo2)) (hb : xs.length ≤ 10000000) :
  Ct Tryz.prog 149 #[.slice ad xs.length c] L (fun i : Option Addr × Nat => .slice i.1 xs.length i.2) (fun i => own 51 2 i.1 xs.length i.2 (xs.flatMap encPo2) :: L) := by
 refine Ct.of (vs := [.slice ad xs.length c]) Tryz.func149 rfl rfl [(0, .slice ad xs.length c)] ⟨rfl, trivial⟩ ?_; intro E
 show Hd E 8 _ _ _ _
 refine Hd.rdsF h (fun _ hnil => ?_)
 have h1 : ∀ u ∈ xs.flatMap encPo2, u.oneCell' = true := fun u hu => by
  obtain ⟨y, _, hy⟩ := List.mem_flatMap.1 hu
  exact encPo2_one y u hy
 refine sr fun _ hK1 => ?_
 refine yv y_as <| fk [(0, _)] hK1 ?_; refine Hd.seq fun _ hK2 => ?_
 refine sr fun _ hK3 => ?_
 refine yv y_mv <| yv (y_eql_slice Tryz.underlying47 rfl rfl) ?_; refine fk [(0, _), (4, _)] hK3 ?_; refine Hd.cond rfl (fun hc0 => ?_) (fun hc0 => ?_)
 ·try simp only [hyZ] at hc0
  refine sr fun _ hK4 => ?_
  refine yv y_as <| fk [(2, _)] hK4 ?_; refine Hd.ret <| Hd.thenRet ?_
  have h0 : xs = [] := by
   have h2 := hnil (by simpa using hc0)
   have h3 := rows_len (enc := encPo2) (k := 2) (fun _ => rfl) xs
   rw [h2] at h3; exact List.eq_nil_of_length_eq_zero (by simp at h3; omega)
  subst h0; exact Hd.ret1 rfl (none, 0) rfl (Ent.sep (.ownNil .same))
 ·try simp only [hyZ] at hc0
  refine Hd.skip <| Hd.toK hK2 ?_; refine sr fun _ hK5 => ?_
  refine Hd.bslice (vs := []) rfl (by exact bs149_5 ..) (fun b5 => ?_); refine Hd.ownNil 51 2 (some ⟨b5, 0, none⟩) ?_; refine yv y_mv <| Hd.append Tryz.underlying47 ty51 rfl rfl rfl pkk (by exact RdS.mono h sq) (by assumption) (by simp only [maxLen]; omega) (by omega) (fun ad7 cap7 => ?_); refine yv y_as <| fk [(2, _)] hK5 ?_; refine Hd.ret <| Hd.ret1 rfl (ad7, cap7) (by simp; rfl) (Ent.sep (.eq pkk (own_eq (by omega) (by simp)) enn))
theorem shuffleP_ct (L : List SP) (ad ao : Option Addr) (c co : Nat) (xs : List (Int × Int)) (ord : List Int) (h : RdS L 2 ad xs.length (xs.flatMap encPo2)) (ho : RdS L 1 ao ord.length (ord.map V)) (hb : xs.length ≤ 1000000) (hob : ord.length ≤ 1000000) :
  Ct Tryz.prog 75 #[.slice ad xs.length c, .slice ao ord.length co] L (fun i : Option Addr × Nat => .slice i.1 xs.length i.2) (fun i => own 51 2 i.1 xs.length i.2 ((shufTo ord xs xs.length).flatMap encPo2) :: L) := by
 refine Ct.of (vs := [.slice ad xs.length c, .slice ao ord.length co]) Tryz.func75 rfl rfl [(0, .slice ad xs.length c), (1, .slice ao ord.length co)] ⟨rfl, rfl, trivial⟩ ?_; intro E
 show Hd E 49 _ _ _ _
 refine sr fun _ hK1 => ?_
 refine yv y_as <| fk [(0, _), (1, _)] hK1 ?_; refine sr fun _ hK2 => ?_
 refine yv y_mv <| callE rfl fk149 (cloneP_ct L ad c xs h (by omega)) sq ?_; rintro ⟨a1, c1⟩; refine yv y_as <| fk [(1, _), (5, _)] hK2 ?_; refine Hd.seq fun _ hK3 => ?_
 refine sr fun _ hK4 => ?_
 refine yv y_mv <| yv (y_len Tryz.underlying47 rfl) ?_; refine yv y_mv <| fk [(1, _), (5, _), (11, _), (12, _)] hK4 ?_; refine Hd.block <| Hd.loop (ι := Nat) (fun i => [(1, .slice ao ord.length co), (5, .slice a1 xs.length c1), (11, .int .i64 (xs.length : Int)), (12, .int .i64 (i : Int))])
  (fun i => pu (i ≤ xs.length) :: own 51 2 a1 xs.length c1 ((shufTo ord xs i).flatMap encPo2) :: L) (fun i => xs.length - i) 0 ⟨rfl, rfl, rfl, rfl, trivial⟩ (Ent.sep (.pure (by omega) enn)) ?_
 intro i; refine Hd.pure (fun hi => ?_)
 have hl := shuf_len ord xs i
 refine sr fun _ hK5 => ?_
 refine yv (y_lss rfl rfl) ?_; refine fk [(1, _), (5, _), (11, _), (12, _), (13, _)] hK5 ?_; refine Hd.seq fun _ hK6 => ?_
 refine Hd.cond rfl (fun hc0 => ?_) (fun hc0 => ?_)
 ·try simp only [hyZ] at hc0
  have hi' : i < xs.length := by omega
  refine Hd.skip <| Hd.toK hK6 ?_; refine Hd.seq fun _ hK7 => ?_
  refine Hd.block <| sr fun _ hK8 => ?_
  refine yv y_mv <| yv y_as <| fk [(1, _), (5, _), (6, _), (11, _), (12, _)] hK8 ?_; refine sr fun _ hK9 => ?_
  refine yv y_mv <| yv (y_len Tryz.underlying44 rfl) ?_; refine yv (y_gtr rfl rfl) ?_; refine fk [(1, _), (5, _), (6, _), (11, _), (12, _), (17, _)] hK9 ?_; refine Hd.cond rfl (fun hc1 => ?_) (fun hc1 => ?_)
  ·try simp only [hyZ] at hc1
   obtain ⟨o, hoi⟩ : ∃ o, ord[i % ord.length]? = some o := ⟨_, List.getElem?_eq_getElem (Nat.mod_lt _ (by omega))⟩
   refine sr fun _ hK10 => ?_
   refine yv y_mv <| yv y_mv <| yv y_mv <| yv y_mv <| yv (y_len Tryz.underlying44 rfl) ?_; refine yv (y_remN rfl rfl (by omega)) ?_
   have hml : i % ord.length < ord.length := Nat.mod_lt _ (by omega)
   refine yv (y_idxR Tryz.underlying44 sz3 rfl rfl (by omega) (by exact RdS.mono ho sq)) ?_; refine yv (y_loadR1 ag3 rfl (by exact RdS.mono ho sq) (by simp [hoi]; rfl)) ?_; refine yv (y_max rfl rfl) ?_; refine yv y_mv <| yv (y_len Tryz.underlying47 rfl) ?_; refine yv y_mv <| yv (y_subn rfl rfl (by simp only [InK]; omega)) ?_; refine yv (y_remn rfl rfl (by omega) (by omega)) ?_; refine yv (y_add rfl rfl) ?_; rw [wrapIn (by rw [place_eq hi' hoi]; have hp := place_lt (ord := ord) hi'; simp only [InK]; omega)]; refine Hd.name (b := (place ord xs.length i : Int)) 32 rfl (place_eq hi' hoi) ?_
   have hp := place_lt (ord := ord) hi'
   have hgp : (shufTo ord xs i)[place ord xs.length i]? = some (shufTo ord xs i)[place ord xs.length i] := List.getElem?_eq_getElem (by omega)
   have hgi : (shufTo ord xs i)[i]? = some (shufTo ord xs i)[i] := List.getElem?_eq_getElem (by omega)
   have hrl := rows_len (enc := encPo2) (k := 2) (fun _ => rfl) (shufTo ord xs i)
   refine yv y_as <| fk [(1, _), (5, _), (6, _), (7, _), (11, _), (12, _)] hK10 ?_; refine Hd.draws mixed ?_; simp only [List.length, Nat.zero_add, Nat.reduceAdd]; refine Hd.take 0 rfl kq kq kq (fun _ => y_move rfl) fq ?_; refine Hd.take 1 rfl kq kq kq (fun _ => y_move rfl) fq ?_; refine Hd.take 2 rfl kq kq kq (fun _ => y_move rfl) fq ?_; refine Hd.take 3 rfl kq kq kq (fun _ => y_move rfl) fq ?_; refine Hd.take 4 rfl kq kq kq (fun _ => y_move rfl) fq ?_; refine Hd.take 5 rfl kq kq kq (fun _ => y_move rfl) fq ?_; refine Hd.take 8 rfl kq kq kq (fun _ => y_move rfl) fq ?_; refine Hd.take 9 rfl kq kq kq (fun _ => y_move rfl) fq ?_; refine Hd.tailAt 13 [6, 7, 10, 11, 12] [13, 14, 15] rfl rfl rfl kq ?_; simp only [pk, List.getElem?_cons_zero, List.getElem?_cons_succ]; refine Ht.yv (y_idxR Tryz.underlying47 sz51 rfl rfl (by omega) (by exact RdS.own pkk)) ?_; refine Ht.yv (y_loadRn (vs := encPo2 (shufTo ord xs i)[place ord xs.length i]) ag51 rfl (RdS.own pkk) (flat_cells encPo2 2 (fun _ => rfl) hgp) (by exact sz51) (by simp)) ?_
   refine Ht.yv (y_idxR Tryz.underlying47 sz51 rfl rfl (by omega) (by exact RdS.own pkk)) ?_; refine Ht.yv (y_loadRn (vs := encPo2 (shufTo ord xs i)[i]) ag51 rfl (RdS.own pkk) (flat_cells encPo2 2 (fun _ => rfl) hgi) (by exact sz51) (by simp)) ?_; refine Ht.yv (y_idxR Tryz.underlying47 sz51 rfl rfl (by omega) (by exact RdS.own pkk)) ?_; refine Ht.nil ?_; refine Hd.storeO (vs := encPo2 (shufTo ord xs i)[place ord xs.length i]) (by exact sz51) rfl rfl rfl (by simp [Value.oneCell']) pkk (by rw [hrl]; simp only [List.length_cons, List.length_nil]; omega) (by exact Nat.zero_lt_succ _) ?_; rw [rows_set2 (enc := encPo2) (k := 2) (m := 2) (fun _ => rfl) (x := (shufTo ord xs i)[i]) (x' := (shufTo ord xs i)[place ord xs.length i]) (us := encPo2 (shufTo ord xs i)[place ord xs.length i]) (j := 0) (o := i * 2) (o2 := i * 2 + (encPo2 (shufTo ord xs i)[place ord xs.length i]).length) rfl (by decide) rfl hgi (by omega) rfl]
   have hrl2 := rows_len (enc := encPo2) (k := 2) (fun _ => rfl) ((shufTo ord xs i).set i (shufTo ord xs i)[place ord xs.length i])
   rw [List.length_set] at hrl2; refine yv (y_idxR Tryz.underlying47 sz51 rfl rfl (by omega) (by exact RdS.own pkk)) ?_; refine Hd.storeO (vs := encPo2 (shufTo ord xs i)[i]) (by exact sz51) rfl rfl rfl (by simp [Value.oneCell']) pkk (by rw [hrl2]; simp only [List.length_cons, List.length_nil]; omega) (by exact Nat.zero_lt_succ _) ?_
   have hgp2 : ((shufTo ord xs i).set i (shufTo ord xs i)[place ord xs.length i])[place ord xs.length i]? = some (((shufTo ord xs i).set i (shufTo ord xs i)[place ord xs.length i])[place ord xs.length i]'(by rw [List.length_set]; omega)) := List.getElem?_eq_getElem _
   rw [rows_set2 (enc := encPo2) (k := 2) (m := 2) (fun _ => rfl) (x' := (shufTo ord xs i)[i]) (us := encPo2 (shufTo ord xs i)[i]) (j := 0) (o := place ord xs.length i * 2) (o2 := place ord xs.length i * 2 + (encPo2 (shufTo ord xs i)[i]).length) rfl (by decide) rfl hgp2 (by omega) rfl]; refine Hd.nil <| Hd.noPn ?_; refine slots [(1, _), (5, _), (11, _), (12, _)] sbq ?_; refine Hd.inB <| Hd.toK hK7 ?_; refine Hd.region <| yv (y_addn rfl rfl (by simp only [InK]; omega)) ?_; refine yv y_mv <| Hd.nil <| slots [(1, _), (5, _), (11, _), (12, _)] sbq ?_; refine thenN <| Hd.again (i + 1) (by omega) ⟨rfl, rfl, rfl, rfl, trivial⟩ (Ent.sep (.pure (by omega) (.eq pkk (own_eq rfl ?_) enn))); simp only [shufTo]; rw [if_neg (by intro e; simp [e] at hc1), swp_eq (by omega) (by omega)]
  ·try simp only [hyZ] at hc1
   refine Hd.skip <| Hd.inB <| Hd.toK hK7 ?_; refine Hd.region <| yv (y_addn rfl rfl (by simp only [InK]; omega)) ?_; refine yv y_mv <| Hd.nil <| slots [(1, _), (5, _), (11, _), (12, _)] sbq ?_; refine thenN <| Hd.again (i + 1) (by omega) ⟨rfl, rfl, rfl, rfl, trivial⟩ (Ent.sep (.pure (by omega) (.eq pkk (own_eq rfl ?_) enn))); simp only [shufTo]; rw [if_pos (List.eq_nil_of_length_eq_zero (by omega))]
 ·try simp only [hyZ] at hc0
  refine Hd.exit <| Hd.thenExit <| Hd.thenExit <| Hd.inBexit <| Hd.toK hK3 ?_; refine sr fun _ hK11 => ?_
  refine yv y_mv <| yv y_as <| fk [(4, _)] hK11 ?_; refine Hd.ret ?_
  obtain rfl : i = xs.length := by omega
  exact Hd.ret1 rfl (a1, c1) rfl sq
end Sh
end Go.Proofs.YtbfddabjbkohdaaGreat
namespace Go.Proofs.YtbfddabjbkohdaaGreat
set_option maxHeartbeats 2000000
open Go.RX.Hd (yv y2 n1 fk sk sr tH callE heldK onlyH endH thenN slots)
open Go.RX Fx
namespace Ep
open Wo
set_option maxRecDepth 8000
theorem dueL_len (f : Int → Option IxA) (w : WA) : (dueL f w).length ≤ 96 := Nat.le_trans (dueT_len f w _) (allL_len f w)
theorem encPo_one (p : Int × Int) : ∀ u ∈ encPo p, u.oneCell' = true := by simp [Value.oneCell']
theorem edue_ct (L : List SP) (pb wb mb : Nat) (limit : Int) (f : Int → Option IxA) (m : Nat) (hm : m ≤ 1000000) (w : WA) : Ct Tryz.prog 21 #[.pointer (some ⟨pb, 0, none⟩)] (EpB pb wb mb limit f m w L) (fun _ : Unit => .bool (!(dueL f w).isEmpty)) (fun _ : Unit => EpB pb wb mb limit f m w L) := by
 refine Ct.o1M Tryz.func21 ?_; intro E
 show Hd E 8 _ _ _ _
 refine sr fun _ hK1 => ?_
 refine Hd.alloc zr4 (fun b2 => ?_); refine fk [(0, _), (2, _)] hK1 ?_; refine Hd.seq fun _ hK2 => ?_
 refine sr fun _ hK3 => ?_
 refine yv y_mv <| callE rfl fk70 (enone_ct _ pb wb mb limit) sq ?_; intro _; refine fk [(0, _), (2, _), (4, _)] hK3 ?_; refine Hd.condF rfl ?_; refine Hd.skip <| Hd.toK hK2 ?_; refine Hd.seq fun _ hK4 => ?_
 refine sr fun _ hK5 => ?_
 refine yv y_mv <| callE rfl fk77 (due_ct _ pb) sq ?_; intro px; refine fk [(2, _), (6, _)] hK5 ?_; refine Hd.block <| Hd.rangeF (enc := encPA) (S := fun ys => ys = dueL f w) (Sp := fun ys => ys <+: dueL f w)
  (fun pre => pu (pre = []) :: pt b2 [.bool false] 4 :: L) (fun j _ => [pu (j = none ∧ dueL f w ≠ []), pt b2 [.bool true] 4] ++ L)
  rfl kq (fun _ => rfl) rfl (due_it px pb wb mb limit f m hm w) (by refine Ent.sep ?_; refine Ent.pure rfl ?_; refine Ent.pick pkk ?_; exact Ent.swap (L := [_, _, _, _])) ?_ ?_ ?_
 ·intro E l' R pre p N hR hG
  unfold Rnd; simp only [List.cons_append, List.nil_append, pz, encPA]; refine Hd.skip <| thenN <| Hd.begin hR pkk ?_; refine Hd.block <| sr fun _ hK6 => ?_
  refine Hd.store1 sz4 rfl rfl rfl pkk (by decide) ?_
  try simp only [hyS]
  refine fk [(2, _)] hK6 ?_; refine Hd.ret <| Hd.inBret <| Hd.reR ?_; simp only [List.cons_append, List.nil_append]
  have hne : dueL f w ≠ [] := fun e => by rw [e] at hG; have := hG.length_le; simp at this
  exact Ent.sep (.pick pkk (.pure ⟨(by trivial), hne⟩ enn))
 ·intro r0 ys hys
  obtain rfl : ys = dueL f w := hys
  simp only [List.cons_append, List.nil_append]; refine Hd.pure (fun he => ?_)
  try simp only [List.cons_append, List.nil_append]
  refine Hd.inB <| Hd.toK hK4 ?_; refine sr fun _ hK7 => ?_
  refine Hd.store1 sz4 rfl rfl rfl pkk (by decide) ?_
  try simp only [hyS]
  refine fk [(2, _)] hK7 ?_; refine Hd.ret ?_; rw [he]; exact Hd.retM (fun a fr => Lv.mark pkk (Lv.endC1 fr rfl () ag4 rfl (Rd.pt1 pkk rfl) rfl sq))
 ·rintro r0_0 (_ | id0) pre0 hG0
  ·simp only [List.cons_append, List.nil_append]
   refine Hd.pure (fun hne => ?_)
   try simp only [List.cons_append, List.nil_append]
   refine Hd.ret <| Hd.inBret <| Hd.thenRet ?_
   have e : (dueL f w).isEmpty = false := by cases h : dueL f w with | nil => exact absurd h hne.2 | cons a t => rfl
   rw [e]; exact Hd.retM (fun a fr => Lv.mark pkk (Lv.endC1 fr rfl () ag4 rfl (Rd.pt1 pkk rfl) rfl sq))
  ·exact Hd.absurd (by simp)
def updF (f : Int → Option IxA) (fd : Int) (o : Option IxA) : Int → Option IxA := fun a => if a = fd then o else f a
theorem fmap_upd (f : Int → Option IxA) (fd : Int) (x : IxA) : fmap (updF f fd (some x)) = fun c => if c = fd then some (.agg (encIx x).toArray) else fmap f c := by
 funext c
 unfold fmap updF
 by_cases h : c = fd
 ·rw [if_pos h, if_pos h]; rfl
 ·rw [if_neg h, if_neg h]
theorem fmap_del (f : Int → Option IxA) (fd : Int) : fmap (updF f fd none) = fun c => if c = fd then none else fmap f c := by
 funext c
 unfold fmap updF
 by_cases h : c = fd
 ·rw [if_pos h, if_pos h]; rfl
 ·rw [if_neg h, if_neg h]
theorem mp_eq {b : Nat} {f f' : Int → Option Value} {m m' : Nat} (h : f = f') (hm : m = m') : mp b .i64 f m = mp b .i64 f' m' := by rw [h, hm]
def addX (w : WA) (fd ev : Int) : IxA := ⟨wireN (w.at fd), ev, bits .and .i64 ev 5, (readyR w fd).r, (readyR w fd).w⟩
def armE (x : IxA) (r : RdyA) (ev : Int) : Int := if bits .and .i64 x.events 32 = 0 then 5 else bits .or .i64 (rsE x r) (bits .andNot .i64 (bits .and .i64 ev 5) x.events)
def modX (x : IxA) (w : WA) (fd ev : Int) : IxA := ⟨wireN (w.at fd), ev, bits .and .i64 (armE x (readyR w fd) ev) ev, (readyR w fd).r, (readyR w fd).w⟩
def ctlR (limit : Int) (f : Int → Option IxA) (w : WA) (op fd ev : Int) : Int × (Int → Option IxA) :=
 if (op < 1 ∨ 3 < op) ∨ (op ≠ 3 ∧ bits .andNot .i64 ev 37 ≠ 0) then (2, f)
 else if w.at fd = none then (110, f)
 else if op = 1 ∧ qE f w fd = true then (150, f)
 else if op = 1 ∧ limit ≤ ((allL f w).length : Int) then (152, f)
 else if op = 1 then (0, updF f fd (some (addX w fd ev)))
 else if qE f w fd = false then (151, f)
 else if op = 3 then (0, updF f fd none)
 else (0, updF f fd (some (modX ((findE f w fd).getD zIx) w fd ev)))
theorem fdErr_no {o : Option (Nat × Nat)} : fdErr o ≠ 0 ↔ o = none := by cases o <;> simp [fdErr]
theorem ctl_ct (L : List SP) (pb wb mb : Nat) (limit : Int) (f : Int → Option IxA) (m : Nat) (hm : m ≤ 1000000) (w : WA) (op fd ev : Int) : Ct Tryz.prog 19 #[.pointer (some ⟨pb, 0, none⟩), .int .i64 op, .int .i64 fd, .int .i64 ev] (EpB pb wb mb limit f m w L) (fun m' : Nat => .int .i64 (ctlR limit f w op fd ev).1) (fun m' : Nat => pu (m' ≤ m + 1) :: EpB pb wb mb limit (ctlR limit f w op fd ev).2 m' w L) := by
 refine Ct.o4 Tryz.func19 ?_; intro E
 show Hd E 132 _ _ _ _
 refine Hd.wok pkk (fun hw => ?_); refine sr fun _ hK1 => ?_
 refine yv y_as <| fk [(0, _), (1, _), (2, _), (3, _)] hK1 ?_; refine Hd.seq fun _ hK2 => ?_
 refine Hd.block <| sr fun _ hK3 => ?_
 refine yv y_mv <| callE rfl fk70 (enone_ct _ pb wb mb limit) sq ?_; intro _; refine yv y_as <| fk [(0, _), (1, _), (2, _), (3, _), (15, _)] hK3 ?_; refine Hd.condF rfl ?_; refine sr fun _ hK4 => ?_
 refine yv y_mv <| yv (y_lss rfl rfl) ?_; refine yv y_mv ?_; apply Hd.org 3 21 24 [(0, _), (1, _), (2, _), (3, _)] rfl sbq
 ·intro _
  simp only [List.take]; refine n1 <| n1 <| yv (y_pickT rfl rfl) ?_; refine Hd.nil ?_; exact Hd.mq
 ·intro _
  simp only [List.take]; refine y2 y_mv <| y2 (y_gtr rfl rfl) ?_; refine yv (y_pickF rfl rfl) ?_; refine Hd.nil ?_; exact Hd.mq
 simp only [List.drop]; refine yv y_mv ?_; apply Hd.org (q := (decide (op ≠ 3) && decide (bits .andNot .i64 ev 37 ≠ 0))) 8 25 33 [(0, _), (1, _), (2, _), (3, _)] rfl sbq
 ·intro _
  simp only [List.take]; refine n1 <| n1 <| n1 <| n1 <| n1 <| n1 <| n1 <| yv (y_pickT rfl rfl) ?_; refine Hd.nil ?_; exact Hd.mq
 ·intro hg3_25
  try simp only [hyZ] at hg3_25
  simp only [List.take]; refine y2 y_mv <| y2 (y_neq rfl rfl) ?_; refine y2 y_mv ?_; apply Hd.andg 4 28 32 [(0, _), (1, _), (2, _), (3, _), (25, _)] rfl sbq
  ·intro _
   simp only [List.take]; refine y2 y_mv <| y2 (y_andNot rfl rfl) ?_; refine y2 (y_neq rfl rfl) ?_; refine y2 (y_pickT rfl rfl) ?_; refine Hd.nil ?_; exact Hd.mq
  ·intro _
   simp only [List.take]; refine n1 <| n1 <| n1 <| y2 (y_pickF rfl rfl) ?_; refine Hd.nil ?_; exact Hd.mq
  simp only [List.drop]; refine yv (y_pickF rfl rfl) ?_; refine Hd.nil ?_; exact Hd.mq
 simp only [List.drop]; refine yv y_as <| fk [(0, _), (1, _), (2, _), (3, _), (18, _)] hK4 ?_; refine Hd.cond rfl (fun hc1 => ?_) (fun hc1 => ?_)
 ·try simp only [hyZ] at hc1
  have h1 : (op < 1 ∨ 3 < op) ∨ (op ≠ 3 ∧ bits .andNot .i64 ev 37 ≠ 0) := by simpa using hc1
  refine sr fun _ hK5 => ?_
  refine yv y_as <| fk [(8, _)] hK5 ?_; refine Hd.ret <| Hd.inBret <| Hd.thenRet ?_; rw [show ctlR limit f w op fd ev = (2, f) from if_pos h1]; exact Hd.ret1 rfl m rfl (Ent.sep (.pure (by omega) enn))
 ·try simp only [hyZ] at hc1
  have h1 : ¬ ((op < 1 ∨ 3 < op) ∨ (op ≠ 3 ∧ bits .andNot .i64 ev 37 ≠ 0)) := by
   rintro (h | h)
   ·omega
   ·rcases hc1.2 with h2 | h2
    ·exact h.1 h2
    ·exact h.2 h2
  refine Hd.skip <| Hd.inB <| Hd.toK hK2 ?_; refine sr fun _ hK6 => ?_
  refine yv y_mv <| yv y_np <| yv (y_f 0 38 Tryz.underlying145 sz38) ?_; refine yv (y_l1 ag38 rfl) ?_; refine yv y_mv <| callE rfl fk71 (wwire_ct _ wb w fd) sq ?_; intro _; refine yv y_mv <| yv y_ex <| yv y_ex <| yv (y_to (v' := .int .i64 (wireN (w.at fd))) y_as (by rfl)) ?_; refine yv (y_to (v' := .int .i64 (fdErr (w.at fd))) y_as (by rfl)) ?_; refine fk [(0, _), (1, _), (2, _), (3, _), (9, _), (10, _)] hK6 ?_; refine Hd.seq fun _ hK7 => ?_
  refine sr fun _ hK8 => ?_
  refine yv y_mv <| yv (y_neq rfl rfl) ?_; refine fk [(0, _), (1, _), (2, _), (3, _), (9, _), (44, _)] hK8 ?_; refine Hd.cond rfl (fun hc2 => ?_) (fun hc2 => ?_)
  ·try simp only [hyZ] at hc2
   have h2 : w.at fd = none := fdErr_no.1 hc2
   refine sr fun _ hK9 => ?_
   refine yv y_as <| fk [(8, _)] hK9 ?_; refine Hd.ret <| Hd.thenRet ?_; rw [show ctlR limit f w op fd ev = (110, f) by unfold ctlR; rw [if_neg h1, if_pos h2]]; exact Hd.ret1 rfl m rfl (Ent.sep (.pure (by omega) enn))
  ·try simp only [hyZ] at hc2
   have h2 : ¬ (w.at fd = none) := fun h => absurd hc2 (fdErr_no.2 h)
   refine Hd.skip <| Hd.toK hK7 ?_; refine sr fun _ hK10 => ?_
   refine yv y_mv <| yv y_mv <| callE rfl fk72 (efind_ct _ pb wb mb limit f m w fd) sq ?_; intro _; refine yv y_mv <| yv y_ex <| yv y_ex <| Hd.alloc zr148 (fun b11 => ?_); refine Hd.storeA (us := encIx ((findE f w fd).getD zIx)) sz148 rfl rfl rfl (by simp [Value.oneCell']) pkk (by exact rfl) ?_; refine yv (y_to (v' := .bool (qE f w fd)) y_as (by rfl)) ?_; refine fk [(0, _), (1, _), (2, _), (3, _), (9, _), (11, _), (12, _)] hK10 ?_; refine sr fun _ hK11 => ?_
   refine yv y_mv <| yv y_np <| yv (y_f 0 38 Tryz.underlying145 sz38) ?_; refine yv (y_l1 ag38 rfl) ?_; refine yv y_mv <| callE rfl fk43 (wready_ct _ wb w fd) sq ?_; intro _; refine Hd.alloc zr105 (fun b13 => ?_); refine Hd.storeA (us := encR (readyR w fd)) sz105 rfl rfl rfl (by simp [Value.oneCell']) pkk (by exact rfl) ?_; refine fk [(0, _), (1, _), (2, _), (3, _), (9, _), (11, _), (12, _), (13, _)] hK11 ?_; refine Hd.seq fun _ hK12 => ?_
   refine Hd.block <| sr fun _ hK13 => ?_
   refine yv y_mv <| yv (y_eql rfl rfl) ?_; refine yv y_mv ?_; apply Hd.andg 2 60 62 [(0, _), (1, _), (2, _), (3, _), (9, _), (11, _), (12, _), (13, _)] rfl sbq
   ·intro _
    simp only [List.take]; refine y2 y_mv <| yv (y_pickT rfl rfl) ?_; refine Hd.nil ?_; exact Hd.mq
   ·intro _
    simp only [List.take]; refine n1 <| yv (y_pickF rfl rfl) ?_; refine Hd.nil ?_; exact Hd.mq
   simp only [List.drop]; refine yv (y_to (v' := .bool (decide (op = 1) && qE f w fd)) y_as (by rfl)) ?_; refine fk [(0, _), (1, _), (2, _), (3, _), (9, _), (11, _), (12, _), (13, _), (57, _)] hK13 ?_; refine Hd.cond rfl (fun hc3 => ?_) (fun hc3 => ?_)
   ·try simp only [hyZ] at hc3
    refine sr fun _ hK14 => ?_
    refine yv y_as <| fk [(8, _)] hK14 ?_; refine Hd.ret <| Hd.inBret <| Hd.thenRet ?_; rw [show ctlR limit f w op fd ev = (150, f) by unfold ctlR; rw [if_neg h1, if_neg h2, if_pos hc3]]; exact Hd.ret1 rfl m rfl (Ent.sep (.pure (by omega) enn))
   ·try simp only [hyZ] at hc3
    have h3 : ¬ (op = 1 ∧ qE f w fd = true) := fun h => by
     rcases hc3 with h4 | h4
     ·exact h4 h.1
     ·rw [h.2] at h4; cases h4
    refine Hd.seq fun _ hK15 => ?_
    refine Hd.drawsH ([EpH pb wb mb limit]) (fun _ => true) mixed ?_; simp only [List.length, Nat.zero_add, Nat.reduceAdd]; refine tH 0 rfl y_mv ?_; refine tH 1 rfl (y_eql rfl rfl) ?_; refine tH 2 rfl y_mv ?_; refine Hd.part (gd := 66) rfl (fun hg12_66 => ?_) (fun hg12_66 => ?_)
    ·try simp only [hyZ] at hg12_66
     have ho : op = 1 := hg12_66
     refine Hd.takegH 3 rfl kq kq kq kq rfl rfl y_mv fq sq ?_; refine Hd.takegH 6 rfl kq kq kq kq rfl rfl y_mv fq sq ?_; refine Hd.takegH 7 rfl kq kq kq kq rfl rfl y_np fq sq ?_; refine Hd.takegH 8 rfl kq kq kq kq rfl rfl (y_f 1 3 Tryz.underlying145 sz3) fq sq ?_; refine Hd.takegH 9 rfl kq kq kq kq rfl rfl (y_l1 ag3 rfl) fq sq ?_; refine onlyH 4 rfl kq ?_; refine Hd.unguard rfl rfl ?_; refine callE rfl fk73 (all_ct _ pb wb mb limit f m hm w) sq ?_; rintro ⟨ka, kc, ks⟩; dsimp only; refine Hd.pure (fun hA => ?_)
     obtain rfl := hA.eq hw
     clear hA; refine Hd.nil <| thenN <| heldK (J := (fun _ => true)) (i := 4) sq ?_; refine Hd.takegH 5 rfl kq kq kq kq rfl rfl (y_len Tryz.underlying44 rfl) fq sq ?_; refine Hd.takegH 10 rfl kq kq kq kq rfl rfl (y_geq rfl rfl) fq sq ?_; refine tH 11 rfl (y_pickT rfl rfl) ?_; refine tH 12 rfl y_as ?_; refine endH kq ?_; refine sk [(0, _), (1, _), (2, _), (3, _), (9, _), (11, _), (12, _), (13, _), (63, _)] hK15 ?_; refine Hd.cond rfl (fun hc4 => ?_) (fun hc4 => ?_)
     ·try simp only [hyZ] at hc4
      refine sr fun _ hK16 => ?_
      refine yv y_as <| fk [(8, _)] hK16 ?_; refine Hd.ret <| Hd.inBret <| Hd.thenRet ?_; rw [show ctlR limit f w op fd ev = (152, f) by unfold ctlR; rw [if_neg h1, if_neg h2, if_neg h3, if_pos ⟨ho, hc4⟩]]; exact Hd.ret1 rfl m rfl (Ent.sep (.pure (by omega) enn))
     ·try simp only [hyZ] at hc4
      have h4 : ¬ (op = 1 ∧ limit ≤ ((allL f w).length : Int)) := fun h => by omega
      refine sr fun _ hK17 => ?_
      refine yv y_mv <| yv (y_eql rfl rfl) ?_; refine yv y_as <| fk [(0, _), (1, _), (2, _), (3, _), (9, _), (11, _), (12, _), (13, _), (76, _)] hK17 ?_; refine Hd.cond rfl (fun hc5 => ?_) (fun hc5 => ?_)
      ·try simp only [hyZ] at hc5
       refine Hd.seq fun _ hK18 => ?_
       refine Hd.tail 14 mixed kq ?_; simp only [List.take, List.drop]; refine Ht.yv y_mv ?_; refine Ht.yv y_np ?_; refine Ht.yv (y_f 2 143 Tryz.underlying145 sz143) ?_; refine Ht.yv (y_l1 ag143 rfl) ?_; refine Ht.yv y_mv ?_; refine Ht.yv y_mv ?_; refine Ht.yv y_mv ?_; refine Ht.yv y_mv ?_; refine Ht.yv (y_and rfl rfl) ?_; refine Ht.yv (y_f 5 30 Tryz.underlying105 sz30) ?_; refine Ht.yv (y_l1 ag30 rfl) ?_; refine Ht.yv (y_f 6 30 Tryz.underlying105 sz30) ?_; refine Ht.yv (y_l1 ag30 rfl) ?_; refine Ht.yv (y_build (vs := [(0, _), (1, _), (2, _), (3, _), (4, _)]) rfl (by exact bd19_92 ..)) ?_; refine Ht.nil ?_; refine Hd.mapUpdate mapt143 rfl rfl rfl pkk ?_; refine Hd.nil ?_; rw [show (Value.agg #[.int .i64 (wireN (w.at fd)), .int .i64 ev, .int .i64 (bits .and .i64 ev 5), .int .u64 (readyR w fd).r, .int .u64 (readyR w fd).w]) = .agg (encIx (addX w fd ev)).toArray from rfl, ← fmap_upd]; refine sk [] hK18 ?_
       refine sr fun _ hK19 => ?_
       refine yv y_as <| fk [(8, _)] hK19 ?_; refine Hd.ret <| Hd.inBret <| Hd.thenRet ?_; rw [show ctlR limit f w op fd ev = (0, updF f fd (some (addX w fd ev))) by unfold ctlR; rw [if_neg h1, if_neg h2, if_neg h3, if_neg h4, if_pos ho]]; exact Hd.ret1 rfl (if (fmap f fd).isSome then m else m + 1) rfl (Ent.sep (.pure (by split <;> omega) enn))
      ·try simp only [hyZ] at hc5
       exact absurd ho hc5
    ·try simp only [hyZ] at hg12_66
     have ho : op ≠ 1 := hg12_66
     refine Hd.takenH 3 rfl kq kq kq kq rfl rfl rfl fq sq ?_; refine Hd.takenH 6 rfl kq kq kq kq rfl rfl rfl fq sq ?_; refine Hd.takenH 7 rfl kq kq kq kq rfl rfl rfl fq sq ?_; refine Hd.takenH 8 rfl kq kq kq kq rfl rfl rfl fq sq ?_; refine Hd.takenH 9 rfl kq kq kq kq rfl rfl rfl fq sq ?_; refine onlyH 4 rfl kq ?_; refine n1 <| Hd.nil <| thenN <| heldK (J := (fun _ => true)) (i := 4) sq ?_; refine Hd.takenH 5 rfl kq kq kq kq rfl rfl rfl fq sq ?_; refine Hd.takenH 10 rfl kq kq kq kq rfl rfl rfl fq sq ?_; refine tH 11 rfl (y_pickF rfl rfl) ?_; refine tH 12 rfl y_as ?_; refine endH kq ?_; refine sk [(0, _), (1, _), (2, _), (3, _), (9, _), (11, _), (12, _), (13, _), (63, _)] hK15 ?_; refine Hd.cond rfl (fun hc4 => ?_) (fun hc4 => ?_)
     ·try simp only [hyZ] at hc4
      exact absurd hc4 (by simp)
     ·try simp only [hyZ] at hc4
      have h4 : ¬ (op = 1 ∧ limit ≤ ((allL f w).length : Int)) := fun h => ho h.1
      refine sr fun _ hK20 => ?_
      refine yv y_mv <| yv (y_eql rfl rfl) ?_; refine yv y_as <| fk [(0, _), (1, _), (2, _), (3, _), (9, _), (11, _), (12, _), (13, _), (76, _)] hK20 ?_; refine Hd.cond rfl (fun hc5 => ?_) (fun hc5 => ?_)
      ·try simp only [hyZ] at hc5
       exact absurd hc5 ho
      ·try simp only [hyZ] at hc5
       refine sr fun _ hK21 => ?_
       refine yv y_mv <| yv (y_not rfl) ?_; refine yv y_as <| fk [(0, _), (1, _), (2, _), (3, _), (9, _), (11, _), (13, _), (93, _)] hK21 ?_; refine Hd.cond rfl (fun hc6 => ?_) (fun hc6 => ?_)
       ·try simp only [hyZ] at hc6
        refine sr fun _ hK22 => ?_
        refine yv y_as <| fk [(8, _)] hK22 ?_; refine Hd.ret <| Hd.inBret <| Hd.thenRet ?_; rw [show ctlR limit f w op fd ev = (151, f) by unfold ctlR; rw [if_neg h1, if_neg h2, if_neg h3, if_neg h4, if_neg ho, if_pos hc6]]; exact Hd.ret1 rfl m rfl (Ent.sep (.pure (by omega) enn))
       ·try simp only [hyZ] at hc6
        have h6 : ¬ (qE f w fd = false) := fun h => by rw [h] at hc6; cases hc6
        refine sr fun _ hK23 => ?_
        refine yv y_mv <| yv (y_eql rfl rfl) ?_; refine yv y_as <| fk [(0, _), (2, _), (3, _), (9, _), (11, _), (13, _), (96, _)] hK23 ?_; refine Hd.cond rfl (fun hc7 => ?_) (fun hc7 => ?_)
        ·try simp only [hyZ] at hc7
         refine sr fun _ hK24 => ?_
         refine yv y_mv <| yv y_np <| yv (y_f 2 143 Tryz.underlying145 sz143) ?_; refine yv (y_l1 ag143 rfl) ?_; refine yv y_mv <| Hd.mapDelete0 mapt143 rfl rfl pkk ?_; refine Hd.nil ?_; rw [← fmap_del]; refine sk [] hK24 ?_; refine sr fun _ hK25 => ?_
         refine yv y_as <| fk [(8, _)] hK25 ?_; refine Hd.ret <| Hd.inBret <| Hd.thenRet ?_; rw [show ctlR limit f w op fd ev = (0, updF f fd none) by unfold ctlR; rw [if_neg h1, if_neg h2, if_neg h3, if_neg h4, if_neg ho, if_neg h6, if_pos hc7]]; exact Hd.ret1 rfl (if (fmap f fd).isSome then m - 1 else m) rfl (Ent.sep (.pure (by split <;> omega) enn))
        ·try simp only [hyZ] at hc7
         refine Hd.skip <| Hd.inB <| Hd.toK hK12 ?_; refine Hd.seq fun _ hK26 => ?_
         refine Hd.quiet mixed kq ?_; refine Hq.yv (y_loadn (us := [_, _, _, _, _]) ag148 rfl (Rd.pt pkk (by (first | (intro j v e; rcases j with _|_|_|_|_|_|_|_|_|_|_|_|j <;> first | exact e | exact absurd e (by simp))))) (by exact sz148)) ?_; refine Hq.yv (y_loadn (us := [_, _, _, _, _, _, _]) ag105 rfl (Rd.pt pkk (by (first | (intro j v e; rcases j with _|_|_|_|_|_|_|_|_|_|_|_|j <;> first | exact e | exact absurd e (by simp))))) (by exact sz105)) ?_; refine Hq.call rfl fk74 (risen_ct _ ((findE f w fd).getD zIx) (readyR w fd)) ?_; refine Hq.yv y_mv ?_; refine Hq.yv (y_and rfl rfl) ?_; refine Hq.yv (y_f 1 3 Tryz.underlying148 sz3) ?_; refine Hq.yv (y_l1 ag3 rfl) ?_; refine Hq.yv (y_andNot rfl rfl) ?_; refine Hq.yv (y_or rfl rfl) ?_; refine Hq.yv y_as ?_; refine Hq.nil ?_; refine sk [(0, _), (2, _), (3, _), (9, _), (11, _), (13, _), (14, _)] hK26 ?_; refine Hd.seq fun _ hK27 => ?_
         refine sr fun _ hK28 => ?_
         refine yv (y_f 1 3 Tryz.underlying148 sz3) ?_; refine yv (y_l1 ag3 rfl) ?_; refine yv (y_and rfl rfl) ?_; refine yv (y_eql rfl rfl) ?_; refine fk [(0, _), (2, _), (3, _), (9, _), (13, _), (14, _), (116, _)] hK28 ?_; refine Hd.cond rfl (fun hc8 => ?_) (fun hc8 => ?_)
         ·try simp only [hyZ] at hc8
          refine Hd.region <| yv y_as <| fk [(0, _), (2, _), (3, _), (9, _), (13, _), (14, _)] hK27 ?_; refine Hd.seq fun _ hK29 => ?_
          refine Hd.tail 15 mixed kq ?_; simp only [List.take, List.drop]; refine Ht.yv y_mv ?_; refine Ht.yv y_np ?_; refine Ht.yv (y_f 2 143 Tryz.underlying145 sz143) ?_; refine Ht.yv (y_l1 ag143 rfl) ?_; refine Ht.yv y_mv ?_; refine Ht.yv y_mv ?_; refine Ht.yv y_mv ?_; refine Ht.yv y_mv ?_; refine Ht.yv y_mv ?_; refine Ht.yv (y_and rfl rfl) ?_; refine Ht.yv (y_f 5 30 Tryz.underlying105 sz30) ?_; refine Ht.yv (y_l1 ag30 rfl) ?_; refine Ht.yv (y_f 6 30 Tryz.underlying105 sz30) ?_; refine Ht.yv (y_l1 ag30 rfl) ?_; refine Ht.yv (y_build (vs := [(0, _), (1, _), (2, _), (3, _), (4, _)]) rfl (by exact bd19_131 ..)) ?_; refine Ht.nil ?_; refine Hd.mapUpdate mapt143 rfl rfl rfl pkk ?_; refine fk [] hK29 ?_; refine sr fun _ hK30 => ?_
          refine yv y_as <| fk [(8, _)] hK30 ?_; refine Hd.ret ?_; rw [show ctlR limit f w op fd ev = (0, updF f fd (some (modX ((findE f w fd).getD zIx) w fd ev))) by unfold ctlR; rw [if_neg h1, if_neg h2, if_neg h3, if_neg h4, if_neg ho, if_neg h6, if_neg hc7]]; exact Hd.ret1 rfl (if (fmap f fd).isSome then m else m + 1) rfl (Ent.sep (.pure (by split <;> omega) (.pick pkk (.eq pkk (mp_eq (by rw [fmap_upd]; unfold modX armE; rw [if_pos hc8]) rfl) enn))))
         ·try simp only [hyZ] at hc8
          refine Hd.skip <| Hd.toK hK27 ?_; refine Hd.seq fun _ hK31 => ?_
          refine Hd.tail 15 mixed kq ?_; simp only [List.take, List.drop]; refine Ht.yv y_mv ?_; refine Ht.yv y_np ?_; refine Ht.yv (y_f 2 143 Tryz.underlying145 sz143) ?_; refine Ht.yv (y_l1 ag143 rfl) ?_; refine Ht.yv y_mv ?_; refine Ht.yv y_mv ?_; refine Ht.yv y_mv ?_; refine Ht.yv y_mv ?_; refine Ht.yv y_mv ?_; refine Ht.yv (y_and rfl rfl) ?_; refine Ht.yv (y_f 5 30 Tryz.underlying105 sz30) ?_; refine Ht.yv (y_l1 ag30 rfl) ?_; refine Ht.yv (y_f 6 30 Tryz.underlying105 sz30) ?_; refine Ht.yv (y_l1 ag30 rfl) ?_; refine Ht.yv (y_build (vs := [(0, _), (1, _), (2, _), (3, _), (4, _)]) rfl (by exact bd19_131 ..)) ?_; refine Ht.nil ?_; refine Hd.mapUpdate mapt143 rfl rfl rfl pkk ?_; refine fk [] hK31 ?_; refine sr fun _ hK32 => ?_
          refine yv y_as <| fk [(8, _)] hK32 ?_; refine Hd.ret ?_; rw [show ctlR limit f w op fd ev = (0, updF f fd (some (modX ((findE f w fd).getD zIx) w fd ev))) by unfold ctlR; rw [if_neg h1, if_neg h2, if_neg h3, if_neg h4, if_neg ho, if_neg h6, if_neg hc7]]; exact Hd.ret1 rfl (if (fmap f fd).isSome then m else m + 1) rfl (Ent.sep (.pure (by split <;> omega) (.pick pkk (.eq pkk (mp_eq (by rw [fmap_upd]; unfold modX armE; rw [if_neg hc8]) rfl) enn))))
abbrev OutP (b : Nat) (l : List (Int × Int)) : SP := RX.ex fun i : Option Addr × Nat => [pt b [.slice i.1 l.length i.2] 47, own 51 2 i.1 l.length i.2 (l.flatMap encPo)]
abbrev seqD (px : Nat) : Value := .func (.func 151) #[] #[.pointer (some ⟨px, 0, none⟩)]
theorem appd_ct (L : List SP) (px pb wb mb : Nat) (limit : Int) (f : Int → Option IxA) (m : Nat) (hm : m ≤ 1000000) (w : WA) : Ct Tryz.prog 150 #[.slice none 0 0, seqD px] (EpM px pb wb mb limit f m w L) (fun q_ : Option Addr × Nat => .slice q_.1 (dueL f w).length q_.2) (fun q_ : Option Addr × Nat => own 51 2 q_.1 (dueL f w).length q_.2 ((dueL f w).flatMap encPo) :: EpM px pb wb mb limit f m w L) := by
 refine Ct.o2M Tryz.func150 ?_; intro E
 show Hd E 13 _ _ _ _
 refine sr fun _ hK1 => ?_
 refine Hd.box rfl rfl (fun b2 => ?_); refine yv y_as <| fk [(1, _), (2, _)] hK1 ?_; refine Hd.seq fun _ hK2 => ?_
 refine sr fun _ hK3 => ?_
 refine yv y_mv <| fk [(2, _), (6, _)] hK3 ?_; refine Hd.block <| Hd.rangeF (enc := encPA) (S := fun ys => ys = dueL f w) (Sp := fun ys => ys <+: dueL f w)
  (fun pre => OutP b2 pre :: L) (fun _ _ => [pu False])
  rfl kq (fun _ => rfl) rfl (due_it px pb wb mb limit f m hm w) (by refine Ent.sep ?_; refine Ent.ex (none, 0) ?_; refine Ent.eq pkk (pt_eq (by rfl)) ?_; refine Ent.ownNil ?_; exact Ent.swap (L := [_, _, _, _])) ?_ ?_ ?_
 ·intro E l' R pre c N hR hG
  have hdl := dueL_len f w
  have hpl : pre.length + 1 ≤ 1000000 := by have h1 := hG.length_le; simp at h1; omega
  unfold Rnd; simp only [List.cons_append, List.nil_append, pz, encPA]; refine Hd.region <| Hd.alloc zr51 (fun b5 => ?_); refine Hd.storeA (us := encPo c) sz51 rfl rfl rfl (encPo_one _) pkk (by exact rfl) ?_; refine Hd.nil <| slots [(2, _), (5, _)] sbq ?_; refine thenN <| Hd.begin hR pkk ?_; refine Hd.block <| Hd.exs pkk ?_; rintro ⟨a3, c3⟩; simp only [List.cons_append, List.nil_append]; refine Hd.region <| yv (y_l1 ag47 rfl) ?_; refine yv (y_loadn (us := encPo c) ag51 rfl (Rd.pt pkk (fun j v e => by rw [Nat.zero_add]; exact e)) (by exact sz51)) ?_; refine Hd.bslice (vs := [(0, _)]) rfl (by exact bs150_10 ..) (fun b10 => ?_); refine Hd.append Tryz.underlying47 ty51 rfl rfl rfl pkk (by exact RdS.rd (Rd.pt pkk (fun j v e => by simpa using e)) rfl) (by simp [Value.oneCell']; done) (by simp only [maxLen]; omega) (by omega) (fun ad11 cap11 => ?_); refine Hd.store1 sz47 rfl rfl rfl pkk (by simp; done) ?_
  try simp only [hyS]
  refine Hd.nil <| slots [(2, _)] sbq ?_; refine Hd.inB <| Hd.reN ?_; simp only [List.cons_append, List.nil_append]; exact Ent.sep (.pick pkk (.ex (ad11, cap11) (.eq pkk (pt_eq (by simp)) (.eq pkk (own_eq (by simp) (by simp)) enn))))
 ·intro r0 ys hys
  obtain rfl : ys = dueL f w := hys
  try simp only [List.cons_append, List.nil_append]
  refine Hd.inB <| Hd.toK hK2 ?_; refine Hd.seq fun _ hK4 => ?_
  refine Hd.exs pkk ?_; rintro ⟨a3, c3⟩; simp only [List.cons_append, List.nil_append]; refine Hd.region <| yv (y_l1 ag47 rfl) ?_; refine yv y_as <| fk [(4, _)] hK4 ?_; refine Hd.ret ?_; exact Hd.retM (fun a fr => Lv.mark pkk (Lv.end1 fr rfl (a3, c3) rfl sq))
 ·rintro r0_0 (_ | id0) pre0 hG0
  ·exact Hd.absurd (by exact id)
  ·exact Hd.absurd (by exact id)
theorem colld_ct (L : List SP) (px pb wb mb : Nat) (limit : Int) (f : Int → Option IxA) (m : Nat) (hm : m ≤ 1000000) (w : WA) : Ct Tryz.prog 76 #[seqD px] (EpM px pb wb mb limit f m w L) (fun q_ : Option Addr × Nat => .slice q_.1 (dueL f w).length q_.2) (fun q_ : Option Addr × Nat => own 51 2 q_.1 (dueL f w).length q_.2 ((dueL f w).flatMap encPo) :: EpM px pb wb mb limit f m w L) := by
 refine Ct.o1 Tryz.func76 ?_; intro E
 show Hd E 5 _ _ _ _
 refine sr fun _ hK1 => ?_
 refine yv y_as <| fk [(0, _)] hK1 ?_; refine sr fun _ hK2 => ?_
 refine yv y_mv <| callE rfl fk150 (appd_ct L px pb wb mb limit f m hm w) sq ?_; rintro ⟨a2, c2⟩; dsimp only; refine yv y_as <| fk [(2, _)] hK2 ?_; refine Hd.ret ?_; exact Hd.ret1 rfl (a2, c2) rfl sq
def offX (y : IxA) (r : RdyA) (ev : Int) : IxA := { y with armed := bits .andNot .i64 (rsE y r) ev, reads := r.r, writes := r.w }
def offF (w : WA) (f : Int → Option IxA) : List (Int × Int) → (Int → Option IxA)
 | [] => f
 | x :: t => offF w (updF f x.1 (some (offX ((f x.1).getD zIx) (readyR w x.1) x.2))) t
theorem offF_app (w : WA) (x : Int × Int) : ∀ (l : List (Int × Int)) (f : Int → Option IxA), offF w f (l ++ [x]) = updF (offF w f l) x.1 (some (offX ((offF w f l x.1).getD zIx) (readyR w x.1) x.2))
 | [], _ => rfl
 | y :: t, f => offF_app w x t _
def polL (f : Int → Option IxA) (w : WA) (most : Int) (ord : List Int) : List (Int × Int) := (Sh.shufTo ord (dueL f w) (dueL f w).length).take most.toNat
theorem po2_eq : (Sh.encPo2 : Int × Int → List Value) = encPo := rfl
theorem polL_len (f : Int → Option IxA) (w : WA) (most : Int) (ord : List Int) : (polL f w most ord).length = min most.toNat (dueL f w).length := by unfold polL; rw [List.length_take, Sh.shuf_len]
theorem pollbad_ct (L : List SP) (pb wb mb : Nat) (limit : Int) (most : Int) (h1 : most < 1) (v : Value) : Ct Tryz.prog 20 #[.pointer (some ⟨pb, 0, none⟩), .int .i64 most, v] (EpH pb wb mb limit :: L) (fun _ : Unit => .tuple #[.slice none 0 0, .int .i64 2]) (fun _ : Unit => EpH pb wb mb limit :: L) := by
 refine Ct.o3 Tryz.func20 ?_; intro E
 show Hd E 72 _ _ _ _
 refine sr fun _ hK1 => ?_
 refine yv y_as <| yv y_as <| fk [(0, _), (1, _), (2, _)] hK1 ?_; refine Hd.seq fun _ hK2 => ?_
 refine Hd.block <| sr fun _ hK3 => ?_
 refine yv y_mv <| callE rfl fk70 (enone_ct _ pb wb mb limit) sq ?_; intro _; refine yv y_as <| fk [(0, _), (1, _), (2, _), (13, _)] hK3 ?_; refine Hd.condF rfl ?_; refine sr fun _ hK4 => ?_
 refine yv y_mv <| yv (y_lss rfl rfl) ?_; refine yv y_as <| fk [(0, _), (1, _), (2, _), (16, _)] hK4 ?_; refine Hd.cond rfl (fun hc1 => ?_) (fun hc1 => ?_)
 ·try simp only [hyZ] at hc1
  refine sr fun _ hK5 => ?_
  refine yv y_as <| yv y_as <| fk [(6, _), (7, _)] hK5 ?_; refine Hd.ret <| Hd.inBret <| Hd.thenRet ?_; exact Hd.ret2 rfl () rfl rfl rfl sq
 ·try simp only [hyZ] at hc1
  omega
theorem poll_ct (L : List SP) (pb wb mb : Nat) (limit : Int) (f : Int → Option IxA) (m : Nat) (hm : m ≤ 1000000) (w : WA) (most : Int) (h1 : 1 ≤ most) (ao : Option Addr) (co : Nat) (ord : List Int) (ho : RdS L 1 ao ord.length (vi ord)) (hol : ord.length ≤ 1000000) : Ct Tryz.prog 20 #[.pointer (some ⟨pb, 0, none⟩), .int .i64 most, .slice ao ord.length co] (EpB pb wb mb limit f m w L) (fun q_ : Option Addr × Nat × Nat => .tuple #[.slice q_.1 (polL f w most ord).length q_.2.1, .int .i64 0]) (fun q_ : Option Addr × Nat × Nat => pu (q_.2.2 ≤ m + (polL f w most ord).length) :: own 51 2 q_.1 (polL f w most ord).length q_.2.1 ((polL f w most ord).flatMap encPo) :: EpB pb wb mb limit (offF w f (polL f w most ord)) q_.2.2 w L) := by
 refine Ct.o3 Tryz.func20 ?_; intro E
 show Hd E 72 _ _ _ _
 refine Hd.wok pkk (fun hw => ?_)
 have hdl := dueL_len f w
 refine sr fun _ hK1 => ?_
 refine yv y_as <| yv y_as <| fk [(0, _), (1, _), (2, _)] hK1 ?_; refine Hd.seq fun _ hK2 => ?_
 refine Hd.block <| sr fun _ hK3 => ?_
 refine yv y_mv <| callE rfl fk70 (enone_ct _ pb wb mb limit) sq ?_; intro _; refine yv y_as <| fk [(0, _), (1, _), (2, _), (13, _)] hK3 ?_; refine Hd.condF rfl ?_; refine sr fun _ hK4 => ?_
 refine yv y_mv <| yv (y_lss rfl rfl) ?_; refine yv y_as <| fk [(0, _), (1, _), (2, _), (16, _)] hK4 ?_; refine Hd.cond rfl (fun hc1 => ?_) (fun hc1 => ?_)
 ·try simp only [hyZ] at hc1
  omega
 ·try simp only [hyZ] at hc1
  refine Hd.skip <| Hd.inB <| Hd.toK hK2 ?_; refine sr fun _ hK5 => ?_
  refine yv y_mv <| callE rfl fk77 (due_ct _ pb) sq ?_; intro px; refine callE rfl fk76 (colld_ct L px pb wb mb limit f m hm w) sq ?_; rintro ⟨a1, c1⟩; dsimp only; refine yv y_mv <| callE rfl fk75 (Sh.shuffleP_ct _ a1 ao c1 co (dueL f w) ord ?hD ?hO (by omega) hol) sq ?_
  case hD => exact RdS.own pkk
  case hO => exact RdS.mono ho sq
  rintro ⟨a2, c2⟩; dsimp only
  obtain ⟨s, hs⟩ : ∃ s, s = Sh.shufTo ord (dueL f w) (dueL f w).length := ⟨_, rfl⟩
  have hsl : s.length = (dueL f w).length := by rw [hs, Sh.shuf_len]
  obtain ⟨kk, hkk⟩ : ∃ k, k = min most.toNat (dueL f w).length := ⟨_, rfl⟩
  have hpo : polL f w most ord = s.take kk := by
   unfold polL; rw [← hs, hkk, ← hsl]
   rcases Nat.le_total most.toNat s.length with h | h
   ·rw [Nat.min_eq_left h]
   ·rw [Nat.min_eq_right h, List.take_length, List.take_of_length_le h]
  have hpl : (polL f w most ord).length = kk := by rw [polL_len, hkk]
  rw [hpo] at hpl ⊢; rw [hpl, ← hs, po2_eq]; refine Hd.ownCap (e := 51) (ad := a2) (m := (dueL f w).length) (cap := c2) pkk (fun hcap => ?_); refine yv y_as <| fk [(0, _), (1, _), (8, _)] hK5 ?_; refine sr fun _ hK6 => ?_
  refine yv y_mv <| yv y_mv <| yv y_mv <| yv (y_len Tryz.underlying47 rfl) ?_; refine yv (y_to (v' := .int .i64 (kk : Int)) (y_min rfl rfl) (by (congr 1; omega))) ?_; refine yv (y_slo_xoxN Tryz.underlying47 sz51 rfl rfl (by omega)) ?_; refine yv y_as <| fk [(0, _), (8, _)] hK6 ?_; refine Hd.seq fun _ hK7 => ?_
  refine sr fun _ hK8 => ?_
  refine yv y_mv <| yv (y_len Tryz.underlying47 rfl) ?_; refine yv y_mv <| fk [(0, _), (8, _), (30, _), (31, _), (32, _)] hK8 ?_; refine Hd.block <| Hd.loopK (ι := Nat × Nat) [(0, _), (8, _), (30, _), (31, _)] (fun q_ => [(32, .int .i64 (q_.1 : Int))]) (fun q_ => pu (q_.1 ≤ kk ∧ q_.2 ≤ m + q_.1) :: own 51 2 a2 (dueL f w).length c2 (s.flatMap encPo) :: EpB pb wb mb limit (offF w f (s.take q_.1)) q_.2 w L) (fun q_ => kk - q_.1) (0, m) sbq sbq (Ent.sep (.pure ⟨Nat.zero_le _, Nat.le_refl _⟩ enn)) ?_; rintro ⟨i, m'⟩
  try dsimp only
  refine Hd.pure (fun hp0 => ?_)
  try dsimp only at hp0
  refine sr fun _ hK9 => ?_
  refine yv (y_lss rfl rfl) ?_; refine fk [(0, _), (8, _), (30, _), (31, _), (32, _), (33, _)] hK9 ?_; refine Hd.seq fun _ hK10 => ?_
  refine Hd.cond rfl (fun hc2 => ?_) (fun hc2 => ?_)
  ·try simp only [hyZ] at hc2
   have hi : i < s.length := by omega
   have hgi : s[i]? = some s[i] := List.getElem?_eq_getElem hi
   have hsc : s.take (i + 1) = s.take i ++ [s[i]] := by rw [List.take_add_one, hgi]; rfl
   refine Hd.skip <| Hd.toK hK10 ?_; refine Hd.seq fun _ hK11 => ?_
   refine Hd.block <| sr fun _ hK12 => ?_
   refine yv (y_idxR Tryz.underlying47 sz51 rfl rfl (by omega) (by exact RdS.head (RdS.own (ad := a2) (us := s.flatMap encPo) pkk) (by omega))) ?_; refine yv (y_loadRn (vs := encPo s[i]) ag51 rfl (RdS.own (ad := a2) (us := s.flatMap encPo) pkk) (flat_cells encPo 2 (fun _ => rfl) hgi) (by exact sz51) (by simp)) ?_; refine Hd.alloc zr51 (fun b10 => ?_); refine Hd.storeA (us := encPo s[i]) sz51 rfl rfl rfl (encPo_one _) pkk (by exact rfl) ?_; refine fk [(0, _), (8, _), (10, _), (30, _), (31, _), (32, _)] hK12 ?_; refine Hd.cutK (ι := Nat) [(0, _), (8, _), (10, _), (30, _), (31, _), (32, _)] (fun b11 => [(11, .pointer (some ⟨b11, 0, none⟩))]) (fun b11 => pt b11 (encR (readyR w s[i].1)) 105 :: pt b10 (encPo s[i]) 51 :: own 51 2 a2 (dueL f w).length c2 (s.flatMap encPo) :: EpB pb wb mb limit (offF w f (s.take i)) m' w L) ?_ ?_ ⟨rfl, rfl, rfl, rfl, rfl, rfl, trivial⟩
   ·refine Hd.drawsH ([EpH pb wb mb limit, pt b10 (encPo s[i]) 51]) (fun j => !([8].contains j)) mixed ?_
    simp only [List.length, Nat.zero_add, Nat.reduceAdd]; refine tH 0 rfl y_mv ?_; refine tH 1 rfl y_np ?_; refine tH 2 rfl (y_f 0 38 Tryz.underlying145 sz38) ?_; refine tH 3 rfl (y_l1 ag38 rfl) ?_; refine tH 4 rfl (y_f 0 3 Tryz.underlying51 sz3) ?_; refine tH 5 rfl (y_l1 ag3 rfl) ?_; refine Hd.eitherH 6 7 rfl rfl kq ?_ ?_
    ·refine callE rfl fk43 (wready_ct _ wb w s[i].1) sq ?_
     intro _; refine Hd.nil <| thenN <| heldK (J := (fun j => !([8].contains j))) (i := 6) sq ?_; refine onlyH 7 rfl kq ?_; refine Hd.alloc zr105 (fun b11 => ?_); refine Hd.nil <| thenN <| heldK (J := (fun j => !([8].contains j))) (i := 7) sq ?_; refine onlyH 8 rfl kq ?_; refine Hd.storeA (us := encR (readyR w s[i].1)) sz105 rfl rfl rfl (by simp [Value.oneCell']) pkk (by exact rfl) ?_; refine Hd.nil <| thenN <| Hd.heldN (J := (fun j => !([8].contains j))) (i := 8) rfl ?_; refine endH kq ?_; refine slots [(0, _), (8, _), (10, _), (11, _), (30, _), (31, _), (32, _)] sbq ?_; refine thenN ?_; exact Hd.meet b11 sbq sq
    ·refine Hd.alloc zr105 (fun b11 => ?_)
     refine Hd.nil <| thenN <| heldK (J := (fun j => !([8].contains j))) (i := 7) sq ?_; refine onlyH 6 rfl kq ?_; refine callE rfl fk43 (wready_ct _ wb w s[i].1) sq ?_; intro _; refine Hd.nil <| thenN <| heldK (J := (fun j => !([8].contains j))) (i := 6) sq ?_; refine onlyH 8 rfl kq ?_; refine Hd.storeA (us := encR (readyR w s[i].1)) sz105 rfl rfl rfl (by simp [Value.oneCell']) pkk (by exact rfl) ?_; refine Hd.nil <| thenN <| Hd.heldN (J := (fun j => !([8].contains j))) (i := 8) rfl ?_; refine endH kq ?_; refine slots [(0, _), (8, _), (10, _), (11, _), (30, _), (31, _), (32, _)] sbq ?_; refine thenN ?_; exact Hd.meet b11 sbq sq
   ·intro b11
    obtain ⟨y, hy⟩ : ∃ y, y = (offF w f (s.take i) s[i].1).getD zIx := ⟨_, rfl⟩
    refine Hd.seq fun _ hK13 => ?_
    refine Hd.drawsH ([EpH pb wb mb limit, pt b10 (encPo s[i]) 51, mp mb .i64 (fmap (offF w f (s.take i))) m']) (fun j => !([8].contains j)) mixed ?_; simp only [List.length, Nat.zero_add, Nat.reduceAdd]; refine tH 0 rfl y_mv ?_; refine tH 1 rfl y_np ?_; refine tH 2 rfl (y_f 2 143 Tryz.underlying145 sz143) ?_; refine tH 3 rfl (y_l1 ag143 rfl) ?_; refine tH 4 rfl (y_f 0 3 Tryz.underlying51 sz3) ?_; refine tH 5 rfl (y_l1 ag3 rfl) ?_; refine tH 6 rfl (y_to (v' := .agg (encIx y).toArray) (y_lookup mapt143 rfl rfl pkk) (by (rw [hy]; exact fmap_get _ s[i].1))) ?_; refine onlyH 7 rfl kq ?_; refine Hd.alloc zr148 (fun b12 => ?_); refine Hd.nil <| thenN <| heldK (J := (fun j => !([8].contains j))) (i := 7) sq ?_; refine onlyH 8 rfl kq ?_; refine Hd.storeA (us := encIx y) sz148 rfl rfl rfl (by simp [Value.oneCell']) pkk (by exact rfl) ?_; refine Hd.nil <| thenN <| Hd.heldN (J := (fun j => !([8].contains j))) (i := 8) rfl ?_
    refine endH kq ?_; refine sk [(0, _), (8, _), (10, _), (11, _), (12, _), (30, _), (31, _), (32, _)] hK13 ?_; refine Hd.seq fun _ hK14 => ?_
    refine Hd.drawsH ([pt b10 (encPo s[i]) 51, pt b11 (encR (readyR w s[i].1)) 105]) (fun j => !(([1000] : List Nat).contains j)) mixed ?_; simp only [List.length, Nat.zero_add, Nat.reduceAdd]; refine tH 1 rfl (y_loadn (us := [_, _, _, _, _, _, _]) ag105 rfl (Rd.pt pkk (by (first | (intro j v e; rcases j with _|_|_|_|_|_|_|_|_|_|_|_|j <;> first | exact e | exact absurd e (by simp))))) (by exact sz105)) ?_; refine tH 3 rfl (y_f 1 3 Tryz.underlying51 sz3) ?_; refine tH 4 rfl (y_l1 ag3 rfl) ?_; refine tH 6 rfl (y_f 5 30 Tryz.underlying105 sz30) ?_; refine tH 7 rfl (y_l1 ag30 rfl) ?_; refine tH 8 rfl (y_f 6 30 Tryz.underlying105 sz30) ?_; refine tH 9 rfl (y_l1 ag30 rfl) ?_; refine onlyH 0 rfl kq ?_; refine yv (y_loadn (us := [_, _, _, _, _]) ag148 rfl (Rd.pt pkk (by (first | (intro j v e; rcases j with _|_|_|_|_|_|_|_|_|_|_|_|j <;> first | exact e | exact absurd e (by simp))))) (by exact sz148)) ?_
    refine Hd.nil <| thenN <| heldK (J := (fun j => !(([1000] : List Nat).contains j))) (i := 0) sq ?_; refine onlyH 2 rfl kq ?_; refine callE rfl fk74 (risen_ct _ y (readyR w s[i].1)) sq ?_; intro _; refine Hd.nil <| thenN <| heldK (J := (fun j => !(([1000] : List Nat).contains j))) (i := 2) sq ?_; refine tH 5 rfl (y_andNot rfl rfl) ?_; refine tH 10 rfl (y_f 2 3 Tryz.underlying148 sz3) ?_; refine onlyH 11 rfl kq ?_; refine Hd.store1 sz3 rfl rfl rfl pkk (by simp; done) ?_
    try simp only [hyS]
    refine Hd.nil <| thenN <| heldK (J := (fun j => !(([1000] : List Nat).contains j))) (i := 11) sq ?_; refine tH 12 rfl (y_f 3 30 Tryz.underlying148 sz30) ?_; refine onlyH 13 rfl kq ?_; refine Hd.store1 sz30 rfl rfl rfl pkk (by simp; done) ?_
    try simp only [hyS]
    refine Hd.nil <| thenN <| heldK (J := (fun j => !(([1000] : List Nat).contains j))) (i := 13) sq ?_; refine tH 14 rfl (y_f 4 30 Tryz.underlying148 sz30) ?_; refine onlyH 15 rfl kq ?_; refine Hd.store1 sz30 rfl rfl rfl pkk (by simp; done) ?_
    try simp only [hyS]
    refine Hd.nil <| thenN <| heldK (J := (fun j => !(([1000] : List Nat).contains j))) (i := 15) sq ?_; refine endH kq ?_; refine sk [(0, _), (8, _), (10, _), (12, _), (30, _), (31, _), (32, _)] hK14 ?_; refine Hd.tail 7 mixed kq ?_; simp only [List.take, List.drop]; refine Ht.yv y_mv ?_; refine Ht.yv y_np ?_; refine Ht.yv (y_f 2 143 Tryz.underlying145 sz143) ?_; refine Ht.yv (y_l1 ag143 rfl) ?_; refine Ht.yv (y_f 0 3 Tryz.underlying51 sz3) ?_; refine Ht.yv (y_l1 ag3 rfl) ?_; refine Ht.yv (y_loadn (us := [_, _, _, _, _]) ag148 rfl (Rd.pt pkk (by (first | (intro j v e; rcases j with _|_|_|_|_|_|_|_|_|_|_|_|j <;> first | exact e | exact absurd e (by simp))))) (by exact sz148)) ?_; refine Ht.nil ?_; refine Hd.mapUpdate mapt143 rfl rfl rfl pkk ?_; refine Hd.nil <| slots [(0, _), (8, _), (30, _), (31, _), (32, _)] sbq ?_; refine Hd.inB <| Hd.toK hK11 ?_; refine Hd.region ?_
    refine yv (y_addn rfl rfl (by simp only [InK]; omega)) ?_; refine yv y_mv <| Hd.nil <| slots [(0, _), (8, _), (30, _), (31, _), (32, _)] sbq ?_; refine thenN ?_; exact Hd.again (i + 1, if (fmap (offF w f (s.take i)) s[i].1).isSome then m' else m' + 1) (by omega) sbq (Ent.sep (.pure ⟨by omega, by dsimp only; split <;> omega⟩ (.pick pkk (.pick pkk (.eq pkk (mp_eq (by rw [hsc, offF_app, fmap_upd, ← hy]; rfl) rfl) enn)))))
  ·try simp only [hyZ] at hc2
   obtain rfl : i = kk := by omega
   refine Hd.exit <| Hd.thenExit <| Hd.thenExit <| Hd.inBexit <| Hd.toK hK7 ?_; refine sr fun _ hK15 => ?_
   refine yv y_mv <| yv y_as <| yv y_as <| fk [(6, _), (7, _)] hK15 ?_; refine Hd.ret <| Hd.ownTake (e := 51) (ad := a2) (m := (dueL f w).length) (cap := c2) pkk i ((s.take i).flatMap encPo) ((s.drop i).flatMap encPo) (by omega) (by rw [← List.flatMap_append, List.take_append_drop]) (by rw [rows_len (k := 2) (fun _ => rfl), List.length_take]; omega) ?_; rw [hpo, hpl]; exact Hd.ret2 rfl (a2, c2, m') rfl rfl rfl (Ent.sep (.pure hp0.2 enn))
def b2 (b : Bool) (k : Int) : Int := if b = true then k else 0
abbrev evA (i o e : Bool) : Int := b2 i 1 + b2 o 4 + b2 e 32
abbrev arA (i o : Bool) : Int := b2 i 1 + b2 o 4
structure PxA where
 wire : Int
 i : Bool
 o : Bool
 e : Bool
 a : Bool
 b : Bool
 reads : Int
 writes : Int
def PxA.ix (x : PxA) : IxA := ⟨x.wire, evA x.i x.o x.e, arA x.a x.b, x.reads, x.writes⟩
theorem land37 (v : BitVec 64) : (v &&& 37#64).toNat ≤ 37 := by rw [BitVec.toNat_and]; exact Nat.and_le_right
theorem ev_tab : ∀ k : Nat, k < 38 → bits .andNot .i64 (k : Int) 37 = 0 → ∃ i o e, (k : Int) = evA i o e := by decide
theorem ev_of {x : Int} (hx : InK .i64 x) (h : bits .andNot .i64 x 37 = 0) : ∃ i o e, x = evA i o e := by
 have h0 := h
 rw [bits_andNot_zero] at h
 have e : bv x = bv x &&& bv 37 := by
  apply BitVec.eq_of_getLsbD_eq; intro i hi
  have := congrArg (fun v => BitVec.getLsbD v i) h
  simp only [BitVec.getLsbD_and, BitVec.getLsbD_not, hi, decide_true, Bool.true_and, BitVec.getLsbD_zero] at this; rw [BitVec.getLsbD_and]
  cases h1 : (bv x).getLsbD i <;> cases h2 : (bv 37).getLsbD i <;> simp_all
 have h1 : (bv x).toNat ≤ 37 := by rw [e]; exact land37 _
 simp only [InK] at hx; unfold bv at h1; rw [BitVec.toNat_ofInt] at h1
 have h2 : 0 ≤ x ∧ x < 38 := by omega
 have h3 : ((x.toNat : Nat) : Int) = x := Int.toNat_of_nonneg h2.1
 obtain ⟨i, o, e, h4⟩ := ev_tab x.toNat (by omega) (by rw [h3]; exact h0)
 exact ⟨i, o, e, by rw [← h3]; exact h4⟩
theorem ev_ok : ∀ i o e, bits .andNot .i64 (evA i o e) 37 = 0 := by decide
def PxA.ra (x : PxA) (r : RdyA) : Bool := x.a || decide (r.r > x.reads)
def PxA.rb (x : PxA) (r : RdyA) : Bool := x.b || decide (r.w > x.writes)
theorem or1_t : ∀ a b, bits .or .i64 (arA a b) 1 = arA true b := by decide
theorem or4_t : ∀ a b, bits .or .i64 (arA a b) 4 = arA a true := by decide
theorem rs_p (x : PxA) (r : RdyA) : rsE x.ix r = arA (x.ra r) (x.rb r) := by
 have h1 : rs1 x.ix r = arA (x.ra r) x.b := by
  unfold rs1 PxA.ra
  by_cases h : r.r > x.reads
  ·rw [if_pos (show r.r > x.ix.reads from h), decide_eq_true h, Bool.or_true]; exact or1_t _ _
  ·rw [if_neg (show ¬ r.r > x.ix.reads from h), decide_eq_false h, Bool.or_false]; rfl
 unfold rsE PxA.rb; rw [h1]
 by_cases h : r.w > x.writes
 ·rw [if_pos (show r.w > x.ix.writes from h), decide_eq_true h, Bool.or_true]; exact or4_t _ _
 ·rw [if_neg (show ¬ r.w > x.ix.writes from h), decide_eq_false h, Bool.or_false]
theorem edg_t : ∀ i o e, decide (bits .and .i64 (evA i o e) 32 ≠ 0) = e := by decide
theorem edg_p (x : PxA) : edgE x.ix = x.e := edg_t x.i x.o x.e
def PxA.end (x : PxA) (r : RdyA) : Bool := x.e && (r.h || r.e)
def PxA.p (x : PxA) (r : RdyA) : Bool := x.i && (r.i || x.end r) && (!x.e || x.ra r)
def PxA.q (x : PxA) (r : RdyA) : Bool := x.o && (r.o || x.end r) && (!x.e || x.rb r)
def PxA.now (x : PxA) (r : RdyA) : Int := if x.e = true ∧ x.p r = false ∧ x.q r = false then 0 else b2 (x.p r) 1 + b2 (x.q r) 4 + b2 r.h 16 + b2 r.e 8
theorem and_t : ∀ a b i o e, bits .and .i64 (arA a b) (evA i o e) = arA (a && i) (b && o) := by decide
theorem and2_t : ∀ a b c d, bits .and .i64 (arA a b) (arA c d) = arA (a && c) (b && d) := by decide
theorem ar0_t : ∀ a b, arA a b = 0 ↔ a = false ∧ b = false := by decide
theorem now_t : ∀ a b h, (if h = true then bits .or .i64 (arA a b) 16 else arA a b) = arA a b + b2 h 16 := by decide
theorem now2_t : ∀ a b h e, (if e = true then bits .or .i64 (arA a b + b2 h 16) 8 else arA a b + b2 h 16) = arA a b + b2 h 16 + b2 e 8 := by decide
theorem nw0_t : ∀ a, (if a = true then bits .or .i64 0 1 else 0) = arA a false := by decide
theorem nw1_t : ∀ a b, (if b = true then bits .or .i64 (arA a false) 4 else arA a false) = arA a b := by decide
theorem nw_p (x : PxA) (r : RdyA) : nwE x.ix r = x.now r := by
 have he : endE x.ix r = x.end r := by unfold endE PxA.end; rw [edg_p]
 have h1 : nw1 x.ix r = arA (r.i || x.end r) (r.o || x.end r) := by
  unfold nw1 nw0; rw [he, nw0_t, nw1_t]
 have h2 : nw2 x.ix r = arA ((r.i || x.end r) && x.i) ((r.o || x.end r) && x.o) := by
  unfold nw2; rw [h1]; exact and_t _ _ _ _ _
 have h3 : nw3 x.ix r = arA (x.p r) (x.q r) := by
  unfold nw3 PxA.p PxA.q; rw [h2, edg_p, rs_p]
  cases x.e
  ·rw [if_neg (by decide), Bool.and_comm (r.i || _), Bool.and_comm (r.o || _)]; simp
  ·rw [if_pos rfl, and2_t, Bool.and_comm (r.i || _), Bool.and_comm (r.o || _)]; simp
 unfold nwE nw5 nw4 PxA.now; rw [h3, edg_p, now_t, now2_t]
 by_cases h : x.e = true ∧ x.p r = false ∧ x.q r = false
 ·rw [if_pos h, if_pos ⟨h.1, (ar0_t _ _).2 h.2⟩]
 ·rw [if_neg h, if_neg (fun g => h ⟨g.1, (ar0_t _ _).1 g.2⟩)]
def PxA.off (x : PxA) (r : RdyA) (p q : Bool) : PxA := { x with a := x.ra r && !p, b := x.rb r && !q, reads := r.r, writes := r.w }
theorem add_t : ∀ i o e, bits .and .i64 (evA i o e) 5 = arA i o := by decide
theorem add_p (w : WA) (fd : Int) (i o e : Bool) : addX w fd (evA i o e) = PxA.ix ⟨wireN (w.at fd), i, o, e, i, o, (readyR w fd).r, (readyR w fd).w⟩ := by
 unfold addX; rw [add_t]; rfl
theorem arm_t : ∀ a b i o, bits .or .i64 (arA a b) (arA i o) = arA (a || i) (b || o) := by decide
theorem arn_t : ∀ a b i o e, bits .andNot .i64 (arA a b) (evA i o e) = arA (a && !i) (b && !o) := by decide
theorem ar5_t : ∀ i o e, bits .and .i64 5 (evA i o e) = arA i o := by decide
theorem edf_t : ∀ i o e, bits .and .i64 (evA i o e) 32 = 0 ↔ e = false := by decide
theorem mod_p (x : PxA) (w : WA) (fd : Int) (i o e : Bool) : modX x.ix w fd (evA i o e) = PxA.ix ⟨wireN (w.at fd), i, o, e, i && (x.ra (readyR w fd) || !x.e || !x.i), o && (x.rb (readyR w fd) || !x.e || !x.o), (readyR w fd).r, (readyR w fd).w⟩ := by
 unfold modX armE; rw [rs_p, add_t, show x.ix.events = evA x.i x.o x.e from rfl, arn_t, arm_t]
 have : bits .and .i64 (if bits .and .i64 (evA x.i x.o x.e) 32 = 0 then 5 else arA (x.ra (readyR w fd) || (i && !x.i)) (x.rb (readyR w fd) || (o && !x.o))) (evA i o e) = arA (i && (x.ra (readyR w fd) || !x.e || !x.i)) (o && (x.rb (readyR w fd) || !x.e || !x.o)) := by
  by_cases h : x.e = false
  ·rw [if_pos ((edf_t _ _ _).2 h), ar5_t, h]; simp
  ·rw [if_neg (fun g => h ((edf_t _ _ _).1 g)), and_t]
   have h' : x.e = true := by simpa using h
   rw [h']
   generalize x.ra _ = c, x.rb _ = d, x.i = u, x.o = v
   revert c d u v i o
   decide
 rw [this]; rfl
end Ep
end Go.Proofs.YtbfddabjbkohdaaGreat
namespace Go.Proofs.YtbfddabjbkohdaaGreat
set_option maxHeartbeats 2000000
open Go.RX.Hd (yv y2 n1 fk sk sr tH callE heldK onlyH endH thenN slots)
open Go.RX Fx
namespace Wo
set_option maxRecDepth 8000
structure SbW (x x' : WireA) : Prop where
 e : ∀ k, k < 2 → ((x'.e k).what = 1 → (x.e k).what = 1) ∧ (x'.e k).fd = (x.e k).fd ∧ (x'.e k).rd = (x.e k).rd ∧ (x'.e k).wr = (x.e k).wr
 wh : ∀ k, k < 2 → 0 ≤ (x'.e k).what ∧ (x'.e k).what ≤ 3
 w0 : (x.e 0).what ≠ 0 → (x'.e 0).what ≠ 0
 ou : (x'.e 1).what = 2 → (x.e 1).what = 2
 wt : x'.wt.Sublist x.wt
 bl : x'.bl = x.bl
 cap : x'.cap = x.cap
 le : ∀ k, k < 2 → (x'.e k).b.length ≤ x.cap
 nb : ∀ k, k < 2 → (x.e k).rd = false → (x'.e k).b = []
theorem SmW.sb {x x' : WireA} (h : WfW x) (hs : SmW x x') : SbW x x' where
 e k hk := ⟨fun e => by rw [← (hs.e k hk).1]; exact e, (hs.e k hk).2⟩
 wh k hk := by rw [(hs.e k hk).1]; exact h.what k hk
 w0 e := by rw [(hs.e 0 (by omega)).1]; exact e
 ou e := by rw [← (hs.e 1 (by omega)).1]; exact e
 wt := by rw [hs.wt]; exact List.Sublist.refl _
 bl := hs.bl
 cap := hs.cap
 le := hs.le
 nb := hs.nb
theorem SbW.wf {x x' : WireA} (hs : SbW x x') (h : WfW x) : WfW x' where
 wr k hk := by rw [(hs.e k hk).2.2.2, (hs.e (1 - k) (by omega)).2.2.1]; exact h.wr k hk
 le k hk := by rw [hs.cap]; exact hs.le k hk
 nb k hk hr := hs.nb k hk (by rw [← (hs.e k hk).2.2.1]; exact hr)
 cap := by rw [hs.cap]; exact h.cap
 what := hs.wh
 bl := by
  rw [hs.bl]
  have := hs.wt.length_le
  have := h.bl
  omega
 ou e := by
  rw [(hs.e 0 (by omega)).2.2.1, (hs.e 1 (by omega)).2.2.1]; exact h.ou (hs.ou e)
theorem flatMap_set_sub {α β : Type} {f : α → List β} : ∀ {l : List α} {n : Nat} {x x' : α}, l[n]? = some x → (f x').Sublist (f x) → ((l.set n x').flatMap f).Sublist (l.flatMap f)
 | [], _, _, _, h, _ => by simp at h
 | a :: l, 0, x, x', h, e => by
  obtain rfl : a = x := by simpa using h
  show (f x' ++ _).Sublist (f a ++ _)
  exact e.append (List.Sublist.refl _)
 | a :: l, n + 1, x, x', h, e => by
  show (f a ++ (l.set n x').flatMap f).Sublist (f a ++ l.flatMap f)
  exact (List.Sublist.refl _).append (flatMap_set_sub (by simpa using h) e)
theorem setW_get {w : WA} {n m : Nat} {x' y : WireA} (h : (w.setW n x').ws[m]? = some y) : (m = n ∧ y = x') ∨ (m ≠ n ∧ w.ws[m]? = some y) := set_at h
theorem setW_self {w : WA} {n : Nat} {x x' : WireA} (h : w.ws[n]? = some x) : (w.setW n x').ws[n]? = some x' := by
 show (w.ws.set n x')[n]? = _
 rw [List.getElem?_set_self (List.getElem?_eq_some_iff.1 h).1]
theorem setW_ne {w : WA} {n m : Nat} {x' : WireA} (h : m ≠ n) : (w.setW n x').ws[m]? = w.ws[m]? := by
 show (w.ws.set n x')[m]? = _
 rw [List.getElem?_set_ne (Ne.symm h)]
theorem setW_len {w : WA} {n : Nat} {x' : WireA} : (w.setW n x').ws.length = w.ws.length := by
 show (w.ws.set n x').length = _
 rw [List.length_set]
theorem WOk.setS {w : WA} (h : WOk w) {n : Nat} {x x' : WireA} (hx : w.ws[n]? = some x) (hs : SbW x x') (h0 : n ∈ (w.setW n x').ws.flatMap WireA.wt → (x'.e 0).what = 0) : WOk (w.setW n x') := by
 have hxm := List.mem_of_getElem? hx
 have hwf := h.wf x hxm
 have hfm : ((w.setW n x').ws.flatMap WireA.wt).Sublist (w.ws.flatMap WireA.wt) := flatMap_set_sub hx hs.wt
 have hat : ∀ {m : Nat} {y : WireA}, (w.setW n x').ws[m]? = some y → ∃ z, w.ws[m]? = some z ∧ ∀ k, k < 2 → ((y.e k).what = 1 → (z.e k).what = 1) ∧ (y.e k).fd = (z.e k).fd ∧ (y.e k).rd = (z.e k).rd := fun hm => by
  rcases setW_get hm with ⟨rfl, rfl⟩ | ⟨_, hm⟩
  ·exact ⟨x, hx, fun k hk => ⟨(hs.e k hk).1, (hs.e k hk).2.1, (hs.e k hk).2.2.1⟩⟩
  ·exact ⟨_, hm, fun _ _ => ⟨id, rfl, rfl⟩⟩
 refine ⟨?_, ?_, by rw [setW_len]; exact h.len, h.hdl, h.ctl, ?_, hfm.nodup h.wn, ?_, ?_, fun m y hm => by
  rcases setW_get hm with ⟨rfl, rfl⟩ | ⟨_, hm⟩
  ·exact fun e => h.ns _ _ hx (hs.wt.subset e)
  ·exact h.ns _ _ hm⟩
 ·intro a b y z k j ha hb hk hj h1 h2 h3
  obtain ⟨y', ha', hy⟩ := hat ha
  obtain ⟨z', hb', hz⟩ := hat hb
  exact h.uq a b y' z' k j ha' hb' hk hj ((hy k hk).1 h1) ((hz j hj).1 h2) (by rw [← (hy k hk).2.1, ← (hz j hj).2.1]; exact h3)
 ·intro y hy k hk h1
  obtain ⟨m, hm, e⟩ := List.getElem_of_mem hy
  obtain ⟨z, hz, he⟩ := hat (m := m) (y := y) (by rw [List.getElem?_eq_getElem hm, e])
  have := h.fd z (List.mem_of_getElem? hz) k hk ((he k hk).1 h1)
  rw [(he k hk).2.1]; exact this
 ·intro y hy
  rcases List.mem_or_eq_of_mem_set hy with hy | rfl
  ·exact h.wf y hy
  ·exact hs.wf hwf
 ·intro m hm
  by_cases e : m = n
  ·subst e
   exact ⟨x', setW_self hx, h0 hm⟩
  ·obtain ⟨z, hz, hz0⟩ := h.wm m (hfm.subset hm)
   exact ⟨z, by rw [setW_ne e]; exact hz, hz0⟩
 ·intro m k hm
  obtain ⟨hk, z, hz, z0, z1⟩ := h.nt m k hm
  by_cases e : m = n
  ·subst e
   rw [hx] at hz; obtain rfl := Option.some.inj hz; exact ⟨hk, x', setW_self hx, by rw [(hs.e 0 (by omega)).2.2.1]; exact z0, by rw [(hs.e 1 (by omega)).2.2.1]; exact z1⟩
  ·exact ⟨hk, z, by rw [setW_ne e]; exact hz, z0, z1⟩
theorem WOk.setS_at {w : WA} (h : WOk w) {n : Nat} {x x' : WireA} (hx : w.ws[n]? = some x) (hs : SbW x x') (h0 : n ∈ (w.setW n x').ws.flatMap WireA.wt → (x'.e 0).what = 0) (hk : ∀ k, k < 2 → (x.e k).what = 1 → (x'.e k).what = 1) : (w.setW n x').at = w.at := by
 funext fd
 refine atW_ext (h.setS hx hs h0).uq h.uq fun m k hk2 => ?_
 by_cases e : m = n
 ·subst e
  rw [setW_self hx, hx]
  have := hs.e k hk2
  constructor
  ·rintro ⟨y, hy, h1, h2⟩; obtain rfl := Option.some.inj hy; exact ⟨x, rfl, this.1 h1, this.2.1 ▸ h2⟩
  ·rintro ⟨y, hy, h1, h2⟩; obtain rfl := Option.some.inj hy; exact ⟨x', rfl, hk k hk2 h1, by rw [this.2.1]; exact h2⟩
 ·rw [setW_ne e]
def giveW (y : WireA) (f : Nat) : WireA := y.up 0 fun e => { e with what := 1, fd := (f : Int) }
theorem give0 (y : WireA) (f : Nat) : (giveW y f).e 0 = { y.e 0 with what := 1, fd := (f : Int) } := up_at _ _ _
theorem give1 (y : WireA) (f : Nat) : (giveW y f).e 1 = y.e 1 := up_ne _ _ (by omega)
theorem WOk.give {w : WA} (h : WOk w) {n f : Nat} {y : WireA} (hy : w.ws[n]? = some y) (hn : (y.e 0).what ≠ 1) (hw : n ∉ w.ws.flatMap WireA.wt) (hf : f < 96) (hfr : w.at (f : Int) = none) :
  WOk (w.setW n (giveW y f)) ∧ (w.setW n (giveW y f)).at = setT w.at (f : Int) (some (n, 0)) := by
 have hym := List.mem_of_getElem? hy
 have hwf := h.wf y hym
 have hold := atW_no.1 hfr
 have hfm : (w.setW n (giveW y f)).ws.flatMap WireA.wt = w.ws.flatMap WireA.wt := flatMap_set hy rfl
 have hat : ∀ {m : Nat} {x : WireA}, (w.setW n (giveW y f)).ws[m]? = some x → ∃ z, w.ws[m]? = some z ∧ ∀ k, k < 2 → ((m = n ∧ k = 0 ∧ (x.e k).what = 1 ∧ (x.e k).fd = (f : Int)) ∨ (¬ (m = n ∧ k = 0) ∧ (x.e k).what = (z.e k).what ∧ (x.e k).fd = (z.e k).fd)) ∧ (x.e k).rd = (z.e k).rd := fun {m} {x} hm => by
  rcases setW_get hm with ⟨rfl, rfl⟩ | ⟨hne, hm⟩
  ·refine ⟨y, hy, fun k hk => ?_⟩
   rcases (show k = 0 ∨ k = 1 by omega) with rfl | rfl
   ·rw [give0]; exact ⟨.inl ⟨rfl, rfl, rfl, rfl⟩, rfl⟩
   ·rw [give1]; exact ⟨.inr ⟨by omega, rfl, rfl⟩, rfl⟩
  ·exact ⟨_, hm, fun k _ => ⟨.inr ⟨fun e => hne e.1, rfl, rfl⟩, rfl⟩⟩
 have hok : WOk (w.setW n (giveW y f)) := by
  refine ⟨?_, ?_, by rw [setW_len]; exact h.len, h.hdl, h.ctl, ?_, by rw [hfm]; exact h.wn, ?_, ?_, fun m z hm => by
   rcases setW_get hm with ⟨rfl, rfl⟩ | ⟨_, hm⟩
   ·exact fun e => h.ns _ y hy e
   ·exact h.ns _ _ hm⟩
  ·intro a b x z k j ha hb hk hj h1 h2 h3
   obtain ⟨x', ha', hx⟩ := hat ha
   obtain ⟨z', hb', hz⟩ := hat hb
   rcases (hx k hk).1 with ⟨rfl, rfl, _, e1⟩ | ⟨a1, a2, a3⟩ <;> rcases (hz j hj).1 with ⟨rfl, rfl, _, e2⟩ | ⟨b1, b2, b3⟩
   ·exact ⟨rfl, rfl⟩
   ·exact absurd ⟨by rw [← b2]; exact h2, by rw [← b3, ← h3]; exact e1⟩ (hold z' (List.mem_of_getElem? hb') j hj)
   ·exact absurd ⟨by rw [← a2]; exact h1, by rw [← a3, h3]; exact e2⟩ (hold x' (List.mem_of_getElem? ha') k hk)
   ·exact h.uq a b x' z' k j ha' hb' hk hj (by rw [← a2]; exact h1) (by rw [← b2]; exact h2) (by rw [← a3, ← b3]; exact h3)
  ·intro x hx k hk h1
   obtain ⟨m, hm, e⟩ := List.getElem_of_mem hx
   obtain ⟨z, hz, he⟩ := hat (m := m) (x := x) (by rw [List.getElem?_eq_getElem hm, e])
   rcases (he k hk).1 with ⟨_, _, _, e1⟩ | ⟨_, a2, a3⟩
   ·rw [e1]; omega
   ·rw [a3]; exact h.fd z (List.mem_of_getElem? hz) k hk (by rw [← a2]; exact h1)
  ·intro x hx
   rcases List.mem_or_eq_of_mem_set hx with hx | rfl
   ·exact h.wf x hx
   ·refine ⟨fun k hk => ?_, fun k hk => ?_, fun k hk hr => ?_, hwf.cap, fun k hk => ?_, hwf.bl, fun e => ?_⟩
    ·have h1 : ∀ j, j < 2 → ((giveW y f).e j).wr = (y.e j).wr ∧ ((giveW y f).e j).rd = (y.e j).rd := fun j hj => by
      rcases (show j = 0 ∨ j = 1 by omega) with rfl | rfl
      ·rw [give0]; exact ⟨rfl, rfl⟩
      ·rw [give1]; exact ⟨rfl, rfl⟩
     rw [(h1 k hk).1, (h1 (1 - k) (by omega)).2]; exact hwf.wr k hk
    ·rcases (show k = 0 ∨ k = 1 by omega) with rfl | rfl
     ·rw [give0]; exact hwf.le 0 hk
     ·rw [give1]; exact hwf.le 1 hk
    ·rcases (show k = 0 ∨ k = 1 by omega) with rfl | rfl
     ·rw [give0] at hr ⊢; exact hwf.nb 0 hk hr
     ·rw [give1] at hr ⊢; exact hwf.nb 1 hk hr
    ·rcases (show k = 0 ∨ k = 1 by omega) with rfl | rfl
     ·rw [give0]; show (0 : Int) ≤ 1 ∧ (1 : Int) ≤ 3; omega
     ·rw [give1]; exact hwf.what 1 hk
    ·rw [give1] at e ⊢; rw [give0]; exact hwf.ou e
  ·intro m hm
   rw [hfm] at hm
   have e : m ≠ n := fun e => hw (e ▸ hm)
   obtain ⟨z, hz, hz0⟩ := h.wm m hm
   exact ⟨z, by rw [setW_ne e]; exact hz, hz0⟩
  ·intro m k hm
   obtain ⟨hk, z, hz, z0, z1⟩ := h.nt m k hm
   by_cases e : m = n
   ·subst e
    rw [hy] at hz; obtain rfl := Option.some.inj hz; exact ⟨hk, _, setW_self hy, by rw [give0]; exact z0, by rw [give1]; exact z1⟩
   ·exact ⟨hk, z, by rw [setW_ne e]; exact hz, z0, z1⟩
 refine ⟨hok, ?_⟩
 funext a
 apply Option.ext; rintro ⟨m, k⟩; rw [show (w.setW n (giveW y f)).at a = some (m, k) ↔ _ from atW_iff hok.uq]
 show _ ↔ (if a = (f : Int) then some (n, 0) else w.at a) = some (m, k)
 constructor
 ·rintro ⟨hk, x, hx, h1, h2⟩
  obtain ⟨z, hz, he⟩ := hat hx
  rcases (he k hk).1 with ⟨rfl, rfl, _, e1⟩ | ⟨a1, a2, a3⟩
  ·rw [if_pos (by rw [← h2]; exact e1)]
  ·have hne : a ≠ (f : Int) := fun e => hold z (List.mem_of_getElem? hz) k hk ⟨by rw [← a2]; exact h1, by rw [← a3, h2]; exact e⟩
   rw [if_neg hne]; exact (atW_iff h.uq).2 ⟨hk, z, hz, by rw [← a2]; exact h1, by rw [← a3]; exact h2⟩
 ·intro e
  by_cases ha : a = (f : Int)
  ·rw [if_pos ha] at e
   obtain ⟨rfl, rfl⟩ := Prod.mk.inj (Option.some.inj e)
   exact ⟨by omega, _, setW_self hy, by rw [give0], by rw [give0]; exact ha.symm⟩
  ·rw [if_neg ha] at e
   obtain ⟨hk, z, hz, h1, h2⟩ := (atW_iff h.uq).1 e
   by_cases em : m = n
   ·subst em
    rw [hy] at hz; obtain rfl := Option.some.inj hz
    rcases (show k = 0 ∨ k = 1 by omega) with rfl | rfl
    ·exact absurd h1 hn
    ·exact ⟨hk, _, setW_self hy, by rw [give1]; exact h1, by rw [give1]; exact h2⟩
   ·exact ⟨hk, z, by rw [setW_ne em]; exact hz, h1, h2⟩
def waitW (x : WireA) (m : Nat) : WireA := { x.up 0 (fun e => { e with inn := IntKind.u64.wrap (e.inn + 1) }) with wt := x.wt ++ [m] }
theorem wait_e (x : WireA) (m k : Nat) : ((waitW x m).e k).what = (x.e k).what ∧ ((waitW x m).e k).fd = (x.e k).fd ∧ ((waitW x m).e k).rd = (x.e k).rd ∧ ((waitW x m).e k).wr = (x.e k).wr ∧ ((waitW x m).e k).b = (x.e k).b := by
 show ((if k = 0 then _ else _ : EndA)).what = _ ∧ ((if k = 0 then _ else _ : EndA)).fd = _ ∧ ((if k = 0 then _ else _ : EndA)).rd = _ ∧ ((if k = 0 then _ else _ : EndA)).wr = _ ∧ ((if k = 0 then _ else _ : EndA)).b = _
 by_cases h : k = 0
 ·subst h; exact ⟨rfl, rfl, rfl, rfl, rfl⟩
 ·rw [if_neg h]; exact ⟨rfl, rfl, rfl, rfl, rfl⟩
theorem flatMap_set_app {α β : Type} {f : α → List β} {bs : List β} : ∀ {l : List α} {n : Nat} {x x' : α}, l[n]? = some x → f x' = f x ++ bs → ((l.set n x').flatMap f).Perm (bs ++ l.flatMap f)
 | [], _, _, _, h, _ => by simp at h
 | a :: l, 0, x, x', h, e => by
  obtain rfl : a = x := by simpa using h
  show (f x' ++ l.flatMap f).Perm (bs ++ (f a ++ l.flatMap f))
  rw [e, ← List.append_assoc]; exact List.Perm.append_right _ List.perm_append_comm
 | a :: l, n + 1, x, x', h, e => by
  show (f a ++ (l.set n x').flatMap f).Perm (bs ++ (f a ++ l.flatMap f))
  have := flatMap_set_app (f := f) (l := l) (n := n) (by simpa using h) e
  refine (List.Perm.append_left (f a) this).trans ?_; rw [← List.append_assoc, ← List.append_assoc]; exact List.Perm.append_right _ List.perm_append_comm
theorem WOk.wait {w : WA} (h : WOk w) {n m : Nat} {x y : WireA} (hx : w.ws[n]? = some x) (hm : w.ws[m]? = some y) (h0 : (y.e 0).what = 0) (hnm : n ≠ m) (hw : m ∉ w.ws.flatMap WireA.wt) (hl : (x.wt.length : Int) + 1 ≤ x.bl) :
  WOk (w.setW n (waitW x m)) ∧ (w.setW n (waitW x m)).at = w.at := by
 have hwf := h.wf x (List.mem_of_getElem? hx)
 have hpm : ((w.setW n (waitW x m)).ws.flatMap WireA.wt).Perm ([m] ++ w.ws.flatMap WireA.wt) := flatMap_set_app hx rfl
 have hat : ∀ {a : Nat} {z : WireA}, (w.setW n (waitW x m)).ws[a]? = some z → ∃ z', w.ws[a]? = some z' ∧ ∀ k, (z.e k).what = (z'.e k).what ∧ (z.e k).fd = (z'.e k).fd ∧ (z.e k).rd = (z'.e k).rd := fun ha => by
  rcases setW_get ha with ⟨rfl, rfl⟩ | ⟨_, ha⟩
  ·exact ⟨x, hx, fun k => ⟨(wait_e x m k).1, (wait_e x m k).2.1, (wait_e x m k).2.2.1⟩⟩
  ·exact ⟨_, ha, fun _ => ⟨rfl, rfl, rfl⟩⟩
 have hta : ∀ {a : Nat} {z : WireA}, w.ws[a]? = some z → ∃ z', (w.setW n (waitW x m)).ws[a]? = some z' ∧ ∀ k, (z'.e k).what = (z.e k).what ∧ (z'.e k).fd = (z.e k).fd ∧ (z'.e k).rd = (z.e k).rd := fun {a} {z} ha => by
  by_cases e : a = n
  ·subst e
   rw [hx] at ha; obtain rfl := Option.some.inj ha; exact ⟨_, setW_self hx, fun k => ⟨(wait_e x m k).1, (wait_e x m k).2.1, (wait_e x m k).2.2.1⟩⟩
  ·exact ⟨z, by rw [setW_ne e]; exact ha, fun _ => ⟨rfl, rfl, rfl⟩⟩
 have hok : WOk (w.setW n (waitW x m)) := by
  refine ⟨?_, ?_, by rw [setW_len]; exact h.len, h.hdl, h.ctl, ?_, ?_, ?_, ?_, fun a z ha => by
   rcases setW_get ha with ⟨rfl, rfl⟩ | ⟨_, ha⟩
   ·intro e
    rcases List.mem_append.1 (show a ∈ x.wt ++ [m] from e) with e | e
    ·exact h.ns _ _ hx e
    ·exact hnm (by simpa using e)
   ·exact h.ns _ _ ha⟩
  ·intro a b p q k j ha hb hk hj h1 h2 h3
   obtain ⟨p', ha', hp⟩ := hat ha
   obtain ⟨q', hb', hq⟩ := hat hb
   exact h.uq a b p' q' k j ha' hb' hk hj (by rw [← (hp k).1]; exact h1) (by rw [← (hq j).1]; exact h2) (by rw [← (hp k).2.1, ← (hq j).2.1]; exact h3)
  ·intro p hp k hk h1
   obtain ⟨a, ha, e⟩ := List.getElem_of_mem hp
   obtain ⟨p', hp', he⟩ := hat (a := a) (z := p) (by rw [List.getElem?_eq_getElem ha, e])
   have := h.fd p' (List.mem_of_getElem? hp') k hk (by rw [← (he k).1]; exact h1)
   rw [(he k).2.1]; exact this
  ·intro p hp
   rcases List.mem_or_eq_of_mem_set hp with hp | rfl
   ·exact h.wf p hp
   ·have e := wait_e x m
    refine ⟨fun k hk => by rw [(e k).2.2.2.1, (e (1 - k)).2.2.1]; exact hwf.wr k hk, fun k hk => by rw [(e k).2.2.2.2]; exact hwf.le k hk, fun k hk hr => by rw [(e k).2.2.2.2]; exact hwf.nb k hk (by rw [← (e k).2.2.1]; exact hr), hwf.cap, fun k hk => by rw [(e k).1]; exact hwf.what k hk, ?_, fun h1 => ?_⟩
    ·have h1 := hwf.bl
     refine ⟨h1.1, h1.2.1, ?_⟩
     show ((x.wt ++ [m]).length : Int) ≤ x.bl
     rw [List.length_append]
     show ((x.wt.length + 1 : Nat) : Int) ≤ _
     omega
    ·rw [(e 1).1] at h1
     rw [(e 0).2.2.1, (e 1).2.2.1]; exact hwf.ou h1
  ·rw [hpm.nodup_iff]
   exact List.nodup_cons.2 ⟨hw, h.wn⟩
  ·intro a ha
   have ha2 : a ∈ [m] ++ w.ws.flatMap WireA.wt := hpm.mem_iff.1 ha
   rcases List.mem_append.1 ha2 with h1 | h1
   ·obtain rfl : a = m := by simpa using h1
    exact ⟨y, by rw [setW_ne (Ne.symm hnm)]; exact hm, h0⟩
   ·obtain ⟨z, hz, hz0⟩ := h.wm a h1
    obtain ⟨z', hz', he⟩ := hta hz
    exact ⟨z', hz', by rw [(he 0).1]; exact hz0⟩
  ·intro a k ha
   obtain ⟨hk, z, hz, z0, z1⟩ := h.nt a k ha
   obtain ⟨z', hz', he⟩ := hta hz
   exact ⟨hk, z', hz', by rw [(he 0).2.2]; exact z0, by rw [(he 1).2.2]; exact z1⟩
 refine ⟨hok, ?_⟩
 funext fd
 refine atW_ext hok.uq h.uq fun a k _ => ?_
 constructor
 ·rintro ⟨z, hz, h1, h2⟩
  obtain ⟨z', hz', he⟩ := hat hz
  exact ⟨z', hz', by rw [← (he k).1]; exact h1, by rw [← (he k).2.1]; exact h2⟩
 ·rintro ⟨z, hz, h1, h2⟩
  obtain ⟨z', hz', he⟩ := hta hz
  exact ⟨z', hz', by rw [(he k).1]; exact h1, by rw [(he k).2.1]; exact h2⟩
end Wo
end Go.Proofs.YtbfddabjbkohdaaGreat
