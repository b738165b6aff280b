/-
  The document's epoll (roundhouseref15): Ctl. Epoll: EplPlays. Calls of the world, as the rows give them. The calls of epoll's laws, as the rows give them.
-/
import Derived.Test.YtbfddabjbkohdaaGreatZEplPlaysJ
set_option linter.unusedSimpArgs false
set_option linter.unusedVariables false
set_option linter.unnecessarySimpa false
namespace Go.Proofs.YtbfddabjbkohdaaGreat
set_option maxHeartbeats 2000000
open Go.RX.Hd (yv y2 n1 fk sk sr tH callE heldK onlyH endH thenN slots)
open Go.RX Fx
namespace Ep
open Wo
set_option maxRecDepth 8000
def insS (x : RiA) (s : Bool × List RiA) (y : RiA) : Bool × List RiA := (s.1 || decide (x.fd ≤ y.fd), (s.2 ++ if s.1 = false ∧ x.fd ≤ y.fd then [x] else []) ++ if y.fd ≠ x.fd then [y] else [])
def insF (x : RiA) (d : Bool) (l : List RiA) : Bool × List RiA := l.foldl (insS x) (d, [])
theorem insF_eq (x : RiA) (d : Bool) (l : List RiA) : insR x d l = (insF x d l).2 ++ if (insF x d l).1 = true then [] else [x] := by
 have key : ∀ (l : List RiA) (d : Bool) (a : List RiA), a ++ insR x d l = (l.foldl (insS x) (d, a)).2 ++ if (l.foldl (insS x) (d, a)).1 = true then [] else [x] := fun l => by
  induction l with
  | nil => intro d a; rfl
  | cons y t ih =>
   intro d a; rw [List.foldl_cons]
   show a ++ ((if d = false ∧ x.fd ≤ y.fd then [x] else []) ++ ((if y.fd ≠ x.fd then [y] else []) ++ insR x (d || decide (x.fd ≤ y.fd)) t)) = _
   rw [show (insS x (d, a) y) = (d || decide (x.fd ≤ y.fd), (a ++ if d = false ∧ x.fd ≤ y.fd then [x] else []) ++ if y.fd ≠ x.fd then [y] else []) from rfl, ← ih]; simp only [List.append_assoc]
 exact key l d []
theorem insF_succ (x : RiA) (d : Bool) {l : List RiA} {k : Nat} {y : RiA} (h : l[k]? = some y) : insF x d (l.take (k + 1)) = insS x (insF x d (l.take k)) y := by
 unfold insF; rw [List.take_add_one, h, Option.toList_some, List.foldl_append]; rfl
theorem insF_len (x : RiA) (d : Bool) : ∀ l : List RiA, (insF x d l).2.length ≤ 2 * l.length := by
 have key : ∀ (l : List RiA) (s : Bool × List RiA), (l.foldl (insS x) s).2.length ≤ s.2.length + 2 * l.length := fun l => by
  induction l with
  | nil => intro s; exact Nat.le_refl _
  | cons y t ih =>
   intro s; rw [List.foldl_cons]; refine Nat.le_trans (ih _) ?_; unfold insS; dsimp only; rw [List.length_append, List.length_append, List.length_cons]
   split <;> split <;> simp <;> omega
 intro l
 have := key l (d, [])
 show (l.foldl (insS x) (d, [])).2.length ≤ _
 simpa using this
def ctl15 (lim : Int) (w : WA) (l : List RiA) (op fd ev : Int) : Int × List RiA := if badT op ev then (2, l) else ctlT lim w (tidyL w l) op fd ev
abbrev sumW (n : Int) : Int := IntKind.i64.wrap (IntKind.i64.wrap (IntKind.i64.wrap (Int.tmod (IntKind.i64.wrap (n.tdiv 1)) 2 * 1) + IntKind.i64.wrap (Int.tmod (IntKind.i64.wrap (n.tdiv 4)) 2 * 4)) + IntKind.i64.wrap (Int.tmod (IntKind.i64.wrap (n.tdiv 32)) 2 * 32))
theorem sum_w {n : Int} (hn : InK .i64 n) : sumW n = sumT n := by
 unfold sumW
 have hb : ∀ x : Int, -1 ≤ Int.tmod x 2 ∧ Int.tmod x 2 ≤ 1 := fun x => by
  rcases Int.le_total 0 x with h | h
  ·have h1 := Int.tmod_nonneg 2 h
   have h2 := Int.tmod_lt_of_pos x (b := 2) (by decide)
   omega
  ·obtain ⟨m, rfl⟩ : ∃ m, x = -m := ⟨-x, by omega⟩
   rw [Int.neg_tmod]
   have h1 := Int.tmod_nonneg 2 (show 0 ≤ m by omega)
   have h2 := Int.tmod_lt_of_pos m (b := 2) (by decide)
   omega
 rw [tdiv_in hn (by decide), tdiv_in hn (by decide), tdiv_in hn (by decide)]
 have h1 := hb (n.tdiv 1)
 have h2 := hb (n.tdiv 4)
 have h3 := hb (n.tdiv 32)
 unfold sumT; simp only [wrap_i64]; omega
theorem rctl15_ct (L : List SP) (eb rb : Nat) (lim : Int) (ad : Option Addr) (c : Nat) (l : List RiA) (w : WA) (hw : WOk w) (hl : l.length ≤ 96) (hle : ∀ x ∈ tidyL w l, InK .i64 x.ev) (op fd ev : Int) (hev : InK .i64 ev) : Ct Tryz.prog 24 #[.pointer (some ⟨eb, 0, none⟩), .int .i64 op, .int .i64 fd, .int .i64 ev] (RlP eb rb lim ad c l (Rf.RwP rb w :: L)) (fun q_ : Option Addr × Nat => .int .i64 (ctl15 lim w l op fd ev).1) (fun q_ : Option Addr × Nat => RlP eb rb lim q_.1 q_.2 (ctl15 lim w l op fd ev).2 (Rf.RwP rb w :: L)) := by
 refine Ct.o4 Tryz.func24 ?_; intro E
 show Hd E 213 _ _ _ _
 refine sr fun _ hK1 => ?_
 refine yv y_as <| fk [(0, _), (1, _), (2, _), (3, _)] hK1 ?_; refine Hd.seq fun _ hK2 => ?_
 refine sr fun _ hK3 => ?_
 refine yv y_mv <| yv (y_lss rfl rfl) ?_; refine yv y_mv ?_; apply Hd.org 3 21 24 [(0, _), (1, _), (2, _), (3, _)] rfl sbq
 ·intro _
  simp only [List.take]; refine n1 <| n1 <| yv (y_pickT rfl rfl) ?_; refine Hd.nil ?_; exact Hd.mq
 ·intro _
  simp only [List.take]; refine y2 y_mv <| y2 (y_gtr rfl rfl) ?_; refine yv (y_pickF rfl rfl) ?_; refine Hd.nil ?_; exact Hd.mq
 simp only [List.drop]; refine fk [(0, _), (1, _), (2, _), (3, _), (24, _)] hK3 ?_; refine Hd.cond rfl (fun hc0 => ?_) (fun hc0 => ?_)
 ·try simp only [hyZ] at hc0
  refine sr fun _ hK4 => ?_
  refine yv y_as <| fk [(8, _)] hK4 ?_; refine Hd.ret <| Hd.thenRet ?_
  have hb : ctl15 lim w l op fd ev = (2, l) := if_pos (.inl hc0)
  rw [hb]; exact Hd.ret1 rfl (ad, c) rfl sq
 ·try simp only [hyZ] at hc0
  refine Hd.skip <| Hd.toK hK2 ?_; refine Hd.seq fun _ hK5 => ?_
  refine sr fun _ hK6 => ?_
  refine yv y_mv <| yv (y_lss rfl rfl) ?_; refine yv y_mv ?_; apply Hd.andg (q := (decide (ev < 0) || decide (ev ≠ sumW ev))) 21 27 48 [(0, _), (1, _), (2, _), (3, _)] rfl sbq
  ·intro hg3_27
   try simp only [hyZ] at hg3_27
   simp only [List.take]; refine y2 y_mv <| y2 (y_lss rfl rfl) ?_; refine y2 y_mv ?_; apply Hd.org 17 30 47 [(0, _), (1, _), (2, _), (3, _), (27, _)] rfl sbq
   ·intro _
    simp only [List.take]; refine n1 <| n1 <| n1 <| n1 <| n1 <| n1 <| n1 <| n1 <| n1 <| n1 <| n1 <| n1 <| n1 <| n1 <| n1 <| n1 <| y2 (y_pickT rfl rfl) ?_; refine Hd.nil ?_; exact Hd.mq
   ·intro hg3_30
    try simp only [hyZ] at hg3_30
    simp only [List.take]; refine y2 y_mv <| y2 y_mv <| y2 (y_quo rfl rfl (by omega)) ?_; refine y2 (y_rem rfl rfl (by omega)) ?_; refine y2 (y_mul rfl rfl) ?_; refine y2 y_mv <| y2 (y_quo rfl rfl (by omega)) ?_; refine y2 (y_rem rfl rfl (by omega)) ?_; refine y2 (y_mul rfl rfl) ?_; refine y2 (y_add rfl rfl) ?_; refine y2 y_mv <| y2 (y_quo rfl rfl (by omega)) ?_; refine y2 (y_rem rfl rfl (by omega)) ?_; refine y2 (y_mul rfl rfl) ?_; refine y2 (y_add rfl rfl) ?_; refine y2 (y_neq rfl rfl) ?_; refine y2 (y_pickF rfl rfl) ?_; refine Hd.nil ?_; exact Hd.mq
   simp only [List.drop]; refine yv (y_pickT rfl rfl) ?_; refine Hd.nil ?_; exact Hd.mq
  ·intro _
   simp only [List.take]; refine n1 <| n1 <| n1 <| n1 <| n1 <| n1 <| n1 <| n1 <| n1 <| n1 <| n1 <| n1 <| n1 <| n1 <| n1 <| n1 <| n1 <| n1 <| n1 <| n1 <| yv (y_pickF rfl rfl) ?_; refine Hd.nil ?_; exact Hd.mq
  simp only [List.drop]; refine fk [(0, _), (1, _), (2, _), (3, _), (48, _)] hK6 ?_; refine Hd.cond rfl (fun hc1 => ?_) (fun hc1 => ?_)
  ·try simp only [hyZ] at hc1
   have h1 : badT op ev := .inr ⟨hc1.1, by rw [sum_w hev] at hc1; exact hc1.2⟩
   refine sr fun _ hK7 => ?_
   refine yv y_as <| fk [(8, _)] hK7 ?_; refine Hd.ret <| Hd.thenRet ?_
   have hb : ctl15 lim w l op fd ev = (2, l) := if_pos h1
   rw [hb]; exact Hd.ret1 rfl (ad, c) rfl sq
  ·try simp only [hyZ] at hc1
   have h1 : ¬ badT op ev := by
    rw [sum_w hev] at hc1; rintro (h | ⟨h, h2⟩)
    ·omega
    ·rcases hc1 with g | g
     ·omega
     ·omega
   have hct : ctl15 lim w l op fd ev = ctlT lim w (tidyL w l) op fd ev := if_neg h1
   refine Hd.skip <| Hd.toK hK5 ?_; refine sr fun _ hK8 => ?_
   refine yv y_mv <| callE rfl fk78 (rtidy15_ct _ eb rb lim ad c l w hw (by omega)) sq ?_; rintro ⟨la, lc⟩; dsimp only
   have hlt := tidyL_le w l l.length
   rw [List.take_of_length_le (Nat.le_refl _)] at hlt
   obtain ⟨T, hT⟩ : ∃ T, tidyL w l = T := ⟨_, rfl⟩
   rw [hT] at hlt hle hct; rw [hT]; refine fk [(0, _), (1, _), (2, _), (3, _)] hK8 ?_; refine sr fun _ hK9 => ?_
   refine yv y_mv <| yv y_np <| yv (y_f 0 39 Tryz.underlying60 sz39) ?_; refine yv (y_l1 ag39 rfl) ?_; refine yv y_mv <| callE rfl fk79 (Rf.rWire_ct _ rb w hw fd) sq ?_; intro _; refine yv y_mv <| yv y_ex <| yv y_ex <| yv y_as <| yv y_as <| fk [(0, _), (1, _), (2, _), (3, _), (9, _), (10, _)] hK9 ?_; refine Hd.seq fun _ hK10 => ?_
   refine sr fun _ hK11 => ?_
   refine yv y_mv <| yv (y_neq rfl rfl) ?_; refine fk [(0, _), (1, _), (2, _), (3, _), (9, _), (61, _)] hK11 ?_; refine Hd.cond rfl (fun hc2 => ?_) (fun hc2 => ?_)
   ·try simp only [hyZ] at hc2
    have h2 : w.at fd = none := fdErr_no.1 hc2
    refine sr fun _ hK12 => ?_
    refine yv y_as <| fk [(8, _)] hK12 ?_; refine Hd.ret <| Hd.thenRet ?_
    have hb : ctlT lim w T op fd ev = (110, T) := if_pos h2
    rw [hct, hb]; exact Hd.ret1 rfl (la, lc) rfl sq
   ·try simp only [hyZ] at hc2
    have h2 : ¬ w.at fd = none := fun e => absurd (fdErr_no.2 e) (by simpa using hc2)
    refine Hd.skip <| Hd.toK hK10 ?_; refine sr fun _ hK13 => ?_
    refine yv y_mv <| yv y_mv <| callE rfl fk80 (rfind15_ct _ eb rb lim la lc T fd (by omega)) sq ?_; intro _; refine yv y_as <| fk [(0, _), (1, _), (2, _), (3, _), (9, _), (11, _)] hK13 ?_; refine Hd.seq fun _ hK14 => ?_
    refine sr fun _ hK15 => ?_
    refine yv y_mv <| yv (y_eql rfl rfl) ?_; refine yv y_mv ?_; apply Hd.andg 3 67 70 [(0, _), (1, _), (2, _), (3, _), (9, _), (11, _)] rfl sbq
    ·intro _
     simp only [List.take]; refine y2 y_mv <| y2 (y_geq rfl rfl) ?_; refine yv (y_pickT rfl rfl) ?_; refine Hd.nil ?_; exact Hd.mq
    ·intro _
     simp only [List.take]; refine n1 <| n1 <| yv (y_pickF rfl rfl) ?_; refine Hd.nil ?_; exact Hd.mq
    simp only [List.drop]; refine fk [(0, _), (1, _), (2, _), (3, _), (9, _), (11, _), (70, _)] hK15 ?_; refine Hd.cond rfl (fun hc3 => ?_) (fun hc3 => ?_)
    ·try simp only [hyZ] at hc3
     have hb : ctlT lim w T op fd ev = (150, T) := by unfold ctlT; rw [if_neg h2, if_pos ⟨hc3.1, by have := hc3.2; omega⟩]
     refine sr fun _ hK16 => ?_
     refine yv y_as <| fk [(8, _)] hK16 ?_; refine Hd.ret <| Hd.thenRet ?_; rw [hct, hb]; exact Hd.ret1 rfl (la, lc) rfl sq
    ·try simp only [hyZ] at hc3
     have h3 : ¬ (op = 1 ∧ 0 ≤ posR T fd) := by omega
     refine Hd.skip <| Hd.toK hK14 ?_; refine Hd.seq fun _ hK17 => ?_
     refine Hd.seq fun _ hK18 => ?_
     refine Hd.quiet mixed kq ?_; refine Hq.yv y_mv ?_; refine Hq.yv (y_eql rfl rfl) ?_; refine Hq.yv y_mv ?_; apply Hq.andg 11 73 84 [(0, _), (1, _), (2, _), (3, _), (9, _), (11, _)] rfl ⟨rfl, rfl, rfl, rfl, rfl, rfl, trivial⟩
     ·intro hg12_73
      try simp only [hyZ] at hg12_73
      simp only [List.take]; refine Hq.yg rfl rfl y_mv ?_; refine Hq.yg rfl rfl y_np ?_; refine Hq.yg rfl rfl (y_f 2 58 Tryz.underlying60 sz58) ?_; refine Hq.yg rfl rfl (y_l1 ag58 rfl) ?_; refine Hq.yg rfl rfl (y_len Tryz.underlying58 rfl) ?_; refine Hq.yg rfl rfl y_mv ?_; refine Hq.yg rfl rfl y_np ?_; refine Hq.yg rfl rfl (y_f 1 3 Tryz.underlying60 sz3) ?_; refine Hq.yg rfl rfl (y_l1 ag3 rfl) ?_; refine Hq.yg rfl rfl (y_geq rfl rfl) ?_; refine Hq.yv (y_pickT rfl rfl) ?_; exact Hq.mend sbq
     ·intro hg12_73
      try simp only [hyZ] at hg12_73
      simp only [List.take]; refine Hq.ng rfl rfl rfl ?_; refine Hq.ng rfl rfl rfl ?_; refine Hq.ng rfl rfl rfl ?_; refine Hq.ng rfl rfl rfl ?_; refine Hq.ng rfl rfl rfl ?_; refine Hq.ng rfl rfl rfl ?_; refine Hq.ng rfl rfl rfl ?_; refine Hq.ng rfl rfl rfl ?_; refine Hq.ng rfl rfl rfl ?_; refine Hq.ng rfl rfl rfl ?_; refine Hq.yv (y_pickF rfl rfl) ?_; exact Hq.mend sbq
     simp only [List.drop]; refine Hq.nil ?_; refine sk [(0, _), (1, _), (2, _), (3, _), (9, _), (11, _), (84, _)] hK18 ?_; refine Hd.cond rfl (fun hc4 => ?_) (fun hc4 => ?_)
     ·try simp only [hyZ] at hc4
      have hb : ctlT lim w T op fd ev = (152, T) := by unfold ctlT; rw [if_neg h2, if_neg h3, if_pos ⟨hc4.1, by have := hc4.2; omega⟩]
      refine sr fun _ hK19 => ?_
      refine yv y_as <| fk [(8, _)] hK19 ?_; refine Hd.ret <| Hd.thenRet ?_; rw [hct, hb]; exact Hd.ret1 rfl (la, lc) rfl sq
     ·try simp only [hyZ] at hc4
      have h4 : ¬ (op = 1 ∧ lim ≤ (T.length : Int)) := by omega
      refine Hd.skip <| Hd.toK hK17 ?_; refine Hd.seq fun _ hK20 => ?_
      refine sr fun _ hK21 => ?_
      refine yv y_mv <| yv (y_gtr rfl rfl) ?_; refine yv y_mv ?_; apply Hd.andg 3 87 90 [(0, _), (1, _), (2, _), (3, _), (9, _), (11, _)] rfl sbq
      ·intro _
       simp only [List.take]; refine y2 y_mv <| y2 (y_lss rfl rfl) ?_; refine yv (y_pickT rfl rfl) ?_; refine Hd.nil ?_; exact Hd.mq
      ·intro _
       simp only [List.take]; refine n1 <| n1 <| yv (y_pickF rfl rfl) ?_; refine Hd.nil ?_; exact Hd.mq
      simp only [List.drop]; refine fk [(0, _), (1, _), (2, _), (3, _), (9, _), (11, _), (90, _)] hK21 ?_; refine Hd.cond rfl (fun hc5 => ?_) (fun hc5 => ?_)
      ·try simp only [hyZ] at hc5
       have hb : ctlT lim w T op fd ev = (151, T) := by unfold ctlT; rw [if_neg h2, if_neg h3, if_neg h4, if_pos ⟨by have := hc5.1; omega, by have := hc5.2; omega⟩]
       refine sr fun _ hK22 => ?_
       refine yv y_as <| fk [(8, _)] hK22 ?_; refine Hd.ret <| Hd.thenRet ?_; rw [hct, hb]; exact Hd.ret1 rfl (la, lc) rfl sq
      ·try simp only [hyZ] at hc5
       have h5 : ¬ (1 < op ∧ posR T fd < 0) := by omega
       have hfin : ctlT lim w T op fd ev = (0, insR (xT w T op fd ev) (decide (op = 3)) T) := by unfold ctlT; rw [if_neg h2, if_neg h3, if_neg h4, if_neg h5]
       obtain ⟨r, hr⟩ : ∃ r, readyR w fd = r := ⟨_, rfl⟩
       have hnw : newT w fd ev = ⟨fd, wireN (w.at fd), ev, hasT ev 1, hasT ev 4, r.r, r.w⟩ := by unfold newT; rw [hr]
       refine Hd.skip <| Hd.toK hK20 ?_; refine sr fun _ hK23 => ?_
       refine yv y_as <| fk [(0, _), (1, _), (2, _), (3, _), (9, _), (11, _), (12, _)] hK23 ?_; refine sr fun _ hK24 => ?_
       refine yv y_mv <| yv y_np <| yv (y_f 0 39 Tryz.underlying60 sz39) ?_; refine yv (y_l1 ag39 rfl) ?_; refine yv y_mv <| callE rfl fk81 (Rf.rReady_ct _ rb w hw fd) sq ?_; intro _; rw [hr]; refine Hd.alloc zr105 (fun b13 => ?_); refine Hd.storeA (us := encR r) sz105 rfl rfl rfl (by simp [Value.oneCell']) pkk (by exact rfl) ?_; refine fk [(0, _), (1, _), (2, _), (3, _), (9, _), (11, _), (12, _), (13, _)] hK24 ?_; refine Hd.cutK (ι := Nat) [(0, _), (1, _), (2, _), (11, _), (12, _)] (fun b14 => [(14, .pointer (some ⟨b14, 0, none⟩))]) (fun b14 => pt b14 (encRi ⟨fd, wireN (w.at fd), ev, hasT ev 1, hasT ev 4, r.r, r.w⟩) 65 :: RlP eb rb lim la lc T (Rf.RwP rb w :: L)) ?_ ?_ ⟨rfl, rfl, rfl, rfl, rfl, trivial⟩
       ·refine Hd.drawsH ([pt b13 (encR r) 105]) (fun j => !([13].contains j)) mixed ?_
        simp only [List.length, Nat.zero_add, Nat.reduceAdd]; refine tH 0 rfl y_mv ?_; refine tH 1 rfl y_mv ?_; refine tH 2 rfl y_mv ?_; refine tH 3 rfl y_mv ?_; refine tH 5 rfl y_mv ?_; refine tH 7 rfl (y_f 5 30 Tryz.underlying105 sz30) ?_; refine tH 8 rfl (y_l1 ag30 rfl) ?_; refine tH 9 rfl (y_f 6 30 Tryz.underlying105 sz30) ?_; refine tH 10 rfl (y_l1 ag30 rfl) ?_; refine Hd.eitherH 4 12 rfl rfl kq ?_ ?_
        ·refine callE rfl fk82 (rhas_ct _ ev 1 (by decide) hev) sq ?_
         intro _; refine Hd.nil <| thenN <| heldK (J := (fun j => !([13].contains j))) (i := 4) sq ?_; refine Hd.eitherH 6 12 rfl rfl kq ?_ ?_
         ·refine callE rfl fk82 (rhas_ct _ ev 4 (by decide) hev) sq ?_
          intro _; refine Hd.nil <| thenN <| heldK (J := (fun j => !([13].contains j))) (i := 6) sq ?_; refine tH 11 rfl (y_build (vs := [(0, _), (1, _), (2, _), (3, _), (4, _), (5, _), (6, _)]) rfl (by exact bd24_108 ..)) ?_; refine onlyH 12 rfl kq ?_; refine Hd.alloc zr65 (fun b14 => ?_); refine Hd.nil <| thenN <| heldK (J := (fun j => !([13].contains j))) (i := 12) sq ?_; refine onlyH 13 rfl kq ?_; refine Hd.storeA (us := encRi ⟨fd, wireN (w.at fd), ev, hasT ev 1, hasT ev 4, r.r, r.w⟩) sz65 rfl rfl rfl (by simp [Value.oneCell']) pkk (by exact rfl) ?_; refine Hd.nil <| thenN <| Hd.heldN (J := (fun j => !([13].contains j))) (i := 13) rfl ?_; refine endH kq ?_; refine slots [(0, _), (1, _), (2, _), (11, _), (12, _), (14, _)] sbq ?_; refine thenN ?_; exact Hd.meet b14 sbq sq
         ·refine Hd.alloc zr65 (fun b14 => ?_)
          refine Hd.nil <| thenN <| heldK (J := (fun j => !([13].contains j))) (i := 12) sq ?_; refine onlyH 6 rfl kq ?_; refine callE rfl fk82 (rhas_ct _ ev 4 (by decide) hev) sq ?_; intro _; refine Hd.nil <| thenN <| heldK (J := (fun j => !([13].contains j))) (i := 6) sq ?_; refine tH 11 rfl (y_build (vs := [(0, _), (1, _), (2, _), (3, _), (4, _), (5, _), (6, _)]) rfl (by exact bd24_108 ..)) ?_; refine onlyH 13 rfl kq ?_; refine Hd.storeA (us := encRi ⟨fd, wireN (w.at fd), ev, hasT ev 1, hasT ev 4, r.r, r.w⟩) sz65 rfl rfl rfl (by simp [Value.oneCell']) pkk (by exact rfl) ?_; refine Hd.nil <| thenN <| Hd.heldN (J := (fun j => !([13].contains j))) (i := 13) rfl ?_; refine endH kq ?_; refine slots [(0, _), (1, _), (2, _), (11, _), (12, _), (14, _)] sbq ?_; refine thenN ?_; exact Hd.meet b14 sbq sq
        ·refine Hd.alloc zr65 (fun b14 => ?_)
         refine Hd.nil <| thenN <| heldK (J := (fun j => !([13].contains j))) (i := 12) sq ?_; refine onlyH 4 rfl kq ?_; refine callE rfl fk82 (rhas_ct _ ev 1 (by decide) hev) sq ?_; intro _; refine Hd.nil <| thenN <| heldK (J := (fun j => !([13].contains j))) (i := 4) sq ?_; refine onlyH 6 rfl kq ?_; refine callE rfl fk82 (rhas_ct _ ev 4 (by decide) hev) sq ?_; intro _; refine Hd.nil <| thenN <| heldK (J := (fun j => !([13].contains j))) (i := 6) sq ?_; refine tH 11 rfl (y_build (vs := [(0, _), (1, _), (2, _), (3, _), (4, _), (5, _), (6, _)]) rfl (by exact bd24_108 ..)) ?_; refine onlyH 13 rfl kq ?_; refine Hd.storeA (us := encRi ⟨fd, wireN (w.at fd), ev, hasT ev 1, hasT ev 4, r.r, r.w⟩) sz65 rfl rfl rfl (by simp [Value.oneCell']) pkk (by exact rfl) ?_; refine Hd.nil <| thenN <| Hd.heldN (J := (fun j => !([13].contains j))) (i := 13) rfl ?_
         refine endH kq ?_; refine slots [(0, _), (1, _), (2, _), (11, _), (12, _), (14, _)] sbq ?_; refine thenN ?_; exact Hd.meet b14 sbq sq
       ·intro b14
        obtain ⟨x, hx⟩ : ∃ x, xT w T op fd ev = x := ⟨_, rfl⟩
        have hxf : x.fd = fd := by rw [← hx]; unfold xT; split <;> rfl
        rw [hx] at hfin; refine Hd.cutK (ι := Unit) [(0, _), (1, _), (2, _), (12, _), (14, _)] (fun _ => []) (fun _ => pt b14 (encRi x) 65 :: RlP eb rb lim la lc T (Rf.RwP rb w :: L)) ?_ ?_ ⟨rfl, rfl, rfl, rfl, rfl, trivial⟩
        ·refine sr fun _ hK25 => ?_
         refine yv y_mv <| yv (y_eql rfl rfl) ?_; refine fk [(0, _), (1, _), (2, _), (11, _), (12, _), (14, _), (110, _)] hK25 ?_; refine Hd.cond rfl (fun hc6 => ?_) (fun hc6 => ?_)
         ·try simp only [hyZ] at hc6
          obtain ⟨k, z, hk, hz⟩ : ∃ (k : Nat) (z : RiA), posR T fd = (k : Int) ∧ T[k]? = some z := by
           have h0 : 0 ≤ posR T fd := by omega
           unfold posR at h0 ⊢
           split at h0
           ·rename_i i hi
            obtain ⟨hlt, _⟩ := List.findIdx?_eq_some_iff_getElem.1 hi
            exact ⟨i, T[i], (by rfl), List.getElem?_eq_getElem hlt⟩
           ·omega
          have hkl : k < T.length := (List.getElem?_eq_some_iff.1 hz).1
          have hze := hle z (List.mem_of_getElem? hz)
          have hx2 : x = modT ⟨fd, wireN (w.at fd), ev, hasT ev 1, hasT ev 4, r.r, r.w⟩ z := by
           rw [← hx]; unfold xT; rw [if_pos hc6, hnw, hk, Int.toNat_natCast, List.getD_eq_getElem?_getD, hz]; rfl
          rw [hk]; refine sr fun _ hK26 => ?_
          refine yv y_mv <| yv y_np <| yv (y_f 2 58 Tryz.underlying60 sz58) ?_; refine yv (y_l1 ag58 rfl) ?_; refine yv y_mv <| yv (y_idxR (j := k) (ad := la) Tryz.underlying58 sz65 rfl rfl hkl (RdS.own (ad := la) (us := T.flatMap encRi) pkk)) ?_; refine yv (y_loadRn (vs := encRi z) ag65 rfl (RdS.own (ad := la) (us := T.flatMap encRi) pkk) (flat_cells encRi 7 (fun _ => rfl) hz) sz65 (by simp)) ?_; refine Hd.alloc zr65 (fun b15 => ?_); refine Hd.storeA (us := encRi z) sz65 rfl rfl rfl (by simp [Value.oneCell']) pkk (by exact rfl) ?_; refine fk [(0, _), (1, _), (2, _), (12, _), (14, _), (15, _)] hK26 ?_; refine sr fun _ hK27 => ?_
          refine yv (y_f 2 3 Tryz.underlying65 sz3) ?_; refine yv (y_l1 ag3 rfl) ?_; refine callE rfl fk82 (rhas_ct _ z.ev 32 (by decide) hze) sq ?_; intro _; refine yv (y_not rfl) ?_; refine yv y_as <| fk [(0, _), (1, _), (2, _), (12, _), (14, _), (15, _), (16, _)] hK27 ?_; refine sr fun _ hK28 => ?_
          refine yv (y_f 3 4 Tryz.underlying65 sz4) ?_; refine yv (y_l1 ag4 rfl) ?_; refine yv y_mv ?_; apply Hd.andg (q := ((z.i || !hasT z.ev 32) || !hasT z.ev 1)) 12 124 136 [(0, _), (1, _), (2, _), (12, _), (14, _), (15, _), (16, _)] rfl sbq
          ·intro hg22_124
           try simp only [hyZ] at hg22_124
           simp only [List.take]; refine y2 (y_f 3 4 Tryz.underlying65 sz4) ?_; refine y2 (y_l1 ag4 rfl) ?_; refine y2 y_mv ?_; apply Hd.org 2 127 129 [(0, _), (1, _), (2, _), (12, _), (14, _), (15, _), (16, _), (124, _)] rfl sbq
           ·intro _
            simp only [List.take]; refine n1 <| y2 (y_pickT rfl rfl) ?_; refine Hd.nil ?_; exact Hd.mq
           ·intro _
            simp only [List.take]; refine y2 y_mv <| y2 (y_pickF rfl rfl) ?_; refine Hd.nil ?_; exact Hd.mq
           simp only [List.drop]; refine y2 y_mv ?_; apply Hd.org 5 130 135 [(0, _), (1, _), (2, _), (12, _), (14, _), (15, _), (16, _), (124, _)] rfl sbq
           ·intro _
            simp only [List.take]; refine n1 <| n1 <| n1 <| n1 <| y2 (y_pickT rfl rfl) ?_; refine Hd.nil ?_; exact Hd.mq
           ·intro hg22_130
            try simp only [hyZ] at hg22_130
            simp only [List.take]; refine y2 (y_f 2 3 Tryz.underlying65 sz3) ?_; refine y2 (y_l1 ag3 rfl) ?_; refine Hd.unguard rfl rfl ?_; refine callE rfl fk82 (rhas_ct _ z.ev 1 (by decide) hze) sq ?_; intro _; refine y2 (y_not rfl) ?_; refine y2 (y_pickF rfl rfl) ?_; refine Hd.nil ?_; exact Hd.mq
           simp only [List.drop]; refine yv (y_pickT rfl rfl) ?_; refine Hd.nil ?_; exact Hd.mq
          ·intro _
           simp only [List.take]; refine n1 <| n1 <| n1 <| n1 <| n1 <| n1 <| n1 <| n1 <| n1 <| n1 <| n1 <| yv (y_pickF rfl rfl) ?_; refine Hd.nil ?_; exact Hd.mq
          simp only [List.drop]; refine yv (y_f 3 4 Tryz.underlying65 sz4) ?_; refine Hd.store1 sz4 rfl rfl rfl pkk (by simp; done) ?_
          try simp only [hyS]
          refine fk [(0, _), (1, _), (2, _), (12, _), (14, _), (15, _), (16, _)] hK28 ?_; refine Hd.region <| yv (y_f 4 4 Tryz.underlying65 sz4) ?_; refine yv (y_l1 ag4 rfl) ?_; refine yv y_mv ?_; apply Hd.andg (q := ((z.o || !hasT z.ev 32) || !hasT z.ev 4)) 12 140 152 [(0, _), (1, _), (2, _), (12, _), (14, _)] rfl sbq
          ·intro hg23_140
           try simp only [hyZ] at hg23_140
           simp only [List.take]; refine y2 (y_f 4 4 Tryz.underlying65 sz4) ?_; refine y2 (y_l1 ag4 rfl) ?_; refine y2 y_mv ?_; apply Hd.org 2 143 145 [(0, _), (1, _), (2, _), (12, _), (14, _), (15, _), (140, _)] rfl sbq
           ·intro _
            simp only [List.take]; refine n1 <| y2 (y_pickT rfl rfl) ?_; refine Hd.nil ?_; exact Hd.mq
           ·intro _
            simp only [List.take]; refine y2 y_mv <| y2 (y_pickF rfl rfl) ?_; refine Hd.nil ?_; exact Hd.mq
           simp only [List.drop]; refine y2 y_mv ?_; apply Hd.org 5 146 151 [(0, _), (1, _), (2, _), (12, _), (14, _), (140, _)] rfl sbq
           ·intro _
            simp only [List.take]; refine n1 <| n1 <| n1 <| n1 <| y2 (y_pickT rfl rfl) ?_; refine Hd.nil ?_; exact Hd.mq
           ·intro hg23_146
            try simp only [hyZ] at hg23_146
            simp only [List.take]; refine y2 (y_f 2 3 Tryz.underlying65 sz3) ?_; refine y2 (y_l1 ag3 rfl) ?_; refine Hd.unguard rfl rfl ?_; refine callE rfl fk82 (rhas_ct _ z.ev 4 (by decide) hze) sq ?_; intro _; refine y2 (y_not rfl) ?_; refine y2 (y_pickF rfl rfl) ?_; refine Hd.nil ?_; exact Hd.mq
           simp only [List.drop]; refine yv (y_pickT rfl rfl) ?_; refine Hd.nil ?_; exact Hd.mq
          ·intro _
           simp only [List.take]; refine n1 <| n1 <| n1 <| n1 <| n1 <| n1 <| n1 <| n1 <| n1 <| n1 <| n1 <| yv (y_pickF rfl rfl) ?_; refine Hd.nil ?_; exact Hd.mq
          simp only [List.drop]; refine yv (y_f 4 4 Tryz.underlying65 sz4) ?_; refine Hd.store1 sz4 rfl rfl rfl pkk (by simp; done) ?_
          try simp only [hyS]
          refine Hd.nil <| slots [(0, _), (1, _), (2, _), (12, _), (14, _)] sbq ?_; refine thenN ?_; rw [hx2]; exact Hd.meet () sbq (Ent.sep (.eq pkk (pt_eq (by rfl)) enn))
         ·try simp only [hyZ] at hc6
          refine Hd.skip <| thenN ?_
          have hx2 : x = ⟨fd, wireN (w.at fd), ev, hasT ev 1, hasT ev 4, r.r, r.w⟩ := by
           rw [← hx]; unfold xT; rw [if_neg hc6, hnw]
          rw [hx2]; exact Hd.meet () sbq sq
        ·intro _
         refine sr fun _ hK29 => ?_
         refine yv y_mv <| yv (y_eql rfl rfl) ?_; refine yv y_as <| fk [(0, _), (2, _), (12, _), (14, _), (17, _)] hK29 ?_; refine Hd.seq fun _ hK30 => ?_
         refine sr fun _ hK31 => ?_
         refine yv y_as <| fk [(0, _), (2, _), (12, _), (14, _), (17, _), (18, _)] hK31 ?_; refine Hd.block <| Hd.loopK (ι := Nat × Option Addr × Nat) [(0, _), (2, _), (14, _)] (fun q_ => [(12, .slice q_.2.1 (insF x (decide (op = 3)) (T.take q_.1)).2.length q_.2.2), (17, .bool (insF x (decide (op = 3)) (T.take q_.1)).1), (18, .int .i64 (q_.1 : Int))]) (fun q_ => pu (q_.1 ≤ T.length) :: own 65 7 q_.2.1 (insF x (decide (op = 3)) (T.take q_.1)).2.length q_.2.2 ((insF x (decide (op = 3)) (T.take q_.1)).2.flatMap encRi) :: pt b14 (encRi x) 65 :: RlP eb rb lim la lc T (Rf.RwP rb w :: L)) (fun q_ => T.length - q_.1) (0, none, 0) sbq sbq (fun q t => Ent.sep (.pure (Nat.zero_le _) (.ownNil enn)) q t) ?_; rintro ⟨k, ia, ic⟩
         try dsimp only
         refine Hd.pure (fun hp0 => ?_)
         try dsimp only at hp0
         refine Hd.seq fun _ hK32 => ?_
         refine sr fun _ hK33 => ?_
         refine yv y_mv <| yv y_mv <| yv y_np <| yv (y_f 2 58 Tryz.underlying60 sz58) ?_; refine yv (y_l1 ag58 rfl) ?_; refine yv (y_len Tryz.underlying58 rfl) ?_; refine yv (y_lss rfl rfl) ?_; refine fk [(0, _), (2, _), (12, _), (14, _), (17, _), (18, _), (162, _)] hK33 ?_; refine Hd.cond rfl (fun hc7 => ?_) (fun hc7 => ?_)
         ·try simp only [hyZ] at hc7
          have hk : k < T.length := by omega
          obtain ⟨y, hy⟩ : ∃ y, T[k]? = some y := ⟨_, List.getElem?_eq_getElem hk⟩
          have hs := insF_succ x (decide (op = 3)) hy
          have hln := insF_len x (decide (op = 3)) (T.take k)
          rw [List.length_take] at hln
          obtain ⟨S, hS⟩ : ∃ S, insF x (decide (op = 3)) (T.take k) = S := ⟨_, rfl⟩
          rw [hS] at hs hln; rw [hS]; refine Hd.skip <| Hd.toK hK32 ?_; refine Hd.seq fun _ hK34 => ?_
          refine Hd.block ?_
          obtain ⟨D1, hD1⟩ : ∃ D1, (S.1 || decide (fd ≤ y.fd)) = D1 := ⟨_, rfl⟩
          obtain ⟨L1, hL1⟩ : ∃ L1, (S.2 ++ if S.1 = false ∧ fd ≤ y.fd then [x] else []) = L1 := ⟨_, rfl⟩
          refine Hd.cutK (ι := Option Addr × Nat) [(0, _), (2, _), (14, _), (18, _)] (fun p => [(12, .slice p.1 L1.length p.2), (17, .bool D1)]) (fun p => own 65 7 p.1 L1.length p.2 (L1.flatMap encRi) :: pt b14 (encRi x) 65 :: RlP eb rb lim la lc T (Rf.RwP rb w :: L)) ?_ ?_ ⟨rfl, rfl, rfl, rfl, trivial⟩
          ·refine sr fun _ hK35 => ?_
           refine yv y_mv <| yv (y_not rfl) ?_; refine yv y_mv ?_; apply Hd.andg 11 167 178 [(0, _), (2, _), (12, _), (14, _), (17, _), (18, _)] rfl sbq
           ·intro hg28_167
            try simp only [hyZ] at hg28_167
            simp only [List.take]; refine y2 y_mv <| y2 y_np <| y2 (y_f 2 58 Tryz.underlying60 sz58) ?_; refine y2 (y_l1 ag58 rfl) ?_; refine y2 y_mv <| y2 (y_idxR Tryz.underlying58 sz65 rfl rfl (by omega) (by exact RdS.own pkk)) ?_; refine y2 (y_fR 0 3 Tryz.underlying65 sz3) ?_; refine y2 (y_loadR1 ag3 rfl (RdS.own (ad := la) (us := T.flatMap encRi) pkk) (flat_cells encRi 7 (fun _ => rfl) hy 0 _ rfl)) ?_; refine y2 y_mv <| y2 (y_geq rfl rfl) ?_; refine yv (y_pickT rfl rfl) ?_; refine Hd.nil ?_; exact Hd.mq
           ·intro _
            simp only [List.take]; refine n1 <| n1 <| n1 <| n1 <| n1 <| n1 <| n1 <| n1 <| n1 <| n1 <| yv (y_pickF rfl rfl) ?_; refine Hd.nil ?_; exact Hd.mq
           simp only [List.drop]; refine fk [(0, _), (2, _), (12, _), (14, _), (17, _), (18, _), (178, _)] hK35 ?_; refine Hd.cond rfl (fun hc8 => ?_) (fun hc8 => ?_)
           ·try simp only [hyZ] at hc8
            rw [if_pos (show S.1 = false ∧ fd ≤ y.fd from ⟨hc8.1, by have := hc8.2; omega⟩)] at hL1; rw [decide_eq_true (show fd ≤ y.fd by have := hc8.2; omega), Bool.or_true] at hD1; refine sr fun _ hK36 => ?_
            refine yv y_mv <| yv (y_loadn (us := [_, _, _, _, _, _, _]) ag65 rfl (Rd.pt pkk (by (first | (intro j v e; rcases j with _|_|_|_|_|_|_|_|_|_|_|_|j <;> first | exact e | exact absurd e (by simp))))) (by exact sz65)) ?_; refine Hd.bslice (vs := [(0, _)]) rfl (by exact bs24_181 ..) (fun b181 => ?_); refine Hd.append Tryz.underlying58 ty65 rfl rfl rfl pkk (by exact RdS.rd (Rd.pt pkk (fun j v e => by simpa using e)) rfl) (by simp [Value.oneCell']; done) (by simp only [maxLen]; omega) (by omega) (fun ad182 cap182 => ?_); refine yv y_as <| fk [(0, _), (2, _), (12, _), (14, _), (18, _)] hK36 ?_; refine Hd.region <| yv y_as <| Hd.nil <| slots [(0, _), (2, _), (12, _), (14, _), (17, _), (18, _)] sbq ?_; refine thenN ?_; subst hL1 hD1; exact Hd.meet (ad182, cap182) ⟨by rw [List.length_append]; rfl, by repeat (first | exact trivial | refine ⟨rfl, ?_⟩)⟩ (Ent.sep (.eq pkk (own_eq3 (by rw [List.length_append]; rfl) rfl (by rw [List.flatMap_append]; rfl)) enn))
           ·try simp only [hyZ] at hc8
            have hn8 : ¬ (S.1 = false ∧ fd ≤ y.fd) := by
             rintro ⟨h, g⟩
             rcases hc8 with e | e
             ·rw [h] at e; cases e
             ·omega
            rw [if_neg hn8, List.append_nil] at hL1
            have hd8 : S.1 = D1 := by
             rw [← hD1]
             cases h : S.1 with
             | true => rfl
             | false => rw [decide_eq_false (fun g => hn8 ⟨h, g⟩)]; rfl
            refine Hd.skip <| thenN ?_; subst hL1; exact Hd.meet (ia, ic) ⟨rfl, by rw [hd8]; rfl, by repeat (first | exact trivial | refine ⟨rfl, ?_⟩)⟩ sq
          ·rintro ⟨ja, jc⟩
           dsimp only
           have hs2 : insF x (decide (op = 3)) (T.take (k + 1)) = (D1, L1 ++ if y.fd ≠ fd then [y] else []) := by
            rw [hs, ← hD1, ← hL1]; unfold insS; rw [hxf]
           have hL1l : L1.length ≤ 200 := by
            rw [← hL1, List.length_append]
            split <;> simp <;> omega
           refine sr fun _ hK37 => ?_
           refine yv y_mv <| yv y_np <| yv (y_f 2 58 Tryz.underlying60 sz58) ?_; refine yv (y_l1 ag58 rfl) ?_; refine yv y_mv <| yv (y_idxR Tryz.underlying58 sz65 rfl rfl (by omega) (by exact RdS.own pkk)) ?_; refine yv (y_fR 0 3 Tryz.underlying65 sz3) ?_; refine yv (y_loadR1 ag3 rfl (RdS.own (ad := la) (us := T.flatMap encRi) pkk) (flat_cells encRi 7 (fun _ => rfl) hy 0 _ rfl)) ?_; refine yv y_mv <| yv (y_neq rfl rfl) ?_; refine fk [(0, _), (2, _), (12, _), (14, _), (17, _), (18, _), (192, _)] hK37 ?_; refine Hd.cond rfl (fun hc9 => ?_) (fun hc9 => ?_)
           ·try simp only [hyZ] at hc9
            rw [if_pos (by simpa using hc9)] at hs2; refine Hd.region <| yv y_mv <| yv y_mv <| yv y_np <| yv (y_f 2 58 Tryz.underlying60 sz58) ?_; refine yv (y_l1 ag58 rfl) ?_; refine yv y_mv <| yv (y_idxR Tryz.underlying58 sz65 rfl rfl (by omega) (by exact RdS.own pkk)) ?_; refine yv (y_loadRn (vs := encRi y) ag65 rfl (RdS.own (ad := la) (us := T.flatMap encRi) pkk) (flat_cells encRi 7 (fun _ => rfl) hy) sz65 (by simp)) ?_; refine Hd.bslice (vs := [(0, _)]) rfl (by exact bs24_201 ..) (fun b201 => ?_); refine Hd.append Tryz.underlying58 ty65 rfl rfl rfl pkk (by exact RdS.rd (Rd.pt pkk (fun j v e => by simpa using e)) rfl) (by simp [Value.oneCell']; done) (by simp only [maxLen]; omega) (by omega) (fun ad202 cap202 => ?_); refine yv y_as <| Hd.nil <| slots [(0, _), (2, _), (12, _), (14, _), (17, _), (18, _)] sbq ?_; refine Hd.inB <| Hd.toK hK34 ?_
            refine Hd.region <| yv y_mv <| yv (y_addn rfl rfl (by simp only [InK]; omega)) ?_; refine yv y_as <| Hd.nil <| slots [(0, _), (2, _), (12, _), (14, _), (17, _), (18, _)] sbq ?_; refine thenN <| Hd.again (k + 1, ad202, cap202) (by show T.length - (k + 1) < T.length - k; omega) (by (try dsimp only); rw [hs2]; refine ⟨by rw [List.length_append]; rfl, ?_⟩; repeat (first | exact trivial | refine ⟨rfl, ?_⟩)) (fun q t => ?_); rw [hs2]; exact Ent.sep (.pure (show k + 1 ≤ T.length by omega) (.eq pkk (own_eq3 (by rw [List.length_append]; rfl) rfl (by rw [List.flatMap_append]; rfl)) enn)) q t
           ·try simp only [hyZ] at hc9
            rw [if_neg (by simpa using hc9), List.append_nil] at hs2; refine Hd.skip <| Hd.inB <| Hd.toK hK34 ?_; refine Hd.region <| yv y_mv <| yv (y_addn rfl rfl (by simp only [InK]; omega)) ?_; refine yv y_as <| Hd.nil <| slots [(0, _), (2, _), (12, _), (14, _), (17, _), (18, _)] sbq ?_; refine thenN <| Hd.again (k + 1, ja, jc) (by show T.length - (k + 1) < T.length - k; omega) (by (try dsimp only); rw [hs2]; repeat (first | exact trivial | refine ⟨rfl, ?_⟩)) (fun q t => ?_); rw [hs2]; exact Ent.sep (.pure (show k + 1 ≤ T.length by omega) enn) q t
         ·try simp only [hyZ] at hc7
          obtain rfl : k = T.length := by omega
          rw [List.take_of_length_le (Nat.le_refl _)]
          have hs := insF_eq x (decide (op = 3)) T
          have hln := insF_len x (decide (op = 3)) T
          obtain ⟨S, hS⟩ : ∃ S, insF x (decide (op = 3)) T = S := ⟨_, rfl⟩
          rw [hS] at hs hln; rw [hS]; refine Hd.exit <| Hd.thenExit <| Hd.thenExit <| Hd.inBexit <| Hd.toK hK30 ?_; refine Hd.seq fun _ hK38 => ?_
          refine sr fun _ hK39 => ?_
          refine yv y_mv <| yv (y_not rfl) ?_; refine fk [(0, _), (12, _), (14, _), (204, _)] hK39 ?_; refine Hd.cond rfl (fun hc10 => ?_) (fun hc10 => ?_)
          ·try simp only [hyZ] at hc10
           rw [if_neg (by rw [hc10]; decide)] at hs; refine Hd.region <| yv y_mv <| yv (y_loadn (us := [_, _, _, _, _, _, _]) ag65 rfl (Rd.pt pkk (by (first | (intro j v e; rcases j with _|_|_|_|_|_|_|_|_|_|_|_|j <;> first | exact e | exact absurd e (by simp))))) (by exact sz65)) ?_; refine Hd.bslice (vs := [(0, _)]) rfl (by exact bs24_207 ..) (fun b207 => ?_); refine Hd.append Tryz.underlying58 ty65 rfl rfl rfl pkk (by exact RdS.rd (Rd.pt pkk (fun j v e => by simpa using e)) rfl) (by simp [Value.oneCell']; done) (by simp only [maxLen]; omega) (by omega) (fun ad208 cap208 => ?_); refine yv y_as <| fk [(0, _), (12, _)] hK38 ?_; refine sr fun _ hK40 => ?_
           refine yv y_mv <| yv y_mv <| yv y_np <| yv (y_f 2 58 Tryz.underlying60 sz58) ?_; refine Hd.store1 sz58 rfl rfl rfl pkk (by simp; done) ?_
           try simp only [hyS]
           refine fk [] hK40 ?_; refine sr fun _ hK41 => ?_
           refine yv y_as <| fk [(8, _)] hK41 ?_; refine Hd.ret ?_; rw [hct, hfin, hs]; exact Hd.ret1 rfl (ad208, cap208) rfl (Ent.sep (.eq pkk (pt_eq (by rw [List.length_append]; rfl)) (.eq pkk (own_eq3 (by rw [List.length_append]; rfl) rfl (by rw [List.flatMap_append]; rfl)) enn)))
          ·try simp only [hyZ] at hc10
           rw [if_pos (by simpa using hc10), List.append_nil] at hs; refine Hd.skip <| Hd.toK hK38 ?_; refine sr fun _ hK42 => ?_
           refine yv y_mv <| yv y_mv <| yv y_np <| yv (y_f 2 58 Tryz.underlying60 sz58) ?_; refine Hd.store1 sz58 rfl rfl rfl pkk (by simp; done) ?_
           try simp only [hyS]
           refine fk [] hK42 ?_; refine sr fun _ hK43 => ?_
           refine yv y_as <| fk [(8, _)] hK43 ?_; refine Hd.ret ?_; rw [hct, hfin, hs]; exact Hd.ret1 rfl (ia, ic) rfl sq
abbrev evR (x : RiA) : Int × Int := (x.fd, x.ev)
theorem int_ref (g : Int → Option PxA) (w : WA) : intE (ixF g) (allL (ixF g) w) = (refL g w).map evR := by
 show intE (ixF g) (allP g w) = _
 rw [← ref_fd]; unfold intE; rw [List.map_map]; refine List.map_congr_left fun x hx => ?_
 obtain ⟨p, _, hg, e⟩ := ref_mem hx
 show (x.fd, evE (ixF g) x.fd) = (x.fd, x.ev)
 have h1 : evE (ixF g) x.fd = (PxA.ix p).events := by
  unfold evE ixF; rw [hg]; rfl
 have h2 : x.ev = (PxA.ix p).events := by rw [e]; rfl
 rw [h1, h2]
theorem emp_len {α : Type} (l : List α) : (!l.isEmpty) = decide (0 < (l.length : Int)) := by
 cases l with
 | nil => rfl
 | cons x t =>
  rw [decide_eq_true (by rw [List.length_cons]; omega)]; rfl
theorem poll_ref {g : Int → Option PxA} {w : WA} (most : Int) (ord : List Int) : offF w (ixF g) (polL (ixF g) w most ord) = ixF (offG w g (polL (ixF g) w most ord)) ∧ offL (refL g w) (polL (ixF g) w most ord) = refL (offG w g (polL (ixF g) w most ord)) w := by
 have h : ∀ x ∈ polL (ixF g) w most ord, (g x.1).isSome = true ∧ 0 ≤ x.2 ∧ x.2 < 64 := fun x hx => due_in ((polL_sub (ixF g) w most ord).1 x hx)
 exact ⟨offG_eq w _ g h, (offL_ref w _ g fun x hx => (h x hx).1).symm⟩
theorem pollA_ct (L : List SP) (pb wb mb : Nat) (limit : Int) (f : Int → Option IxA) (m : Nat) (hm : m ≤ 1000000) (w : WA) (most : Int) (ao : Option Addr) (co : Nat) (ord : List Int) (ho : RdS L 1 ao ord.length (vi ord)) (hol : ord.length ≤ 1000000) :
  Ct Tryz.prog 20 #[.pointer (some ⟨pb, 0, none⟩), .int .i64 most, .slice ao ord.length co] (EpB pb wb mb limit f m w L) (fun i : Option Addr × Nat × Nat => .tuple #[.slice i.1 (polL f w most ord).length i.2.1, .int .i64 (if most < 1 then 2 else 0)])
   (fun i => pu (i.2.2 ≤ m + (polL f w most ord).length) :: own 51 2 i.1 (polL f w most ord).length i.2.1 ((polL f w most ord).flatMap encPo) :: EpB pb wb mb limit (offF w f (polL f w most ord)) i.2.2 w L) := by
 by_cases h1 : most < 1
 ·have e : polL f w most ord = [] := by unfold polL; rw [show most.toNat = 0 by omega, List.take_zero]
  rw [e, if_pos h1]; exact Ct.to (pollbad_ct (mp mb .i64 (fmap f) m :: WorldP wb w :: L) pb wb mb limit most h1 _) (fun k s => s) fun _ => ⟨(none, 0, m), rfl, fun k s => Ent.sep (.pure (Nat.le_refl _) (.ownNil enn)) k s⟩
 ·rw [if_neg h1]
  exact poll_ct L pb wb mb limit f m hm w most (by omega) ao co ord ho hol
theorem rpollA_ct (L : List SP) (eb rb : Nat) (lim : Int) (ad : Option Addr) (c : Nat) (g : Int → Option PxA) (w : WA) (hw : WOk w) (hI : InvP g w) (most : Int) (ao : Option Addr) (co : Nat) (ord : List Int) (ho : RdS L 1 ao ord.length (vi ord)) (hol : ord.length ≤ 200) :
  Ct Tryz.prog 25 #[.pointer (some ⟨eb, 0, none⟩), .int .i64 most, .slice ao ord.length co] (RlP eb rb lim ad c (refL g w) (Rf.RwP rb w :: L)) (fun i : Option Addr × Nat × Option Addr × Nat => .tuple #[.slice i.1 (polL (ixF g) w most ord).length i.2.1, .int .i64 (if most < 1 then 2 else 0)])
   (fun i => own 51 2 i.1 (polL (ixF g) w most ord).length i.2.1 ((polL (ixF g) w most ord).flatMap encPo) :: RlP eb rb lim i.2.2.1 i.2.2.2 (refL (offG w g (polL (ixF g) w most ord)) w) (Rf.RwP rb w :: L)) := by
 by_cases h1 : most < 1
 ·have e : polL (ixF g) w most ord = [] := by unfold polL; rw [show most.toNat = 0 by omega, List.take_zero]
  rw [e, if_pos h1]; exact Ct.to (rpollbad15_ct (RlP eb rb lim ad c (refL g w) (Rf.RwP rb w :: L)) eb most h1 _) (fun k s => s) fun _ => ⟨(none, 0, ad, c), rfl, fun k s => Ent.sep (.ownNil enn) k s⟩
 ·rw [if_neg h1, ← (poll_ref (g := g) (w := w) most ord).2]
  have ht := tidy_id hw hI
  have := rpoll15_ct L eb rb lim ad c (refL g w) w hw (ref_le g w) (by rw [ht]; exact ref_ev) (by rw [ht]; exact ref_nd g w) most (by omega) ao co ord ho hol
  rw [ht, due_ref] at this; exact this
theorem rctlA {g : Int → Option PxA} {w : WA} (hw : WOk w) (hI : InvP g w) (lim op fd : Int) {ev : Int} (hev : InK .i64 ev) : ctl15 lim w (refL g w) op fd ev = ((ctlG lim g w op fd ev).1, refL (ctlG lim g w op fd ev).2 w) := by
 unfold ctl15
 by_cases h : badT op ev
 ·rw [if_pos h]
  unfold ctlG; rw [if_pos h]
 ·rw [if_neg h, tidy_id hw hI, ctl_ref hw hev h]
structure PlI (K : Nat) (i : Nat) (w : WA) (g : Int → Option PxA) (m : Nat) (l : List RiA) : Prop where
 ok : WOk w
 lo : Lo K w
 inv : InvP g w
 m : m ≤ 96 * i
 td : tidyL w l = refL g w
 le : l.length ≤ 96
abbrev PlX (K i : Nat) := {q : WA × (Int → Option PxA) × Nat × List RiA × Option Addr × Nat // PlI K i q.1 q.2.1 q.2.2.1 q.2.2.2.1}
theorem plays15_ct (L : List SP) (lim : Int) (hlm : InK .u8 lim) (a1 : Option Addr) (c1 : Nat) (fs : List Ov) (hF : RdS L 5 a1 fs.length (fs.flatMap encO)) (hFo : ∀ o ∈ fs, OvOk L o) (a2 : Option Addr) (c2 : Nat) (xs : List Pv) (hX : RdS L 10 a2 xs.length (xs.flatMap encPv)) (hXo : ∀ p ∈ xs, PvOk L p) : Ct Tryz.prog 6 #[.int .u8 lim, .slice a1 fs.length c1, .slice a2 xs.length c2] (L) (fun _ : Unit => .bool true) (fun _ : Unit => L) := by
 refine Ct.o3 Tryz.func6 ?_; intro E
 show Hd E 196 _ _ _ _
 have hlm0 := hlm
 simp only [InK] at hlm0
 have hwl : IntKind.i64.wrap lim = lim := by rw [wrap_i64]; omega
 refine sr fun _ hK1 => ?_
 refine yv y_as <| fk [(0, _), (1, _), (2, _)] hK1 ?_; refine Hd.seq fun _ hK2 => ?_
 refine sr fun _ hK3 => ?_
 refine yv y_mv <| callE rfl fk14 (great11_ct _ a1 c1 fs hF) sq ?_; intro _; refine yv (y_gtr rfl rfl) ?_; refine yv y_mv ?_; apply Hd.org 4 26 30 [(0, _), (1, _), (2, _)] rfl sbq
 ·intro _
  simp only [List.take]; refine n1 <| n1 <| n1 <| yv (y_pickT rfl rfl) ?_; refine Hd.nil ?_; exact Hd.mq
 ·intro _
  simp only [List.take]; refine y2 y_mv <| y2 (y_len Tryz.underlying22 rfl) ?_; refine y2 (y_gtr rfl rfl) ?_; refine yv (y_pickF rfl rfl) ?_; refine Hd.nil ?_; exact Hd.mq
 simp only [List.drop]; refine yv y_mv ?_; apply Hd.org 4 31 35 [(0, _), (1, _), (2, _)] rfl sbq
 ·intro _
  simp only [List.take]; refine n1 <| n1 <| n1 <| yv (y_pickT rfl rfl) ?_; refine Hd.nil ?_; exact Hd.mq
 ·intro hg1_31
  try simp only [hyZ] at hg1_31
  simp only [List.take]; refine y2 y_mv <| Hd.unguard rfl rfl ?_; refine callE rfl fk15 (great15_ct _ a2 c2 xs hX) sq ?_; intro _; refine y2 (y_gtr rfl rfl) ?_; refine yv (y_pickF rfl rfl) ?_; refine Hd.nil ?_; exact Hd.mq
 simp only [List.drop]; refine fk [(0, _), (1, _), (2, _), (35, _)] hK3 ?_; refine Hd.cond rfl (fun hc0 => ?_) (fun hc0 => ?_)
 ·try simp only [hyZ] at hc0
  refine sr fun _ hK4 => ?_
  refine yv y_as <| fk [(6, _)] hK4 ?_; refine Hd.ret <| Hd.thenRet ?_; exact Hd.ret1 rfl () rfl sq
 ·try simp only [hyZ] at hc0
  have hb1 : ¬ 0 < gO fs ∧ fs.length ≤ 60 ∧ ¬ 0 < gP xs := by omega
  have hgo := gO_ok hb1.1
  have hgp := gP_ok hb1.2.2
  refine Hd.skip <| Hd.toK hK2 ?_; refine sr fun _ hK5 => ?_
  refine callE rfl fk16 (fresh_ct _) sq ?_; rintro ⟨pb, wb, rb⟩; dsimp only; refine yv y_as <| fk [(0, _), (1, _), (2, _), (7, _)] hK5 ?_; refine Hd.seq fun _ hK6 => ?_
  refine sr fun _ hK7 => ?_
  refine yv y_mv <| yv (y_len Tryz.underlying22 rfl) ?_; refine yv y_mv <| fk [(0, _), (1, _), (2, _), (7, _), (38, _), (39, _)] hK7 ?_; refine Hd.block <| Hd.loopK (ι := Nat) [(0, _), (1, _), (2, _), (7, _), (38, _)] (fun i => [(39, .int .i64 (i : Int))]) (fun i => pu (i ≤ fs.length ∧ Lo (100 * i) (runA newA (fs.take i))) :: BoP pb wb rb :: WorldP wb (runA newA (fs.take i)) :: Rf.RwP rb (runA newA (fs.take i)) :: L) (fun i => fs.length - i) 0 sbq sbq (Ent.sep (.pure ⟨Nat.zero_le _, newA_lo⟩ enn)) ?_; intro i
  try dsimp only
  refine Hd.pure (fun hp0 => ?_)
  try dsimp only at hp0
  refine sr fun _ hK8 => ?_
  refine yv (y_lss rfl rfl) ?_; refine fk [(0, _), (1, _), (2, _), (7, _), (38, _), (39, _), (40, _)] hK8 ?_; refine Hd.seq fun _ hK9 => ?_
  refine Hd.cond rfl (fun hc1 => ?_) (fun hc1 => ?_)
  ·try simp only [hyZ] at hc1
   have hi : i < fs.length := by omega
   obtain ⟨o, ho⟩ : ∃ o, fs[i]? = some o := ⟨_, List.getElem?_eq_getElem hi⟩
   have hoo := hFo o (List.mem_of_getElem? ho)
   have hod := hgo.2 o (List.mem_of_getElem? ho)
   have hrs : runA newA (fs.take (i + 1)) = doA (runA newA (fs.take i)) o := by rw [List.take_add_one, ho]; exact runA_snoc _ _ _
   refine Hd.wokW (.there .here) (fun hw => ?_)
   have hst := (do_stp hw o (by have := hoo.t; simp only [InK] at this; omega) (100 * i) (by omega) hp0.2).1
   rw [← hrs] at hst; refine Hd.skip <| Hd.toK hK9 ?_; refine Hd.seq fun _ hK10 => ?_
   refine Hd.block <| sr fun _ hK11 => ?_
   refine yv y_mv <| yv y_as <| fk [(0, _), (1, _), (2, _), (7, _), (8, _), (38, _), (39, _)] hK11 ?_; refine sr fun _ hK12 => ?_
   refine yv y_mv <| yv y_mv <| yv y_mv <| yv (y_idxR Tryz.underlying22 sz33 rfl rfl hi (RdS.mono hF sq)) ?_; refine yv (y_loadRn (vs := encO o) ag33 rfl (RdS.mono hF sq) (flat_cells encO 5 (fun _ => rfl) ho) sz33 (by simp)) ?_; refine callE rfl fk17 (do_ct _ pb wb rb _ (100 * i) (by omega) hp0.2 o hoo.t hod ?hD hoo.c) sq ?_
   case hD => exact RdS.mono hoo.rd sq
   intro _; rw [← hrs]; refine yv (y_not rfl) ?_; refine fk [(0, _), (1, _), (2, _), (7, _), (38, _), (39, _), (48, _)] hK12 ?_; refine Hd.condF rfl ?_; refine Hd.skip <| Hd.inB <| Hd.toK hK10 ?_; refine Hd.region <| yv (y_addn rfl rfl (by simp only [InK]; omega)) ?_; refine yv y_mv <| Hd.nil <| slots [(0, _), (1, _), (2, _), (7, _), (38, _), (39, _)] sbq ?_; refine thenN ?_; exact Hd.again (i + 1) (by omega) sbq (Ent.sep (.pure ⟨hi, hst⟩ enn))
  ·try simp only [hyZ] at hc1
   obtain rfl : i = fs.length := by omega
   rw [List.take_of_length_le (Nat.le_refl _)] at hp0 ⊢
   obtain ⟨w, hrw⟩ : ∃ w, runA newA fs = w := ⟨_, rfl⟩
   rw [hrw] at hp0 ⊢; refine Hd.wokW (.there .here) (fun hw0 => ?_)
   have hlo0 := hp0.2.mono (show 100 * fs.length ≤ 6000 by omega)
   refine Hd.exit <| Hd.thenExit <| Hd.thenExit <| Hd.inBexit <| Hd.toK hK6 ?_; refine sr fun _ hK13 => ?_
   refine yv y_mv <| yv y_np <| yv (y_f 0 38 Tryz.underlying41 sz38) ?_; refine yv (y_l1 ag38 rfl) ?_; refine yv y_mv <| yv (y_to (v' := .int .i64 lim) (y_conv rfl Tryz.underlying5 Tryz.underlying3) (by exact congrArg (Value.int .i64) hwl)) ?_; refine callE rfl fk18 (enew_ct _ wb lim (by omega)) sq ?_; rintro ⟨eb, mb⟩; dsimp only; refine yv y_mv <| yv (y_to (v' := .pointer (some ⟨eb, 0, none⟩)) y_ex (by rfl)) ?_; refine yv (y_to (v' := .int .i64 0) y_ex (by rfl)) ?_; refine yv y_as <| yv y_as <| fk [(0, _), (2, _), (7, _), (9, _), (10, _)] hK13 ?_; refine Hd.seq fun _ hK14 => ?_
   refine sr fun _ hK15 => ?_
   refine yv y_mv <| yv (y_neq rfl rfl) ?_; refine fk [(0, _), (2, _), (7, _), (9, _), (61, _)] hK15 ?_; refine Hd.cond rfl (fun hc3 => ?_) (fun hc3 => ?_)
   ·try simp only [hyZ] at hc3
    exfalso; simp at hc3
   ·try simp only [hyZ] at hc3
    refine Hd.skip <| Hd.toK hK14 ?_; refine sr fun _ hK16 => ?_
    refine yv y_mv <| yv y_np <| yv (y_f 1 39 Tryz.underlying41 sz39) ?_; refine yv (y_l1 ag39 rfl) ?_; refine yv y_mv <| yv (y_to (v' := .int .i64 lim) (y_conv rfl Tryz.underlying5 Tryz.underlying3) (by exact congrArg (Value.int .i64) hwl)) ?_; refine yv (y_build (vs := [(0, _), (1, _)]) rfl (by exact bd6_68 ..)) ?_; refine Hd.box rfl rfl (fun b69 => ?_); refine yv y_as <| fk [(2, _), (7, _), (9, _), (11, _)] hK16 ?_; refine Hd.seq fun _ hK17 => ?_
    refine sr fun _ hK18 => ?_
    refine yv y_mv <| yv (y_len Tryz.underlying23 rfl) ?_; refine yv y_mv <| fk [(2, _), (7, _), (9, _), (11, _), (71, _), (72, _)] hK18 ?_; refine Hd.block <| Hd.loopK (ι := Nat × WA × (Int → Option PxA) × Nat × Option Addr × Nat) [(2, _), (7, _), (9, _), (11, _), (71, _)] (fun q_ => [(72, .int .i64 (q_.1 : Int))]) (fun q_ => pu (q_.1 ≤ xs.length ∧ PlI (6000 + 100 * q_.1) q_.1 q_.2.1 q_.2.2.1 q_.2.2.2.1 (refL q_.2.2.1 q_.2.1)) :: EpB eb wb mb lim (ixF q_.2.2.1) q_.2.2.2.1 q_.2.1 (RlP b69 rb lim q_.2.2.2.2.1 q_.2.2.2.2.2 (refL q_.2.2.1 q_.2.1) (Rf.RwP rb q_.2.1 :: BoP pb wb rb :: L))) (fun q_ => xs.length - q_.1) (0, w, fun _ => none, 0, none, 0) sbq sbq (fun q t => Ent.sep (.pure ⟨Nat.zero_le _, (show PlI (6000 + 100 * 0) 0 w (fun _ => none) 0 (refL (fun _ => none) w) from ⟨hw0, hlo0, invP_0 w, Nat.le_refl _, tidy_id hw0 (invP_0 w), ref_le _ _⟩)⟩ (.pick pkk (.eq pkk (mp_eq (f := fmap f0) (m := 0) rfl rfl) (.pick pkk (.eq pkk (pt_eq (by rfl)) (.ownNil enn)))))) q t) ?_
    rintro ⟨i, w, g, m, la, lc⟩
    try dsimp only
    refine Hd.pure (fun hp1 => ?_)
    try dsimp only at hp1
    refine sr fun _ hK19 => ?_
    refine yv (y_lss rfl rfl) ?_; refine fk [(2, _), (7, _), (9, _), (11, _), (71, _), (72, _), (73, _)] hK19 ?_; refine Hd.seq fun _ hK20 => ?_
    refine Hd.cond rfl (fun hc4 => ?_) (fun hc4 => ?_)
    ·try simp only [hyZ] at hc4
     have hi : i < xs.length := by omega
     obtain ⟨p, hp⟩ : ∃ p, xs[i]? = some p := ⟨_, List.getElem?_eq_getElem hi⟩
     have hpo := hXo p (List.mem_of_getElem? hp)
     have hpl := hgp.2 p (List.mem_of_getElem? hp)
     obtain ⟨_, hI⟩ := hp1
     have hw := hI.ok
     have hmi := hI.m
     refine Hd.skip <| Hd.toK hK20 ?_; refine Hd.seq fun _ hK21 => ?_
     refine Hd.block <| sr fun _ hK22 => ?_
     refine yv y_mv <| yv y_as <| fk [(2, _), (7, _), (9, _), (11, _), (12, _), (71, _), (72, _)] hK22 ?_; refine sr fun _ hK23 => ?_
     refine yv y_mv <| yv y_mv <| yv (y_idxR Tryz.underlying23 sz46 rfl rfl (by omega) (by exact RdS.mono hX sq)) ?_; refine yv (y_loadRn (vs := encPv p) ag46 rfl (RdS.mono hX sq) (flat_cells encPv 10 (fun _ => rfl) hp) sz46 (by simp)) ?_; refine Hd.alloc zr46 (fun b13 => ?_); refine Hd.storeA (us := encPv p) sz46 rfl rfl rfl (by simp [Value.oneCell']) pkk (by exact rfl) ?_; refine fk [(2, _), (7, _), (9, _), (11, _), (13, _), (71, _), (72, _)] hK23 ?_; refine sr fun _ hK24 => ?_
     refine yv y_as <| fk [(2, _), (7, _), (9, _), (11, _), (13, _), (14, _), (71, _), (72, _)] hK24 ?_; refine Hd.cutK (ι := PlX (6000 + 100 * (i + 1)) (i + 1)) [(2, _), (7, _), (9, _), (11, _), (71, _), (72, _)] (fun _ => [(14, .bool true)]) (fun q => EpB eb wb mb lim (ixF q.1.2.1) q.1.2.2.1 q.1.1 (RlP b69 rb lim q.1.2.2.2.2.1 q.1.2.2.2.2.2 q.1.2.2.2.1 (Rf.RwP rb q.1.1 :: BoP pb wb rb :: L))) ?_ ?_ ⟨rfl, rfl, rfl, rfl, rfl, rfl, trivial⟩
     ·refine sr fun _ hK25 => ?_
      refine yv (y_f 0 3 Tryz.underlying46 sz3) ?_; refine yv (y_l1 ag3 rfl) ?_; refine fk [(2, _), (7, _), (9, _), (11, _), (13, _), (14, _), (71, _), (72, _), (80, _)] hK25 ?_; refine Hd.block <| sr fun _ hK26 => ?_
      refine yv (y_eql rfl rfl) ?_; refine yv y_as <| fk [(2, _), (7, _), (9, _), (11, _), (13, _), (14, _), (71, _), (72, _), (80, _), (81, _)] hK26 ?_; refine Hd.cond rfl (fun hc5 => ?_) (fun hc5 => ?_)
      ·try simp only [hyZ] at hc5
       refine Hd.region <| yv y_mv <| yv (y_f 1 33 Tryz.underlying46 sz33) ?_; refine yv (y_loadn (us := [_, _, _, _, _]) ag33 rfl (Rd.pt pkk (by intro j v e; rcases j with _|_|_|_|_|_|_|_|_|_|_|_|j <;> first | exact e | exact absurd e (by simp))) (by exact sz33)) ?_; refine callE rfl fk17 (do_ct _ pb wb rb w (6000 + 100 * i) (by omega) hI.lo p.x hpo.x.t hpl.2 ?hD hpo.x.c) sq ?_
       case hD => exact RdS.mono hpo.x.rd sq
       intro _
       have hst := do_stp hw p.x (by have := hpo.x.t; simp only [InK] at this; omega) (6000 + 100 * i) (by omega) hI.lo
       refine Hd.wokW pkk (fun hw2 => ?_); refine yv y_as <| Hd.nil <| slots [(2, _), (7, _), (9, _), (11, _), (14, _), (71, _), (72, _)] sbq ?_; refine Hd.inB <| thenN ?_; exact Hd.meet ⟨(doA w p.x, g, m, refL g w, la, lc), ⟨hw2, hst.1, hI.inv.gr hw hw2 hst.2, by show m ≤ 96 * (i + 1); omega, tidy_gr hw hw2 hst.2 hI.inv, ref_le _ _⟩⟩ sbq sq
      ·try simp only [hyZ] at hc5
       refine sr fun _ hK27 => ?_
       refine yv (y_eql rfl rfl) ?_; refine yv y_as <| fk [(2, _), (7, _), (9, _), (11, _), (13, _), (14, _), (71, _), (72, _), (80, _), (87, _)] hK27 ?_; refine Hd.cond rfl (fun hc6 => ?_) (fun hc6 => ?_)
       ·try simp only [hyZ] at hc6
        refine sr fun _ hK28 => ?_
        refine yv y_mv <| yv (y_f 7 3 Tryz.underlying46 sz3) ?_; refine yv (y_l1 ag3 rfl) ?_; refine yv (y_f 6 3 Tryz.underlying46 sz3) ?_; refine yv (y_l1 ag3 rfl) ?_; refine yv (y_f 8 3 Tryz.underlying46 sz3) ?_; refine yv (y_l1 ag3 rfl) ?_; refine callE rfl fk19 (ctl_ct _ eb wb mb lim (ixF g) m (by omega) w p.n p.fd p.ev) sq ?_; intro m'; refine Hd.pure fun hm' => ?_
        have hca := rctlA hw hI.inv lim p.n p.fd hpo.ev
        have hci := InvP.ctl hw hI.lo hI.inv lim p.n p.fd p.ev
        rw [ctlG_eq hpo.ev]; dsimp only
        obtain ⟨e', he'⟩ : ∃ e', (ctlG lim g w p.n p.fd p.ev).1 = e' := ⟨_, rfl⟩
        obtain ⟨g', hg'⟩ : ∃ g', (ctlG lim g w p.n p.fd p.ev).2 = g' := ⟨_, rfl⟩
        rw [he', hg'] at hca; rw [hg'] at hci; rw [he', hg']; refine yv y_as <| fk [(2, _), (7, _), (9, _), (11, _), (13, _), (15, _), (71, _), (72, _)] hK28 ?_; refine Hd.region <| yv y_mv <| yv y_mv <| yv (y_f 7 3 Tryz.underlying46 sz3) ?_; refine yv (y_l1 ag3 rfl) ?_; refine yv (y_f 6 3 Tryz.underlying46 sz3) ?_; refine yv (y_l1 ag3 rfl) ?_; refine yv (y_f 8 3 Tryz.underlying46 sz3) ?_; refine yv (y_l1 ag3 rfl) ?_; refine callE rfl fk24 (rctl15_ct _ b69 rb lim la lc (refL g w) w hw (ref_le _ _) (by rw [tidy_id hw hI.inv]; exact ref_ev) p.n p.fd p.ev hpo.ev) sq ?_; rintro ⟨la2, lc2⟩; dsimp only; rw [hca]; dsimp only; refine yv (y_eqlT rfl rfl) ?_; refine yv y_as <| Hd.nil <| slots [(2, _), (7, _), (9, _), (11, _), (14, _), (71, _), (72, _)] sbq ?_; refine Hd.inB <| thenN ?_; exact Hd.meet ⟨(w, g', m', refL g' w, la2, lc2), ⟨hw, hI.lo.mono (by omega), hci, by show m' ≤ 96 * (i + 1); omega, tidy_id hw hci, ref_le _ _⟩⟩ ⟨(by rfl), by repeat (first | exact trivial | refine ⟨rfl, ?_⟩)⟩ sq
       ·try simp only [hyZ] at hc6
        refine sr fun _ hK29 => ?_
        refine yv (y_eql rfl rfl) ?_; refine yv y_as <| fk [(2, _), (7, _), (9, _), (11, _), (13, _), (14, _), (71, _), (72, _), (107, _)] hK29 ?_; refine Hd.cond rfl (fun hc7 => ?_) (fun hc7 => ?_)
        ·try simp only [hyZ] at hc7
         refine sr fun _ hK30 => ?_
         refine yv y_mv <| yv (y_f 7 3 Tryz.underlying46 sz3) ?_; refine yv (y_l1 ag3 rfl) ?_; refine yv (y_f 9 44 Tryz.underlying46 sz44) ?_; refine yv (y_l1 ag44 rfl) ?_; refine callE rfl fk20 (pollA_ct _ eb wb mb lim (ixF g) m (by omega) w p.n p.ad p.c p.ord ?hD (by omega)) sq ?_
         case hD => exact RdS.mono hpo.rd sq
         rintro ⟨pa, pc, m'⟩; dsimp only; refine Hd.pure fun hm' => ?_
         have hpr := (poll_ref (g := g) (w := w) p.n p.ord).1
         have hln := polL_len (ixF g) w p.n p.ord
         have hdl := dueL_len (ixF g) w
         rw [hpr]
         have hci := InvP.off (polL (ixF g) w p.n p.ord) hI.inv
         refine yv y_mv <| yv y_ex <| yv y_ex <| yv y_as <| yv y_as <| fk [(2, _), (7, _), (9, _), (11, _), (13, _), (16, _), (17, _), (71, _), (72, _)] hK30 ?_; refine sr fun _ hK31 => ?_
         refine yv y_mv <| yv (y_f 7 3 Tryz.underlying46 sz3) ?_; refine yv (y_l1 ag3 rfl) ?_; refine yv (y_f 9 44 Tryz.underlying46 sz44) ?_; refine yv (y_l1 ag44 rfl) ?_; refine callE rfl fk25 (rpollA_ct _ b69 rb lim la lc g w hw hI.inv p.n p.ad p.c p.ord ?hD (by omega)) sq ?_
         case hD => exact RdS.mono hpo.rd sq
         rintro ⟨qa, qc, la2, lc2⟩; dsimp only
         obtain ⟨A, hA⟩ : ∃ A, polL (ixF g) w p.n p.ord = A := ⟨_, rfl⟩
         obtain ⟨g', hg'⟩ : ∃ g', offG w g A = g' := ⟨_, rfl⟩
         rw [hA] at hm' hln hci; rw [hg'] at hci; rw [hA, hg']
         have hAl : A.length ≤ 96 := by omega
         refine yv y_mv <| yv y_ex <| yv y_ex <| yv y_as <| yv y_as <| fk [(2, _), (7, _), (9, _), (11, _), (16, _), (17, _), (18, _), (19, _), (71, _), (72, _)] hK31 ?_; refine Hd.region <| yv y_mv <| yv y_mv <| callE rfl fk23 (same15_ct _ pa pc A ?hD (by omega) qa qc A ?hE (by omega)) sq ?_
         case hD => exact RdS.own (ad := pa) (us := A.flatMap encPo) pkk
         case hE => exact RdS.own (ad := qa) (us := A.flatMap encPo) pkk
         intro _; refine yv y_mv ?_; apply Hd.andg 4 130 134 [(2, _), (7, _), (9, _), (11, _), (71, _), (72, _)] rfl sbq
         ·intro _
          simp only [List.take]; refine y2 y_mv <| y2 y_mv <| y2 (y_eqlT rfl rfl) ?_; refine yv (y_pickT rfl rfl) ?_; refine Hd.nil ?_; exact Hd.mq
         ·intro _
          simp only [List.take]; refine n1 <| n1 <| n1 <| yv (y_pickF rfl rfl) ?_; refine Hd.nil ?_; exact Hd.mq
         simp only [List.drop]; refine yv y_as <| Hd.nil <| slots [(2, _), (7, _), (9, _), (11, _), (14, _), (71, _), (72, _)] sbq ?_; refine Hd.inB <| thenN ?_; exact Hd.meet ⟨(w, g', m', refL g' w, la2, lc2), ⟨hw, hI.lo.mono (by omega), hci, by show m' ≤ 96 * (i + 1); omega, tidy_id hw hci, ref_le _ _⟩⟩ ⟨(by rfl), by repeat (first | exact trivial | refine ⟨rfl, ?_⟩)⟩ sq
        ·try simp only [hyZ] at hc7
         refine Hd.skip <| Hd.inB <| thenN ?_; exact Hd.meet ⟨(w, g, m, refL g w, la, lc), ⟨hw, hI.lo.mono (by omega), hI.inv, by show m ≤ 96 * (i + 1); omega, tidy_id hw hI.inv, ref_le _ _⟩⟩ sbq sq
     ·rintro ⟨⟨w2, g2, m2, l2, la2, lc2⟩, hI2⟩
      dsimp only at hI2 ⊢
      have hw2 := hI2.ok
      have hm2 := hI2.m
      refine sr fun _ hK32 => ?_
      refine yv y_mv <| callE rfl fk26 (rdue15_ct _ b69 rb lim la2 lc2 l2 w2 hw2 (by have := hI2.le; omega) (by rw [hI2.td]; exact ref_ev)) sq ?_; rintro ⟨da, dc, la3, lc3⟩; dsimp only; rw [hI2.td, due_ref]; refine yv y_as <| fk [(2, _), (7, _), (9, _), (11, _), (14, _), (20, _), (71, _), (72, _)] hK32 ?_; refine sr fun _ hK33 => ?_
      refine yv y_mv <| callE rfl fk22 (inter_ct _ eb wb mb lim (ixF g2) m2 (by omega) w2) sq ?_; rintro ⟨ia, ic, ks⟩; dsimp only; refine Hd.pure fun hks => ?_
      obtain rfl := hks.eq hw2
      rw [int_ref, show (allL (ixF g2) w2).length = (refL g2 w2).length from (ref_len g2 w2).symm]
      have hrl := ref_le g2 w2
      obtain ⟨R, hR⟩ : ∃ R, refL g2 w2 = R := ⟨_, rfl⟩
      rw [hR] at hrl; rw [hR]; refine yv y_as <| fk [(2, _), (7, _), (9, _), (11, _), (14, _), (20, _), (21, _), (71, _), (72, _)] hK33 ?_; refine Hd.seq fun _ hK34 => ?_
      refine sr fun _ hK35 => ?_
      refine yv y_mv <| yv (y_not rfl) ?_; refine yv y_mv ?_; apply Hd.org 7 141 148 [(2, _), (7, _), (9, _), (11, _), (21, _), (71, _), (72, _)] rfl sbq
      ·intro _
       simp only [List.take]; refine n1 <| n1 <| n1 <| n1 <| n1 <| n1 <| yv (y_pickT rfl rfl) ?_; refine Hd.nil ?_; exact Hd.mq
      ·intro hg31_141
       try simp only [hyZ] at hg31_141
       simp only [List.take]; refine y2 y_mv <| Hd.unguard rfl rfl ?_; refine callE rfl fk21 (edue_ct _ eb wb mb lim (ixF g2) m2 (by omega) w2) sq ?_; intro _; refine y2 y_mv <| y2 (y_len Tryz.underlying47 rfl) ?_; refine y2 (y_gtr rfl rfl) ?_; refine y2 (y_neqb Tryz.underlying4 rfl rfl) ?_; refine yv (y_pickF rfl rfl) ?_; refine Hd.nil ?_; exact Hd.mq
      simp only [List.drop]; refine yv y_mv ?_; apply Hd.org 9 149 158 [(2, _), (7, _), (9, _), (11, _), (21, _), (71, _), (72, _)] rfl sbq
      ·intro _
       simp only [List.take]; refine n1 <| n1 <| n1 <| n1 <| n1 <| n1 <| n1 <| n1 <| yv (y_pickT rfl rfl) ?_; refine Hd.nil ?_; exact Hd.mq
      ·intro _
       simp only [List.take]; refine y2 y_mv <| y2 (y_len Tryz.underlying47 rfl) ?_; refine y2 y_mv <| y2 y_np <| y2 (y_f 2 58 Tryz.underlying60 sz58) ?_; refine y2 (y_l1 ag58 rfl) ?_; refine y2 (y_len Tryz.underlying58 rfl) ?_; refine y2 (y_neq rfl rfl) ?_; refine yv (y_pickF rfl rfl) ?_; refine Hd.nil ?_; exact Hd.mq
      simp only [List.drop]; refine fk [(2, _), (7, _), (9, _), (11, _), (21, _), (71, _), (72, _), (158, _)] hK35 ?_; refine Hd.cond rfl (fun hc8 => ?_) (fun hc8 => ?_)
      ·try simp only [hyZ] at hc8
       exfalso; rw [emp_len] at hc8; simp at hc8
      ·try simp only [hyZ] at hc8
       refine Hd.skip <| Hd.toK hK34 ?_; refine sr fun _ hK36 => ?_
       refine yv y_mv <| yv (y_len Tryz.underlying47 rfl) ?_; refine yv y_mv <| fk [(2, _), (7, _), (9, _), (11, _), (21, _), (71, _), (72, _), (160, _), (161, _)] hK36 ?_; refine Hd.block <| Hd.loopK (ι := Nat) [(2, _), (7, _), (9, _), (11, _), (21, _), (71, _), (72, _), (160, _)] (fun k => [(161, .int .i64 (k : Int))]) (fun k => pu (k ≤ R.length) :: own 51 2 ia R.length ic ((R.map evR).flatMap encPo) :: EpB eb wb mb lim (ixF g2) m2 w2 (RlP b69 rb lim la3 lc3 R (Rf.RwP rb w2 :: BoP pb wb rb :: L))) (fun k => R.length - k) 0 sbq sbq (Ent.sep (.pure (by omega) enn)) ?_; intro k
       try dsimp only
       refine Hd.pure (fun hp2 => ?_)
       try dsimp only at hp2
       refine sr fun _ hK37 => ?_
       refine yv (y_lss rfl rfl) ?_; refine fk [(2, _), (7, _), (9, _), (11, _), (21, _), (71, _), (72, _), (160, _), (161, _), (162, _)] hK37 ?_; refine Hd.seq fun _ hK38 => ?_
       refine Hd.cond rfl (fun hc9 => ?_) (fun hc9 => ?_)
       ·try simp only [hyZ] at hc9
        have hk : k < R.length := by omega
        obtain ⟨y, hy⟩ : ∃ y, R[k]? = some y := ⟨_, List.getElem?_eq_getElem hk⟩
        have hy2 : (R.map evR)[k]? = some (evR y) := by rw [List.getElem?_map, hy]; rfl
        refine Hd.skip <| Hd.toK hK38 ?_; refine Hd.seq fun _ hK39 => ?_
        refine Hd.block <| sr fun _ hK40 => ?_
        refine yv y_mv <| yv y_as <| fk [(2, _), (7, _), (9, _), (11, _), (21, _), (22, _), (71, _), (72, _), (160, _), (161, _)] hK40 ?_; refine Hd.seq fun _ hK41 => ?_
        refine Hd.quiet mixed kq ?_; refine Hq.yv y_mv ?_; refine Hq.yv y_mv ?_; refine Hq.yv (y_idxR Tryz.underlying47 sz51 rfl rfl (by omega) (by exact RdS.own pkk)) ?_; refine Hq.yv (y_fR 0 3 Tryz.underlying51 sz3) ?_; refine Hq.yv (y_loadR1 ag3 rfl (RdS.own (ad := ia) (us := (R.map evR).flatMap encPo) pkk) (flat_cells encPo 2 (fun _ => rfl) hy2 0 _ rfl)) ?_; refine Hq.yv y_mv ?_; refine Hq.yv y_np ?_; refine Hq.yv (y_f 2 58 Tryz.underlying60 sz58) ?_; refine Hq.yv (y_l1 ag58 rfl) ?_; refine Hq.yv y_mv ?_; refine Hq.yv (y_idxR Tryz.underlying58 sz65 rfl rfl (by omega) (by exact RdS.own pkk)) ?_; refine Hq.yv (y_fR 0 3 Tryz.underlying65 sz3) ?_; refine Hq.yv (y_loadR1 ag3 rfl (RdS.own (ad := la3) (us := R.flatMap encRi) pkk) (flat_cells encRi 7 (fun _ => rfl) hy 0 _ rfl)) ?_; refine Hq.yv (y_neq rfl rfl) ?_; refine Hq.yv y_mv ?_; apply Hq.org 15 178 193 [(2, _), (7, _), (9, _), (11, _), (21, _), (71, _), (72, _), (160, _), (161, _)] rfl ⟨rfl, rfl, rfl, rfl, rfl, rfl, rfl, rfl, rfl, trivial⟩
        ·intro hg36_178
         try simp only [hyZ] at hg36_178
         simp only [List.take]; refine Hq.ng rfl rfl rfl ?_; refine Hq.ng rfl rfl rfl ?_; refine Hq.ng rfl rfl rfl ?_; refine Hq.ng rfl rfl rfl ?_; refine Hq.ng rfl rfl rfl ?_; refine Hq.ng rfl rfl rfl ?_; refine Hq.ng rfl rfl rfl ?_; refine Hq.ng rfl rfl rfl ?_; refine Hq.ng rfl rfl rfl ?_; refine Hq.ng rfl rfl rfl ?_; refine Hq.ng rfl rfl rfl ?_; refine Hq.ng rfl rfl rfl ?_; refine Hq.ng rfl rfl rfl ?_; refine Hq.ng rfl rfl rfl ?_; refine Hq.yv (y_pickT rfl rfl) ?_; exact Hq.mend sbq
        ·intro hg36_178
         try simp only [hyZ] at hg36_178
         simp only [List.take]; refine Hq.yg rfl rfl y_mv ?_; refine Hq.yg rfl rfl y_mv ?_; refine Hq.yg rfl rfl (y_idxR Tryz.underlying47 sz51 rfl rfl (by omega) (by exact RdS.own pkk)) ?_; refine Hq.yg rfl rfl (y_fR 1 3 Tryz.underlying51 sz3) ?_; refine Hq.yg rfl rfl (y_loadR1 ag3 rfl (RdS.own (ad := ia) (us := (R.map evR).flatMap encPo) pkk) (flat_cells encPo 2 (fun _ => rfl) hy2 1 _ rfl)) ?_; refine Hq.yg rfl rfl y_mv ?_; refine Hq.yg rfl rfl y_np ?_; refine Hq.yg rfl rfl (y_f 2 58 Tryz.underlying60 sz58) ?_; refine Hq.yg rfl rfl (y_l1 ag58 rfl) ?_; refine Hq.yg rfl rfl y_mv ?_; refine Hq.yg rfl rfl (y_idxR Tryz.underlying58 sz65 rfl rfl (by omega) (by exact RdS.own pkk)) ?_; refine Hq.yg rfl rfl (y_fR 2 3 Tryz.underlying65 sz3) ?_; refine Hq.yg rfl rfl (y_loadR1 ag3 rfl (RdS.own (ad := la3) (us := R.flatMap encRi) pkk) (flat_cells encRi 7 (fun _ => rfl) hy 2 _ rfl)) ?_; refine Hq.yg rfl rfl (y_neq rfl rfl) ?_
         refine Hq.yv (y_pickF rfl rfl) ?_; exact Hq.mend sbq
        simp only [List.drop]; refine Hq.nil ?_; refine sk [(2, _), (7, _), (9, _), (11, _), (21, _), (71, _), (72, _), (160, _), (161, _), (193, _)] hK41 ?_; refine Hd.cond rfl (fun hc10 => ?_) (fun hc10 => ?_)
        ·try simp only [hyZ] at hc10
         exfalso; simp at hc10
        ·try simp only [hyZ] at hc10
         refine Hd.skip <| Hd.inB <| Hd.toK hK39 ?_; refine Hd.region <| yv (y_addn rfl rfl (by simp only [InK]; omega)) ?_; refine yv y_mv <| Hd.nil <| slots [(2, _), (7, _), (9, _), (11, _), (21, _), (71, _), (72, _), (160, _), (161, _)] sbq ?_; refine thenN ?_; exact Hd.again (k + 1) (by omega) sbq (Ent.sep (.pure (by omega) enn))
       ·try simp only [hyZ] at hc9
        rw [← hR]; refine Hd.exit <| Hd.thenExit <| Hd.thenExit <| Hd.inBexit <| Hd.inB <| Hd.toK hK21 ?_; refine Hd.region <| yv (y_addn rfl rfl (by simp only [InK]; omega)) ?_; refine yv y_mv <| Hd.nil <| slots [(2, _), (7, _), (9, _), (11, _), (71, _), (72, _)] sbq ?_; refine thenN ?_; exact Hd.again (i + 1, w2, g2, m2, la3, lc3) (by omega) sbq (Ent.sep (.pure ⟨hi, (show PlI (6000 + 100 * (i + 1)) (i + 1) w2 g2 m2 (refL g2 w2) from ⟨hw2, hI2.lo, hI2.inv, hm2, tidy_id hw2 hI2.inv, ref_le _ _⟩)⟩ enn))
    ·try simp only [hyZ] at hc4
     refine Hd.exit <| Hd.thenExit <| Hd.thenExit <| Hd.inBexit <| Hd.toK hK17 ?_; refine sr fun _ hK42 => ?_
     refine yv y_as <| fk [(6, _)] hK42 ?_; refine Hd.ret ?_; exact Hd.ret1 rfl () rfl sq
end Ep
end Go.Proofs.YtbfddabjbkohdaaGreat
namespace Go.Proofs.YtbfddabjbkohdaaGreat
set_option maxHeartbeats 2000000
open Go.RX.Hd (yv y2 n1 fk sk sr tH callE heldK onlyH endH thenN slots)
open Go.RX Go.ChangeShapes Go.WideShapes Go.ChangeAt Go.RowKit
abbrev shO : Sh := .struct (.fld (.int .i64) (.fld (.int .i64) (.fld (.int .i64) (.fld (.int .u64) (.fld (.slice (.int .u8)) .nil)))))
def cvO (y : shO.T) : Wo.Ov := ⟨y.1, y.2.1, y.2.2.1, y.2.2.2.1, y.2.2.2.2.1.ad, y.2.2.2.2.1.cap, y.2.2.2.2.1.l.map u8of⟩
theorem enc_cvO (y : shO.T) : Wo.encO (cvO y) = shO.enc y := by
 show [_, _, _, _, Value.slice _ (y.2.2.2.2.1.l.map u8of).length _] = _
 rw [List.length_map]; rfl
theorem ok_cvO {W : World} {y : shO.T} (h : shO.ok W y) : Wo.OvOk [Old W] (cvO y) :=
 ⟨rd_u8 h.2.2.2.2.1, by show (List.map u8of _).length ≤ _; rw [List.length_map]; exact h.2.2.2.2.1.2.1, h.1, h.2.1, h.2.2.1, h.2.2.2.1⟩
theorem rd_ops {W : World} {x : (Sh.slice shO).T} (h : (Sh.slice shO).ok W x) : RdS [Old W] 5 x.ad (x.l.map cvO).length ((x.l.map cvO).flatMap Wo.encO) := by
 have e : (x.l.map cvO).flatMap Wo.encO = x.l.flatMap shO.enc := by rw [List.flatMap_map]; congr 1; funext y; exact enc_cvO y
 rw [e, List.length_map]; exact h.1
theorem ops_ok {W : World} {x : (Sh.slice shO).T} (h : (Sh.slice shO).ok W x) : ∀ o ∈ x.l.map cvO, Wo.OvOk [Old W] o := fun o ho => by
 obtain ⟨y, hy, rfl⟩ := List.mem_map.1 ho
 exact ok_cvO (h.2.2.2.2 y hy)
abbrev shPl : Sh := .fld (.int .i64) (.fld shO (.fld (.int .i64) (.fld (.int .i64) (.fld (.int .i64) (.fld (.slice (.int .i64)) .nil)))))
abbrev shP : Sh := .struct shPl
def cvP (y : shP.T) : Ep.Pv := ⟨y.1, cvO y.2.1, y.2.2.1, y.2.2.2.1, y.2.2.2.2.1, y.2.2.2.2.2.1.ad, y.2.2.2.2.2.1.cap, y.2.2.2.2.2.1.l⟩
theorem enc_cvP (y : shP.T) : Ep.encPv (cvP y) = shP.enc y := by
 show [_, _, _, _, _, Value.slice _ (y.2.1.2.2.2.2.1.l.map u8of).length _, _, _, _, _] = _
 rw [List.length_map]; rfl
theorem ok_cvP {W : World} {y : shP.T} (h : shP.ok W y) : Ep.PvOk [Old W] (cvP y) :=
 ⟨ok_cvO h.2.1, rd_int h.2.2.2.2.2.1, h.1, h.2.2.1, h.2.2.2.1, h.2.2.2.2.1⟩
theorem rd_ps {W : World} {x : (Sh.slice shP).T} (h : (Sh.slice shP).ok W x) : RdS [Old W] 10 x.ad (x.l.map cvP).length ((x.l.map cvP).flatMap Ep.encPv) := by
 have e : (x.l.map cvP).flatMap Ep.encPv = x.l.flatMap shP.enc := by rw [List.flatMap_map]; congr 1; funext y; exact enc_cvP y
 rw [e, List.length_map]; exact h.1
theorem ps_ok {W : World} {x : (Sh.slice shP).T} (h : (Sh.slice shP).ok W x) : ∀ p ∈ x.l.map cvP, Ep.PvOk [Old W] p := fun o ho => by
 obtain ⟨y, hy, rfl⟩ := List.mem_map.1 ho
 exact ok_cvP (h.2.2.2.2 y hy)
end Go.Proofs.YtbfddabjbkohdaaGreat
