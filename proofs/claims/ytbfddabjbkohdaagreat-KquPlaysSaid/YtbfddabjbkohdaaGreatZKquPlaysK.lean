/-
  The document's kqueue (roundhouseref16): tidy, Notes.
-/
import Derived.Test.YtbfddabjbkohdaaGreatZKquPlaysJ
set_option linter.unusedSimpArgs false
set_option linter.unusedVariables false
set_option linter.unnecessarySimpa false
set_option maxRecDepth 8000
set_option maxHeartbeats 2000000
open Go.RX.Hd (yv y2 n1 fk sk sr tH callE heldK qo qk qn qt qz qv endH thenN slots)
namespace Go.Proofs.YtbfddabjbkohdaaGreat
open Go.RX Fx
namespace Kq
open Wo
theorem tidyN_succ (w : WA) {l : List RnA} {i : Nat} {y : RnA} (h : l[i]? = some y) : tidyN w (l.take (i + 1)) = tidyN w (l.take i) ++ (tidN w y).toList := by
 unfold tidyN; rw [List.take_add_one, h, Option.toList_some, List.filterMap_append, List.filterMap_cons, List.filterMap_nil]
 cases tidN w y <;> rfl
theorem tidyN_le (w : WA) (l : List RnA) (i : Nat) : (tidyN w (l.take i)).length ≤ i := by
 have h1 := List.length_filterMap_le (tidN w) (l.take i)
 rw [List.length_take] at h1; unfold tidyN; omega
theorem rtidy16_ct (L : List SP) (qb rb : Nat) (ad : Option Addr) (c : Nat) (l : List RnA) (w : WA) (hw : WOk w) (hl : l.length ≤ 1000000) : Ct Tryz.prog 98 #[.pointer (some ⟨qb, 0, none⟩)] (RkP qb rb ad c l (Rf.RwP rb w :: L)) (fun q_ : Option Addr × Nat => .tuple #[]) (fun q_ : Option Addr × Nat => RkP qb rb q_.1 q_.2 (tidyN w l) (Rf.RwP rb w :: L)) := by
 refine Ct.o1 Tryz.func98 ?_; intro E
 show Hd E 70 _ _ _ _
 refine sr fun _ K1 => ?_
 refine yv y_as <| fk [(0,_),(2,_)] K1 ?_; refine Hd.seq fun _ K2 => ?_
 refine sr fun _ K3 => ?_
 refine yv y_as <| fk [(0,_),(2,_),(3,_)] K3 ?_; refine Hd.block <| Hd.loopK (ι := Nat × Option Addr × Nat) [(0,_)] (fun q_ => [(2, .slice q_.2.1 (tidyN w (l.take q_.1)).length q_.2.2), (3, .int .i64 (q_.1 : Int))]) (fun q_ => pu (q_.1 ≤ l.length) :: own 183 8 q_.2.1 (tidyN w (l.take q_.1)).length q_.2.2 ((tidyN w (l.take q_.1)).flatMap encRn) :: RkP qb rb ad c l (Rf.RwP rb w :: L)) (fun q_ => l.length - q_.1) (0, none, 0) sbq sbq (fun q t => Ent.sep (.pure (Nat.zero_le _) (.ownNil enn)) q t) ?_; rintro ⟨i, la, lc⟩
 try dsimp only
 refine Hd.pure (fun hp0 => ?_)
 try dsimp only at hp0
 refine Hd.seq fun _ K4 => ?_
 refine sr fun _ K5 => ?_
 refine yv y_mv <| yv y_mv <| yv y_np <| yv (y_f 1 92 Tryz.underlying94 sz92) <| yv (y_l1 ag92 rfl) <| yv (y_len Tryz.underlying92 rfl) ?_; refine yv (y_lss rfl rfl) ?_; refine fk [(0,_),(2,_),(3,_),(14,_)] K5 ?_; refine qz ?_ ?_ <;> intro hc0 <;> try simp only [hyZ] at hc0
 ·have hi : i < l.length := by omega
  obtain ⟨y, hy⟩ : ∃ y, l[i]? = some y := ⟨_, List.getElem?_eq_getElem hi⟩
  have hts := tidyN_succ w hy
  have htl := tidyN_le w l i
  obtain ⟨D, hD⟩ : ∃ D, tidyN w (l.take i) = D := ⟨_, rfl⟩
  rw [hD] at hts htl; rw [hD]
  obtain ⟨r, hr⟩ : ∃ r, riseK y.flt (readyR w y.id) = r := ⟨_, rfl⟩
  refine qv K4 <| Hd.seq fun _ K6 => ?_
  refine Hd.block <| sr fun _ K7 => ?_
  refine yv y_mv <| yv y_np <| yv (y_f 1 92 Tryz.underlying94 sz92) <| yv (y_l1 ag92 rfl) <| yv y_mv <| yv (y_idxR Tryz.underlying92 sz183 rfl rfl (by omega) (by exact RdS.own pkk)) ?_; refine yv (y_loadRn (vs := encRn y) ag183 rfl (RdS.own (ad := ad) (us := l.flatMap encRn) pkk) (flat_cells encRn 8 (fun _ => rfl) hy) sz183 (by simp)) ?_; refine Hd.alloc zr183 (fun b4 => ?_); refine Hd.storeA (us := encRn y) sz183 rfl rfl rfl (by simp [Value.oneCell']) pkk (by exact rfl) ?_; refine fk [(0,_),(2,_),(3,_),(4,_)] K7 ?_; refine Hd.cutK (ι := {y' : RnA // tidN w y = some y'}) [(0,_),(2,_),(3,_),(4,_)] (fun _ => []) (fun q => pt b4 (encRn q.1) 183 :: own 183 8 la D.length lc (D.flatMap encRn) :: RkP qb rb ad c l (Rf.RwP rb w :: L)) ?_ ?_ ⟨rfl, rfl, rfl, rfl, trivial⟩
  ·refine sr fun _ K8 => ?_
   refine yv (y_f 1 3 Tryz.underlying183 sz3) <| yv (y_l1 ag3 rfl) <| yv (y_neq rfl rfl) ?_; refine fk [(0,_),(2,_),(3,_),(4,_),(26,_)] K8 ?_; refine qz ?_ ?_ <;> intro hc1 <;> try simp only [hyZ] at hc1
   ·have h3 : ¬ y.flt = 3 := by simpa using hc1
    refine Hd.seq fun _ K9 => ?_
    refine Hd.drawsH ([RkH qb rb ad l.length c, pt b4 (encRn y) 183]) (fun _ => true) mixed ?_; simp only [List.length, Nat.zero_add, Nat.reduceAdd]; refine tH 0 rfl y_mv <| tH 1 rfl y_np <| tH 2 rfl (y_f 0 39 Tryz.underlying94 sz39) <| tH 3 rfl (y_l1 ag39 rfl) <| tH 4 rfl (y_f 0 3 Tryz.underlying183 sz3) <| tH 5 rfl (y_l1 ag3 rfl) <| qo 6 ?_; refine callE rfl fk79 (Rf.rWire_ct _ rb w hw y.id) sq ?_; intro _; refine qk <| tH 7 rfl y_mv <| tH 8 rfl y_ex <| tH 9 rfl y_ex <| tH 10 rfl y_as <| tH 11 rfl y_as <| endH kq ?_; refine sk [(0,_),(2,_),(3,_),(4,_),(5,_),(6,_)] K9 ?_; refine Hd.seq fun _ K10 => ?_
    refine sr fun _ K11 => ?_
    refine yv y_mv <| yv (y_neq rfl rfl) ?_; refine yv y_mv ?_; apply Hd.org 5 39 44 [(0,_),(2,_),(3,_),(4,_)] rfl sbq
    ·intro hg7_39
     try simp only [hyZ] at hg7_39
     simp only [List.take]; refine n1 <| n1 <| n1 <| n1 <| yv (y_pickT rfl rfl) ?_; exact Hd.mn
    ·intro hg7_39
     try simp only [hyZ] at hg7_39
     simp only [List.take]; refine y2 y_mv <| y2 (y_f 2 3 Tryz.underlying183 sz3) <| y2 (y_l1 ag3 rfl) <| y2 (y_neq rfl rfl) ?_; refine yv (y_pickF rfl rfl) ?_; exact Hd.mn
    simp only [List.drop]; refine fk [(0,_),(2,_),(3,_),(4,_),(44,_)] K11 ?_; refine qz ?_ ?_ <;> intro hc2 <;> try simp only [hyZ] at hc2
    ·have hno : tidN w y = none := by
      unfold tidN; rw [if_neg h3]; refine if_neg (fun h => ?_)
      have h2 : ¬fdErr (w.at y.id) = 0 ∨ ¬wireN (w.at y.id) = y.wire := by simpa using hc2
      rcases h2 with g | g
      ·rw [fdErr_no.1 g] at h; exact absurd h.1 (by decide)
      ·exact g h.2
     rw [hno, Option.toList_none, List.append_nil] at hts; refine Hd.exit <| Hd.thenExit <| Hd.thenExit <| Hd.inBexit <| Hd.toK K6 ?_; refine Hd.region <| yv y_mv <| yv (y_addn rfl rfl (by simp only [InK]; omega)) ?_; refine yv y_as <| Hd.nil <| slots [(0,_),(2,_),(3,_)] sbq ?_; refine thenN <| Hd.again (i + 1, la, lc) (by show l.length - (i + 1) < l.length - i; omega) (by (try dsimp only); rw [hts]; repeat (first | exact trivial | refine ⟨rfl, ?_⟩)) (fun q t => ?_); rw [hts]; exact Ent.sep (.pure (show i + 1 ≤ l.length by omega) enn) q t
    have hyes : tidN w y = some { y with a := y.a || decide (r > y.s), s := r } := by
     have h2 : fdErr (w.at y.id) = 0 ∧ wireN (w.at y.id) = y.wire := by simpa using hc2
     unfold tidN; rw [if_neg h3, hr]; refine if_pos ⟨?_, h2.2⟩
     cases h : w.at y.id with
     | none => exact absurd h2.1 (fdErr_no.2 h)
     | some _ => rfl
    refine qv K10 <| sr fun _ K12 => ?_
    refine yv y_mv <| yv (y_f 1 3 Tryz.underlying183 sz3) <| yv (y_l1 ag3 rfl) <| yv (y_f 0 3 Tryz.underlying183 sz3) <| yv (y_l1 ag3 rfl) <| callE rfl fk164 (rrises16_ct _ qb rb ad c l w hw y.flt y.id) sq ?_; intro _; rw [hr]; refine yv y_as <| fk [(0,_),(2,_),(3,_),(4,_),(7,_)] K12 ?_; refine sr fun _ K13 => ?_
    refine yv (y_f 6 4 Tryz.underlying183 sz4) <| yv (y_l1 ag4 rfl) <| yv y_mv ?_; apply Hd.org 5 53 58 [(0,_),(2,_),(3,_),(4,_),(7,_)] rfl sbq
    ·intro hg9_53
     try simp only [hyZ] at hg9_53
     simp only [List.take]; refine n1 <| n1 <| n1 <| n1 <| yv (y_pickT rfl rfl) ?_; exact Hd.mn
    ·intro hg9_53
     try simp only [hyZ] at hg9_53
     simp only [List.take]; refine y2 y_mv <| y2 (y_f 7 30 Tryz.underlying183 sz30) <| y2 (y_l1 ag30 rfl) <| y2 (y_gtr rfl rfl) ?_; refine yv (y_pickF rfl rfl) ?_; exact Hd.mn
    simp only [List.drop]; refine yv (y_f 6 4 Tryz.underlying183 sz4) <| Hd.store1 sz4 rfl rfl rfl pkk (by simp; done) ?_
    try simp only [hyS]
    refine fk [(0,_),(2,_),(3,_),(4,_),(7,_)] K13 ?_; refine Hd.region <| yv y_mv <| yv (y_f 7 30 Tryz.underlying183 sz30) <| Hd.store1 sz30 rfl rfl rfl pkk (by simp; done) ?_
    try simp only [hyS]
    refine Hd.nil <| slots [(0,_),(2,_),(3,_),(4,_)] sbq ?_; refine thenN ?_; exact Hd.meet ⟨_, hyes⟩ sbq (Ent.sep (.eq pkk (pt_eq (by rfl)) enn))
   have hsig : tidN w y = some y := by unfold tidN; exact if_pos (by simpa using hc1)
   refine Hd.skip <| thenN ?_; exact Hd.meet ⟨y, hsig⟩ sbq sq
  rintro ⟨y', hy'⟩; dsimp only; rw [hy', Option.toList_some] at hts; refine Hd.region <| yv y_mv <| yv (y_loadn (us := [_, _, _, _, _, _, _, _]) ag183 rfl (Rd.pt pkk (by (first | (intro j v e; rcases j with _|_|_|_|_|_|_|_|_|_|_|_|j <;> first | exact e | exact absurd e (by simp))))) (by exact sz183)) ?_; refine Hd.bslice (vs := [(0,_)]) rfl (by exact bs98_64 ..) (fun b64 => ?_); refine Hd.append Tryz.underlying92 ty183 rfl rfl rfl pkk (by exact RdS.rd (Rd.pt pkk (fun j v e => by simpa using e)) rfl) (by simp [Value.oneCell']; done) (by simp only [maxLen]; omega) (by omega) (fun ad65 cap65 => ?_); refine yv y_as <| Hd.nil <| slots [(0,_),(2,_),(3,_)] sbq ?_; refine Hd.inB <| Hd.toK K6 ?_; refine Hd.region <| yv y_mv <| yv (y_addn rfl rfl (by simp only [InK]; omega)) ?_; refine yv y_as <| Hd.nil <| slots [(0,_),(2,_),(3,_)] sbq ?_
  refine thenN <| Hd.again (i + 1, ad65, cap65) (by show l.length - (i + 1) < l.length - i; omega) (by (try dsimp only); rw [hts, List.length_append]; repeat (first | exact trivial | refine ⟨rfl, ?_⟩)) (fun q t => ?_); rw [hts]; exact Ent.sep (.pure (show i + 1 ≤ l.length by omega) (.eq pkk (own_eq3 (by rw [List.length_append]; rfl) rfl (by rw [List.flatMap_append]; rfl)) enn)) q t
 obtain rfl : i = l.length := by omega
 rw [List.take_of_length_le (Nat.le_refl _)]; refine Hd.exit <| Hd.thenExit <| Hd.thenExit <| Hd.inBexit <| Hd.toK K2 ?_; refine Hd.region <| yv y_mv <| yv y_mv <| yv y_np <| yv (y_f 1 92 Tryz.underlying94 sz92) <| Hd.store1 sz92 rfl rfl rfl pkk (by simp; done) ?_
 try simp only [hyS]
 refine Hd.nil <| slots [] sbq ?_; exact Hd.ret0 rfl (la, lc) rfl sq
theorem map_succ {α β : Type} (f : α → β) {l : List α} {i : Nat} {y : α} (h : l[i]? = some y) : (l.take (i + 1)).map f = (l.take i).map f ++ [f y] := by rw [List.take_add_one, h, Option.toList_some, List.map_append]; rfl
theorem rnotes16_ct (L : List SP) (qb rb : Nat) (ad : Option Addr) (c : Nat) (l : List RnA) (w : WA) (hw : WOk w) (hl : l.length ≤ 1000000) : Ct Tryz.prog 40 #[.pointer (some ⟨qb, 0, none⟩)] (RkP qb rb ad c l (Rf.RwP rb w :: L)) (fun q_ : Option Addr × Nat × Option Addr × Nat => .slice q_.1 ((tidyN w l).map noteN).length q_.2.1) (fun q_ : Option Addr × Nat × Option Addr × Nat => own 82 4 q_.1 ((tidyN w l).map noteN).length q_.2.1 (((tidyN w l).map noteN).flatMap encNo) :: RkP qb rb q_.2.2.1 q_.2.2.2 (tidyN w l) (Rf.RwP rb w :: L)) := by
 refine Ct.o1 Tryz.func40 ?_; intro E
 show Hd E 47 _ _ _ _
 have hlt := tidyN_le w l l.length
 rw [List.take_of_length_le (Nat.le_refl _)] at hlt; refine sr fun _ K1 => ?_
 refine yv y_as <| fk [(0,_)] K1 ?_; refine sr fun _ K2 => ?_
 refine yv y_mv <| callE rfl fk98 (rtidy16_ct _ qb rb ad c l w hw hl) sq ?_; rintro ⟨la, lc⟩; dsimp only
 obtain ⟨T, hT⟩ : ∃ T, tidyN w l = T := ⟨_, rfl⟩
 rw [hT] at hlt ⊢; refine fk [(0,_)] K2 ?_; refine sr fun _ K3 => ?_
 refine yv y_as <| fk [(0,_),(3,_)] K3 ?_; refine Hd.seq fun _ K4 => ?_
 refine sr fun _ K5 => ?_
 refine yv y_as <| fk [(0,_),(3,_),(4,_)] K5 ?_; refine Hd.block <| Hd.loopK (ι := Nat × Option Addr × Nat) [(0,_)] (fun q_ => [(3, .slice q_.2.1 ((T.take q_.1).map noteN).length q_.2.2), (4, .int .i64 (q_.1 : Int))]) (fun q_ => pu (q_.1 ≤ T.length) :: own 82 4 q_.2.1 ((T.take q_.1).map noteN).length q_.2.2 (((T.take q_.1).map noteN).flatMap encNo) :: RkP qb rb la lc T (Rf.RwP rb w :: L)) (fun q_ => T.length - q_.1) (0, none, 0) sbq sbq (fun q t => Ent.sep (.pure (Nat.zero_le _) (.ownNil enn)) q t) ?_; rintro ⟨i, na, nc⟩
 try dsimp only
 refine Hd.pure (fun hp0 => ?_)
 try dsimp only at hp0
 refine Hd.seq fun _ K6 => ?_
 refine sr fun _ K7 => ?_
 refine yv y_mv <| yv y_mv <| yv y_np <| yv (y_f 1 92 Tryz.underlying94 sz92) <| yv (y_l1 ag92 rfl) <| yv (y_len Tryz.underlying92 rfl) ?_; refine yv (y_lss rfl rfl) ?_; refine fk [(0,_),(3,_),(4,_),(15,_)] K7 ?_; refine qz ?_ ?_ <;> intro hc0 <;> try simp only [hyZ] at hc0
 ·have hi : i < T.length := by omega
  obtain ⟨y, hy⟩ : ∃ y, T[i]? = some y := ⟨_, List.getElem?_eq_getElem hi⟩
  have hts := map_succ noteN hy
  have htl : ((T.take i).map noteN).length ≤ i := by rw [List.length_map, List.length_take]; omega
  obtain ⟨D, hD⟩ : ∃ D, (T.take i).map noteN = D := ⟨_, rfl⟩
  rw [hD] at hts htl; rw [hD]; refine qv K6 <| Hd.seq fun _ K8 => ?_
  refine Hd.block <| sr fun _ K9 => ?_
  refine yv y_mv <| yv y_np <| yv (y_f 1 92 Tryz.underlying94 sz92) <| yv (y_l1 ag92 rfl) <| yv y_mv <| yv (y_idxR Tryz.underlying92 sz183 rfl rfl (by omega) (by exact RdS.own pkk)) ?_; refine yv (y_loadRn (vs := encRn y) ag183 rfl (RdS.own (ad := la) (us := T.flatMap encRn) pkk) (flat_cells encRn 8 (fun _ => rfl) hy) sz183 (by simp)) ?_; refine Hd.alloc zr183 (fun b5 => ?_); refine Hd.storeA (us := encRn y) sz183 rfl rfl rfl (by simp [Value.oneCell']) pkk (by exact rfl) ?_; refine fk [(0,_),(3,_),(4,_),(5,_)] K9 ?_; refine sr fun _ K10 => ?_
  refine yv y_as <| fk [(0,_),(3,_),(4,_),(5,_),(6,_)] K10 ?_; refine Hd.cutK (ι := Unit) [(0,_),(3,_),(4,_),(5,_)] (fun _ => [(6, .int .i64 (if y.d = true then 8 else 0))]) (fun _ => pt b5 (encRn y) 183 :: own 82 4 na D.length nc (D.flatMap encNo) :: RkP qb rb la lc T (Rf.RwP rb w :: L)) ?_ ?_ ⟨rfl, rfl, rfl, rfl, trivial⟩
  ·refine sr fun _ K11 => ?_
   refine yv (y_f 3 4 Tryz.underlying183 sz4) <| yv (y_l1 ag4 rfl) <| fk [(0,_),(3,_),(4,_),(5,_),(6,_),(26,_)] K11 ?_; refine qz ?_ ?_ <;> intro hc1 <;> try simp only [hyZ] at hc1
   ·refine Hd.region ?_
    refine yv y_mv <| yv (y_addn rfl rfl (by simp only [InK]; omega)) ?_; refine yv y_as <| Hd.nil <| slots [(0,_),(3,_),(4,_),(5,_),(6,_)] sbq ?_; refine thenN ?_; exact Hd.meet () ⟨congrArg (fun z => some (Value.int .i64 z)) (by rw [if_pos hc1]; rfl), by repeat (first | exact trivial | refine ⟨rfl, ?_⟩)⟩ sq
   refine Hd.skip <| thenN ?_; exact Hd.meet () ⟨congrArg (fun z => some (Value.int .i64 z)) (by rw [if_neg (by simpa using hc1)]), by repeat (first | exact trivial | refine ⟨rfl, ?_⟩)⟩ sq
  intro _
  obtain ⟨n1, hn1⟩ : ∃ n : Int, (if y.d = true then (8 : Int) else 0) = n := ⟨_, rfl⟩
  have hn1b : 0 ≤ n1 ∧ n1 ≤ 8 := by rw [← hn1]; split <;> omega
  rw [hn1]; refine Hd.cutK (ι := Unit) [(0,_),(3,_),(4,_),(5,_)] (fun _ => [(6, .int .i64 (n1 + if y.c = true then 16 else 0))]) (fun _ => pt b5 (encRn y) 183 :: own 82 4 na D.length nc (D.flatMap encNo) :: RkP qb rb la lc T (Rf.RwP rb w :: L)) ?_ ?_ ⟨rfl, rfl, rfl, rfl, trivial⟩
  ·refine sr fun _ K12 => ?_
   refine yv (y_f 4 4 Tryz.underlying183 sz4) <| yv (y_l1 ag4 rfl) <| fk [(0,_),(3,_),(4,_),(5,_),(6,_),(30,_)] K12 ?_; refine qz ?_ ?_ <;> intro hc2 <;> try simp only [hyZ] at hc2
   ·refine Hd.region ?_
    refine yv y_mv <| yv (y_addn rfl rfl (by simp only [InK]; omega)) ?_; refine yv y_as <| Hd.nil <| slots [(0,_),(3,_),(4,_),(5,_),(6,_)] sbq ?_; refine thenN ?_; exact Hd.meet () ⟨congrArg (fun z => some (Value.int .i64 z)) (by rw [if_pos hc2]), by repeat (first | exact trivial | refine ⟨rfl, ?_⟩)⟩ sq
   refine Hd.skip <| thenN ?_; exact Hd.meet () ⟨congrArg (fun z => some (Value.int .i64 z)) (by rw [if_neg (by simpa using hc2), Int.add_zero]), by repeat (first | exact trivial | refine ⟨rfl, ?_⟩)⟩ sq
  intro _
  obtain ⟨n2, hn2⟩ : ∃ n : Int, (n1 + if y.c = true then (16 : Int) else 0) = n := ⟨_, rfl⟩
  have hn2b : 0 ≤ n2 ∧ n2 ≤ 24 := by rw [← hn2]; split <;> omega
  rw [hn2]; refine Hd.cutK (ι := Unit) [(0,_),(3,_),(4,_),(5,_)] (fun _ => [(6, .int .i64 (flK y.d y.c y.o))]) (fun _ => pt b5 (encRn y) 183 :: own 82 4 na D.length nc (D.flatMap encNo) :: RkP qb rb la lc T (Rf.RwP rb w :: L)) ?_ ?_ ⟨rfl, rfl, rfl, rfl, trivial⟩
  ·refine sr fun _ K13 => ?_
   refine yv (y_f 5 4 Tryz.underlying183 sz4) <| yv (y_l1 ag4 rfl) <| fk [(0,_),(3,_),(4,_),(5,_),(6,_),(34,_)] K13 ?_; refine qz ?_ ?_ <;> intro hc3 <;> try simp only [hyZ] at hc3
   ·refine Hd.region ?_
    refine yv y_mv <| yv (y_addn rfl rfl (by simp only [InK]; omega)) ?_; refine yv y_as <| Hd.nil <| slots [(0,_),(3,_),(4,_),(5,_),(6,_)] sbq ?_; refine thenN ?_; exact Hd.meet () ⟨congrArg (fun z => some (Value.int .i64 z)) (by unfold flK; rw [hn1, hn2, if_pos hc3]), by repeat (first | exact trivial | refine ⟨rfl, ?_⟩)⟩ sq
   refine Hd.skip <| thenN ?_; exact Hd.meet () ⟨congrArg (fun z => some (Value.int .i64 z)) (by unfold flK; rw [hn1, hn2, if_neg (by simpa using hc3), Int.add_zero]), by repeat (first | exact trivial | refine ⟨rfl, ?_⟩)⟩ sq
  intro _; refine Hd.region <| yv y_mv <| yv (y_f 0 3 Tryz.underlying183 sz3) <| yv (y_l1 ag3 rfl) <| yv (y_f 1 3 Tryz.underlying183 sz3) <| yv (y_l1 ag3 rfl) <| yv y_mv <| yv (y_build (vs := [(0,_),(1,_),(2,_)]) rfl (by exact bd40_43 ..)) ?_; refine Hd.bslice (vs := [(0,_)]) rfl (by exact bs40_44 ..) (fun b44 => ?_); refine Hd.append Tryz.underlying67 ty82 rfl rfl rfl pkk (by exact RdS.rd (Rd.pt pkk (fun j v e => by simpa using e)) rfl) (by simp [Value.oneCell']; done) (by simp only [maxLen]; omega) (by omega) (fun ad45 cap45 => ?_); refine yv y_as <| Hd.nil <| slots [(0,_),(3,_),(4,_)] sbq ?_; refine Hd.inB <| Hd.toK K8 ?_; refine Hd.region <| yv y_mv <| yv (y_addn rfl rfl (by simp only [InK]; omega)) ?_; refine yv y_as <| Hd.nil <| slots [(0,_),(3,_),(4,_)] sbq ?_; refine thenN ?_
  refine Hd.again (i + 1, ad45, cap45) (by show T.length - (i + 1) < T.length - i; omega) (by (try dsimp only); rw [hts, List.length_append]; repeat (first | exact trivial | refine ⟨rfl, ?_⟩)) (fun q t => ?_); rw [hts]; exact Ent.sep (.pure (show i + 1 ≤ T.length by omega) (.eq pkk (own_eq3 (by rw [List.length_append]; rfl) rfl (by rw [List.flatMap_append]; rfl)) enn)) q t
 obtain rfl : i = T.length := by omega
 rw [List.take_of_length_le (Nat.le_refl _)]; refine Hd.exit <| Hd.thenExit <| Hd.thenExit <| Hd.inBexit <| Hd.toK K4 ?_; refine sr fun _ K14 => ?_
 refine yv y_mv <| yv y_as <| fk [(2,_)] K14 ?_; refine Hd.ret ?_; rw [hT]; exact Hd.ret1 rfl (na, nc, la, lc) rfl sq
def insSn (x : RnA) (s : Bool × List RnA) (y : RnA) : Bool × List RnA := (s.1 || decide (geR y x), (s.2 ++ if s.1 = false ∧ geR y x then [x] else []) ++ if y.id ≠ x.id ∨ y.flt ≠ x.flt then [y] else [])
def insFn (x : RnA) (l : List RnA) : Bool × List RnA := l.foldl (insSn x) (false, [])
theorem insFn_eq (x : RnA) (l : List RnA) : insN x false l = (insFn x l).2 ++ if (insFn x l).1 = true then [] else [x] := by
 have key : ∀ (l : List RnA) (d : Bool) (a : List RnA), a ++ insN x d l = (l.foldl (insSn x) (d, a)).2 ++ if (l.foldl (insSn x) (d, a)).1 = true then [] else [x] := fun l => by
  induction l with
  | nil => intro d a; rfl
  | cons y t ih =>
   intro d a; rw [List.foldl_cons]
   show a ++ ((if d = false ∧ geR y x then [x] else []) ++ ((if y.id ≠ x.id ∨ y.flt ≠ x.flt then [y] else []) ++ insN x (d || decide (geR y x)) t)) = _
   rw [show (insSn x (d, a) y) = (d || decide (geR y x), (a ++ if d = false ∧ geR y x then [x] else []) ++ if y.id ≠ x.id ∨ y.flt ≠ x.flt then [y] else []) from rfl, ← ih]; simp only [List.append_assoc]
 exact key l false []
theorem insFn_succ (x : RnA) {l : List RnA} {k : Nat} {y : RnA} (h : l[k]? = some y) : insFn x (l.take (k + 1)) = insSn x (insFn x (l.take k)) y := by
 unfold insFn; rw [List.take_add_one, h, Option.toList_some, List.foldl_append]; rfl
theorem insFn_len (x : RnA) : ∀ l : List RnA, (insFn x l).2.length ≤ 2 * l.length := by
 have key : ∀ (l : List RnA) (s : Bool × List RnA), (l.foldl (insSn x) s).2.length ≤ s.2.length + 2 * l.length := fun l => by
  induction l with
  | nil => intro s; exact Nat.le_refl _
  | cons y t ih =>
   intro s; rw [List.foldl_cons]; refine Nat.le_trans (ih _) ?_; unfold insSn; dsimp only; rw [List.length_append, List.length_append, List.length_cons]
   split <;> split <;> simp <;> omega
 intro l
 have := key l (false, [])
 show (l.foldl (insSn x) (false, [])).2.length ≤ _
 simpa using this
theorem rput16_ct (L : List SP) (qb rb : Nat) (ad : Option Addr) (c : Nat) (l : List RnA) (hl : l.length ≤ 1000) (x : RnA) : Ct Tryz.prog 165 #[.pointer (some ⟨qb, 0, none⟩), .agg (encRn x).toArray] (RkP qb rb ad c l L) (fun q_ : Option Addr × Nat => .tuple #[]) (fun q_ : Option Addr × Nat => RkP qb rb q_.1 q_.2 (insN x false l) L) := by
 refine Ct.o2 Tryz.func165 ?_; intro E
 show Hd E 77 _ _ _ _
 refine sr fun _ K1 => ?_
 refine Hd.box rfl rfl (fun b3 => ?_); refine fk [(0,_),(3,_)] K1 ?_; refine sr fun _ K2 => ?_
 refine yv y_as <| fk [(0,_),(3,_),(4,_)] K2 ?_; refine sr fun _ K3 => ?_
 refine yv y_as <| fk [(0,_),(3,_),(4,_),(5,_)] K3 ?_; refine Hd.seq fun _ K4 => ?_
 refine sr fun _ K5 => ?_
 refine yv y_as <| fk [(0,_),(3,_),(4,_),(5,_),(6,_)] K5 ?_; refine Hd.block <| Hd.loopK (ι := Nat × Option Addr × Nat) [(0,_),(3,_)] (fun q_ => [(4, .slice q_.2.1 (insFn x (l.take q_.1)).2.length q_.2.2), (5, .bool (insFn x (l.take q_.1)).1), (6, .int .i64 (q_.1 : Int))]) (fun q_ => pu (q_.1 ≤ l.length) :: own 183 8 q_.2.1 (insFn x (l.take q_.1)).2.length q_.2.2 ((insFn x (l.take q_.1)).2.flatMap encRn) :: pt b3 (encRn x) 183 :: RkP qb rb ad c l L) (fun q_ => l.length - q_.1) (0, none, 0) sbq sbq (fun q t => Ent.sep (.pure (Nat.zero_le _) (.ownNil enn)) q t) ?_; rintro ⟨k, ia, ic⟩
 try dsimp only
 refine Hd.pure (fun hp0 => ?_)
 try dsimp only at hp0
 refine Hd.seq fun _ K6 => ?_
 refine sr fun _ K7 => ?_
 refine yv y_mv <| yv y_mv <| yv y_np <| yv (y_f 1 92 Tryz.underlying94 sz92) <| yv (y_l1 ag92 rfl) <| yv (y_len Tryz.underlying92 rfl) ?_; refine yv (y_lss rfl rfl) ?_; refine fk [(0,_),(3,_),(4,_),(5,_),(6,_),(14,_)] K7 ?_; refine qz ?_ ?_ <;> intro hc0 <;> try simp only [hyZ] at hc0
 ·have hk : k < l.length := by omega
  obtain ⟨y, hy⟩ : ∃ y, l[k]? = some y := ⟨_, List.getElem?_eq_getElem hk⟩
  have hs := insFn_succ x hy
  have hln := insFn_len x (l.take k)
  rw [List.length_take] at hln
  obtain ⟨S, hS⟩ : ∃ S, insFn x (l.take k) = S := ⟨_, rfl⟩
  rw [hS] at hs hln; rw [hS]; refine qv K6 <| Hd.seq fun _ K8 => ?_
  refine Hd.block <| sr fun _ K9 => ?_
  refine yv y_mv <| yv y_np <| yv (y_f 1 92 Tryz.underlying94 sz92) <| yv (y_l1 ag92 rfl) <| yv y_mv <| yv (y_idxR Tryz.underlying92 sz183 rfl rfl (by omega) (by exact RdS.own pkk)) ?_; refine yv (y_loadRn (vs := encRn y) ag183 rfl (RdS.own (ad := ad) (us := l.flatMap encRn) pkk) (flat_cells encRn 8 (fun _ => rfl) hy) sz183 (by simp)) ?_; refine Hd.alloc zr183 (fun b7 => ?_); refine Hd.storeA (us := encRn y) sz183 rfl rfl rfl (by simp [Value.oneCell']) pkk (by exact rfl) ?_; refine fk [(0,_),(3,_),(4,_),(5,_),(6,_),(7,_)] K9 ?_
  obtain ⟨D1, hD1⟩ : ∃ D1, (S.1 || decide (geR y x)) = D1 := ⟨_, rfl⟩
  obtain ⟨L1, hL1⟩ : ∃ L1, (S.2 ++ if S.1 = false ∧ geR y x then [x] else []) = L1 := ⟨_, rfl⟩
  refine Hd.cutK (ι := Option Addr × Nat) [(0,_),(3,_),(6,_),(7,_)] (fun p => [(4, .slice p.1 L1.length p.2), (5, .bool D1)]) (fun p => own 183 8 p.1 L1.length p.2 (L1.flatMap encRn) :: pt b7 (encRn y) 183 :: pt b3 (encRn x) 183 :: RkP qb rb ad c l L) ?_ ?_ ⟨rfl, rfl, rfl, rfl, trivial⟩
  ·refine sr fun _ K10 => ?_
   refine yv y_mv <| yv (y_not rfl) <| yv y_mv ?_; apply Hd.andg (q := (decide (y.id > x.id) || (decide (y.id = x.id) && decide (y.flt ≥ x.flt)))) 20 26 46 [(0,_),(3,_),(4,_),(5,_),(6,_),(7,_)] rfl sbq
   ·intro hg7_26
    try simp only [hyZ] at hg7_26
    simp only [List.take]; refine y2 (y_f 0 3 Tryz.underlying183 sz3) <| y2 (y_l1 ag3 rfl) <| y2 (y_f 0 3 Tryz.underlying183 sz3) <| y2 (y_l1 ag3 rfl) <| y2 (y_gtr rfl rfl) ?_; refine y2 y_mv ?_; apply Hd.org (q := (decide (y.id = x.id) && decide (y.flt ≥ x.flt))) 13 32 45 [(0,_),(3,_),(4,_),(5,_),(6,_),(7,_),(26,_)] rfl sbq
    ·intro hg7_32
     try simp only [hyZ] at hg7_32
     simp only [List.take]; refine n1 <| n1 <| n1 <| n1 <| n1 <| n1 <| n1 <| n1 <| n1 <| n1 <| n1 <| n1 <| y2 (y_pickT rfl rfl) ?_; exact Hd.mn
    ·intro hg7_32
     try simp only [hyZ] at hg7_32
     simp only [List.take]; refine y2 (y_f 0 3 Tryz.underlying183 sz3) <| y2 (y_l1 ag3 rfl) <| y2 (y_f 0 3 Tryz.underlying183 sz3) <| y2 (y_l1 ag3 rfl) <| y2 (y_eql rfl rfl) ?_; refine y2 y_mv ?_; apply Hd.andg 6 38 44 [(0,_),(3,_),(4,_),(5,_),(6,_),(7,_),(26,_),(32,_)] rfl sbq
     ·intro hg7_38
      try simp only [hyZ] at hg7_38
      simp only [List.take]; refine y2 (y_f 1 3 Tryz.underlying183 sz3) <| y2 (y_l1 ag3 rfl) <| y2 (y_f 1 3 Tryz.underlying183 sz3) <| y2 (y_l1 ag3 rfl) <| y2 (y_geq rfl rfl) ?_; refine y2 (y_pickT rfl rfl) ?_; exact Hd.mn
     ·intro hg7_38
      try simp only [hyZ] at hg7_38
      simp only [List.take]; refine n1 <| n1 <| n1 <| n1 <| n1 <| y2 (y_pickF rfl rfl) ?_; exact Hd.mn
     simp only [List.drop]; refine y2 (y_pickF rfl rfl) ?_; exact Hd.mn
    simp only [List.drop]; refine yv (y_pickT rfl rfl) ?_; exact Hd.mn
   ·intro hg7_26
    try simp only [hyZ] at hg7_26
    simp only [List.take]; refine n1 <| n1 <| n1 <| n1 <| n1 <| n1 <| n1 <| n1 <| n1 <| n1 <| n1 <| n1 <| n1 <| n1 <| n1 <| n1 <| n1 <| n1 <| n1 <| yv (y_pickF rfl rfl) ?_; exact Hd.mn
   simp only [List.drop]; refine fk [(0,_),(3,_),(4,_),(5,_),(6,_),(7,_),(46,_)] K10 ?_; refine qz ?_ ?_ <;> intro hc1 <;> try simp only [hyZ] at hc1
   ·have hg : geR y x := by rcases hc1.2 with h | h; exact .inl h; exact .inr ⟨h.1, h.2⟩
    rw [if_pos (show S.1 = false ∧ geR y x from ⟨hc1.1, hg⟩)] at hL1; rw [decide_eq_true hg, Bool.or_true] at hD1; refine sr fun _ K11 => ?_
    refine yv y_mv <| yv (y_loadn (us := [_, _, _, _, _, _, _, _]) ag183 rfl (Rd.pt pkk (by (first | (intro j v e; rcases j with _|_|_|_|_|_|_|_|_|_|_|_|j <;> first | exact e | exact absurd e (by simp))))) (by exact sz183)) ?_; refine Hd.bslice (vs := [(0,_)]) rfl (by exact bs165_49 ..) (fun b49 => ?_); refine Hd.append Tryz.underlying92 ty183 rfl rfl rfl pkk (by exact RdS.rd (Rd.pt pkk (fun j v e => by simpa using e)) rfl) (by simp [Value.oneCell']; done) (by simp only [maxLen]; omega) (by omega) (fun ad50 cap50 => ?_); refine yv y_as <| fk [(0,_),(3,_),(4,_),(6,_),(7,_)] K11 ?_; refine Hd.region <| yv y_as <| Hd.nil <| slots [(0,_),(3,_),(4,_),(5,_),(6,_),(7,_)] sbq ?_; refine thenN ?_; subst hL1 hD1; exact Hd.meet (ad50, cap50) ⟨by rw [List.length_append]; rfl, by repeat (first | exact trivial | refine ⟨rfl, ?_⟩)⟩ (Ent.sep (.eq pkk (own_eq3 (by rw [List.length_append]; rfl) rfl (by rw [List.flatMap_append]; rfl)) enn))
   have hn8 : ¬ (S.1 = false ∧ geR y x) := by
    rintro ⟨h, g⟩
    rcases hc1 with e | e
    ·rw [h] at e; cases e
    ·omega
   rw [if_neg hn8, List.append_nil] at hL1
   have hd8 : S.1 = D1 := by
    rw [← hD1]
    cases h : S.1 with
    | true => rfl
    | false => rw [decide_eq_false (fun g => hn8 ⟨h, g⟩)]; rfl
   refine Hd.skip <| thenN ?_; subst hL1; exact Hd.meet (ia, ic) ⟨rfl, by rw [hd8]; rfl, by repeat (first | exact trivial | refine ⟨rfl, ?_⟩)⟩ sq
  rintro ⟨ja, jc⟩; dsimp only
  have hs2 : insFn x (l.take (k + 1)) = (D1, L1 ++ if y.id ≠ x.id ∨ y.flt ≠ x.flt then [y] else []) := by
   rw [hs, ← hD1, ← hL1]
   rfl
  have hL1l : L1.length ≤ 3000 := by
   rw [← hL1, List.length_append]
   split <;> simp <;> omega
  refine sr fun _ K12 => ?_
  refine yv (y_f 0 3 Tryz.underlying183 sz3) <| yv (y_l1 ag3 rfl) <| yv (y_f 0 3 Tryz.underlying183 sz3) <| yv (y_l1 ag3 rfl) <| yv (y_neq rfl rfl) ?_; refine yv y_mv ?_; apply Hd.org 6 56 62 [(0,_),(3,_),(4,_),(5,_),(6,_),(7,_)] rfl sbq
  ·intro hg10_56
   try simp only [hyZ] at hg10_56
   simp only [List.take]; refine n1 <| n1 <| n1 <| n1 <| n1 <| yv (y_pickT rfl rfl) ?_; exact Hd.mn
  ·intro hg10_56
   try simp only [hyZ] at hg10_56
   simp only [List.take]; refine y2 (y_f 1 3 Tryz.underlying183 sz3) <| y2 (y_l1 ag3 rfl) <| y2 (y_f 1 3 Tryz.underlying183 sz3) <| y2 (y_l1 ag3 rfl) <| y2 (y_neq rfl rfl) ?_; refine yv (y_pickF rfl rfl) ?_; exact Hd.mn
  simp only [List.drop]; refine fk [(0,_),(3,_),(4,_),(5,_),(6,_),(7,_),(62,_)] K12 ?_; refine qz ?_ ?_ <;> intro hc2 <;> try simp only [hyZ] at hc2
  ·rw [if_pos hc2] at hs2
   refine Hd.region <| yv y_mv <| yv (y_loadn (us := [_, _, _, _, _, _, _, _]) ag183 rfl (Rd.pt pkk (by (first | (intro j v e; rcases j with _|_|_|_|_|_|_|_|_|_|_|_|j <;> first | exact e | exact absurd e (by simp))))) (by exact sz183)) ?_; refine Hd.bslice (vs := [(0,_)]) rfl (by exact bs165_65 ..) (fun b65 => ?_); refine Hd.append Tryz.underlying92 ty183 rfl rfl rfl pkk (by exact RdS.rd (Rd.pt pkk (fun j v e => by simpa using e)) rfl) (by simp [Value.oneCell']; done) (by simp only [maxLen]; omega) (by omega) (fun ad66 cap66 => ?_); refine yv y_as <| Hd.nil <| slots [(0,_),(3,_),(4,_),(5,_),(6,_)] sbq ?_; refine Hd.inB <| Hd.toK K8 ?_; refine Hd.region <| yv y_mv <| yv (y_addn rfl rfl (by simp only [InK]; omega)) ?_; refine yv y_as <| Hd.nil <| slots [(0,_),(3,_),(4,_),(5,_),(6,_)] sbq ?_; refine thenN <| Hd.again (k + 1, ad66, cap66) (by show l.length - (k + 1) < l.length - k; omega) (by (try dsimp only); rw [hs2]; refine ⟨by rw [List.length_append]; rfl, ?_⟩; repeat (first | exact trivial | refine ⟨rfl, ?_⟩)) (fun q t => ?_)
   rw [hs2]; exact Ent.sep (.pure (show k + 1 ≤ l.length by omega) (.eq pkk (own_eq3 (by rw [List.length_append]; rfl) rfl (by rw [List.flatMap_append]; rfl)) enn)) q t
  rw [if_neg (by omega), List.append_nil] at hs2; refine Hd.skip <| Hd.inB <| Hd.toK K8 ?_; refine Hd.region <| yv y_mv <| yv (y_addn rfl rfl (by simp only [InK]; omega)) ?_; refine yv y_as <| Hd.nil <| slots [(0,_),(3,_),(4,_),(5,_),(6,_)] sbq ?_; refine thenN <| Hd.again (k + 1, ja, jc) (by show l.length - (k + 1) < l.length - k; omega) (by (try dsimp only); rw [hs2]; repeat (first | exact trivial | refine ⟨rfl, ?_⟩)) (fun q t => ?_); rw [hs2]; exact Ent.sep (.pure (show k + 1 ≤ l.length by omega) enn) q t
 obtain rfl : k = l.length := by omega
 rw [List.take_of_length_le (Nat.le_refl _)]
 have hs := insFn_eq x l
 have hln := insFn_len x l
 obtain ⟨S, hS⟩ : ∃ S, insFn x l = S := ⟨_, rfl⟩
 rw [hS] at hs hln; rw [hS]; refine Hd.exit <| Hd.thenExit <| Hd.thenExit <| Hd.inBexit <| Hd.toK K4 ?_; refine Hd.seq fun _ K13 => ?_
 refine sr fun _ K14 => ?_
 refine yv y_mv <| yv (y_not rfl) <| fk [(0,_),(3,_),(4,_),(68,_)] K14 ?_; refine qz ?_ ?_ <;> intro hc3 <;> try simp only [hyZ] at hc3
 ·rw [if_neg (by rw [hc3]; decide)] at hs
  refine Hd.region <| yv y_mv <| yv (y_loadn (us := [_, _, _, _, _, _, _, _]) ag183 rfl (Rd.pt pkk (by (first | (intro j v e; rcases j with _|_|_|_|_|_|_|_|_|_|_|_|j <;> first | exact e | exact absurd e (by simp))))) (by exact sz183)) ?_; refine Hd.bslice (vs := [(0,_)]) rfl (by exact bs165_71 ..) (fun b71 => ?_); refine Hd.append Tryz.underlying92 ty183 rfl rfl rfl pkk (by exact RdS.rd (Rd.pt pkk (fun j v e => by simpa using e)) rfl) (by simp [Value.oneCell']; done) (by simp only [maxLen]; omega) (by omega) (fun ad72 cap72 => ?_); refine yv y_as <| fk [(0,_),(4,_)] K13 ?_; refine Hd.region <| yv y_mv <| yv y_mv <| yv y_np <| yv (y_f 1 92 Tryz.underlying94 sz92) <| Hd.store1 sz92 rfl rfl rfl pkk (by simp; done) ?_
  try simp only [hyS]
  refine Hd.nil <| slots [] sbq ?_; rw [hs]; exact Hd.ret0 rfl (ad72, cap72) rfl (Ent.sep (.eq pkk (pt_eq (by rw [List.length_append]; rfl)) (.eq pkk (own_eq3 (by rw [List.length_append]; rfl) rfl (by rw [List.flatMap_append]; rfl)) enn)))
 rw [if_pos (by simpa using hc3), List.append_nil] at hs; refine qv K13 <| Hd.region <| yv y_mv <| yv y_mv <| yv y_np <| yv (y_f 1 92 Tryz.underlying94 sz92) <| Hd.store1 sz92 rfl rfl rfl pkk (by simp; done) ?_
 try simp only [hyS]
 refine Hd.nil <| slots [] sbq ?_; rw [hs]; exact Hd.ret0 rfl (ia, ic) rfl sq
theorem dueN_succ (w : WA) {l : List RnA} {i : Nat} {y : RnA} (h : l[i]? = some y) : dueN w (l.take (i + 1)) = dueN w (l.take i) ++ (dueN1 w y).toList := by
 unfold dueN; rw [List.take_add_one, h, Option.toList_some, List.filterMap_append, List.filterMap_cons, List.filterMap_nil]
 cases dueN1 w y <;> rfl
theorem dueN_le (w : WA) (l : List RnA) (i : Nat) : (dueN w (l.take i)).length ≤ i := by
 have h1 := List.length_filterMap_le (dueN1 w) (l.take i)
 rw [List.length_take] at h1; unfold dueN; omega
theorem rdue16_ct (L : List SP) (qb rb : Nat) (ad : Option Addr) (c : Nat) (l : List RnA) (w : WA) (hw : WOk w) (hl : l.length ≤ 1000000) (hsg : ∀ x ∈ tidyN w l, x.flt = 3 → 1 ≤ x.id ∧ x.id ≤ 31) : Ct Tryz.prog 39 #[.pointer (some ⟨qb, 0, none⟩)] (RkP qb rb ad c l (Rf.RwP rb w :: L)) (fun q_ : Option Addr × Nat × Option Addr × Nat => .slice q_.1 (dueN w (tidyN w l)).length q_.2.1) (fun q_ : Option Addr × Nat × Option Addr × Nat => own 82 4 q_.1 (dueN w (tidyN w l)).length q_.2.1 ((dueN w (tidyN w l)).flatMap encNo) :: RkP qb rb q_.2.2.1 q_.2.2.2 (tidyN w l) (Rf.RwP rb w :: L)) := by
 refine Ct.o1 Tryz.func39 ?_; intro E
 show Hd E 105 _ _ _ _
 have hlt := tidyN_le w l l.length
 rw [List.take_of_length_le (Nat.le_refl _)] at hlt
 have hhd := hw.hdl
 have hcl := hw.ctl
 refine sr fun _ K1 => ?_
 refine yv y_as <| fk [(0,_)] K1 ?_; refine sr fun _ K2 => ?_
 refine yv y_mv <| callE rfl fk98 (rtidy16_ct _ qb rb ad c l w hw hl) sq ?_; rintro ⟨la, lc⟩; dsimp only
 obtain ⟨T, hT⟩ : ∃ T, tidyN w l = T := ⟨_, rfl⟩
 rw [hT] at hlt hsg ⊢; refine fk [(0,_)] K2 ?_; refine sr fun _ K3 => ?_
 refine yv y_as <| fk [(0,_),(3,_)] K3 ?_; refine Hd.seq fun _ K4 => ?_
 refine sr fun _ K5 => ?_
 refine yv y_as <| fk [(0,_),(3,_),(4,_)] K5 ?_; refine Hd.block <| Hd.loopK (ι := Nat × Option Addr × Nat) [(0,_)] (fun q_ => [(3, .slice q_.2.1 (dueN w (T.take q_.1)).length q_.2.2), (4, .int .i64 (q_.1 : Int))]) (fun q_ => pu (q_.1 ≤ T.length) :: own 82 4 q_.2.1 (dueN w (T.take q_.1)).length q_.2.2 ((dueN w (T.take q_.1)).flatMap encNo) :: RkP qb rb la lc T (Rf.RwP rb w :: L)) (fun q_ => T.length - q_.1) (0, none, 0) sbq sbq (fun q t => Ent.sep (.pure (Nat.zero_le _) (.ownNil enn)) q t) ?_; rintro ⟨i, da, dc⟩
 try dsimp only
 refine Hd.pure (fun hp0 => ?_)
 try dsimp only at hp0
 refine Hd.seq fun _ K6 => ?_
 refine sr fun _ K7 => ?_
 refine yv y_mv <| yv y_mv <| yv y_np <| yv (y_f 1 92 Tryz.underlying94 sz92) <| yv (y_l1 ag92 rfl) <| yv (y_len Tryz.underlying92 rfl) ?_; refine yv (y_lss rfl rfl) ?_; refine fk [(0,_),(3,_),(4,_),(18,_)] K7 ?_; refine qz ?_ ?_ <;> intro hc0 <;> try simp only [hyZ] at hc0
 ·have hi : i < T.length := by omega
  obtain ⟨y, hy⟩ : ∃ y, T[i]? = some y := ⟨_, List.getElem?_eq_getElem hi⟩
  have hys := hsg y (List.mem_of_getElem? hy)
  have hts := dueN_succ w hy
  have htl := dueN_le w T i
  obtain ⟨D, hD⟩ : ∃ D, dueN w (T.take i) = D := ⟨_, rfl⟩
  rw [hD] at hts htl; rw [hD]; refine qv K6 <| Hd.seq fun _ K8 => ?_
  refine Hd.block <| sr fun _ K9 => ?_
  refine yv y_mv <| yv y_np <| yv (y_f 1 92 Tryz.underlying94 sz92) <| yv (y_l1 ag92 rfl) <| yv y_mv <| yv (y_idxR Tryz.underlying92 sz183 rfl rfl (by omega) (by exact RdS.own pkk)) ?_; refine yv (y_loadRn (vs := encRn y) ag183 rfl (RdS.own (ad := la) (us := T.flatMap encRn) pkk) (flat_cells encRn 8 (fun _ => rfl) hy) sz183 (by simp)) ?_; refine Hd.alloc zr183 (fun b5 => ?_); refine Hd.storeA (us := encRn y) sz183 rfl rfl rfl (by simp [Value.oneCell']) pkk (by exact rfl) ?_; refine fk [(0,_),(3,_),(4,_),(5,_)] K9 ?_; refine sr fun _ K10 => ?_
  refine yv (y_f 0 3 Tryz.underlying183 sz3) <| yv (y_l1 ag3 rfl) <| yv (y_f 1 3 Tryz.underlying183 sz3) <| yv (y_l1 ag3 rfl) <| yv (y_build (vs := [(0,_),(1,_)]) rfl (by exact bd39_32 ..)) ?_; refine Hd.alloc zr82 (fun b6 => ?_); refine Hd.storeA (us := encNo (y.id, y.flt, 0, 0)) sz82 rfl rfl rfl (by simp [Value.oneCell']) pkk (by exact rfl) ?_; refine fk [(0,_),(3,_),(4,_),(5,_),(6,_)] K10 ?_; refine Hd.seq fun _ K11 => ?_
  refine sr fun _ K12 => ?_
  refine yv (y_f 3 4 Tryz.underlying183 sz4) <| yv (y_l1 ag4 rfl) <| fk [(0,_),(3,_),(4,_),(5,_),(6,_),(34,_)] K12 ?_; refine qz ?_ ?_ <;> intro hc1 <;> try simp only [hyZ] at hc1
  ·rw [show dueN1 w y = none from if_pos hc1, Option.toList_none, List.append_nil] at hts
   refine Hd.exit <| Hd.thenExit <| Hd.inBexit <| Hd.toK K8 ?_; refine Hd.region <| yv y_mv <| yv (y_addn rfl rfl (by simp only [InK]; omega)) ?_; refine yv y_as <| Hd.nil <| slots [(0,_),(3,_),(4,_)] sbq ?_; refine thenN <| Hd.again (i + 1, da, dc) (by show T.length - (i + 1) < T.length - i; omega) (by (try dsimp only); rw [hts]; repeat (first | exact trivial | refine ⟨rfl, ?_⟩)) (fun q t => ?_); rw [hts]; exact Ent.sep (.pure (show i + 1 ≤ T.length by omega) enn) q t
  have hyd : ¬ y.d = true := by simpa using hc1
  refine qv K11 <| Hd.seq fun _ K13 => ?_
  refine sr fun _ K14 => ?_
  refine yv (y_f 1 3 Tryz.underlying183 sz3) <| yv (y_l1 ag3 rfl) <| yv (y_eql rfl rfl) ?_; refine fk [(0,_),(3,_),(4,_),(5,_),(6,_),(37,_)] K14 ?_; refine qz ?_ ?_ <;> intro hc2 <;> try simp only [hyZ] at hc2
  ·have hd1 : dueN1 w y = if 0 < cntS w.ct y.id then some (y.id, y.flt, 0, cntS w.ct y.id) else none := by unfold dueN1; rw [if_neg hyd, if_pos hc2]
   obtain ⟨k, hk, hk1, hk2⟩ : ∃ k : Nat, y.id = (k : Int) ∧ 1 ≤ k ∧ k < 32 := by have := hys hc2; exact ⟨y.id.toNat, by omega, by omega, by omega⟩
   have hcs : cntS w.ct y.id = w.ct.getD k 0 := by unfold cntS; rw [if_pos (by omega), hk, Int.toNat_natCast]
   obtain ⟨cn, hcn⟩ : ∃ cn, w.ct.getD k 0 = cn := ⟨_, rfl⟩
   rw [hcs, hcn] at hd1; refine Hd.cutK (ι := Unit) [(0,_),(3,_),(4,_),(6,_)] (fun _ => []) (fun _ => Rf.RwP rb w :: pt b6 (encNo (y.id, y.flt, 0, cn)) 82 :: own 82 4 da D.length dc (D.flatMap encNo) :: RkP qb rb la lc T L) ?_ ?_ ⟨rfl, rfl, rfl, rfl, trivial⟩
   ·refine Rf.Hd.rw pkk (fun j hj => ?_)
    refine Hd.drawsH ([RkH qb rb la T.length lc, pt b5 (encRn y) 183, Rf.RwH rb w j.1.length j.2.1 j.2.2]) (fun j => !(([1000] : List Nat).contains j)) mixed ?_; simp only [List.length, Nat.zero_add, Nat.reduceAdd]; refine tH 0 rfl y_mv <| tH 1 rfl y_np <| tH 2 rfl (y_f 0 39 Tryz.underlying94 sz39) <| tH 3 rfl (y_l1 ag39 rfl) <| tH 4 rfl (y_f 0 3 Tryz.underlying183 sz3) <| tH 5 rfl (y_load1 (v := .int .i64 (k : Int)) ag3 rfl (Rd.pt1 pkk (by rw [← hk]; rfl))) ?_; refine tH 6 rfl y_np <| tH 7 rfl (y_f 34 131 Tryz.underlying133 sz131) <| tH 8 rfl (y_idxA Tryz.underlying131 sz3 rfl rfl (by omega)) ?_; refine tH 9 rfl (y_load1 (v := .int .i64 cn) ag3 rfl (Rd.pt1 pkk (by rw [← hcn]; exact Rf.rc_ct (s := k) hhd hcl hk2 (by omega)))) ?_; refine tH 10 rfl (y_f 3 3 Tryz.underlying82 sz3) <| qo 11 ?_; refine Hd.store1 sz3 rfl rfl rfl pkk (by simp; done) ?_
    try simp only [hyS]
    refine qk <| endH kq ?_; refine slots [(0,_),(3,_),(4,_),(6,_)] sbq ?_; refine thenN ?_; exact Hd.meet () sbq (Ent.sep (.ex j (.pure hj enn)))
   intro _; refine Hd.seq fun _ K15 => ?_
   refine sr fun _ K16 => ?_
   refine yv (y_f 3 3 Tryz.underlying82 sz3) <| yv (y_l1 ag3 rfl) <| yv (y_gtr rfl rfl) ?_; refine fk [(0,_),(3,_),(4,_),(6,_),(51,_)] K16 ?_; refine qz ?_ ?_ <;> intro hc3 <;> try simp only [hyZ] at hc3
   ·rw [if_pos (by omega)] at hd1
    rw [hd1, Option.toList_some] at hts; refine Hd.region <| yv y_mv <| yv (y_loadn (us := [_, _, _, _]) ag82 rfl (Rd.pt pkk (by (first | (intro j v e; rcases j with _|_|_|_|_|_|_|_|_|_|_|_|j <;> first | exact e | exact absurd e (by simp))))) (by exact sz82)) ?_; refine Hd.bslice (vs := [(0,_)]) rfl (by exact bs39_54 ..) (fun b54 => ?_); refine Hd.append Tryz.underlying67 ty82 rfl rfl rfl pkk (by exact RdS.rd (Rd.pt pkk (fun j v e => by simpa using e)) rfl) (by simp [Value.oneCell']; done) (by simp only [maxLen]; omega) (by omega) (fun ad55 cap55 => ?_); refine yv y_as <| fk [(0,_),(3,_),(4,_)] K15 ?_; refine Hd.exit <| Hd.thenExit <| Hd.inBexit <| Hd.toK K8 ?_; refine Hd.region <| yv y_mv <| yv (y_addn rfl rfl (by simp only [InK]; omega)) ?_; refine yv y_as <| Hd.nil <| slots [(0,_),(3,_),(4,_)] sbq ?_; refine thenN ?_
    refine Hd.again (i + 1, ad55, cap55) (by show T.length - (i + 1) < T.length - i; omega) (by (try dsimp only); rw [hts, List.length_append]; repeat (first | exact trivial | refine ⟨rfl, ?_⟩)) (fun q t => ?_); rw [hts]; exact Ent.sep (.pure (show i + 1 ≤ T.length by omega) (.eq pkk (own_eq3 (by rw [List.length_append]; rfl) rfl (by rw [List.flatMap_append]; rfl)) enn)) q t
   rw [if_neg (by omega)] at hd1; rw [hd1, Option.toList_none, List.append_nil] at hts; refine qv K15 <| Hd.exit <| Hd.thenExit <| Hd.inBexit <| Hd.toK K8 ?_; refine Hd.region <| yv y_mv <| yv (y_addn rfl rfl (by simp only [InK]; omega)) ?_; refine yv y_as <| Hd.nil <| slots [(0,_),(3,_),(4,_)] sbq ?_; refine thenN <| Hd.again (i + 1, da, dc) (by show T.length - (i + 1) < T.length - i; omega) (by (try dsimp only); rw [hts]; repeat (first | exact trivial | refine ⟨rfl, ?_⟩)) (fun q t => ?_); rw [hts]; exact Ent.sep (.pure (show i + 1 ≤ T.length by omega) enn) q t
  obtain ⟨r, hr⟩ : ∃ r, readyR w y.id = r := ⟨_, rfl⟩
  have hd1 : dueN1 w y = if onK y.flt r = true ∧ (y.c = false ∨ y.a = true) then some (y.id, y.flt, eofK r, 0) else none := by unfold dueN1; rw [if_neg hyd, if_neg hc2, hr]
  refine qv K13 <| Hd.cutK (ι := Nat) [(0,_),(3,_),(4,_),(5,_),(6,_)] (fun b7 => [(7, .pointer (some ⟨b7, 0, none⟩))]) (fun b7 => pt b7 (encR r) 105 :: pt b5 (encRn y) 183 :: pt b6 (encNo (y.id, y.flt, 0, 0)) 82 :: own 82 4 da D.length dc (D.flatMap encNo) :: RkP qb rb la lc T (Rf.RwP rb w :: L)) ?_ ?_ ⟨rfl, rfl, rfl, rfl, rfl, trivial⟩
  ·refine Hd.drawsH ([RkH qb rb la T.length lc, pt b5 (encRn y) 183]) (fun j => !([8].contains j)) mixed ?_
   simp only [List.length, Nat.zero_add, Nat.reduceAdd]; refine tH 0 rfl y_mv <| tH 1 rfl y_np <| tH 2 rfl (y_f 0 39 Tryz.underlying94 sz39) <| tH 3 rfl (y_l1 ag39 rfl) <| tH 4 rfl (y_f 0 3 Tryz.underlying183 sz3) <| tH 5 rfl (y_l1 ag3 rfl) <| Hd.eitherH 6 7 rfl rfl kq ?_ ?_
   ·refine callE rfl fk81 (Rf.rReady_ct _ rb w hw y.id) sq ?_
    intro _; rw [hr]; refine qk <| qo 7 ?_; refine Hd.alloc zr105 (fun b7 => ?_); refine qk <| qo 8 ?_; refine Hd.storeA (us := encR r) sz105 rfl rfl rfl (by simp [Value.oneCell']) pkk (by exact rfl) ?_; refine qn <| endH kq ?_; refine slots [(0,_),(3,_),(4,_),(5,_),(6,_),(7,_)] sbq ?_; refine thenN ?_; exact Hd.meet b7 sbq sq
   refine Hd.alloc zr105 (fun b7 => ?_); refine qk <| qo 6 ?_; refine callE rfl fk81 (Rf.rReady_ct _ rb w hw y.id) sq ?_; intro _; rw [hr]; refine qk <| qo 8 ?_; refine Hd.storeA (us := encR r) sz105 rfl rfl rfl (by simp [Value.oneCell']) pkk (by exact rfl) ?_; refine qn <| endH kq ?_; refine slots [(0,_),(3,_),(4,_),(5,_),(6,_),(7,_)] sbq ?_; refine thenN ?_; exact Hd.meet b7 sbq sq
  intro b7; refine sr fun _ K17 => ?_
  refine yv (y_f 3 4 Tryz.underlying105 sz4) <| yv (y_l1 ag4 rfl) <| yv y_mv ?_; apply Hd.org 3 65 68 [(0,_),(3,_),(4,_),(5,_),(6,_),(7,_)] rfl sbq
  ·intro hg14_65
   try simp only [hyZ] at hg14_65
   simp only [List.take]; refine n1 <| n1 <| yv (y_pickT rfl rfl) ?_; exact Hd.mn
  ·intro hg14_65
   try simp only [hyZ] at hg14_65
   simp only [List.take]; refine y2 (y_f 4 4 Tryz.underlying105 sz4) <| y2 (y_l1 ag4 rfl) <| yv (y_pickF rfl rfl) ?_; exact Hd.mn
  simp only [List.drop]; refine yv y_as <| fk [(0,_),(3,_),(4,_),(5,_),(6,_),(7,_),(8,_)] K17 ?_; refine sr fun _ K18 => ?_
  refine yv y_mv <| yv y_mv ?_; apply Hd.org (q := (decide (y.flt = 1) && r.i)) 8 70 78 [(0,_),(3,_),(4,_),(5,_),(6,_),(7,_),(8,_)] rfl sbq
  ·intro hg15_70
   try simp only [hyZ] at hg15_70
   simp only [List.take]; refine n1 <| n1 <| n1 <| n1 <| n1 <| n1 <| n1 <| yv (y_pickT rfl rfl) ?_; exact Hd.mn
  ·intro hg15_70
   try simp only [hyZ] at hg15_70
   simp only [List.take]; refine y2 (y_f 1 3 Tryz.underlying183 sz3) <| y2 (y_l1 ag3 rfl) <| y2 (y_eql rfl rfl) ?_; refine y2 y_mv ?_; apply Hd.andg 3 74 77 [(0,_),(3,_),(4,_),(5,_),(6,_),(7,_),(8,_),(70,_)] rfl sbq
   ·intro hg15_74
    try simp only [hyZ] at hg15_74
    simp only [List.take]; refine y2 (y_f 1 4 Tryz.underlying105 sz4) <| y2 (y_l1 ag4 rfl) <| y2 (y_pickT rfl rfl) ?_; exact Hd.mn
   ·intro hg15_74
    try simp only [hyZ] at hg15_74
    simp only [List.take]; refine n1 <| n1 <| y2 (y_pickF rfl rfl) ?_; exact Hd.mn
   simp only [List.drop]; refine yv (y_pickF rfl rfl) ?_; exact Hd.mn
  simp only [List.drop]; refine yv y_mv ?_; apply Hd.org (q := (decide (y.flt = 2) && r.o)) 8 79 87 [(0,_),(3,_),(4,_),(5,_),(6,_),(8,_)] rfl sbq
  ·intro hg15_79
   try simp only [hyZ] at hg15_79
   simp only [List.take]; refine n1 <| n1 <| n1 <| n1 <| n1 <| n1 <| n1 <| yv (y_pickT rfl rfl) ?_; exact Hd.mn
  ·intro hg15_79
   try simp only [hyZ] at hg15_79
   simp only [List.take]; refine y2 (y_f 1 3 Tryz.underlying183 sz3) <| y2 (y_l1 ag3 rfl) <| y2 (y_eql rfl rfl) ?_; refine y2 y_mv ?_; apply Hd.andg 3 83 86 [(0,_),(3,_),(4,_),(5,_),(6,_),(8,_),(79,_)] rfl sbq
   ·intro hg15_83
    try simp only [hyZ] at hg15_83
    simp only [List.take]; refine y2 (y_f 2 4 Tryz.underlying105 sz4) <| y2 (y_l1 ag4 rfl) <| y2 (y_pickT rfl rfl) ?_; exact Hd.mn
   ·intro hg15_83
    try simp only [hyZ] at hg15_83
    simp only [List.take]; refine n1 <| n1 <| y2 (y_pickF rfl rfl) ?_; exact Hd.mn
   simp only [List.drop]; refine yv (y_pickF rfl rfl) ?_; exact Hd.mn
  simp only [List.drop]; refine yv y_as <| fk [(0,_),(3,_),(4,_),(5,_),(6,_),(8,_),(9,_)] K18 ?_; refine Hd.cutK (ι := Unit) [(0,_),(3,_),(4,_),(5,_),(6,_)] (fun _ => [(9, .bool (onK y.flt r))]) (fun _ => pt b6 (encNo (y.id, y.flt, eofK r, 0)) 82 :: pt b5 (encRn y) 183 :: own 82 4 da D.length dc (D.flatMap encNo) :: RkP qb rb la lc T (Rf.RwP rb w :: L)) ?_ ?_ ⟨rfl, rfl, rfl, rfl, rfl, trivial⟩
  ·refine sr fun _ K19 => ?_
   refine yv y_mv <| fk [(0,_),(3,_),(4,_),(5,_),(6,_),(9,_),(88,_)] K19 ?_; refine qz ?_ ?_ <;> intro hc4 <;> try simp only [hyZ] at hc4
   ·refine Hd.region ?_
    refine yv (y_f 2 3 Tryz.underlying82 sz3) <| Hd.store1 sz3 rfl rfl rfl pkk (by simp; done) ?_
    try simp only [hyS]
    refine Hd.nil <| slots [(0,_),(3,_),(4,_),(5,_),(6,_),(9,_)] sbq ?_; refine thenN ?_; exact Hd.meet () sbq (Ent.sep (.eq pkk (pt_eq (by rw [show eofK r = 128 from if_pos (by simpa using hc4)] <;> rfl)) enn))
   refine Hd.skip <| thenN ?_; exact Hd.meet () sbq (Ent.sep (.eq pkk (pt_eq (by rw [show eofK r = 0 from if_neg (by simpa using hc4)] <;> rfl)) enn))
  intro _; refine sr fun _ K20 => ?_
  refine yv y_mv <| yv y_mv ?_; apply Hd.andg (q := (!y.c || y.a)) 8 91 99 [(0,_),(3,_),(4,_),(6,_)] rfl sbq
  ·intro hg18_91
   try simp only [hyZ] at hg18_91
   simp only [List.take]; refine y2 (y_f 4 4 Tryz.underlying183 sz4) <| y2 (y_l1 ag4 rfl) <| y2 (y_not rfl) <| y2 y_mv ?_; apply Hd.org 3 95 98 [(0,_),(3,_),(4,_),(6,_),(91,_)] rfl sbq
   ·intro hg18_95
    try simp only [hyZ] at hg18_95
    simp only [List.take]; refine n1 <| n1 <| y2 (y_pickT rfl rfl) ?_; exact Hd.mn
   ·intro hg18_95
    try simp only [hyZ] at hg18_95
    simp only [List.take]; refine y2 (y_f 6 4 Tryz.underlying183 sz4) <| y2 (y_l1 ag4 rfl) <| y2 (y_pickF rfl rfl) ?_; exact Hd.mn
   simp only [List.drop]; refine yv (y_pickT rfl rfl) ?_; exact Hd.mn
  ·intro hg18_91
   try simp only [hyZ] at hg18_91
   simp only [List.take]; refine n1 <| n1 <| n1 <| n1 <| n1 <| n1 <| n1 <| yv (y_pickF rfl rfl) ?_; exact Hd.mn
  simp only [List.drop]; refine fk [(0,_),(3,_),(4,_),(6,_),(99,_)] K20 ?_; refine qz ?_ ?_ <;> intro hc5 <;> try simp only [hyZ] at hc5
  ·rw [if_pos (by simpa using hc5)] at hd1
   rw [hd1, Option.toList_some] at hts; refine Hd.region <| yv y_mv <| yv (y_loadn (us := [_, _, _, _]) ag82 rfl (Rd.pt pkk (by (first | (intro j v e; rcases j with _|_|_|_|_|_|_|_|_|_|_|_|j <;> first | exact e | exact absurd e (by simp))))) (by exact sz82)) ?_; refine Hd.bslice (vs := [(0,_)]) rfl (by exact bs39_102 ..) (fun b102 => ?_); refine Hd.append Tryz.underlying67 ty82 rfl rfl rfl pkk (by exact RdS.rd (Rd.pt pkk (fun j v e => by simpa using e)) rfl) (by simp [Value.oneCell']; done) (by simp only [maxLen]; omega) (by omega) (fun ad103 cap103 => ?_); refine yv y_as <| Hd.nil <| slots [(0,_),(3,_),(4,_)] sbq ?_; refine Hd.inB <| Hd.toK K8 ?_; refine Hd.region <| yv y_mv <| yv (y_addn rfl rfl (by simp only [InK]; omega)) ?_; refine yv y_as <| Hd.nil <| slots [(0,_),(3,_),(4,_)] sbq ?_; refine thenN <| Hd.again (i + 1, ad103, cap103) (by show T.length - (i + 1) < T.length - i; omega) (by (try dsimp only); rw [hts, List.length_append]; repeat (first | exact trivial | refine ⟨rfl, ?_⟩)) (fun q t => ?_)
   rw [hts]; exact Ent.sep (.pure (show i + 1 ≤ T.length by omega) (.eq pkk (own_eq3 (by rw [List.length_append]; rfl) rfl (by rw [List.flatMap_append]; rfl)) enn)) q t
  rw [if_neg (fun h => by
   rcases hc5 with g | g
   ·rw [h.1] at g; cases g
   ·rcases h.2 with h2 | h2
    ·rw [h2] at g; simp at g
    ·rw [h2] at g; simp at g)] at hd1
  rw [hd1, Option.toList_none, List.append_nil] at hts; refine Hd.skip <| Hd.inB <| Hd.toK K8 ?_; refine Hd.region <| yv y_mv <| yv (y_addn rfl rfl (by simp only [InK]; omega)) ?_; refine yv y_as <| Hd.nil <| slots [(0,_),(3,_),(4,_)] sbq ?_; refine thenN <| Hd.again (i + 1, da, dc) (by show T.length - (i + 1) < T.length - i; omega) (by (try dsimp only); rw [hts]; repeat (first | exact trivial | refine ⟨rfl, ?_⟩)) (fun q t => ?_); rw [hts]; exact Ent.sep (.pure (show i + 1 ≤ T.length by omega) enn) q t
 obtain rfl : i = T.length := by omega
 rw [List.take_of_length_le (Nat.le_refl _)]; refine Hd.exit <| Hd.thenExit <| Hd.thenExit <| Hd.inBexit <| Hd.toK K4 ?_; refine sr fun _ K21 => ?_
 refine yv y_mv <| yv y_as <| fk [(2,_)] K21 ?_; refine Hd.ret ?_; rw [hT]; exact Hd.ret1 rfl (da, dc, la, lc) rfl sq
theorem atT_at {T : List RnA} {a : Ky} {k : Nat} {z : RnA} (hk : posN T a = (k : Int)) (hz : T[k]? = some z) : atT T a = z := by
 unfold atT; rw [hk, Int.toNat_natCast, List.getD_eq_getElem?_getD, hz]; rfl
theorem rchange16_ct (L : List SP) (qb rb : Nat) (ad : Option Addr) (c : Nat) (l : List RnA) (w : WA) (hw : WOk w) (hl : l.length ≤ 1000) (p : NoA) (hp : InK .i64 p.2.2.1) : Ct Tryz.prog 94 #[.pointer (some ⟨qb, 0, none⟩), .agg (encNo p).toArray] (RkP qb rb ad c l (Rf.RwP rb w :: L)) (fun q_ : Option Addr × Nat => .int .i64 (chR w l p).1) (fun q_ : Option Addr × Nat => RkP qb rb q_.1 q_.2 (chR w l p).2 (Rf.RwP rb w :: L)) := by
 refine Ct.o2 Tryz.func94 ?_; intro E
 show Hd E 125 _ _ _ _
 have hlt := tidyN_le w l l.length
 rw [List.take_of_length_le (Nat.le_refl _)] at hlt
 obtain ⟨T, hT⟩ : ∃ T, tidyN w l = T := ⟨_, rfl⟩
 rw [hT] at hlt; refine sr fun _ K1 => ?_
 refine Hd.box rfl rfl (fun b3 => ?_); refine yv y_as <| fk [(0,_),(3,_)] K1 ?_; refine sr fun _ K2 => ?_
 refine yv (y_loadn (us := [_, _, _, _]) ag82 rfl (Rd.pt pkk (by (first | (intro j v e; rcases j with _|_|_|_|_|_|_|_|_|_|_|_|j <;> first | exact e | exact absurd e (by simp))))) (by exact sz82)) ?_; refine callE rfl fk163 (rmay16_ct _ p hp) sq ?_; intro _; refine yv y_as <| fk [(0,_),(3,_),(5,_)] K2 ?_; refine Hd.seq fun _ K3 => ?_
 refine sr fun _ K4 => ?_
 refine yv y_mv <| yv (y_not rfl) <| fk [(0,_),(3,_),(16,_)] K4 ?_; refine qz ?_ ?_ <;> intro hc0 <;> try simp only [hyZ] at hc0
 ·have hb : chR w l p = (2, l) := if_pos hc0
  refine sr fun _ K5 => ?_
  refine yv y_as <| fk [(4,_)] K5 ?_; refine Hd.ret <| Hd.thenRet ?_; rw [hb]; exact Hd.ret1 rfl (ad, c) rfl sq
 have h0 : ¬ mayR p = false := by rw [hc0]; decide
 have hct : chR w l p = chgT w T p := by rw [← hT]; exact if_neg h0
 refine qv K3 <| sr fun _ K6 => ?_
 refine yv y_mv <| callE rfl fk98 (rtidy16_ct _ qb rb ad c l w hw (by omega)) sq ?_; rintro ⟨la, lc⟩; dsimp only; rw [hT]; refine fk [(0,_),(3,_)] K6 ?_; refine sr fun _ K7 => ?_
 refine yv y_as <| fk [(0,_),(3,_),(6,_)] K7 ?_; refine Hd.cutK (ι := {u : Unit // ¬ (p.2.1 = 3 ∧ (p.1 < 1 ∨ 31 < p.1)) ∧ ¬ (p.2.1 ≠ 3 ∧ w.at p.1 = none)}) [(0,_),(3,_)] (fun _ => [(6, .int .i64 (wireK w p))]) (fun _ => pt b3 (encNo p) 82 :: RkP qb rb la lc T (Rf.RwP rb w :: L)) ?_ ?_ ⟨rfl, rfl, trivial⟩
 ·refine sr fun _ K8 => ?_
  refine yv (y_f 1 3 Tryz.underlying82 sz3) <| yv (y_l1 ag3 rfl) <| yv (y_eql rfl rfl) ?_; refine fk [(0,_),(3,_),(6,_),(21,_)] K8 ?_; refine qz ?_ ?_ <;> intro hc1 <;> try simp only [hyZ] at hc1
  ·refine sr fun _ K9 => ?_
   refine yv (y_f 0 3 Tryz.underlying82 sz3) <| yv (y_l1 ag3 rfl) <| yv (y_lss rfl rfl) ?_; refine yv y_mv ?_; apply Hd.org 4 25 29 [(0,_),(3,_),(6,_)] rfl sbq
   ·intro hg7_25
    try simp only [hyZ] at hg7_25
    simp only [List.take]; refine n1 <| n1 <| n1 <| yv (y_pickT rfl rfl) ?_; exact Hd.mn
   ·intro hg7_25
    try simp only [hyZ] at hg7_25
    simp only [List.take]; refine y2 (y_f 0 3 Tryz.underlying82 sz3) <| y2 (y_l1 ag3 rfl) <| y2 (y_gtr rfl rfl) ?_; refine yv (y_pickF rfl rfl) ?_; exact Hd.mn
   simp only [List.drop]; refine fk [(0,_),(3,_),(6,_),(29,_)] K9 ?_; refine qz ?_ ?_ <;> intro hc2 <;> try simp only [hyZ] at hc2
   ·have hb : chgT w T p = (100, T) := if_pos ⟨hc1, by omega⟩
    refine sr fun _ K10 => ?_
    refine yv y_as <| fk [(4,_)] K10 ?_; refine Hd.ret <| Hd.thenRet ?_; rw [hct, hb]; exact Hd.ret1 rfl (la, lc) rfl sq
   refine Hd.skip <| thenN ?_; exact Hd.meet ⟨(), fun h => by omega, fun h => h.1 hc1⟩ ⟨congrArg (fun z => some (Value.int .i64 z)) (by unfold wireK; rw [if_pos hc1]), by repeat (first | exact trivial | refine ⟨rfl, ?_⟩)⟩ sq
  refine Hd.seq fun _ K11 => ?_
  refine Hd.drawsH ([RkH qb rb la T.length lc, pt b3 (encNo p) 82]) (fun _ => true) mixed ?_; simp only [List.length, Nat.zero_add, Nat.reduceAdd]; refine tH 0 rfl y_mv <| tH 1 rfl y_np <| tH 2 rfl (y_f 0 39 Tryz.underlying94 sz39) <| tH 3 rfl (y_l1 ag39 rfl) <| tH 4 rfl (y_f 0 3 Tryz.underlying82 sz3) <| tH 5 rfl (y_l1 ag3 rfl) <| qo 6 ?_; refine callE rfl fk79 (Rf.rWire_ct _ rb w hw p.1) sq ?_; intro _; refine qk <| tH 7 rfl y_mv <| tH 8 rfl y_ex <| tH 9 rfl y_ex <| tH 10 rfl y_as <| tH 11 rfl y_as <| endH kq ?_; refine sk [(0,_),(3,_),(7,_),(8,_)] K11 ?_; refine Hd.seq fun _ K12 => ?_
  refine sr fun _ K13 => ?_
  refine yv y_mv <| yv (y_neq rfl rfl) ?_; refine fk [(0,_),(3,_),(7,_),(41,_)] K13 ?_; refine qz ?_ ?_ <;> intro hc3 <;> try simp only [hyZ] at hc3
  ·have hb : chgT w T p = (110, T) := by unfold chgT; rw [if_neg (fun h => hc1 h.1), if_pos ⟨hc1, fdErr_no.1 hc3⟩]
   refine sr fun _ K14 => ?_
   refine yv y_as <| fk [(4,_)] K14 ?_; refine Hd.ret <| Hd.thenRet <| Hd.thenRet ?_; rw [hct, hb]; exact Hd.ret1 rfl (la, lc) rfl sq
  have h110 : ¬ w.at p.1 = none := fun e => absurd (fdErr_no.2 e) (by simpa using hc3)
  refine qv K12 <| Hd.region <| yv y_mv <| yv y_as <| Hd.nil <| slots [(0,_),(3,_),(6,_)] sbq ?_; refine thenN ?_; exact Hd.meet ⟨(), fun h => hc1 h.1, fun h => h110 h.2⟩ ⟨congrArg (fun z => some (Value.int .i64 z)) (by unfold wireK; rw [if_neg hc1] <;> rfl), by repeat (first | exact trivial | refine ⟨rfl, ?_⟩)⟩ sq
 rintro ⟨_, h2, h3⟩; refine sr fun _ K15 => ?_
 refine yv y_mv <| yv (y_f 0 3 Tryz.underlying82 sz3) <| yv (y_l1 ag3 rfl) <| yv (y_f 1 3 Tryz.underlying82 sz3) <| yv (y_l1 ag3 rfl) <| callE rfl fk96 (rfind16_ct _ qb rb la lc T p.1 p.2.1 (by omega)) sq ?_; intro _; refine yv y_as <| fk [(0,_),(3,_),(6,_),(9,_)] K15 ?_; refine Hd.seq fun _ K16 => ?_
 refine sr fun _ K17 => ?_
 refine yv (y_f 2 3 Tryz.underlying82 sz3) <| yv (y_l1 ag3 rfl) <| callE rfl fk95 (rhas16_ct _ p.2.2.1 1 (by decide) hp) sq ?_; intro _; refine fk [(0,_),(3,_),(6,_),(9,_),(51,_)] K17 ?_; refine qz ?_ ?_ <;> intro hc4 <;> try simp only [hyZ] at hc4
 ·have hfin : chgT w T p = (0, insN (newN w T p) false T) := by unfold chgT; rw [if_neg h2, if_neg h3, if_pos hc4]
  obtain ⟨y, hy⟩ : ∃ y, newN w T p = y := ⟨_, rfl⟩
  rw [hy] at hfin; refine sr fun _ K18 => ?_
  refine yv y_mv <| yv (y_f 1 3 Tryz.underlying82 sz3) <| yv (y_l1 ag3 rfl) <| yv (y_f 0 3 Tryz.underlying82 sz3) <| yv (y_l1 ag3 rfl) <| callE rfl fk164 (rrises16_ct _ qb rb la lc T w hw p.2.1 p.1) sq ?_; intro _; refine yv y_as <| fk [(0,_),(3,_),(6,_),(9,_),(10,_)] K18 ?_; refine Hd.cutK (ι := Nat) [(0,_),(9,_)] (fun b11 => [(11, .pointer (some ⟨b11, 0, none⟩))]) (fun b11 => pt b11 (encRn ⟨p.1, p.2.1, wireK w p, hasN p.2.2.1 8, hasN p.2.2.1 16, hasN p.2.2.1 32, true, riseK p.2.1 (readyR w p.1)⟩) 183 :: RkP qb rb la lc T (Rf.RwP rb w :: L)) ?_ ?_ ⟨rfl, rfl, trivial⟩
  ·refine Hd.drawsH ([pt b3 (encNo p) 82]) (fun j => !([17].contains j)) mixed ?_
   simp only [List.length, Nat.zero_add, Nat.reduceAdd]; refine tH 0 rfl (y_f 0 3 Tryz.underlying82 sz3) <| tH 1 rfl (y_l1 ag3 rfl) <| tH 2 rfl (y_f 1 3 Tryz.underlying82 sz3) <| tH 3 rfl (y_l1 ag3 rfl) <| tH 4 rfl y_mv <| tH 5 rfl (y_f 2 3 Tryz.underlying82 sz3) <| tH 6 rfl (y_l1 ag3 rfl) <| tH 8 rfl (y_f 2 3 Tryz.underlying82 sz3) <| tH 9 rfl (y_l1 ag3 rfl) <| tH 11 rfl (y_f 2 3 Tryz.underlying82 sz3) <| tH 12 rfl (y_l1 ag3 rfl) <| tH 14 rfl y_mv <| Hd.eitherH 7 16 rfl rfl kq ?_ ?_
   ·refine callE rfl fk95 (rhas16_ct _ p.2.2.1 8 (by decide) hp) sq ?_
    intro _; refine qk <| Hd.eitherH 10 16 rfl rfl kq ?_ ?_
    ·refine callE rfl fk95 (rhas16_ct _ p.2.2.1 16 (by decide) hp) sq ?_
     intro _; refine qk <| Hd.eitherH 13 16 rfl rfl kq ?_ ?_
     ·refine callE rfl fk95 (rhas16_ct _ p.2.2.1 32 (by decide) hp) sq ?_
      intro _; refine qk <| tH 15 rfl (y_build (vs := [(0,_),(1,_),(2,_),(3,_),(4,_),(5,_),(6,_),(7,_)]) rfl (by exact bd94_73 ..)) ?_; refine qo 16 ?_; refine Hd.alloc zr183 (fun b11 => ?_); refine qk <| qo 17 ?_; refine Hd.storeA (us := encRn ⟨p.1, p.2.1, wireK w p, hasN p.2.2.1 8, hasN p.2.2.1 16, hasN p.2.2.1 32, true, riseK p.2.1 (readyR w p.1)⟩) sz183 rfl rfl rfl (by simp [Value.oneCell']) pkk (by exact rfl) ?_; refine qn <| endH kq ?_; refine slots [(0,_),(9,_),(11,_)] sbq ?_; refine thenN ?_; exact Hd.meet b11 sbq sq
     refine Hd.alloc zr183 (fun b11 => ?_); refine qk <| qo 13 ?_; refine callE rfl fk95 (rhas16_ct _ p.2.2.1 32 (by decide) hp) sq ?_; intro _; refine qk <| tH 15 rfl (y_build (vs := [(0,_),(1,_),(2,_),(3,_),(4,_),(5,_),(6,_),(7,_)]) rfl (by exact bd94_73 ..)) ?_; refine qo 17 ?_; refine Hd.storeA (us := encRn ⟨p.1, p.2.1, wireK w p, hasN p.2.2.1 8, hasN p.2.2.1 16, hasN p.2.2.1 32, true, riseK p.2.1 (readyR w p.1)⟩) sz183 rfl rfl rfl (by simp [Value.oneCell']) pkk (by exact rfl) ?_; refine qn <| endH kq ?_; refine slots [(0,_),(9,_),(11,_)] sbq ?_; refine thenN ?_; exact Hd.meet b11 sbq sq
    refine Hd.alloc zr183 (fun b11 => ?_); refine qk <| qo 10 ?_; refine callE rfl fk95 (rhas16_ct _ p.2.2.1 16 (by decide) hp) sq ?_; intro _; refine qk <| qo 13 ?_; refine callE rfl fk95 (rhas16_ct _ p.2.2.1 32 (by decide) hp) sq ?_; intro _; refine qk <| tH 15 rfl (y_build (vs := [(0,_),(1,_),(2,_),(3,_),(4,_),(5,_),(6,_),(7,_)]) rfl (by exact bd94_73 ..)) ?_; refine qo 17 ?_; refine Hd.storeA (us := encRn ⟨p.1, p.2.1, wireK w p, hasN p.2.2.1 8, hasN p.2.2.1 16, hasN p.2.2.1 32, true, riseK p.2.1 (readyR w p.1)⟩) sz183 rfl rfl rfl (by simp [Value.oneCell']) pkk (by exact rfl) ?_; refine qn <| endH kq ?_; refine slots [(0,_),(9,_),(11,_)] sbq ?_; refine thenN ?_; exact Hd.meet b11 sbq sq
   refine Hd.alloc zr183 (fun b11 => ?_); refine qk <| qo 7 ?_; refine callE rfl fk95 (rhas16_ct _ p.2.2.1 8 (by decide) hp) sq ?_; intro _; refine qk <| qo 10 ?_; refine callE rfl fk95 (rhas16_ct _ p.2.2.1 16 (by decide) hp) sq ?_; intro _; refine qk <| qo 13 ?_; refine callE rfl fk95 (rhas16_ct _ p.2.2.1 32 (by decide) hp) sq ?_; intro _; refine qk <| tH 15 rfl (y_build (vs := [(0,_),(1,_),(2,_),(3,_),(4,_),(5,_),(6,_),(7,_)]) rfl (by exact bd94_73 ..)) ?_; refine qo 17 ?_; refine Hd.storeA (us := encRn ⟨p.1, p.2.1, wireK w p, hasN p.2.2.1 8, hasN p.2.2.1 16, hasN p.2.2.1 32, true, riseK p.2.1 (readyR w p.1)⟩) sz183 rfl rfl rfl (by simp [Value.oneCell']) pkk (by exact rfl) ?_; refine qn <| endH kq ?_; refine slots [(0,_),(9,_),(11,_)] sbq ?_; refine thenN ?_; exact Hd.meet b11 sbq sq
  intro b11; refine Hd.cutK (ι := Unit) [(0,_),(11,_)] (fun _ => []) (fun _ => pt b11 (encRn y) 183 :: RkP qb rb la lc T (Rf.RwP rb w :: L)) ?_ ?_ ⟨rfl, rfl, trivial⟩
  ·refine sr fun _ K19 => ?_
   refine yv y_mv <| yv (y_geq rfl rfl) ?_; refine yv y_mv ?_; apply Hd.andg (q := ((atT T (p.1, p.2.1)).c || !hasN p.2.2.1 16)) 14 76 90 [(0,_),(9,_),(11,_)] rfl sbq
   ·intro hg17_76
    try simp only [hyZ] at hg17_76
    simp only [List.take]; refine y2 y_mv ?_
    obtain ⟨k, z, hk, hz, _⟩ := posN_lt (l := T) (a := (p.1, p.2.1)) hg17_76
    have hkl : k < T.length := (List.getElem?_eq_some_iff.1 hz).1
    rw [atT_at hk hz]; refine y2 y_np <| y2 (y_f 1 92 Tryz.underlying94 sz92) <| y2 (y_l1 ag92 rfl) <| y2 y_mv <| y2 (y_idxR (j := k) (ad := la) Tryz.underlying92 sz183 rfl (by exact congrArg (fun z => some (Value.int .i64 z)) hk) hkl (RdS.own (ad := la) (us := T.flatMap encRn) pkk)) ?_; refine y2 (y_fR 4 4 Tryz.underlying183 sz4) ?_; refine y2 (y_loadR1 ag4 rfl (RdS.own (ad := la) (us := T.flatMap encRn) pkk) (flat_cells encRn 8 (fun _ => rfl) hz 4 _ rfl)) ?_; refine y2 y_mv ?_; apply Hd.org 4 85 89 [(0,_),(9,_),(11,_),(76,_)] rfl sbq
    ·intro hg17_85
     try simp only [hyZ] at hg17_85
     simp only [List.take]; refine n1 <| n1 <| n1 <| y2 (y_pickT rfl rfl) ?_; exact Hd.mn
    ·intro hg17_85
     try simp only [hyZ] at hg17_85
     simp only [List.take]; refine y2 (y_f 4 4 Tryz.underlying183 sz4) <| y2 (y_l1 ag4 rfl) <| y2 (y_not rfl) <| y2 (y_pickF rfl rfl) ?_; exact Hd.mn
    simp only [List.drop]; refine yv (y_pickT rfl rfl) ?_; exact Hd.mn
   ·intro hg17_76
    try simp only [hyZ] at hg17_76
    simp only [List.take]; refine n1 <| n1 <| n1 <| n1 <| n1 <| n1 <| n1 <| n1 <| n1 <| n1 <| n1 <| n1 <| n1 <| yv (y_pickF rfl rfl) ?_; exact Hd.mn
   simp only [List.drop]; refine fk [(0,_),(9,_),(11,_),(90,_)] K19 ?_; refine qz ?_ ?_ <;> intro hc5 <;> try simp only [hyZ] at hc5
   ·obtain ⟨k, z, hk, hz, _⟩ := posN_lt (l := T) (a := (p.1, p.2.1)) hc5.1
    have hkl : k < T.length := (List.getElem?_eq_some_iff.1 hz).1
    rw [atT_at hk hz] at hc5
    have hyy : y = ⟨p.1, p.2.1, wireK w p, hasN p.2.2.1 8, hasN p.2.2.1 16, hasN p.2.2.1 32, z.a, riseK p.2.1 (readyR w p.1)⟩ := by
     rw [← hy]; unfold newN; rw [show atT T (keyN p) = z from atT_at hk hz, if_pos hc5]
    rw [hk]; refine Hd.region <| yv y_mv <| yv y_np <| yv (y_f 1 92 Tryz.underlying94 sz92) <| yv (y_l1 ag92 rfl) <| yv y_mv <| yv (y_idxR (j := k) (ad := la) Tryz.underlying92 sz183 rfl rfl hkl (RdS.own (ad := la) (us := T.flatMap encRn) pkk)) ?_; refine yv (y_fR 6 4 Tryz.underlying183 sz4) ?_; refine yv (y_loadR1 ag4 rfl (RdS.own (ad := la) (us := T.flatMap encRn) pkk) (flat_cells encRn 8 (fun _ => rfl) hz 6 _ rfl)) ?_; refine yv (y_f 6 4 Tryz.underlying183 sz4) <| Hd.store1 sz4 rfl rfl rfl pkk (by simp; done) ?_
    try simp only [hyS]
    refine Hd.nil <| slots [(0,_),(11,_)] sbq ?_; refine thenN ?_; rw [hyy]; exact Hd.meet () sbq (Ent.sep (.eq pkk (pt_eq (by rfl)) enn))
   have hyy : y = ⟨p.1, p.2.1, wireK w p, hasN p.2.2.1 8, hasN p.2.2.1 16, hasN p.2.2.1 32, true, riseK p.2.1 (readyR w p.1)⟩ := by
    rw [← hy]; unfold newN
    rw [if_neg (fun h => by
     rcases hc5 with g | g
     ·exact absurd h.1 (by show ¬ 0 ≤ posN T (p.1, p.2.1); omega)
     ·rcases h.2 with e | e
      ·rw [show (atT T (p.1, p.2.1)).c = true from e] at g; simp at g
      ·rw [e] at g; simp at g)]
   refine Hd.skip <| thenN ?_; rw [hyy]; exact Hd.meet () sbq (Ent.sep (.eq pkk (pt_eq (by rfl)) enn))
  intro _; refine sr fun _ K20 => ?_
  refine yv y_mv <| yv (y_loadn (us := [_, _, _, _, _, _, _, _]) ag183 rfl (Rd.pt pkk (by (first | (intro j v e; rcases j with _|_|_|_|_|_|_|_|_|_|_|_|j <;> first | exact e | exact absurd e (by simp))))) (by exact sz183)) ?_; refine callE rfl fk165 (rput16_ct _ qb rb la lc T (by omega) y) sq ?_; rintro ⟨ma, mc⟩; dsimp only; refine fk [] K20 ?_; refine sr fun _ K21 => ?_
  refine yv y_as <| fk [(4,_)] K21 ?_; refine Hd.ret <| Hd.thenRet ?_; rw [hct, hfin]; exact Hd.ret1 rfl (ma, mc) rfl sq
 have h4 : ¬ hasN p.2.2.1 1 = true := by rw [hc4]; decide
 refine qv K16 <| Hd.seq fun _ K22 => ?_
 refine sr fun _ K23 => ?_
 refine yv y_mv <| yv (y_lss rfl rfl) ?_; refine fk [(0,_),(3,_),(9,_),(104,_)] K23 ?_; refine qz ?_ ?_ <;> intro hc6 <;> try simp only [hyZ] at hc6
 ·have hb : chgT w T p = (151, T) := by unfold chgT; rw [if_neg h2, if_neg h3, if_neg h4, if_pos hc6]
  refine sr fun _ K24 => ?_
  refine yv y_as <| fk [(4,_)] K24 ?_; refine Hd.ret <| Hd.thenRet ?_; rw [hct, hb]; exact Hd.ret1 rfl (la, lc) rfl sq
 obtain ⟨k, z, hk, hz, _⟩ := posN_lt (l := T) (a := (p.1, p.2.1)) (by omega)
 have hkl : k < T.length := (List.getElem?_eq_some_iff.1 hz).1
 have hat : atT T (keyN p) = z := atT_at hk hz
 rw [hk]; refine qv K22 <| Hd.seq fun _ K25 => ?_
 refine sr fun _ K26 => ?_
 refine yv (y_f 2 3 Tryz.underlying82 sz3) <| yv (y_l1 ag3 rfl) <| callE rfl fk95 (rhas16_ct _ p.2.2.1 2 (by decide) hp) sq ?_; intro _; refine fk [(0,_),(3,_),(9,_),(107,_)] K26 ?_; refine qz ?_ ?_ <;> intro hc7 <;> try simp only [hyZ] at hc7
 ·have hb : chgT w T p = (0, cutN T k) := by
   unfold chgT; rw [if_neg h2, if_neg h3, if_neg h4, if_neg (show ¬ posN T (keyN p) < 0 from by show ¬ posN T (p.1, p.2.1) < 0; omega), if_pos hc7, show posN T (keyN p) = (k : Int) from hk, Int.toNat_natCast]
  refine sr fun _ K27 => ?_
  refine yv y_mv <| yv y_mv <| callE rfl fk97 (rcut16_ct _ qb rb la lc T (by omega) k hkl) sq ?_; rintro ⟨ma, mc⟩; dsimp only; refine fk [] K27 ?_; refine sr fun _ K28 => ?_
  refine yv y_as <| fk [(4,_)] K28 ?_; refine Hd.ret <| Hd.thenRet ?_; rw [hct, hb]; exact Hd.ret1 rfl (ma, mc) rfl sq
 have hb : chgT w T p = (0, insN { z with d := hasN p.2.2.1 8 } false T) := by
  unfold chgT; rw [if_neg h2, if_neg h3, if_neg h4, if_neg (show ¬ posN T (keyN p) < 0 from by show ¬ posN T (p.1, p.2.1) < 0; omega), if_neg (by rw [hc7]; decide), hat]
 refine qv K25 <| sr fun _ K29 => ?_
 refine yv y_mv <| yv y_np <| yv (y_f 1 92 Tryz.underlying94 sz92) <| yv (y_l1 ag92 rfl) <| yv y_mv <| yv (y_idxR (j := k) (ad := la) Tryz.underlying92 sz183 rfl rfl hkl (RdS.own (ad := la) (us := T.flatMap encRn) pkk)) ?_; refine yv (y_loadRn (vs := encRn z) ag183 rfl (RdS.own (ad := la) (us := T.flatMap encRn) pkk) (flat_cells encRn 8 (fun _ => rfl) hz) sz183 (by simp)) ?_; refine Hd.alloc zr183 (fun b12 => ?_); refine Hd.storeA (us := encRn z) sz183 rfl rfl rfl (by simp [Value.oneCell']) pkk (by exact rfl) ?_; refine fk [(0,_),(3,_),(12,_)] K29 ?_; refine sr fun _ K30 => ?_
 refine yv (y_f 2 3 Tryz.underlying82 sz3) <| yv (y_l1 ag3 rfl) <| callE rfl fk95 (rhas16_ct _ p.2.2.1 8 (by decide) hp) sq ?_; intro _; refine yv (y_f 3 4 Tryz.underlying183 sz4) <| Hd.store1 sz4 rfl rfl rfl pkk (by simp; done) ?_
 try simp only [hyS]
 refine fk [(0,_),(12,_)] K30 ?_; refine sr fun _ K31 => ?_
 refine yv y_mv <| yv (y_loadn (us := [_, _, _, _, _, _, _, _]) ag183 rfl (Rd.pt pkk (by (first | (intro j v e; rcases j with _|_|_|_|_|_|_|_|_|_|_|_|j <;> first | exact e | exact absurd e (by simp))))) (by exact sz183)) ?_; refine callE rfl fk165 (rput16_ct _ qb rb la lc T (by omega) { z with d := hasN p.2.2.1 8 }) sq ?_; rintro ⟨ma, mc⟩; dsimp only; refine fk [] K31 ?_; refine sr fun _ K32 => ?_
 refine yv y_as <| fk [(4,_)] K32 ?_; refine Hd.ret ?_; rw [hct, hb]; exact Hd.ret1 rfl (ma, mc) rfl sq
end Kq
end Go.Proofs.YtbfddabjbkohdaaGreat
namespace Go.Proofs.YtbfddabjbkohdaaGreat
open Go.RX Fx
namespace Sh
theorem place_eq' {ord : List Int} {n i : Nat} (h : i < n) {o : Int} (ho : ord[i % ord.length]? = some o) : (i : Int) + (bif decide (o < 0) then 0 else o) % ((n : Int) - i) = (place ord n i : Int) := by
 rw [← place_eq h ho]
 congr 2
 by_cases h : o < 0 <;> simp [h] <;> omega
theorem places_ct (L : List SP) (ao : Option Addr) (co : Nat) (m : Nat) (ord : List Int) (ho : RdS L 1 ao ord.length (ord.map V)) (hb : m ≤ 1000) (hob : ord.length ≤ 200) :
  Ct Tryz.prog 83 #[.int .i64 (m : Int), .slice ao ord.length co] L (fun i : Option Addr × Nat => .slice i.1 m i.2) (fun i => own 3 1 i.1 m i.2 ((shufTo ord (List.range m) m).map VN) :: L) := by
 refine Ct.of (vs := [.int .i64 (m : Int), .slice ao ord.length co]) Tryz.func83 rfl rfl [(0, .int .i64 (m : Int)), (1, .slice ao ord.length co)] ⟨rfl, rfl, trivial⟩ ?_; intro E
 show Hd E 61 _ _ _ _
 refine sr fun _ K1 => ?_
 refine yv y_as <| fk [(0,_),(1,_)] K1 ?_; refine sr fun _ K2 => ?_
 refine yv y_as <| fk [(0,_),(1,_),(5,_)] K2 ?_; refine Hd.seq fun _ K3 => ?_
 refine sr fun _ K4 => ?_
 refine yv y_as <| fk [(0,_),(1,_),(5,_),(6,_)] K4 ?_; refine Hd.block <| Hd.loop (ι := Nat × Option Addr × Nat) (fun i => [(0, .int .i64 (m : Int)), (1, .slice ao ord.length co), (5, .slice i.2.1 i.1 i.2.2), (6, .int .i64 (i.1 : Int))])
  (fun i => pu (i.1 ≤ m) :: own 3 1 i.2.1 i.1 i.2.2 ((List.range i.1).map VN) :: L) (fun i => m - i.1) (0, none, 0) ⟨rfl, rfl, rfl, rfl, trivial⟩ (Ent.sep (.pure (by simp) (.ownNil enn))) ?_
 rintro ⟨i, a1, c1⟩; refine Hd.pure (fun hi => ?_)
 have hi' : i ≤ m := hi
 refine Hd.seq fun _ K5 => ?_
 refine sr fun _ K6 => ?_
 refine yv y_mv <| yv y_mv <| yv (y_lss rfl rfl) ?_; refine fk [(0,_),(1,_),(5,_),(6,_),(12,_)] K6 ?_; refine qz ?_ ?_ <;> intro hc0 <;> try simp only [hyZ] at hc0
 ·refine qv K5 ?_
  refine Hd.seq fun _ K7 => ?_
  refine Hd.block <| Hd.region <| yv y_mv <| yv y_mv <| Hd.bslice (vs := [(0,_)]) rfl (by exact bs83_17 ..) (fun b17 => ?_); refine Hd.append Tryz.underlying44 ty3 rfl rfl rfl pkk (by exact RdS.rd (Rd.pt pkk (fun j v e => by simpa using e)) rfl) (by simp [Value.oneCell']; done) (by simp only [maxLen]; omega) (by omega) (fun ad18 cap18 => ?_); refine yv y_as <| Hd.nil <| slots [(0,_),(1,_),(5,_),(6,_)] sbq ?_; refine Hd.inB <| Hd.toK K7 ?_; refine Hd.region <| yv y_mv <| yv (y_addn rfl rfl (by simp only [InK]; omega)) ?_; refine yv y_as <| Hd.nil <| slots [(0,_),(1,_),(5,_),(6,_)] sbq ?_; refine thenN <| Hd.again (i + 1, ad18, cap18) (by simp only; omega) ⟨rfl, rfl, rfl, rfl, trivial⟩ (Ent.sep (.pure (by simp only; omega) (.eq pkk (own_eq rfl (by simp [List.range_succ])) enn)))
 obtain rfl : i = m := by omega
 refine Hd.exit <| Hd.thenExit <| Hd.thenExit <| Hd.inBexit <| Hd.toK K3 ?_; refine Hd.seq fun _ K8 => ?_
 refine sr fun _ K9 => ?_
 refine yv y_as <| fk [(0,_),(1,_),(5,_),(7,_)] K9 ?_; refine Hd.block <| Hd.loop (ι := Nat) (fun j => [(0, .int .i64 (i : Int)), (1, .slice ao ord.length co), (5, .slice a1 i c1), (7, .int .i64 (j : Int))])
  (fun j => pu (j ≤ i ∧ (ord = [] → j = 0)) :: own 3 1 a1 i c1 ((shufTo ord (List.range i) j).map VN) :: L) (fun j => i - j) 0 ⟨rfl, rfl, rfl, rfl, trivial⟩ (Ent.sep (.pure (by omega) enn)) ?_
 intro j; refine Hd.pure (fun hj => ?_)
 have hl := shuf_len ord (List.range i) j
 rw [List.length_range] at hl; refine Hd.seq fun _ K10 => ?_
 refine sr fun _ K11 => ?_
 refine yv y_mv <| yv y_mv <| yv (y_lss rfl rfl) ?_; refine yv y_mv ?_; apply Hd.andg 4 22 26 [(0,_),(1,_),(5,_),(7,_)] rfl sbq
 ·intro hg7_22
  try simp only [hyZ] at hg7_22
  simp only [List.take]; refine y2 y_mv <| y2 (y_len Tryz.underlying44 rfl) ?_; refine y2 (y_gtr rfl rfl) ?_; refine yv (y_pickT rfl rfl) ?_; exact Hd.mn
 ·intro hg7_22
  try simp only [hyZ] at hg7_22
  simp only [List.take]; refine n1 <| n1 <| n1 <| yv (y_pickF rfl rfl) ?_; exact Hd.mn
 simp only [List.drop]; refine fk [(0,_),(1,_),(5,_),(7,_),(26,_)] K11 ?_; refine qz ?_ ?_ <;> intro hc1 <;> try simp only [hyZ] at hc1
 ·have hji : j < i := by omega
  have hol : 0 < ord.length := by omega
  have hml : j % ord.length < ord.length := Nat.mod_lt _ hol
  obtain ⟨o, hoi⟩ : ∃ o, ord[j % ord.length]? = some o := ⟨_, List.getElem?_eq_getElem hml⟩
  refine qv K10 <| Hd.seq fun _ K12 => ?_
  refine Hd.block <| sr fun _ K13 => ?_
  refine yv y_mv <| yv y_mv <| yv y_mv <| yv (y_len Tryz.underlying44 rfl) ?_; refine yv (y_remN rfl rfl (by omega)) ?_; refine yv (y_idxR Tryz.underlying44 sz3 rfl rfl (by omega) (by exact RdS.mono ho sq)) ?_; refine yv (y_loadR1 ag3 rfl (by exact RdS.mono ho sq) (by simp [hoi]; rfl)) ?_; refine yv y_as <| fk [(0,_),(1,_),(5,_),(7,_),(8,_)] K13 ?_; refine Hd.seq fun _ K14 => ?_
  refine sr fun _ K15 => ?_
  refine yv y_mv <| yv (y_lss rfl rfl) ?_; refine fk [(0,_),(1,_),(5,_),(7,_),(8,_),(37,_)] K15 ?_; apply Hd.mergeK (L' := _) [(0,_),(1,_),(5,_),(7,_), (8, .int .i64 _)] [(0,_),(1,_),(5,_),(7,_), (8, .int .i64 _)] rfl
  ·intro hc2
   try simp only [hyZ] at hc2
   refine Hd.region <| yv y_as <| Hd.nil <| slots [(0,_),(1,_),(5,_),(7,_),(8,_)] sbq ?_; exact Hd.mend ⟨rfl, rfl, rfl, rfl, rfl, trivial⟩ (fun _ h => h)
  ·intro hc2
   try simp only [hyZ] at hc2
   refine Hd.skip ?_; exact Hd.mend ⟨rfl, rfl, rfl, rfl, rfl, trivial⟩ (fun _ h => h)
  ·repeat (first | exact Mrg.nil | apply Mrg.same | apply Mrg.int | apply Mrg.bool)
  refine Hd.toK0 K14 ?_; refine sr fun _ K16 => ?_
  refine yv y_mv <| yv y_mv <| yv y_mv <| yv y_mv <| yv (y_subn rfl rfl (by simp only [InK]; omega)) ?_
  have hmx : 0 ≤ (bif decide (o < 0) then 0 else o) := by by_cases h : o < 0 <;> simp [h]; omega
  refine yv (y_remn rfl rfl (by omega) (by omega)) ?_; refine yv (y_add rfl rfl) ?_; rw [wrapIn (by rw [place_eq' hji hoi]; have hp := place_lt (ord := ord) hji; simp only [InK]; omega)]; refine Hd.name (b := (place ord i j : Int)) 44 rfl (place_eq' hji hoi) ?_
  have hp := place_lt (ord := ord) hji
  refine yv y_as <| fk [(0,_),(1,_),(5,_),(7,_),(8,_)] K16 ?_; refine sr fun _ K17 => ?_
  refine yv y_mv <| yv y_mv <| yv (y_idxR Tryz.underlying44 sz3 rfl rfl (by omega) (by exact RdS.own pkk)) ?_; refine yv (y_loadR1 ag3 rfl (by exact RdS.own pkk) (by simp [List.getElem?_eq_getElem, *]; rfl)) ?_; refine yv y_as <| fk [(0,_),(1,_),(5,_),(7,_),(8,_),(9,_)] K17 ?_; refine sr fun _ K18 => ?_
  refine yv y_mv <| yv y_mv <| yv y_mv <| yv y_mv <| yv (y_idxR Tryz.underlying44 sz3 rfl rfl (by omega) (by exact RdS.own pkk)) ?_; refine yv (y_loadR1 ag3 rfl (by exact RdS.own pkk) (by simp [List.getElem?_eq_getElem, *]; rfl)) ?_; refine yv (y_idxR Tryz.underlying44 sz3 rfl rfl (by omega) (by exact RdS.own pkk)) ?_; refine Hd.storeO1 sz3 rfl rfl rfl pkk (by simp; omega) ?_
  try simp only [hyS]
  refine fk [(0,_),(1,_),(5,_),(7,_),(8,_),(9,_)] K18 ?_; refine Hd.region <| yv y_mv <| yv y_mv <| yv y_mv <| yv (y_idxR Tryz.underlying44 sz3 rfl rfl (by omega) (by exact RdS.own pkk)) ?_; refine Hd.storeO1 sz3 rfl rfl rfl pkk (by simp; omega) ?_
  try simp only [hyS]
  refine Hd.nil <| slots [(0,_),(1,_),(5,_),(7,_)] sbq ?_; refine Hd.inB <| Hd.toK K12 ?_; refine Hd.region <| yv y_mv <| yv (y_addn rfl rfl (by simp only [InK]; omega)) ?_; refine yv y_as <| Hd.nil <| slots [(0,_),(1,_),(5,_),(7,_)] sbq ?_; refine thenN <| Hd.again (j + 1) (by omega) ⟨rfl, rfl, rfl, rfl, trivial⟩ (Ent.sep (.pure ⟨by omega, fun e => by rw [e] at hol; simp at hol⟩ (.eq pkk (own_eq rfl ?_) enn))); simp only [shufTo]; rw [if_neg (by intro e; rw [e] at hol; simp at hol), List.length_range, swp_eq (by omega) (by omega)]; simp [List.map_set]
 refine Hd.exit <| Hd.thenExit <| Hd.thenExit <| Hd.inBexit <| Hd.toK K8 ?_; refine sr fun _ K19 => ?_
 refine yv y_mv <| yv y_as <| fk [(4,_)] K19 ?_; refine Hd.ret <| Hd.ret1 rfl (a1, c1) rfl (Ent.sep (.eq pkk (own_eq rfl ?_) enn))
 rcases Nat.lt_or_ge j i with h | h
 ·have h0 : ord = [] := List.eq_nil_of_length_eq_zero (by rcases hc1 with h1 | h1 <;> omega)
  rw [shuf_nil h0, shuf_nil h0]
 ·rw [show j = i by omega]
end Sh
end Go.Proofs.YtbfddabjbkohdaaGreat
namespace Go.Proofs.YtbfddabjbkohdaaGreat
open Go.RX Fx
namespace Kq
open Wo
theorem refN_len (g : Ky → Option QnA) (w : WA) : (refN g w).length ≤ 288 := by
 have e : (refN g w).length = ((refN g w).map noteN).length := (List.length_map _).symm
 rw [e, notes_N, List.length_map]; exact allK_len _ _
theorem refN_sg {g : Ky → Option QnA} {w : WA} (hf : OkK (knF g)) : ∀ x ∈ refN g w, x.flt = 3 → 1 ≤ x.id ∧ x.id ≤ 31 := fun x hx h3 => by
 obtain ⟨q, _, hq, _⟩ := refN_mem hx
 exact hf.sg (keyR x) q.kn (by unfold knF; rw [hq]; rfl) h3
theorem chsG_app (w : WA) : ∀ (a b : List NoA) (g : Ky → Option QnA), chsG g w (a ++ b) = ((chsG g w a).1 ++ (chsG (chsG g w a).2 w b).1, (chsG (chsG g w a).2 w b).2)
 | [], _, _ => rfl
 | p :: a, b, g => by
  show (oneR (chgG g w p).1 p ++ (chsG (chgG g w p).2 w (a ++ b)).1, (chsG (chgG g w p).2 w (a ++ b)).2) = ((oneR (chgG g w p).1 p ++ (chsG (chgG g w p).2 w a).1) ++ _, _)
  rw [chsG_app w a b, List.append_assoc]; rfl
theorem chsG_succ (g : Ky → Option QnA) (w : WA) {xs : List NoA} {i : Nat} {p : NoA} (h : xs[i]? = some p) : chsG g w (xs.take (i + 1)) = ((chsG g w (xs.take i)).1 ++ oneR (chgG (chsG g w (xs.take i)).2 w p).1 p, (chgG (chsG g w (xs.take i)).2 w p).2) := by
 rw [List.take_add_one, h, Option.toList_some, chsG_app]
 show (_ ++ (oneR _ p ++ []), _) = _
 rw [List.append_nil]; rfl
theorem chsG_len (w : WA) : ∀ (a : List NoA) (g : Ky → Option QnA), (chsG g w a).1.length ≤ a.length
 | [], _ => Nat.le_refl _
 | p :: t, g => by
  have := chsG_len w t (chgG g w p).2
  show (oneR (chgG g w p).1 p ++ (chsG (chgG g w p).2 w t).1).length ≤ _
  rw [List.length_append, List.length_cons]
  have h1 : (oneR (chgG g w p).1 p).length ≤ 1 := by unfold oneR; split <;> simp
  omega
theorem rchs16_ct (L : List SP) (qb rb : Nat) (ad : Option Addr) (c : Nat) (g : Ky → Option QnA) (w : WA) (hw : WOk w) (K : Nat) (hlo : Lo K w) (hI : InvQ g w) (al : Option Addr) (cl : Nat) (xs : List NoA) (h : RdS L 4 al xs.length (xs.flatMap encNo)) (hb : xs.length ≤ 1000000) (hx : ∀ p ∈ xs, InK .i64 p.2.2.1) : Ct Tryz.prog 37 #[.pointer (some ⟨qb, 0, none⟩), .slice al xs.length cl] (RkP qb rb ad c (refN g w) (Rf.RwP rb w :: L)) (fun q_ : Option Addr × Nat × Option Addr × Nat => .slice q_.1 (chsG g w xs).1.length q_.2.1) (fun q_ : Option Addr × Nat × Option Addr × Nat => own 82 4 q_.1 (chsG g w xs).1.length q_.2.1 ((chsG g w xs).1.flatMap encNo) :: RkP qb rb q_.2.2.1 q_.2.2.2 (refN (chsG g w xs).2 w) (Rf.RwP rb w :: L)) := by
 refine Ct.o2 Tryz.func37 ?_; intro E
 show Hd E 46 _ _ _ _
 refine sr fun _ K1 => ?_
 refine yv y_as <| fk [(0,_),(1,_)] K1 ?_; refine sr fun _ K2 => ?_
 refine yv y_as <| fk [(0,_),(1,_),(5,_)] K2 ?_; refine Hd.seq fun _ K3 => ?_
 refine sr fun _ K4 => ?_
 refine yv y_as <| fk [(0,_),(1,_),(5,_),(6,_)] K4 ?_; refine Hd.block <| Hd.loopK (ι := Nat × Option Addr × Nat × Option Addr × Nat) [(0,_),(1,_)] (fun q_ => [(5, .slice q_.2.1 (chsG g w (xs.take q_.1)).1.length q_.2.2.1), (6, .int .i64 (q_.1 : Int))]) (fun q_ => pu (q_.1 ≤ xs.length) :: own 82 4 q_.2.1 (chsG g w (xs.take q_.1)).1.length q_.2.2.1 ((chsG g w (xs.take q_.1)).1.flatMap encNo) :: RkP qb rb q_.2.2.2.1 q_.2.2.2.2 (refN (chsG g w (xs.take q_.1)).2 w) (Rf.RwP rb w :: L)) (fun q_ => xs.length - q_.1) (0, none, 0, ad, c) sbq sbq (fun q t => Ent.sep (.pure (Nat.zero_le _) (.ownNil enn)) q t) ?_; rintro ⟨i, oa, oc, la, lc⟩
 try dsimp only
 refine Hd.pure (fun hp0 => ?_)
 try dsimp only at hp0
 refine Hd.seq fun _ K5 => ?_
 refine sr fun _ K6 => ?_
 refine yv y_mv <| yv y_mv <| yv (y_len Tryz.underlying67 rfl) ?_; refine yv (y_lss rfl rfl) ?_; refine fk [(0,_),(1,_),(5,_),(6,_),(11,_)] K6 ?_; refine qz ?_ ?_ <;> intro hc0 <;> try simp only [hyZ] at hc0
 ·have hi : i < xs.length := by omega
  obtain ⟨p, hp⟩ : ∃ p, xs[i]? = some p := ⟨_, List.getElem?_eq_getElem hi⟩
  have hpk := hx p (List.mem_of_getElem? hp)
  have hs := chsG_succ g w hp
  have hln := chsG_len w (xs.take i) g
  rw [List.length_take] at hln
  have hIG := (chs_ref hw hlo (xs.take i) g hI fun q hq => hx q (List.mem_of_mem_take hq)).2
  obtain ⟨D, hD⟩ : ∃ D, (chsG g w (xs.take i)).1 = D := ⟨_, rfl⟩
  obtain ⟨G, hG⟩ : ∃ G, (chsG g w (xs.take i)).2 = G := ⟨_, rfl⟩
  rw [hG] at hIG; rw [hD, hG] at hs; rw [hD] at hln; rw [hD, hG]
  have hch := chR_ref hw hIG p
  have hrl := refN_len G w
  refine qv K5 <| Hd.seq fun _ K7 => ?_
  refine Hd.block <| sr fun _ K8 => ?_
  refine yv y_mv <| yv y_mv <| yv y_mv <| yv (y_idxR Tryz.underlying67 sz82 rfl rfl (by omega) (by exact RdS.mono h sq)) ?_; refine yv (y_loadRn (vs := encNo p) ag82 rfl (RdS.mono h sq) (flat_cells encNo 4 (fun _ => rfl) hp) sz82 (by simp)) ?_; refine callE rfl fk94 (rchange16_ct _ qb rb la lc (refN G w) w hw (by omega) p hpk) sq ?_; rintro ⟨ma, mc⟩; dsimp only; rw [hch]; dsimp only
  obtain ⟨e, he⟩ : ∃ e, (chgG G w p).1 = e := ⟨_, rfl⟩
  obtain ⟨G', hG'⟩ : ∃ G', (chgG G w p).2 = G' := ⟨_, rfl⟩
  rw [he, hG'] at hs; rw [he, hG']; refine yv y_as <| fk [(0,_),(1,_),(5,_),(6,_),(7,_)] K8 ?_; refine sr fun _ K9 => ?_
  refine yv y_mv <| yv (y_neq rfl rfl) ?_; refine yv y_mv ?_; apply Hd.org 7 22 29 [(0,_),(1,_),(5,_),(6,_),(7,_)] rfl sbq
  ·intro hg6_22
   try simp only [hyZ] at hg6_22
   simp only [List.take]; refine n1 <| n1 <| n1 <| n1 <| n1 <| n1 <| yv (y_pickT rfl rfl) ?_; exact Hd.mn
  ·intro hg6_22
   try simp only [hyZ] at hg6_22
   simp only [List.take]; refine y2 y_mv <| y2 y_mv <| y2 (y_idxR Tryz.underlying67 sz82 rfl rfl (by omega) (by exact RdS.mono h sq)) ?_; refine y2 (y_fR 2 3 Tryz.underlying82 sz3) ?_; refine y2 (y_loadR1 ag3 rfl (RdS.mono h sq) (flat_cells encNo 4 (fun _ => rfl) hp 2 _ rfl)) ?_; refine Hd.unguard rfl rfl ?_; refine callE rfl fk95 (rhas16_ct _ p.2.2.1 64 (by decide) hpk) sq ?_; intro _; refine yv (y_pickF rfl rfl) ?_; exact Hd.mn
  simp only [List.drop]; refine fk [(0,_),(1,_),(5,_),(6,_),(7,_),(29,_)] K9 ?_; refine qz ?_ ?_ <;> intro hc1 <;> try simp only [hyZ] at hc1
  ·have ho : oneR e p = [(p.1, p.2.1, 256, e)] := if_pos (by simpa using hc1)
   rw [ho] at hs; refine Hd.draws mixed ?_; simp only [List.length, Nat.zero_add, Nat.reduceAdd]; refine Hd.take 0 rfl kq kq kq (fun _ => y_move rfl) fq ?_; refine Hd.take 1 rfl kq kq kq (fun _ => y_move rfl) fq ?_; refine Hd.take 2 rfl kq kq kq (fun _ => y_move rfl) fq ?_; refine Hd.take 6 rfl kq kq kq (fun _ => y_move rfl) fq ?_; refine Hd.take 7 rfl kq kq kq (fun _ => y_move rfl) fq ?_; refine Hd.take 11 rfl kq kq kq (fun _ => y_move rfl) fq ?_; refine Hd.tailAt 13 [3, 4, 5, 8, 9, 10, 12] [13, 14, 15] rfl rfl rfl kq ?_; simp only [pk, List.getElem?_cons_zero, List.getElem?_cons_succ]; refine Ht.yv (y_idxR Tryz.underlying67 sz82 rfl rfl (by omega) (by exact RdS.mono h sq)) ?_; refine Ht.yv (y_fR 0 3 Tryz.underlying82 sz3) ?_; refine Ht.yv (y_loadR1 ag3 rfl (RdS.mono h sq) (flat_cells encNo 4 (fun _ => rfl) hp 0 _ rfl)) ?_; refine Ht.yv (y_idxR Tryz.underlying67 sz82 rfl rfl (by omega) (by exact RdS.mono h sq)) ?_
   refine Ht.yv (y_fR 1 3 Tryz.underlying82 sz3) ?_; refine Ht.yv (y_loadR1 ag3 rfl (RdS.mono h sq) (flat_cells encNo 4 (fun _ => rfl) hp 1 _ rfl)) ?_; refine Ht.yv (y_build (vs := [(0,_),(1,_),(2,_),(3,_)]) rfl (by exact bd37_42 ..)) ?_; refine Ht.nil ?_; refine Hd.bslice (vs := [(0,_)]) rfl (by exact bs37_43 ..) (fun b43 => ?_); refine Hd.append Tryz.underlying67 ty82 rfl rfl rfl pkk (by exact RdS.rd (Rd.pt pkk (fun j v e => by simpa using e)) rfl) (by simp [Value.oneCell']; done) (by simp only [maxLen]; omega) (by omega) (fun ad44 cap44 => ?_); refine yv y_as <| Hd.nil <| Hd.noPn ?_; refine slots [(0,_),(1,_),(5,_),(6,_)] sbq ?_; refine Hd.inB <| Hd.toK K7 ?_; refine Hd.region <| yv y_mv <| yv (y_addn rfl rfl (by simp only [InK]; omega)) ?_; refine yv y_as <| Hd.nil <| slots [(0,_),(1,_),(5,_),(6,_)] sbq ?_; refine thenN <| Hd.again (i + 1, ad44, cap44, ma, mc) (by show xs.length - (i + 1) < xs.length - i; omega) (by (try dsimp only); rw [hs]; refine ⟨by rw [List.length_append]; rfl, ?_⟩; repeat (first | exact trivial | refine ⟨rfl, ?_⟩)) (fun q t => ?_)
   rw [hs]; exact Ent.sep (.pure (show i + 1 ≤ xs.length by omega) (.eq pkk (own_eq3 (by rw [List.length_append]; rfl) rfl (by rw [List.flatMap_append]; rfl)) enn)) q t
  have ho : oneR e p = [] := if_neg (by
   rintro (g | g)
   ·exact g hc1.1
   ·rw [hc1.2] at g; cases g)
  rw [ho, List.append_nil] at hs; refine Hd.skip <| Hd.inB <| Hd.toK K7 ?_; refine Hd.region <| yv y_mv <| yv (y_addn rfl rfl (by simp only [InK]; omega)) ?_; refine yv y_as <| Hd.nil <| slots [(0,_),(1,_),(5,_),(6,_)] sbq ?_; refine thenN <| Hd.again (i + 1, oa, oc, ma, mc) (by show xs.length - (i + 1) < xs.length - i; omega) (by (try dsimp only); rw [hs]; repeat (first | exact trivial | refine ⟨rfl, ?_⟩)) (fun q t => ?_); rw [hs]; exact Ent.sep (.pure (show i + 1 ≤ xs.length by omega) enn) q t
 obtain rfl : i = xs.length := by omega
 rw [List.take_of_length_le (Nat.le_refl _)]; refine Hd.exit <| Hd.thenExit <| Hd.thenExit <| Hd.inBexit <| Hd.toK K3 ?_; refine sr fun _ K10 => ?_
 refine yv y_mv <| yv y_as <| fk [(4,_)] K10 ?_; refine Hd.ret ?_; exact Hd.ret1 rfl (oa, oc, la, lc) rfl sq
theorem rkpollbad16_ct (L : List SP) (qb : Nat) (most : Int) (h1 : most < 1) (v : Value) : Ct Tryz.prog 38 #[.pointer (some ⟨qb, 0, none⟩), .int .i64 most, v] (L) (fun _ : Unit => .tuple #[.slice none 0 0, .int .i64 2]) (fun _ : Unit => L) := by
 refine Ct.o3 Tryz.func38 ?_; intro E
 show Hd E 69 _ _ _ _
 refine sr fun _ K1 => ?_
 refine yv y_as <| yv y_as <| fk [(0,_),(1,_),(2,_)] K1 ?_; refine Hd.seq fun _ K2 => ?_
 refine sr fun _ K3 => ?_
 refine yv y_mv <| yv (y_lss rfl rfl) ?_; refine fk [(0,_),(1,_),(2,_),(15,_)] K3 ?_; refine qz ?_ ?_ <;> intro hc0 <;> try simp only [hyZ] at hc0
 ·refine sr fun _ K4 => ?_
  refine yv y_as <| yv y_as <| fk [(6,_),(7,_)] K4 ?_; refine Hd.ret <| Hd.thenRet ?_; exact Hd.ret2 rfl () rfl rfl rfl sq
 omega
theorem cut_set (l : List RnA) (k : Nat) (x : RnA) : cutN (l.set k x) k = cutN l k := by
 unfold cutN
 congr 1
 ·apply List.ext_getElem?
  intro j; rw [List.getElem?_take, List.getElem?_take]
  split
  ·rw [List.getElem?_set_ne (by omega)]
  ·rfl
 ·apply List.ext_getElem?
  intro j; rw [List.getElem?_drop, List.getElem?_drop, List.getElem?_set_ne (by omega)]
theorem rkpoll16_ct (L : List SP) (qb rb : Nat) (ad : Option Addr) (c : Nat) (g : Ky → Option QnA) (w : WA) (hw : WOk w) (hI : InvQ g w) (most : Int) (h1 : 1 ≤ most) (ao : Option Addr) (co : Nat) (ord : List Int) (ho : RdS L 1 ao ord.length (vi ord)) (hol : ord.length ≤ 200) : Ct Tryz.prog 38 #[.pointer (some ⟨qb, 0, none⟩), .int .i64 most, .slice ao ord.length co] (RkP qb rb ad c (refN g w) (Rf.RwP rb w :: L)) (fun q_ : Option Addr × Nat × Option Addr × Nat => .tuple #[.slice q_.1 (polK (knF g) w most ord).length q_.2.1, .int .i64 0]) (fun q_ : Option Addr × Nat × Option Addr × Nat => own 82 4 q_.1 (polK (knF g) w most ord).length q_.2.1 ((polK (knF g) w most ord).flatMap encNo) :: RkP qb rb q_.2.2.1 q_.2.2.2 (refN (offQ w g (polK (knF g) w most ord)) w) (Rf.RwP rb w :: L)) := by
 refine Ct.o3 Tryz.func38 ?_; intro E
 show Hd E 69 _ _ _ _
 refine sr fun _ K1 => ?_
 refine yv y_as <| yv y_as <| fk [(0,_),(1,_),(2,_)] K1 ?_; refine Hd.seq fun _ K2 => ?_
 refine sr fun _ K3 => ?_
 refine yv y_mv <| yv (y_lss rfl rfl) ?_; refine fk [(0,_),(1,_),(2,_),(15,_)] K3 ?_; refine qz ?_ ?_ <;> intro hc0 <;> try simp only [hyZ] at hc0
 ·omega
 refine qv K2 <| sr fun _ K4 => ?_
 refine yv y_mv <| callE rfl fk39 (rdue16_ct _ qb rb ad c (refN g w) w hw (by have := refN_len g w; omega) (by rw [tidyN_id hw hI]; exact refN_sg hI.ok)) sq ?_; rintro ⟨da, dc, la, lc⟩; dsimp only; rw [tidyN_id hw hI, due_N]
 have hdl := dueK_len (knF g) w
 have hdn := dueK_nd (knF g) w
 have hdm : ∀ y ∈ dueK (knF g) w, livQ g w (keyN y) = true := fun y hy => by rw [← livQ_eq]; exact (dueK_mem hy).1
 have hpo : polK (knF g) w most ord = (Sh.shufTo ord (dueK (knF g) w) (dueK (knF g) w).length).take most.toNat := rfl
 obtain ⟨D, hD⟩ : ∃ D, dueK (knF g) w = D := ⟨_, rfl⟩
 rw [hD] at hdl hdn hdm hpo; rw [hD]; refine yv y_as <| fk [(0,_),(1,_),(2,_),(8,_)] K4 ?_; refine sr fun _ K5 => ?_
 refine yv y_mv <| yv (y_len Tryz.underlying67 rfl) ?_; refine yv y_mv <| callE rfl fk83 (Sh.places_ct _ ao co D.length ord ?hD (by omega) hol) sq ?_
 case hD => exact RdS.mono ho sq
 rintro ⟨pa, pc⟩; dsimp only
 have hXp := Ep.shuf_perm ord D D.length
 obtain ⟨X, hX⟩ : ∃ X, Sh.shufTo ord D D.length = X := ⟨_, rfl⟩
 rw [hX] at hpo hXp
 have hXl : X.length = D.length := by rw [← hX, Sh.shuf_len]
 have hXn : (X.map keyN).Nodup := (hXp.map keyN).nodup_iff.2 hdn
 have hXm : ∀ y ∈ X, livQ g w (keyN y) = true := fun y hy => hdm y (hXp.mem_iff.1 hy)
 obtain ⟨PL, hPL⟩ : ∃ PL, Sh.shufTo ord (List.range D.length) D.length = PL := ⟨_, rfl⟩
 have hPl : PL.length = D.length := by rw [← hPL, Sh.shuf_len, List.length_range]
 have hPX : X = PL.map (fun k => D.getD k (0, 0, 0, 0)) := by
  rw [← hX, ← hPL, ← Sh.shuf_map]
  congr 1
  apply List.ext_getElem?; intro q; rw [List.getElem?_map]
  by_cases hq : q < D.length
  ·rw [List.getElem?_range hq, List.getElem?_eq_getElem hq]; simp [hq]
  ·rw [List.getElem?_eq_none (by omega), List.getElem?_eq_none (by simp; omega)]; rfl
 have hPm : ∀ k ∈ PL, k < D.length := fun k hk => by rw [← hPL] at hk; exact List.mem_range.1 (Sh.shuf_mem hk)
 rw [hPL]; refine yv y_as <| fk [(0,_),(1,_),(8,_),(9,_)] K5 ?_; refine sr fun _ K6 => ?_
 refine yv y_as <| fk [(0,_),(1,_),(8,_),(9,_),(10,_)] K6 ?_; refine Hd.seq fun _ K7 => ?_
 refine sr fun _ K8 => ?_
 refine yv y_as <| fk [(0,_),(1,_),(8,_),(9,_),(10,_),(11,_)] K8 ?_; refine Hd.block <| Hd.loopK (ι := Nat × Option Addr × Nat × Option Addr × Nat) [(0,_),(1,_),(8,_),(9,_)] (fun q_ => [(10, .slice q_.2.1 (X.take q_.1).length q_.2.2.1), (11, .int .i64 (q_.1 : Int))]) (fun q_ => pu (q_.1 ≤ X.length ∧ (q_.1 : Int) ≤ most) :: own 82 4 q_.2.1 (X.take q_.1).length q_.2.2.1 ((X.take q_.1).flatMap encNo) :: own 82 4 da D.length dc (D.flatMap encNo) :: own 3 1 pa D.length pc (PL.map Sh.VN) :: RkP qb rb q_.2.2.2.1 q_.2.2.2.2 (refN (offQ w g (X.take q_.1)) w) (Rf.RwP rb w :: L)) (fun q_ => X.length - q_.1) (0, none, 0, la, lc) sbq sbq (fun q t => Ent.sep (.pure ⟨Nat.zero_le _, (show (0 : Int) ≤ most by omega)⟩ (.ownNil enn)) q t) ?_; rintro ⟨j, ta, tc, la, lc⟩
 try dsimp only
 refine Hd.pure (fun hp0 => ?_)
 try dsimp only at hp0
 refine Hd.seq fun _ K9 => ?_
 refine sr fun _ K10 => ?_
 refine yv y_mv <| yv y_mv <| yv (y_len Tryz.underlying44 rfl) ?_; refine yv (y_lss rfl rfl) ?_; refine yv y_mv ?_; apply Hd.andg 4 26 30 [(0,_),(1,_),(8,_),(9,_),(10,_),(11,_)] rfl sbq
 ·intro hg7_26
  try simp only [hyZ] at hg7_26
  simp only [List.take]; refine y2 y_mv <| y2 y_mv <| y2 (y_lss rfl rfl) ?_; refine yv (y_pickT rfl rfl) ?_; exact Hd.mn
 ·intro hg7_26
  try simp only [hyZ] at hg7_26
  simp only [List.take]; refine n1 <| n1 <| n1 <| yv (y_pickF rfl rfl) ?_; exact Hd.mn
 simp only [List.drop]; refine fk [(0,_),(1,_),(8,_),(9,_),(10,_),(11,_),(30,_)] K10 ?_; refine qz ?_ ?_ <;> intro hc1 <;> try simp only [hyZ] at hc1
 ·have hj : j < D.length ∧ (j : Int) < most := by have h := hc1; omega
  obtain ⟨k0, hk0⟩ : ∃ k, PL[j]? = some k := ⟨_, List.getElem?_eq_getElem (by omega)⟩
  have hkD := hPm k0 (List.mem_of_getElem? hk0)
  obtain ⟨y, hy⟩ : ∃ y, D[k0]? = some y := ⟨_, List.getElem?_eq_getElem hkD⟩
  have hXj : X[j]? = some y := by rw [hPX, List.getElem?_map, hk0]; simp [hy]
  have hXl2 : (X.take j).length ≤ j := by rw [List.length_take]; omega
  have hXs : X.take (j + 1) = X.take j ++ [y] := by rw [List.take_add_one, hXj]; rfl
  have hyn : keyN y ∉ (X.take j).map keyN := by
   intro hm; rw [List.map_take] at hm
   obtain ⟨i, hi⟩ := List.getElem?_of_mem hm
   rw [List.getElem?_take] at hi
   split at hi
   ·rename_i hij
    have hjX : j < X.length := (List.getElem?_eq_some_iff.1 hXj).1
    have h2 : (X.map keyN)[j]? = some (keyN y) := by rw [List.getElem?_map, hXj]; rfl
    obtain ⟨a1, b1⟩ := List.getElem?_eq_some_iff.1 hi
    obtain ⟨a2, b2⟩ := List.getElem?_eq_some_iff.1 h2
    have := (List.getElem_inj hXn).1 (b1.trans b2.symm)
    omega
   ·cases hi
  have hIj := InvQ.off (X.take j) hI
  have hlj : livQ (offQ w g (X.take j)) w (keyN y) = true := by
   have e := offQ_liv (w := w) (X.take j) g hyn
   have h0 := hXm y (List.mem_of_getElem? hXj)
   unfold livQ at h0 ⊢; rw [e]; exact h0
  obtain ⟨k, x, hpos, hk, _, hcut, hset⟩ := off_N hw hIj.ok hlj
  have happ := offQ_app w y (X.take j) g
  rw [← hXs] at happ; rw [← happ] at hcut hset
  have hrl := refN_len (offQ w g (X.take j)) w
  obtain ⟨l2, hl2⟩ : ∃ l2, refN (offQ w g (X.take j)) w = l2 := ⟨_, rfl⟩
  rw [hl2] at hpos hk hcut hset hrl; rw [hl2]
  have hkl : k < l2.length := (List.getElem?_eq_some_iff.1 hk).1
  refine qv K9 <| Hd.seq fun _ K11 => ?_
  refine Hd.block <| sr fun _ K12 => ?_
  refine yv y_mv <| yv y_mv <| yv y_mv <| yv (y_idxR Tryz.underlying44 sz3 rfl rfl (by omega) (by exact RdS.own pkk)) ?_; refine yv (y_loadR1 ag3 rfl (RdS.own (ad := pa) (us := PL.map Sh.VN) pkk) (by rw [Nat.mul_one, List.getElem?_map, hk0]; rfl)) ?_; refine yv (y_idxR Tryz.underlying67 sz82 rfl rfl (by omega) (by exact RdS.own pkk)) ?_; refine yv (y_loadRn (vs := encNo y) ag82 rfl (RdS.own (ad := da) (us := D.flatMap encNo) pkk) (flat_cells encNo 4 (fun _ => rfl) hy) sz82 (by simp)) ?_; refine Hd.alloc zr82 (fun b12 => ?_); refine Hd.storeA (us := encNo y) sz82 rfl rfl rfl (encNo_one _) pkk (by exact rfl) ?_; refine fk [(0,_),(1,_),(8,_),(9,_),(10,_),(11,_),(12,_)] K12 ?_; refine sr fun _ K13 => ?_
  refine yv y_mv <| yv (y_loadn (us := [_, _, _, _]) ag82 rfl (Rd.pt pkk (by (first | (intro j v e; rcases j with _|_|_|_|_|_|_|_|_|_|_|_|j <;> first | exact e | exact absurd e (by simp))))) (by exact sz82)) ?_; refine Hd.bslice (vs := [(0,_)]) rfl (by exact bs38_42 ..) (fun b42 => ?_); refine Hd.append Tryz.underlying67 ty82 rfl rfl rfl pkk (by exact RdS.rd (Rd.pt pkk (fun j v e => by simpa using e)) rfl) (by simp [Value.oneCell']; done) (by simp only [maxLen]; omega) (by omega) (fun ad43 cap43 => ?_); refine yv y_as <| fk [(0,_),(1,_),(8,_),(9,_),(10,_),(11,_),(12,_)] K13 ?_; refine sr fun _ K14 => ?_
  refine yv y_mv <| yv (y_f 0 3 Tryz.underlying82 sz3) <| yv (y_l1 ag3 rfl) <| yv (y_f 1 3 Tryz.underlying82 sz3) <| yv (y_l1 ag3 rfl) <| callE rfl fk96 (rfind16_ct _ qb rb la lc l2 y.1 y.2.1 (by omega)) sq ?_; intro _; rw [show posN l2 (y.1, y.2.1) = (k : Int) from hpos]; refine yv y_as <| Hd.nil ?_
  obtain ⟨l3, hl3⟩ : ∃ l3, l2.set k { x with a := false } = l3 := ⟨_, rfl⟩
  have hl3l : l2.length = l3.length := by rw [← hl3, List.length_set]
  have hk3 : l3[k]? = some { x with a := false } := by rw [← hl3, List.getElem?_set_self hkl]
  refine sk [(0,_),(1,_),(8,_),(9,_),(10,_),(11,_),(13,_)] K14 ?_; refine sr fun _ K15 => ?_
  refine yv y_mv <| yv y_np <| yv (y_f 1 92 Tryz.underlying94 sz92) <| yv (y_l1 ag92 rfl) <| yv y_mv <| yv (y_idxR (j := k) (ad := la) Tryz.underlying92 sz183 rfl rfl hkl (RdS.own (ad := la) (us := l2.flatMap encRn) pkk)) ?_; refine yv (y_fR 6 4 Tryz.underlying183 sz4) ?_; refine Hd.storeO1 (ad := la) (q := k * 8 + 6) sz4 rfl rfl rfl pkk (by rw [rows_len (k := 8) (fun _ => rfl)]; omega) ?_; rw [rows_set (enc := encRn) (k := 8) (j := 6) (fun _ => rfl) (x := x) (x' := { x with a := false }) (by decide) rfl hk rfl, hl3, hl3l]; refine fk [(0,_),(1,_),(8,_),(9,_),(10,_),(11,_),(13,_)] K15 ?_; refine sr fun _ K16 => ?_
  refine yv y_mv <| yv y_np <| yv (y_f 1 92 Tryz.underlying94 sz92) <| yv (y_l1 ag92 rfl) <| yv y_mv <| yv (y_idxR (j := k) (ad := la) Tryz.underlying92 sz183 rfl rfl (hl3l ▸ hkl) (RdS.own (ad := la) (us := l3.flatMap encRn) pkk)) ?_; refine yv (y_fR 5 4 Tryz.underlying183 sz4) ?_; refine yv (y_loadR1 ag4 rfl (RdS.own (ad := la) (us := l3.flatMap encRn) pkk) (flat_cells encRn 8 (fun _ => rfl) hk3 5 _ rfl)) ?_; refine fk [(0,_),(1,_),(8,_),(9,_),(10,_),(11,_),(13,_),(64,_)] K16 ?_; refine qz ?_ ?_ <;> intro hc2 <;> try simp only [hyZ] at hc2
  ·refine Hd.region ?_
   refine yv y_mv <| yv y_mv <| callE rfl fk97 (rcut16_ct _ qb rb la lc l3 (by omega) k (by omega)) sq ?_; rintro ⟨ma, mc⟩; dsimp only; rw [← hl3, cut_set, hcut hc2]; refine Hd.nil <| slots [(0,_),(1,_),(8,_),(9,_),(10,_),(11,_)] sbq ?_; refine Hd.inB <| Hd.toK K11 ?_; refine Hd.region <| yv y_mv <| yv (y_addn rfl rfl (by simp only [InK]; omega)) ?_; refine yv y_as <| Hd.nil <| slots [(0,_),(1,_),(8,_),(9,_),(10,_),(11,_)] sbq ?_; refine thenN <| Hd.again (j + 1, ad43, cap43, ma, mc) (by show X.length - (j + 1) < X.length - j; omega) (by (try dsimp only); rw [hXs, List.length_append]; repeat (first | exact trivial | refine ⟨rfl, ?_⟩)) (fun q t => ?_); exact Ent.sep (.pure ⟨(show j + 1 ≤ X.length by omega), (show ((j + 1 : Nat) : Int) ≤ most by omega)⟩ (.eq pkk (own_eq3 (by rw [hXs, List.length_append]; rfl) rfl (by rw [hXs, List.flatMap_append]; rfl)) enn)) q t
  rw [← hl3, hset (by simpa using hc2)]; refine Hd.skip <| Hd.inB <| Hd.toK K11 ?_; refine Hd.region <| yv y_mv <| yv (y_addn rfl rfl (by simp only [InK]; omega)) ?_; refine yv y_as <| Hd.nil <| slots [(0,_),(1,_),(8,_),(9,_),(10,_),(11,_)] sbq ?_; refine thenN <| Hd.again (j + 1, ad43, cap43, la, lc) (by show X.length - (j + 1) < X.length - j; omega) (by (try dsimp only); rw [hXs, List.length_append]; repeat (first | exact trivial | refine ⟨rfl, ?_⟩)) (fun q t => ?_); exact Ent.sep (.pure ⟨(show j + 1 ≤ X.length by omega), (show ((j + 1 : Nat) : Int) ≤ most by omega)⟩ (.eq pkk (own_eq3 (by rw [hXs, List.length_append]; rfl) rfl (by rw [hXs, List.flatMap_append]; rfl)) enn)) q t
 have hj : X.take j = X.take most.toNat := by
  rcases hc1 with h | h
  ·rw [List.take_of_length_le (by omega), List.take_of_length_le (by omega)]
  ·congr 1; omega
 rw [hj]; refine Hd.exit <| Hd.thenExit <| Hd.thenExit <| Hd.inBexit <| Hd.toK K7 ?_; refine sr fun _ K17 => ?_
 refine yv y_mv <| yv y_as <| yv y_as <| fk [(6,_),(7,_)] K17 ?_; refine Hd.ret ?_; rw [hpo]; exact Hd.ret2 rfl (ta, tc, la, lc) rfl rfl rfl sq
structure Qv where
 k : Int
 x : Ov
 na : Option Addr
 nc : Nat
 ns : List NoA
 n : Int
 ad : Option Addr
 c : Nat
 ord : List Int
abbrev encQv (p : Qv) : List Value := [.int .i64 p.k, .int .i64 p.x.k, .int .i64 p.x.a, .int .i64 p.x.n, .int .u64 p.x.t, .slice p.x.ad p.x.d.length p.x.c, .slice p.na p.ns.length p.nc, .int .i64 p.n, .slice p.ad p.ord.length p.c]
structure QvOk (L : List SP) (p : Qv) : Prop where
 x : OvOk L p.x
 rn : RdS L 4 p.na p.ns.length (p.ns.flatMap encNo)
 ns : ∀ q ∈ p.ns, InK .i64 q.2.2.1
 rd : RdS L 1 p.ad p.ord.length (vi p.ord)
abbrev okQ (p : Qv) : Prop := p.ord.length ≤ 60 ∧ p.ns.length ≤ 20 ∧ p.x.d.length ≤ 300
def gQ (xs : List Qv) : Int := if 150 < xs.length then 1 else if ∀ p ∈ xs, okQ p then 0 else 1
theorem gQ_ok {xs : List Qv} (h : ¬ 0 < gQ xs) : xs.length ≤ 150 ∧ ∀ p ∈ xs, okQ p := by
 unfold gQ at h
 split at h
 ·exact absurd (by decide) h
 ·split at h
  ·rename_i h1 h2; exact ⟨by omega, h2⟩
  ·exact absurd (by decide) h
theorem gO_oneK (o : Ov) : gO [o] = if o.d.length ≤ 300 then 0 else 1 := by
 unfold gO; rw [if_neg (by simp)]
 by_cases h : o.d.length ≤ 300
 ·rw [if_pos h, if_pos (by intro q hq; obtain rfl : q = o := (by simpa using hq); exact h)]
 ·rw [if_neg h, if_neg (fun g => h (g o List.mem_cons_self))]
theorem qv_x {xs : List Qv} {i : Nat} {p : Qv} (h : xs[i]? = some p) : ∀ (j : Nat) v, (encO p.x)[j]? = some v → (xs.flatMap encQv)[i * 9 + 1 + j]? = some v := fun j v e => by
 rw [Nat.add_assoc]; refine flat_cells encQv 9 (fun _ => rfl) h (1 + j) v ?_; rw [Nat.add_comm]
 show (encO p.x ++ [Value.slice p.na p.ns.length p.nc, .int .i64 p.n, .slice p.ad p.ord.length p.c])[j]? = some v
 rw [List.getElem?_append_left (List.getElem?_eq_some_iff.1 e).1]; exact e
theorem great16_ct (L : List SP) (ad : Option Addr) (c : Nat) (xs : List Qv) (hR : RdS L 9 ad xs.length (xs.flatMap encQv)) : Ct Tryz.prog 36 #[.slice ad xs.length c] (L) (fun _ : Unit => .int .i64 (gQ xs)) (fun _ : Unit => L) := by
 refine Ct.o1 Tryz.func36 ?_; intro E
 show Hd E 39 _ _ _ _
 refine sr fun _ K1 => ?_
 refine yv y_as <| fk [(0,_)] K1 ?_; refine Hd.seq fun _ K2 => ?_
 refine sr fun _ K3 => ?_
 refine yv y_mv <| yv (y_len Tryz.underlying89 rfl) ?_; refine yv (y_gtr rfl rfl) ?_; refine fk [(0,_),(6,_)] K3 ?_; refine qz ?_ ?_ <;> intro hc0 <;> try simp only [hyZ] at hc0
 ·refine sr fun _ K4 => ?_
  refine yv y_as <| fk [(2,_)] K4 ?_; refine Hd.ret <| Hd.thenRet ?_; exact Hd.ret1 rfl () (by unfold gQ; rw [if_pos (by omega)]; rfl) sq
 have hx : xs.length ≤ 150 := by omega
 refine qv K2 <| Hd.seq fun _ K5 => ?_
 refine sr fun _ K6 => ?_
 refine yv y_mv <| yv (y_len Tryz.underlying89 rfl) ?_; refine yv y_mv <| fk [(0,_),(8,_),(9,_)] K6 ?_; refine Hd.block <| Hd.loopK (ι := Nat) [(0,_),(8,_)] (fun i => [(9, .int .i64 (i : Int))]) (fun i => pu (i ≤ xs.length ∧ ∀ p ∈ xs.take i, okQ p) :: L) (fun i => xs.length - i) 0 sbq sbq (Ent.sep (.pure ⟨Nat.zero_le _, fun o ho => by simp at ho⟩ enn)) ?_; intro i
 try dsimp only
 refine Hd.pure (fun hp0 => ?_)
 try dsimp only at hp0
 refine sr fun _ K7 => ?_
 refine yv (y_lss rfl rfl) ?_; refine fk [(0,_),(8,_),(9,_),(10,_)] K7 ?_; refine Hd.seq fun _ K8 => ?_
 refine qz ?_ ?_ <;> intro hc1 <;> try simp only [hyZ] at hc1
 ·have hi : i < xs.length := by omega
  obtain ⟨p, hp⟩ : ∃ p, xs[i]? = some p := ⟨_, List.getElem?_eq_getElem hi⟩
  refine qv K8 <| Hd.seq fun _ K9 => ?_
  refine Hd.block <| sr fun _ K10 => ?_
  refine yv y_mv <| yv y_as <| fk [(0,_),(3,_),(8,_),(9,_)] K10 ?_; refine sr fun _ K11 => ?_
  refine yv y_mv <| yv y_mv <| yv (y_idxR Tryz.underlying89 sz96 rfl rfl (by omega) (by exact RdS.mono hR sq)) ?_; refine yv (y_fR 8 44 Tryz.underlying96 sz44) ?_; refine yv (y_loadR1 ag44 rfl (by exact RdS.mono hR sq) (by exact flat_cells encQv 9 (fun _ => rfl) hp 8 _ rfl)) ?_; refine yv (y_len Tryz.underlying44 rfl) ?_; refine yv (y_gtr rfl rfl) ?_; refine yv y_mv ?_; apply Hd.org 8 19 27 [(0,_),(3,_),(8,_),(9,_)] rfl sbq
  ·intro hg6_19
   try simp only [hyZ] at hg6_19
   simp only [List.take]; refine n1 <| n1 <| n1 <| n1 <| n1 <| n1 <| n1 <| yv (y_pickT rfl rfl) ?_; exact Hd.mn
  ·intro hg6_19
   try simp only [hyZ] at hg6_19
   simp only [List.take]; refine y2 y_mv <| y2 y_mv <| y2 (y_idxR Tryz.underlying89 sz96 rfl rfl (by omega) (by exact RdS.mono hR sq)) ?_; refine y2 (y_fR 6 67 Tryz.underlying96 sz67) ?_; refine y2 (y_loadR1 ag67 rfl (RdS.mono hR sq) (flat_cells encQv 9 (fun _ => rfl) hp 6 _ rfl)) ?_; refine y2 (y_len Tryz.underlying67 rfl) ?_; refine y2 (y_gtr rfl rfl) ?_; refine yv (y_pickF rfl rfl) ?_; exact Hd.mn
  simp only [List.drop]; refine yv y_mv ?_; apply Hd.org 9 28 37 [(0,_),(8,_),(9,_)] rfl sbq
  ·intro hg6_28
   try simp only [hyZ] at hg6_28
   simp only [List.take]; refine n1 <| n1 <| n1 <| n1 <| n1 <| n1 <| n1 <| n1 <| yv (y_pickT rfl rfl) ?_; exact Hd.mn
  ·intro hg6_28
   try simp only [hyZ] at hg6_28
   simp only [List.take]; refine y2 y_mv <| y2 y_mv <| y2 (y_idxR Tryz.underlying89 sz96 rfl rfl (by omega) (by exact RdS.mono hR sq)) ?_; refine y2 (y_fR 1 33 Tryz.underlying96 sz33) ?_; refine y2 (y_loadRn (vs := encO p.x) ag33 rfl (RdS.mono hR sq) (qv_x hp) sz33 (by simp)) ?_; refine Hd.unguard rfl rfl ?_; refine Hd.bslice (vs := [(0,_)]) rfl (by exact bs36_34 ..) (fun b34 => ?_); refine Hd.unguard rfl rfl ?_; refine callE rfl fk14 (great11_ct _ _ 1 [p.x] ?hD) sq ?_
   case hD => exact RdS.rd (Rd.pt pkk (fun j v e => by simpa using e)) rfl
   intro _; refine y2 (y_gtr rfl rfl) ?_; refine yv (y_pickF rfl rfl) ?_; exact Hd.mn
  simp only [List.drop]; refine fk [(0,_),(8,_),(9,_),(37,_)] K11 ?_; refine qz ?_ ?_ <;> intro hc2 <;> try simp only [hyZ] at hc2
  ·refine sr fun _ K12 => ?_
   refine yv y_as <| fk [(2,_)] K12 ?_; refine Hd.ret <| Hd.inBret <| Hd.thenRet <| Hd.thenRet <| Hd.inBret <| Hd.thenRet ?_
   have hb : ¬ (∀ p ∈ xs, okQ p) := fun h => by
    have h1 := h p (List.mem_of_getElem? hp)
    have h2 : gO [p.x] = 0 := by rw [gO_oneK, if_pos h1.2.2]
    omega
   exact Hd.ret1 rfl () (by unfold gQ; rw [if_neg (by omega), if_neg hb]; rfl) sq
  refine Hd.skip <| Hd.inB <| Hd.toK K9 ?_; refine Hd.region <| yv (y_addn rfl rfl (by simp only [InK]; omega)) ?_; refine yv y_mv <| Hd.nil <| slots [(0,_),(8,_),(9,_)] sbq ?_; refine thenN ?_
  have hnew : ∀ q ∈ xs.take (i + 1), okQ q := by
   intro q hq; rw [List.take_add_one, hp] at hq
   rcases List.mem_append.1 hq with h | h
   ·exact hp0.2 q h
   ·obtain rfl : q = p := by simpa using h
    have h2 := gO_oneK q.x
    by_cases h3 : q.x.d.length ≤ 300
    ·exact ⟨by omega, by omega, h3⟩
    ·rw [if_neg h3] at h2; omega
  exact Hd.again (i + 1) (by omega) sbq (Ent.sep (.pure ⟨hi, hnew⟩ enn))
 refine Hd.exit <| Hd.thenExit <| Hd.thenExit <| Hd.inBexit <| Hd.toK K5 ?_; refine sr fun _ K13 => ?_
 refine yv y_as <| fk [(2,_)] K13 ?_; refine Hd.ret ?_; exact Hd.ret1 rfl () (by unfold gQ; rw [if_neg (by omega), if_pos (by have h := hp0.2; rwa [List.take_of_length_le (by omega)] at h)]; rfl) sq
theorem emp_lenK {α : Type} (l : List α) : (!l.isEmpty) = decide (0 < (l.length : Int)) := by
 cases l with
 | nil => rfl
 | cons x t =>
  rw [decide_eq_true (by rw [List.length_cons]; omega)]; rfl
theorem polK_sub (f : Ky → Option KnA) (w : WA) (most : Int) (ord : List Int) : (∀ y ∈ polK f w most ord, y ∈ dueK f w) ∧ ((polK f w most ord).map keyN).Nodup := by
 have hp := Ep.shuf_perm ord (dueK f w) (dueK f w).length
 refine ⟨fun y hy => (hp.mem_iff).1 (List.mem_of_mem_take hy), ?_⟩; unfold polK; rw [List.map_take]; exact ((hp.map keyN).nodup_iff.2 (dueK_nd f w)).sublist (List.take_sublist _ _)
theorem polQ_eq {g : Ky → Option QnA} {w : WA} (most : Int) (ord : List Int) : offK w (knF g) (polK (knF g) w most ord) = knF (offQ w g (polK (knF g) w most ord)) := by
 obtain ⟨h1, h2⟩ := polK_sub (knF g) w most ord
 refine offQ_eq _ g h2 fun y hy => ?_
 have h := (dueK_mem (h1 y hy)).1
 rw [livQ_eq] at h
 obtain ⟨q, hq⟩ := liv_some h
 rw [hq]; rfl
theorem kpollA_ct (L : List SP) (qb wb mb : Nat) (f : Ky → Option KnA) (m : Nat) (hm : m ≤ 1000000) (hf : OkK f) (w : WA) (most : Int) (ao : Option Addr) (co : Nat) (ord : List Int) (ho : RdS L 1 ao ord.length (vi ord)) (hol : ord.length ≤ 1000000) :
  Ct Tryz.prog 30 #[.pointer (some ⟨qb, 0, none⟩), .int .i64 most, .slice ao ord.length co] (KqB qb wb mb f m w L) (fun i : Option Addr × Nat × Nat => .tuple #[.slice i.1 (polK f w most ord).length i.2.1, .int .i64 (if most < 1 then 2 else 0)])
   (fun i => pu (i.2.2 ≤ m + (polK f w most ord).length) :: own 82 4 i.1 (polK f w most ord).length i.2.1 ((polK f w most ord).flatMap encNo) :: KqB qb wb mb (offK w f (polK f w most ord)) i.2.2 w L) := by
 by_cases h1 : most < 1
 ·have e : polK f w most ord = [] := by unfold polK; rw [show most.toNat = 0 by omega, List.take_zero]
  rw [e, if_pos h1]; exact Ct.to (kpollbad_ct (mpP mb .i64 (kmap f) m :: WorldP wb w :: L) qb wb mb most h1 _) (fun k s => s) fun _ => ⟨(none, 0, m), rfl, fun k s => Ent.sep (.pure (Nat.le_refl _) (.ownNil enn)) k s⟩
 ·rw [if_neg h1]
  exact kpoll_ct L qb wb mb f m hm hf w most (by omega) ao co ord ho hol
theorem rkpollA_ct (L : List SP) (qb rb : Nat) (ad : Option Addr) (c : Nat) (g : Ky → Option QnA) (w : WA) (hw : WOk w) (hI : InvQ g w) (most : Int) (ao : Option Addr) (co : Nat) (ord : List Int) (ho : RdS L 1 ao ord.length (vi ord)) (hol : ord.length ≤ 200) :
  Ct Tryz.prog 38 #[.pointer (some ⟨qb, 0, none⟩), .int .i64 most, .slice ao ord.length co] (RkP qb rb ad c (refN g w) (Rf.RwP rb w :: L)) (fun i : Option Addr × Nat × Option Addr × Nat => .tuple #[.slice i.1 (polK (knF g) w most ord).length i.2.1, .int .i64 (if most < 1 then 2 else 0)])
   (fun i => own 82 4 i.1 (polK (knF g) w most ord).length i.2.1 ((polK (knF g) w most ord).flatMap encNo) :: RkP qb rb i.2.2.1 i.2.2.2 (refN (offQ w g (polK (knF g) w most ord)) w) (Rf.RwP rb w :: L)) := by
 by_cases h1 : most < 1
 ·have e : polK (knF g) w most ord = [] := by unfold polK; rw [show most.toNat = 0 by omega, List.take_zero]
  rw [e, if_pos h1]; exact Ct.to (rkpollbad16_ct (RkP qb rb ad c (refN g w) (Rf.RwP rb w :: L)) qb most h1 _) (fun k s => s) fun _ => ⟨(none, 0, ad, c), rfl, fun k s => Ent.sep (.ownNil enn) k s⟩
 ·rw [if_neg h1]
  exact rkpoll16_ct L qb rb ad c g w hw hI most (by omega) ao co ord ho hol
theorem refN0 (w : WA) : refN (fun _ => none) w = [] := by
 unfold refN; exact List.filterMap_eq_nil_iff.2 fun a _ => rfl
structure PlK (K : Nat) (i : Nat) (w : WA) (g : Ky → Option QnA) (m : Nat) (l : List RnA) : Prop where
 ok : WOk w
 lo : Lo K w
 inv : InvQ g w
 m : m ≤ 300 * i
 td : tidyN w l = refN g w
 le : l.length ≤ 288
abbrev PkX (K i : Nat) := {q : WA × (Ky → Option QnA) × Nat × List RnA × Option Addr × Nat // PlK K i q.1 q.2.1 q.2.2.1 q.2.2.2.1}
theorem kplays_ct (L : List SP) (a1 : Option Addr) (c1 : Nat) (fs : List Ov) (hF : RdS L 5 a1 fs.length (fs.flatMap encO)) (hFo : ∀ o ∈ fs, OvOk L o) (a2 : Option Addr) (c2 : Nat) (xs : List Qv) (hX : RdS L 9 a2 xs.length (xs.flatMap encQv)) (hXo : ∀ p ∈ xs, QvOk L p) : Ct Tryz.prog 11 #[.slice a1 fs.length c1, .slice a2 xs.length c2] (L) (fun _ : Unit => .bool true) (fun _ : Unit => L) := by
 refine Ct.o2 Tryz.func11 ?_; intro E
 show Hd E 150 _ _ _ _
 refine sr fun _ K1 => ?_
 refine yv y_as <| fk [(0,_),(1,_)] K1 ?_; refine Hd.seq fun _ K2 => ?_
 refine sr fun _ K3 => ?_
 refine yv y_mv <| callE rfl fk14 (great11_ct _ a1 c1 fs hF) sq ?_; intro _; refine yv (y_gtr rfl rfl) ?_; refine yv y_mv ?_; apply Hd.org 4 24 28 [(0,_),(1,_)] rfl sbq
 ·intro hg1_24
  try simp only [hyZ] at hg1_24
  simp only [List.take]; refine n1 <| n1 <| n1 <| yv (y_pickT rfl rfl) ?_; exact Hd.mn
 ·intro hg1_24
  try simp only [hyZ] at hg1_24
  simp only [List.take]; refine y2 y_mv <| y2 (y_len Tryz.underlying22 rfl) ?_; refine y2 (y_gtr rfl rfl) ?_; refine yv (y_pickF rfl rfl) ?_; exact Hd.mn
 simp only [List.drop]; refine yv y_mv ?_; apply Hd.org 4 29 33 [(0,_),(1,_)] rfl sbq
 ·intro hg1_29
  try simp only [hyZ] at hg1_29
  simp only [List.take]; refine n1 <| n1 <| n1 <| yv (y_pickT rfl rfl) ?_; exact Hd.mn
 ·intro hg1_29
  try simp only [hyZ] at hg1_29
  simp only [List.take]; refine y2 y_mv <| Hd.unguard rfl rfl ?_; refine callE rfl fk36 (great16_ct _ a2 c2 xs hX) sq ?_; intro _; refine y2 (y_gtr rfl rfl) ?_; refine yv (y_pickF rfl rfl) ?_; exact Hd.mn
 simp only [List.drop]; refine fk [(0,_),(1,_),(33,_)] K3 ?_; refine qz ?_ ?_ <;> intro hc0 <;> try simp only [hyZ] at hc0
 ·refine sr fun _ K4 => ?_
  refine yv y_as <| fk [(4,_)] K4 ?_; refine Hd.ret <| Hd.thenRet ?_; exact Hd.ret1 rfl () rfl sq
 have hb1 : ¬ 0 < gO fs ∧ fs.length ≤ 60 ∧ ¬ 0 < gQ xs := by omega
 have hgo := gO_ok hb1.1
 have hgp := gQ_ok hb1.2.2
 refine qv K2 <| sr fun _ K5 => ?_
 refine callE rfl fk16 (fresh_ct _) sq ?_; rintro ⟨pb, wb, rb⟩; dsimp only; refine yv y_as <| fk [(0,_),(1,_),(5,_)] K5 ?_; refine Hd.seq fun _ K6 => ?_
 refine sr fun _ K7 => ?_
 refine yv y_mv <| yv (y_len Tryz.underlying22 rfl) ?_; refine yv y_mv <| fk [(0,_),(1,_),(5,_),(36,_),(37,_)] K7 ?_; refine Hd.block <| Hd.loopK (ι := Nat) [(0,_),(1,_),(5,_),(36,_)] (fun i => [(37, .int .i64 (i : Int))]) (fun i => pu (i ≤ fs.length ∧ Lo (100 * i) (runA newA (fs.take i))) :: BoP pb wb rb :: WorldP wb (runA newA (fs.take i)) :: Rf.RwP rb (runA newA (fs.take i)) :: L) (fun i => fs.length - i) 0 sbq sbq (Ent.sep (.pure ⟨Nat.zero_le _, newA_lo⟩ enn)) ?_; intro i
 try dsimp only
 refine Hd.pure (fun hp0 => ?_)
 try dsimp only at hp0
 refine sr fun _ K8 => ?_
 refine yv (y_lss rfl rfl) ?_; refine fk [(0,_),(1,_),(5,_),(36,_),(37,_),(38,_)] K8 ?_; refine Hd.seq fun _ K9 => ?_
 refine qz ?_ ?_ <;> intro hc1 <;> try simp only [hyZ] at hc1
 ·have hi : i < fs.length := by omega
  obtain ⟨o, ho⟩ : ∃ o, fs[i]? = some o := ⟨_, List.getElem?_eq_getElem hi⟩
  have hoo := hFo o (List.mem_of_getElem? ho)
  have hod := hgo.2 o (List.mem_of_getElem? ho)
  have hrs : runA newA (fs.take (i + 1)) = doA (runA newA (fs.take i)) o := by rw [List.take_add_one, ho]; exact runA_snoc _ _ _
  refine Hd.wokW (.there .here) (fun hw => ?_)
  have hst := (do_stp hw o (by have := hoo.t; simp only [InK] at this; omega) (100 * i) (by omega) hp0.2).1
  rw [← hrs] at hst; refine qv K9 <| Hd.seq fun _ K10 => ?_
  refine Hd.block <| sr fun _ K11 => ?_
  refine yv y_mv <| yv y_as <| fk [(0,_),(1,_),(5,_),(6,_),(36,_),(37,_)] K11 ?_; refine sr fun _ K12 => ?_
  refine yv y_mv <| yv y_mv <| yv y_mv <| yv (y_idxR Tryz.underlying22 sz33 rfl rfl hi (RdS.mono hF sq)) ?_; refine yv (y_loadRn (vs := encO o) ag33 rfl (RdS.mono hF sq) (flat_cells encO 5 (fun _ => rfl) ho) sz33 (by simp)) ?_; refine callE rfl fk17 (do_ct _ pb wb rb _ (100 * i) (by omega) hp0.2 o hoo.t hod ?hD hoo.c) sq ?_
  case hD => exact RdS.mono hoo.rd sq
  intro _; rw [← hrs]; refine yv (y_not rfl) <| fk [(0,_),(1,_),(5,_),(36,_),(37,_),(46,_)] K12 ?_; refine Hd.condF rfl ?_; refine Hd.skip <| Hd.inB <| Hd.toK K10 ?_; refine Hd.region <| yv (y_addn rfl rfl (by simp only [InK]; omega)) ?_; refine yv y_mv <| Hd.nil <| slots [(0,_),(1,_),(5,_),(36,_),(37,_)] sbq ?_; refine thenN ?_; exact Hd.again (i + 1) (by omega) sbq (Ent.sep (.pure ⟨hi, hst⟩ enn))
 obtain rfl : i = fs.length := by omega
 rw [List.take_of_length_le (Nat.le_refl _)] at hp0 ⊢
 obtain ⟨w, hrw⟩ : ∃ w, runA newA fs = w := ⟨_, rfl⟩
 rw [hrw] at hp0 ⊢; refine Hd.wokW (.there .here) (fun hw0 => ?_)
 have hlo0 := hp0.2.mono (show 100 * fs.length ≤ 6000 by omega)
 refine Hd.exit <| Hd.thenExit <| Hd.thenExit <| Hd.inBexit <| Hd.toK K6 ?_; refine sr fun _ K13 => ?_
 refine yv y_mv <| yv y_np <| yv (y_f 0 38 Tryz.underlying41 sz38) <| yv (y_l1 ag38 rfl) <| callE rfl fk32 (knew_ct _ wb) sq ?_; rintro ⟨qb, mb⟩; dsimp only; refine yv y_mv <| yv (y_to (v' := .pointer (some ⟨qb, 0, none⟩)) y_ex (by rfl)) ?_; refine yv (y_to (v' := .int .i64 0) y_ex (by rfl)) ?_; refine yv y_as <| yv y_as <| fk [(1,_),(5,_),(7,_),(8,_)] K13 ?_; refine Hd.seq fun _ K14 => ?_
 refine sr fun _ K15 => ?_
 refine yv y_mv <| yv (y_neq rfl rfl) ?_; refine fk [(1,_),(5,_),(7,_),(57,_)] K15 ?_; refine qz ?_ ?_ <;> intro hc3 <;> try simp only [hyZ] at hc3
 ·exfalso; simp at hc3
 refine qv K14 <| sr fun _ K16 => ?_
 refine yv y_mv <| yv y_np <| yv (y_f 1 39 Tryz.underlying41 sz39) <| yv (y_l1 ag39 rfl) <| yv (y_build (vs := [(0,_)]) rfl (by exact bd11_62 ..)) ?_; refine Hd.box rfl rfl (fun b63 => ?_); refine yv y_as <| fk [(1,_),(5,_),(7,_),(9,_)] K16 ?_; refine Hd.seq fun _ K17 => ?_
 refine sr fun _ K18 => ?_
 refine yv y_mv <| yv (y_len Tryz.underlying89 rfl) ?_; refine yv y_mv <| fk [(1,_),(5,_),(7,_),(9,_),(65,_),(66,_)] K18 ?_; refine Hd.block <| Hd.loopK (ι := Nat × WA × (Ky → Option QnA) × Nat × Option Addr × Nat) [(1,_),(5,_),(7,_),(9,_),(65,_)] (fun q_ => [(66, .int .i64 (q_.1 : Int))]) (fun q_ => pu (q_.1 ≤ xs.length ∧ PlK (6000 + 100 * q_.1) q_.1 q_.2.1 q_.2.2.1 q_.2.2.2.1 (refN q_.2.2.1 q_.2.1)) :: KqB qb wb mb (knF q_.2.2.1) q_.2.2.2.1 q_.2.1 (RkP b63 rb q_.2.2.2.2.1 q_.2.2.2.2.2 (refN q_.2.2.1 q_.2.1) (Rf.RwP rb q_.2.1 :: BoP pb wb rb :: L))) (fun q_ => xs.length - q_.1) (0, w, fun _ => none, 0, none, 0) sbq sbq (fun q t => Ent.sep (.pure ⟨Nat.zero_le _, (show PlK (6000 + 100 * 0) 0 w (fun _ => none) 0 (refN (fun _ => none) w) from ⟨hw0, hlo0, invQ_0 w, Nat.le_refl _, tidyN_id hw0 (invQ_0 w), refN_len _ _⟩)⟩ (.pick pkk (.eq pkk (mpP_eq (f := kmap k0) (m := 0) rfl rfl) (.pick pkk (.eq pkk (pt_eq (by rw [refN0]; rfl)) (by rw [refN0]; exact .ownNil enn)))))) q t) ?_
 rintro ⟨i, w, g, m, la, lc⟩
 try dsimp only
 refine Hd.pure (fun hp1 => ?_)
 try dsimp only at hp1
 refine sr fun _ K19 => ?_
 refine yv (y_lss rfl rfl) ?_; refine fk [(1,_),(5,_),(7,_),(9,_),(65,_),(66,_),(67,_)] K19 ?_; refine Hd.seq fun _ K20 => ?_
 refine qz ?_ ?_ <;> intro hc4 <;> try simp only [hyZ] at hc4
 ·have hi : i < xs.length := by omega
  obtain ⟨p, hp⟩ : ∃ p, xs[i]? = some p := ⟨_, List.getElem?_eq_getElem hi⟩
  have hpo := hXo p (List.mem_of_getElem? hp)
  have hpl := hgp.2 p (List.mem_of_getElem? hp)
  obtain ⟨_, hI⟩ := hp1
  have hw := hI.ok
  have hmi := hI.m
  refine qv K20 <| Hd.seq fun _ K21 => ?_
  refine Hd.block <| sr fun _ K22 => ?_
  refine yv y_mv <| yv y_as <| fk [(1,_),(5,_),(7,_),(9,_),(10,_),(65,_),(66,_)] K22 ?_; refine sr fun _ K23 => ?_
  refine yv y_mv <| yv y_mv <| yv (y_idxR Tryz.underlying89 sz96 rfl rfl (by omega) (by exact RdS.mono hX sq)) ?_; refine yv (y_loadRn (vs := encQv p) ag96 rfl (RdS.mono hX sq) (flat_cells encQv 9 (fun _ => rfl) hp) sz96 (by simp)) ?_; refine Hd.alloc zr96 (fun b11 => ?_); refine Hd.storeA (us := encQv p) sz96 rfl rfl rfl (by simp [Value.oneCell']) pkk (by exact rfl) ?_; refine fk [(1,_),(5,_),(7,_),(9,_),(11,_),(65,_),(66,_)] K23 ?_; refine sr fun _ K24 => ?_
  refine yv y_as <| fk [(1,_),(5,_),(7,_),(9,_),(11,_),(12,_),(65,_),(66,_)] K24 ?_; refine Hd.cutK (ι := PkX (6000 + 100 * (i + 1)) (i + 1)) [(1,_),(5,_),(7,_),(9,_),(65,_),(66,_)] (fun _ => [(12, .bool true)]) (fun q => KqB qb wb mb (knF q.1.2.1) q.1.2.2.1 q.1.1 (RkP b63 rb q.1.2.2.2.2.1 q.1.2.2.2.2.2 q.1.2.2.2.1 (Rf.RwP rb q.1.1 :: BoP pb wb rb :: L))) ?_ ?_ ⟨rfl, rfl, rfl, rfl, rfl, rfl, trivial⟩
  ·refine sr fun _ K25 => ?_
   refine yv (y_f 0 3 Tryz.underlying96 sz3) <| yv (y_l1 ag3 rfl) <| fk [(1,_),(5,_),(7,_),(9,_),(11,_),(12,_),(65,_),(66,_),(74,_)] K25 ?_; refine Hd.block <| sr fun _ K26 => ?_
   refine yv (y_eql rfl rfl) ?_; refine yv y_as <| fk [(1,_),(5,_),(7,_),(9,_),(11,_),(12,_),(65,_),(66,_),(74,_),(75,_)] K26 ?_; refine qz ?_ ?_ <;> intro hc5 <;> try simp only [hyZ] at hc5
   ·refine Hd.region ?_
    refine yv y_mv <| yv (y_f 1 33 Tryz.underlying96 sz33) <| yv (y_loadn (us := [_, _, _, _, _]) ag33 rfl (Rd.pt pkk (by intro j v e; rcases j with _|_|_|_|_|_|_|_|_|_|_|_|j <;> first | exact e | exact absurd e (by simp))) (by exact sz33)) ?_; refine callE rfl fk17 (do_ct _ pb wb rb w (6000 + 100 * i) (by omega) hI.lo p.x hpo.x.t hpl.2.2 ?hD hpo.x.c) sq ?_
    case hD => exact RdS.mono hpo.x.rd sq
    intro _
    have hst := do_stp hw p.x (by have := hpo.x.t; simp only [InK] at this; omega) (6000 + 100 * i) (by omega) hI.lo
    refine Hd.wokW pkk (fun hw2 => ?_); refine yv y_as <| Hd.nil <| slots [(1,_),(5,_),(7,_),(9,_),(12,_),(65,_),(66,_)] sbq ?_; refine Hd.inB <| thenN ?_; exact Hd.meet ⟨(doA w p.x, g, m, refN g w, la, lc), ⟨hw2, hst.1, hI.inv.gr hw hw2 hst.2, by show m ≤ 300 * (i + 1); omega, tidyN_gr hw hw2 hst.2 hI.inv, refN_len _ _⟩⟩ sbq sq
   refine sr fun _ K27 => ?_
   refine yv (y_eql rfl rfl) ?_; refine yv y_as <| fk [(1,_),(5,_),(7,_),(9,_),(11,_),(12,_),(65,_),(66,_),(74,_),(81,_)] K27 ?_; refine qz ?_ ?_ <;> intro hc6 <;> try simp only [hyZ] at hc6
   ·refine sr fun _ K28 => ?_
    refine yv y_mv <| yv (y_f 6 67 Tryz.underlying96 sz67) <| yv (y_l1 ag67 rfl) <| callE rfl fk33 (kchs_ct _ qb wb mb (knF g) m w p.na p.nc p.ns ?hD (by omega)) sq ?_
    case hD => exact RdS.mono hpo.rn sq
    rintro ⟨pa, pc, m'⟩; dsimp only; refine Hd.pure fun hm' => ?_
    have hcr := chs_ref hw hI.lo p.ns g hI.inv hpo.ns
    have hcl := chsG_len w p.ns g
    rw [chsG_eq p.ns g hpo.ns]; dsimp only; refine yv y_mv <| yv (y_to (v' := .slice pa (chsG g w p.ns).1.length pc) y_ex (by rfl)) ?_; refine yv (y_to (v' := .int .i64 0) y_ex (by rfl)) ?_; refine yv y_as <| yv y_as <| fk [(1,_),(5,_),(7,_),(9,_),(11,_),(13,_),(14,_),(65,_),(66,_)] K28 ?_; refine Hd.region <| yv y_mv <| yv (y_eqlT rfl rfl) ?_; refine yv y_mv <| Hd.part (gd := 92) rfl (fun hg24_92 => ?_) (fun hg24_92 => ?_)
    ·try simp only [hyZ] at hg24_92
     refine y2 y_mv <| y2 y_mv <| y2 (y_f 6 67 Tryz.underlying96 sz67) <| y2 (y_l1 ag67 rfl) <| Hd.unguard rfl rfl ?_; refine callE rfl fk37 (rchs16_ct _ b63 rb la lc g w hw (6000 + 100 * i) hI.lo hI.inv p.na p.nc p.ns ?hD (by omega) hpo.ns) sq ?_
     case hD => exact RdS.mono hpo.rn sq
     rintro ⟨qa, qc, la2, lc2⟩; dsimp only
     obtain ⟨A, hA⟩ : ∃ A, (chsG g w p.ns).1 = A := ⟨_, rfl⟩
     obtain ⟨g', hg'⟩ : ∃ g', (chsG g w p.ns).2 = g' := ⟨_, rfl⟩
     rw [hA] at hcl; rw [hA, hg'] at hcr; rw [hA, hg']; refine Hd.unguard rfl rfl ?_; refine callE rfl fk31 (same16_ct _ pa pc A ?hD (by omega) qa qc A ?hE (by omega)) sq ?_
     case hD => exact RdS.own (ad := pa) (us := A.flatMap encNo) pkk
     case hE => exact RdS.own (ad := qa) (us := A.flatMap encNo) pkk
     intro _; refine yv (y_pickT rfl rfl) ?_; refine yv y_as <| Hd.nil <| slots [(1,_),(5,_),(7,_),(9,_),(12,_),(65,_),(66,_)] sbq ?_; refine Hd.inB <| thenN ?_; exact Hd.meet ⟨(w, g', m', refN g' w, la2, lc2), ⟨hw, hI.lo.mono (by omega), hcr.2, by show m' ≤ 300 * (i + 1); omega, tidyN_id hw hcr.2, refN_len _ _⟩⟩ ⟨(by exact congrArg some (congrArg Value.bool (by simp))), by repeat (first | exact trivial | refine ⟨rfl, ?_⟩)⟩ sq
    try simp only [hyZ] at hg24_92
    exfalso; simp at hg24_92
   refine sr fun _ K29 => ?_
   refine yv (y_eql rfl rfl) ?_; refine yv y_as <| fk [(1,_),(5,_),(7,_),(9,_),(11,_),(12,_),(65,_),(66,_),(100,_)] K29 ?_; refine qz ?_ ?_ <;> intro hc7 <;> try simp only [hyZ] at hc7
   ·refine sr fun _ K30 => ?_
    refine yv y_mv <| yv (y_f 7 3 Tryz.underlying96 sz3) <| yv (y_l1 ag3 rfl) <| yv (y_f 8 44 Tryz.underlying96 sz44) <| yv (y_l1 ag44 rfl) <| callE rfl fk30 (kpollA_ct _ qb wb mb (knF g) m (by omega) hI.inv.ok w p.n p.ad p.c p.ord ?hD (by omega)) sq ?_
    case hD => exact RdS.mono hpo.rd sq
    rintro ⟨pa, pc, m'⟩; dsimp only; refine Hd.pure fun hm' => ?_
    have hpr := polQ_eq (g := g) (w := w) p.n p.ord
    have hln := polK_len (knF g) w p.n p.ord
    have hdl := dueK_len (knF g) w
    rw [hpr]
    have hci := InvQ.off (polK (knF g) w p.n p.ord) hI.inv
    refine yv y_mv <| yv y_ex <| yv y_ex <| yv y_as <| yv y_as <| fk [(1,_),(5,_),(7,_),(9,_),(11,_),(15,_),(16,_),(65,_),(66,_)] K30 ?_; refine sr fun _ K31 => ?_
    refine yv y_mv <| yv (y_f 7 3 Tryz.underlying96 sz3) <| yv (y_l1 ag3 rfl) <| yv (y_f 8 44 Tryz.underlying96 sz44) <| yv (y_l1 ag44 rfl) <| callE rfl fk38 (rkpollA_ct _ b63 rb la lc g w hw hI.inv p.n p.ad p.c p.ord ?hD (by omega)) sq ?_
    case hD => exact RdS.mono hpo.rd sq
    rintro ⟨qa, qc, la2, lc2⟩; dsimp only
    obtain ⟨A, hA⟩ : ∃ A, polK (knF g) w p.n p.ord = A := ⟨_, rfl⟩
    obtain ⟨g', hg'⟩ : ∃ g', offQ w g A = g' := ⟨_, rfl⟩
    rw [hA] at hm' hln hci; rw [hg'] at hci; rw [hA, hg']
    have hAl : A.length ≤ 288 := by omega
    refine yv y_mv <| yv y_ex <| yv y_ex <| yv y_as <| yv y_as <| fk [(1,_),(5,_),(7,_),(9,_),(15,_),(16,_),(17,_),(18,_),(65,_),(66,_)] K31 ?_; refine Hd.region <| yv y_mv <| yv y_mv <| callE rfl fk31 (same16_ct _ pa pc A ?hD (by omega) qa qc A ?hE (by omega)) sq ?_
    case hD => exact RdS.own (ad := pa) (us := A.flatMap encNo) pkk
    case hE => exact RdS.own (ad := qa) (us := A.flatMap encNo) pkk
    intro _; refine yv y_mv ?_; apply Hd.andg 4 123 127 [(1,_),(5,_),(7,_),(9,_),(65,_),(66,_)] rfl sbq
    ·intro hg28_123
     try simp only [hyZ] at hg28_123
     simp only [List.take]; refine y2 y_mv <| y2 y_mv <| y2 (y_eqlT rfl rfl) ?_; refine yv (y_pickT rfl rfl) ?_; exact Hd.mn
    ·intro hg28_123
     try simp only [hyZ] at hg28_123
     simp only [List.take]; refine n1 <| n1 <| n1 <| yv (y_pickF rfl rfl) ?_; exact Hd.mn
    simp only [List.drop]; refine yv y_as <| Hd.nil <| slots [(1,_),(5,_),(7,_),(9,_),(12,_),(65,_),(66,_)] sbq ?_; refine Hd.inB <| thenN ?_; exact Hd.meet ⟨(w, g', m', refN g' w, la2, lc2), ⟨hw, hI.lo.mono (by omega), hci, by show m' ≤ 300 * (i + 1); omega, tidyN_id hw hci, refN_len _ _⟩⟩ ⟨(by rfl), by repeat (first | exact trivial | refine ⟨rfl, ?_⟩)⟩ sq
   refine Hd.skip <| Hd.inB <| thenN ?_; exact Hd.meet ⟨(w, g, m, refN g w, la, lc), ⟨hw, hI.lo.mono (by omega), hI.inv, by show m ≤ 300 * (i + 1); omega, tidyN_id hw hI.inv, refN_len _ _⟩⟩ sbq sq
  rintro ⟨⟨w2, g2, m2, l2, la2, lc2⟩, hI2⟩; dsimp only at hI2 ⊢
  have hw2 := hI2.ok
  have hm2 := hI2.m
  have hrl := refN_len g2 w2
  refine sr fun _ K32 => ?_
  refine yv y_mv <| callE rfl fk39 (rdue16_ct _ b63 rb la2 lc2 l2 w2 hw2 (by have := hI2.le; omega) (by rw [hI2.td]; exact refN_sg hI2.inv.ok)) sq ?_; rintro ⟨da, dc, la3, lc3⟩; dsimp only; rw [hI2.td, due_N]; refine yv y_as <| fk [(1,_),(5,_),(7,_),(9,_),(12,_),(19,_),(65,_),(66,_)] K32 ?_; refine sr fun _ K33 => ?_
  refine yv y_mv <| callE rfl fk34 (knotes_ct _ qb wb mb (knF g2) m2 (by omega) w2) sq ?_; rintro ⟨ia, ic, ks⟩; dsimp only; refine Hd.pure fun hks => ?_
  obtain rfl := hks.eq hw2 hI2.inv.ok
  rw [← notes_N, show (allK (knF g2) w2).length = ((refN g2 w2).map noteN).length by rw [notes_N, List.length_map]]; refine yv y_as <| fk [(1,_),(5,_),(7,_),(9,_),(12,_),(19,_),(20,_),(65,_),(66,_)] K33 ?_; refine sr fun _ K34 => ?_
  refine yv y_mv <| yv (y_not rfl) <| yv y_mv <| Hd.part (gd := 134) rfl (fun hg31_134 => ?_) (fun hg31_134 => ?_)
  ·try simp only [hyZ] at hg31_134
   exfalso; simp at hg31_134
  try simp only [hyZ] at hg31_134
  refine y2 y_mv <| Hd.unguard rfl rfl ?_; refine callE rfl fk29 (kdue_ct _ qb wb mb (knF g2) m2 (by omega) hI2.inv.ok w2) sq ?_; intro _; refine y2 y_mv <| y2 (y_len Tryz.underlying67 rfl) ?_; refine y2 (y_gtr rfl rfl) ?_; refine y2 (y_neqb Tryz.underlying4 rfl rfl) ?_; refine yv (y_pickF rfl rfl) ?_; refine yv y_mv <| Hd.part (gd := 142) rfl (fun hg31_142 => ?_) (fun hg31_142 => ?_)
  ·try simp only [hyZ] at hg31_142
   exfalso; rw [emp_lenK] at hg31_142; simp at hg31_142
  try simp only [hyZ] at hg31_142
  refine y2 y_mv <| y2 y_mv <| Hd.unguard rfl rfl ?_; refine callE rfl fk40 (rnotes16_ct _ b63 rb la3 lc3 (refN g2 w2) w2 hw2 (by omega)) sq ?_; rintro ⟨na, nc, la4, lc4⟩; dsimp only; rw [tidyN_id hw2 hI2.inv]
  obtain ⟨A, hA⟩ : ∃ A, (refN g2 w2).map noteN = A := ⟨_, rfl⟩
  have hAl : A.length ≤ 288 := by rw [← hA, List.length_map]; exact hrl
  rw [hA]; refine Hd.unguard rfl rfl ?_; refine callE rfl fk31 (same16_ct _ ia ic A ?hD (by omega) na nc A ?hE (by omega)) sq ?_
  case hD => exact RdS.own (ad := ia) (us := A.flatMap encNo) pkk
  case hE => exact RdS.own (ad := na) (us := A.flatMap encNo) pkk
  intro _; refine y2 (y_not rfl) <| yv (y_pickF rfl rfl) ?_; refine fk [(1,_),(5,_),(7,_),(9,_),(65,_),(66,_),(148,_)] K34 ?_; refine qz ?_ ?_ <;> intro hc8 <;> try simp only [hyZ] at hc8
  ·exfalso; simp at hc8
  refine Hd.skip <| Hd.inB <| Hd.toK K21 ?_; refine Hd.region <| yv (y_addn rfl rfl (by simp only [InK]; omega)) ?_; refine yv y_mv <| Hd.nil <| slots [(1,_),(5,_),(7,_),(9,_),(65,_),(66,_)] sbq ?_; refine thenN ?_; exact Hd.again (i + 1, w2, g2, m2, la4, lc4) (by omega) sbq (Ent.sep (.pure ⟨hi, (show PlK (6000 + 100 * (i + 1)) (i + 1) w2 g2 m2 (refN g2 w2) from ⟨hw2, hI2.lo, hI2.inv, hm2, tidyN_id hw2 hI2.inv, refN_len _ _⟩)⟩ enn))
 refine Hd.exit <| Hd.thenExit <| Hd.thenExit <| Hd.inBexit <| Hd.toK K17 ?_; refine sr fun _ K35 => ?_
 refine yv y_as <| fk [(4,_)] K35 ?_; refine Hd.ret ?_; exact Hd.ret1 rfl () rfl sq
end Kq
end Go.Proofs.YtbfddabjbkohdaaGreat
namespace Go.Proofs.YtbfddabjbkohdaaGreat
open Go.RX Go.ChangeShapes Go.WideShapes Go.ChangeAt Go.RowKit
abbrev shO : Sh := .struct (.fld (.int .i64) (.fld (.int .i64) (.fld (.int .i64) (.fld (.int .u64) (.fld (.slice (.int .u8)) .nil)))))
def cvO (y : shO.T) : Wo.Ov := ⟨y.1, y.2.1, y.2.2.1, y.2.2.2.1, y.2.2.2.2.1.ad, y.2.2.2.2.1.cap, y.2.2.2.2.1.l.map u8of⟩
theorem enc_cvO (y : shO.T) : Wo.encO (cvO y) = shO.enc y := by
 show [_, _, _, _, Value.slice _ (y.2.2.2.2.1.l.map u8of).length _] = _
 rw [List.length_map]; rfl
theorem ok_cvO {W : World} {y : shO.T} (h : shO.ok W y) : Wo.OvOk [Old W] (cvO y) :=
 ⟨rd_u8 h.2.2.2.2.1, by show (List.map u8of _).length ≤ _; rw [List.length_map]; exact h.2.2.2.2.1.2.1, h.1, h.2.1, h.2.2.1, h.2.2.2.1⟩
theorem rd_ops {W : World} {x : (Sh.slice shO).T} (h : (Sh.slice shO).ok W x) : RdS [Old W] 5 x.ad (x.l.map cvO).length ((x.l.map cvO).flatMap Wo.encO) := by
 have e : (x.l.map cvO).flatMap Wo.encO = x.l.flatMap shO.enc := by rw [List.flatMap_map]; congr 1; funext y; exact enc_cvO y
 rw [e, List.length_map]; exact h.1
theorem ops_ok {W : World} {x : (Sh.slice shO).T} (h : (Sh.slice shO).ok W x) : ∀ o ∈ x.l.map cvO, Wo.OvOk [Old W] o := fun o ho => by
 obtain ⟨y, hy, rfl⟩ := List.mem_map.1 ho
 exact ok_cvO (h.2.2.2.2 y hy)
abbrev shNl : Sh := .fld (.int .i64) (.fld (.int .i64) (.fld (.int .i64) (.fld (.int .i64) .nil)))
abbrev shN : Sh := .struct shNl
def cvN (y : shN.T) : Kq.NoA := (y.1, y.2.1, y.2.2.1, y.2.2.2.1)
theorem rd_ns {W : World} {x : (Sh.slice shN).T} (h : (Sh.slice shN).ok W x) : RdS [Old W] 4 x.ad (x.l.map cvN).length ((x.l.map cvN).flatMap Kq.encNo) := by
 have e : (x.l.map cvN).flatMap Kq.encNo = x.l.flatMap shN.enc := by rw [List.flatMap_map]; congr 1
 rw [e, List.length_map]; exact h.1
theorem ns_ok {W : World} {x : (Sh.slice shN).T} (h : (Sh.slice shN).ok W x) : ∀ p ∈ x.l.map cvN, InK .i64 p.2.2.1 := fun o ho => by
 obtain ⟨y, hy, rfl⟩ := List.mem_map.1 ho
 exact (h.2.2.2.2 y hy).2.2.1
abbrev shQ : Sh := .struct (.fld (.int .i64) (.fld shO (.fld (.slice shN) (.fld (.int .i64) (.fld (.slice (.int .i64)) .nil)))))
def cvQ (y : shQ.T) : Kq.Qv := ⟨y.1, cvO y.2.1, y.2.2.1.ad, y.2.2.1.cap, y.2.2.1.l.map cvN, y.2.2.2.1, y.2.2.2.2.1.ad, y.2.2.2.2.1.cap, y.2.2.2.2.1.l⟩
theorem enc_cvQ (y : shQ.T) : Kq.encQv (cvQ y) = shQ.enc y := by
 show [_, _, _, _, _, Value.slice _ (y.2.1.2.2.2.2.1.l.map u8of).length _, Value.slice _ (y.2.2.1.l.map cvN).length _, _, _] = _
 rw [List.length_map, List.length_map]; rfl
theorem ok_cvQ {W : World} {y : shQ.T} (h : shQ.ok W y) : Kq.QvOk [Old W] (cvQ y) :=
 ⟨ok_cvO h.2.1, rd_ns h.2.2.1, ns_ok h.2.2.1, rd_int h.2.2.2.2.1⟩
theorem rd_qs {W : World} {x : (Sh.slice shQ).T} (h : (Sh.slice shQ).ok W x) : RdS [Old W] 9 x.ad (x.l.map cvQ).length ((x.l.map cvQ).flatMap Kq.encQv) := by
 have e : (x.l.map cvQ).flatMap Kq.encQv = x.l.flatMap shQ.enc := by rw [List.flatMap_map]; congr 1; funext y; exact enc_cvQ y
 rw [e, List.length_map]; exact h.1
theorem qs_ok {W : World} {x : (Sh.slice shQ).T} (h : (Sh.slice shQ).ok W x) : ∀ p ∈ x.l.map cvQ, Kq.QvOk [Old W] p := fun o ho => by
 obtain ⟨y, hy, rfl⟩ := List.mem_map.1 ho
 exact ok_cvQ (h.2.2.2.2 y hy)
end Go.Proofs.YtbfddabjbkohdaaGreat
