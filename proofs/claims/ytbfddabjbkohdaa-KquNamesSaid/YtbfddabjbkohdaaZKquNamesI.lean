/-
  Kqueue: Notes; what is told of a note. Kqueue: what is due. Kqueue: Due; Poll.
-/
import Derived.Test.YtbfddabjbkohdaaZKquNamesH
namespace Go.Proofs.Ytbfddabjbkohdaa
set_option linter.unusedSimpArgs false
set_option linter.unusedVariables false
set_option linter.unnecessarySimpa false
open Go.RX Fx
namespace Kq
open Wo
set_option maxRecDepth 8000
def noK (f : Ky → Option KnA) (a : Ky) : NoA := (a.1, a.2, ((f a).getD zKn).flags, 0)
theorem noK_succ (f : Ky → Option KnA) {ks : List Ky} {i : Nat} (h : i < ks.length) : (ks.take (i + 1)).map (noK f) = (ks.take i).map (noK f) ++ [noK f ks[i]] := by
  rw [List.take_add_one, List.getElem?_eq_getElem h, List.map_append]; rfl
set_option maxHeartbeats 2000000 in
theorem knotes_ct (L : List SP) (qb wb mb : Nat) (f : Ky → Option KnA) (m : Nat) (hm : m ≤ 1000000) (w : WA) : Ct Try.prog 27 #[.pointer (some ⟨qb, 0, none⟩)] (KqB qb wb mb f m w L) (fun q_ : Option Addr × Nat × List Ky => .slice q_.1 q_.2.2.length q_.2.1) (fun q_ : Option Addr × Nat × List Ky => pu (AllK f m w q_.2.2) :: own 57 4 q_.1 q_.2.2.length q_.2.1 ((q_.2.2.map (noK f)).flatMap encNo) :: KqB qb wb mb f m w L) := by
  refine Ct.of (vs := [.pointer (some ⟨qb, 0, none⟩)]) Try.func27 rfl rfl [(0, .pointer (some ⟨qb, 0, none⟩))] (by repeat (first | exact trivial | refine ⟨rfl, ?_⟩)) ?_
  intro E
  show Hd E 32 _ _ _ _
  refine Hd.seq (fun K1 hK1 => ?_)
  refine Hd.region ?_
  refine Hd.yv (y_assign rfl) ?_
  refine Hd.nil ?_
  refine Hd.slots [(0, _)] ⟨rfl, trivial⟩ ?_
  refine Hd.toK hK1 ?_
  refine Hd.seq (fun K2 hK2 => ?_)
  refine Hd.seq (fun K3 hK3 => ?_)
  refine Hd.region ?_
  refine Hd.yv (y_move rfl) ?_
  refine Hd.callE rfl fk57 (knone_ct _ qb wb mb) (Ent.sep enn) ?_
  intro _
  refine Hd.nil ?_
  refine Hd.slots [(0, _), (7, _)] ⟨rfl, rfl, trivial⟩ ?_
  refine Hd.toK hK3 ?_
  refine Hd.condF rfl ?_
  refine Hd.skip ?_
  refine Hd.toK hK2 ?_
  refine Hd.seq (fun K4 hK4 => ?_)
  refine Hd.region ?_
  refine Hd.yv (y_assign rfl) ?_
  refine Hd.nil ?_
  refine Hd.slots [(0, _), (3, _)] ⟨rfl, rfl, trivial⟩ ?_
  refine Hd.toK hK4 ?_
  refine Hd.seq (fun K5 hK5 => ?_)
  refine Hd.seq (fun K6 hK6 => ?_)
  refine Hd.region ?_
  refine Hd.yv (y_move rfl) ?_
  refine Hd.callE rfl fk59 (kkeys_ct _ qb wb mb f m hm w) (Ent.sep enn) ?_
  rintro ⟨ka, kc, ks⟩
  dsimp only
  refine Hd.pure (fun hA => ?_)
  refine Hd.yv (y_len Try.underlying118 rfl) ?_
  refine Hd.yv (y_move rfl) ?_
  refine Hd.nil ?_
  refine Hd.slots [(0, _), (3, _), (9, _), (10, _), (11, _)] ⟨rfl, rfl, rfl, rfl, rfl, trivial⟩ ?_
  refine Hd.toK hK6 ?_
  refine Hd.block ?_
  refine Hd.loopK (ι := Nat × Option Addr × Nat) [(0, _), (9, _), (10, _)] (fun q_ => [(3, .slice q_.2.1 q_.1 q_.2.2), (11, .int .i64 (q_.1 : Int))]) (fun q_ => pu (q_.1 ≤ ks.length) :: own 57 4 q_.2.1 q_.1 q_.2.2 (((ks.take q_.1).map (noK f)).flatMap encNo) :: OwK ka ks.length kc ks :: KqB qb wb mb f m w L) (fun q_ => ks.length - q_.1) (0, none, 0) (by repeat (first | exact trivial | refine ⟨rfl, ?_⟩)) (by repeat (first | exact trivial | refine ⟨rfl, ?_⟩)) (fun q t => Ent.sep (.pure (Nat.zero_le _) (.ownNil .same)) q t) ?_
  rintro ⟨i, ad, c⟩
  try dsimp only
  refine Hd.pure (fun hp0 => ?_)
  try dsimp only at hp0
  refine Hd.seq (fun K7 hK7 => ?_)
  refine Hd.region ?_
  refine Hd.yv (y_lss rfl rfl) ?_
  refine Hd.nil ?_
  refine Hd.slots [(0, _), (3, _), (9, _), (10, _), (11, _), (12, _)] ⟨rfl, rfl, rfl, rfl, rfl, rfl, trivial⟩ ?_
  refine Hd.toK hK7 ?_
  refine Hd.seq (fun K8 hK8 => ?_)
  refine Hd.cond rfl (fun hc1 => ?_) (fun hc1 => ?_)
  ·
    try simp only [decide_eq_true_eq, decide_eq_false_iff_not, Bool.and_eq_true, Bool.or_eq_true, Bool.and_eq_false_iff, Bool.or_eq_false_iff, Bool.not_eq_true', Bool.not_eq_false', Bool.not_eq_true, Bool.not_eq_false, Int.not_lt, Int.not_le, Decidable.not_not, ne_eq] at hc1
    have hi : i < ks.length := by omega
    have hgi : ks[i]? = some ks[i] := List.getElem?_eq_getElem hi
    have hkl := hA.len
    have hsc := noK_succ f hi
    refine Hd.skip ?_
    refine Hd.toK hK8 ?_
    refine Hd.seq (fun K9 hK9 => ?_)
    refine Hd.block ?_
    refine Hd.seq (fun K10 hK10 => ?_)
    refine Hd.region ?_
    first | (refine Hd.yv (y_idxS Try.underlying118 sz121 rfl rfl (by first | omega | decide)) ?_) | (refine Hd.yv (y_idxR Try.underlying118 sz121 rfl rfl (by first | omega | decide) (by (first | exact RdS.own pkk))) ?_)
    refine Hd.yv (y_loadRn (vs := encKy ks[i]) ag121 rfl (RdS.own (ad := ka) (us := ks.flatMap encKy) pkk) (flat_cells encKy 2 (fun _ => rfl) hgi) (by exact sz121) (by simp)) ?_
    refine Hd.alloc zr121 (fun b5 => ?_)
    refine Hd.storeA (us := encKy ks[i]) sz121 rfl rfl rfl (encKy_one _) pkk (by exact rfl) ?_
    refine Hd.nil ?_
    refine Hd.slots [(0, _), (3, _), (5, _), (9, _), (10, _), (11, _)] ⟨rfl, rfl, rfl, rfl, rfl, rfl, trivial⟩ ?_
    refine Hd.toK hK10 ?_
    refine Hd.draws mixed ?_
    simp only [List.length, Nat.zero_add, Nat.reduceAdd]
    refine Hd.take 0 rfl (by kernel_rfl) (by kernel_rfl) (by kernel_rfl) (fun _ => y_move rfl) (fun _ _ => rfl) ?_
    first | (refine Hd.take 1 rfl (by kernel_rfl) (by kernel_rfl) (by kernel_rfl) (fun _ => y_field' (q := 0) (ft := 3) Try.underlying121 rfl sz3 rfl rfl) (fun _ _ => rfl) ?_) | (refine Hd.take 1 rfl (by kernel_rfl) (by kernel_rfl) (by kernel_rfl) (fun _ => y_fieldR (q := 0) (ft := 3) Try.underlying121 rfl sz3 rfl rfl) (fun _ _ => rfl) ?_)
    first | (refine Hd.take 3 rfl (by kernel_rfl) (by kernel_rfl) (by kernel_rfl) (fun _ => y_field' (q := 1) (ft := 3) Try.underlying121 rfl sz3 rfl rfl) (fun _ _ => rfl) ?_) | (refine Hd.take 3 rfl (by kernel_rfl) (by kernel_rfl) (by kernel_rfl) (fun _ => y_fieldR (q := 1) (ft := 3) Try.underlying121 rfl sz3 rfl rfl) (fun _ _ => rfl) ?_)
    refine Hd.take 5 rfl (by kernel_rfl) (by kernel_rfl) (by kernel_rfl) (fun _ => y_move rfl) (fun _ _ => rfl) ?_
    refine Hd.take 6 rfl (by kernel_rfl) (by kernel_rfl) (by kernel_rfl) (fun _ => y_nilp rfl) (fun _ _ => rfl) ?_
    first | (refine Hd.take 7 rfl (by kernel_rfl) (by kernel_rfl) (by kernel_rfl) (fun _ => y_field' (q := 1) (ft := 67) Try.underlying69 rfl sz67 rfl rfl) (fun _ _ => rfl) ?_) | (refine Hd.take 7 rfl (by kernel_rfl) (by kernel_rfl) (by kernel_rfl) (fun _ => y_fieldR (q := 1) (ft := 67) Try.underlying69 rfl sz67 rfl rfl) (fun _ _ => rfl) ?_)
    refine Hd.tailAt 13 [2, 4, 8, 9, 10, 11, 12] [13, 14, 15] rfl rfl rfl (by kernel_rfl) ?_
    simp only [pk, List.getElem?_cons_zero, List.getElem?_cons_succ]
    first | (refine Ht.yv (y_load1 ag3 rfl (Rd.pt1 pkk (by (first | rfl)))) ?_) | (refine Ht.yv (y_load1 ag3 rfl (Rd.seg1 pkk (by (first | rfl)))) ?_) | (refine Ht.yv (y_loadR1 ag3 rfl (by (first | exact RdS.own pkk)) (by (first | rfl))) ?_)
    first | (refine Ht.yv (y_load1 ag3 rfl (Rd.pt1 pkk (by (first | rfl)))) ?_) | (refine Ht.yv (y_load1 ag3 rfl (Rd.seg1 pkk (by (first | rfl)))) ?_) | (refine Ht.yv (y_loadR1 ag3 rfl (by (first | exact RdS.own pkk)) (by (first | rfl))) ?_)
    first | (refine Ht.yv (y_load1 ag67 rfl (Rd.pt1 pkk (by (first | rfl)))) ?_) | (refine Ht.yv (y_load1 ag67 rfl (Rd.seg1 pkk (by (first | rfl)))) ?_) | (refine Ht.yv (y_loadR1 ag67 rfl (by (first | exact RdS.own pkk)) (by (first | rfl))) ?_)
    first | (refine Ht.yv (y_loadn (us := [_, _]) ag121 rfl (Rd.pt pkk (by (first | (intro j v e; rcases j with _|_|_|_|_|_|_|_|_|_|_|_|j <;> first | exact e | exact absurd e (by simp))))) (by exact sz121)) ?_) | (refine Ht.yv (y_loadn (us := [_, _]) ag121 rfl (Rd.seg pkk (by (first | (intro j v e; rcases j with _|_|_|_|_|_|_|_|_|_|_|_|j <;> first | exact e | exact absurd e (by simp))))) (by exact sz121)) ?_) | (refine Ht.yv (y_loadRn ag121 rfl (by (first | exact RdS.own pkk)) (by (first | (intro j v e; rcases j with _|_|_|_|_|_|_|_|_|_|_|_|j <;> first | exact e | exact absurd e (by simp)))) (by exact sz121) (by simp)) ?_)
    refine Ht.yv (y_to (v' := .agg (encKn ((f ks[i]).getD zKn)).toArray) (y_lookupK mapt67 rfl rfl pkk) (by exact kmap_get f ks[i])) ?_
    refine Ht.yv (y_fieldv1 (q := 1) (ft := 3) (cs := encKn ((f ks[i]).getD zKn)) (v := .int .i64 ((f ks[i]).getD zKn).flags) Try.underlying123 rfl ag3 rfl rfl) ?_
    refine Ht.yv (y_build (vs := [(0, _), (1, _), (2, _)]) rfl (by first | exact bd27_27 .. | kernel_rfl)) ?_
    refine Ht.nil ?_
    refine Hd.bslice (vs := [(0, _)]) rfl (by first | exact bs27_28 .. | kernel_rfl) (fun b28 => ?_)
    refine Hd.append Try.underlying59 ty57 rfl rfl rfl pkk (by first | exact RdS.rd (Rd.pt pkk (fun j v e => by simpa using e)) rfl | (first | exact RdS.own pkk)) (by first | (simp [Value.oneCell']; done) | assumption) (by first | (simp only [maxLen]; omega) | assumption) (by omega) (fun ad29 cap29 => ?_)
    refine Hd.yv (y_assign rfl) ?_
    refine Hd.nil ?_
    refine Hd.noPn ?_
    refine Hd.slots [(0, _), (3, _), (9, _), (10, _), (11, _)] ⟨rfl, rfl, rfl, rfl, rfl, trivial⟩ ?_
    refine Hd.inB ?_
    refine Hd.toK hK9 ?_
    refine Hd.region ?_
    first | (refine Hd.yv (y_addn rfl rfl (by simp only [InK]; omega)) ?_) | (refine Hd.yv (y_add rfl rfl) ?_)
    refine Hd.yv (y_move rfl) ?_
    refine Hd.nil ?_
    refine Hd.slots [(0, _), (3, _), (9, _), (10, _), (11, _)] ⟨rfl, rfl, rfl, rfl, rfl, trivial⟩ ?_
    clear hK1 hK2 hK3 hK4 hK5 hK6 hK7 hK8 hK9 hK10
    refine Hd.thenN ?_
    refine Hd.again (i + 1, ad29, cap29) (by show ks.length - (i + 1) < ks.length - i; omega) (by repeat (first | exact trivial | refine ⟨rfl, ?_⟩)) (fun q t => ?_)
    exact Ent.sep (.pure (show i + 1 ≤ ks.length by omega) (.eq pkk (own_eq3 rfl rfl (by simp only [hsc, List.flatMap_append]; rfl)) enn)) q t
  ·
    try simp only [decide_eq_true_eq, decide_eq_false_iff_not, Bool.and_eq_true, Bool.or_eq_true, Bool.and_eq_false_iff, Bool.or_eq_false_iff, Bool.not_eq_true', Bool.not_eq_false', Bool.not_eq_true, Bool.not_eq_false, Int.not_lt, Int.not_le, Decidable.not_not, ne_eq] at hc1
    obtain rfl : i = ks.length := by omega
    rw [List.take_length]
    refine Hd.exit ?_
    refine Hd.thenExit ?_
    refine Hd.thenExit ?_
    refine Hd.inBexit ?_
    refine Hd.toK hK5 ?_
    refine Hd.seq (fun K11 hK11 => ?_)
    refine Hd.region ?_
    refine Hd.yv (y_move rfl) ?_
    refine Hd.yv (y_assign rfl) ?_
    refine Hd.nil ?_
    refine Hd.slots [(2, _)] ⟨rfl, trivial⟩ ?_
    refine Hd.toK hK11 ?_
    refine Hd.ret ?_
    clear hK1 hK2 hK3 hK4 hK5 hK6 hK7 hK8 hK11
    exact Hd.ret1 rfl (ad, c, ks) rfl (Ent.sep (.pure hA enn))
set_option maxHeartbeats 2000000 in
theorem wcount_ct (L : List SP) (wb : Nat) (w : WA) (s : Int) : Ct Try.prog 106 #[.pointer (some ⟨wb, 0, none⟩), .int .i64 s] (WorldP wb w :: L) (fun _ : Unit => .int .i64 (cntS w.ct s)) (fun _ : Unit => WorldP wb w :: L) := by
  refine Ct.of (vs := [.pointer (some ⟨wb, 0, none⟩), .int .i64 s]) Try.func106 rfl rfl [(0, .pointer (some ⟨wb, 0, none⟩)), (1, .int .i64 s)] (by repeat (first | exact trivial | refine ⟨rfl, ?_⟩)) ?_
  intro E
  show Hd E 13 _ _ _ _
  refine Hd.world .here (fun i hw hrs => ?_)
  refine Hd.seq (fun K1 hK1 => ?_)
  refine Hd.region ?_
  refine Hd.yv (y_assign rfl) ?_
  refine Hd.nil ?_
  refine Hd.slots [(0, _), (1, _)] ⟨rfl, rfl, trivial⟩ ?_
  refine Hd.toK hK1 ?_
  refine Hd.seq (fun K2 hK2 => ?_)
  refine Hd.seq (fun K3 hK3 => ?_)
  refine Hd.region ?_
  refine Hd.yv (y_move rfl) ?_
  refine Hd.callE rfl fk52 (wnone_ct _ wb w.at w i.rs.length i) (Ent.sep enn) ?_
  intro _
  refine Hd.nil ?_
  refine Hd.slots [(0, _), (1, _), (6, _)] ⟨rfl, rfl, rfl, trivial⟩ ?_
  refine Hd.toK hK3 ?_
  refine Hd.condF rfl ?_
  refine Hd.skip ?_
  refine Hd.toK hK2 ?_
  refine Hd.seq (fun K4 hK4 => ?_)
  refine Hd.region ?_
  refine Hd.yv (y_move rfl) ?_
  refine Hd.yv (y_nilp rfl) ?_
  first | (refine Hd.yv (y_field' (q := 289) (ft := 72) Try.underlying80 rfl sz72 rfl rfl) ?_) | (refine Hd.yv (y_fieldR (q := 289) (ft := 72) Try.underlying80 rfl sz72 rfl rfl) ?_)
  first | (refine Hd.yv (y_load1 ag72 rfl (Rd.pt1 pkk (by (first | exact woT_at (j := 1) (by omega) rfl | rfl)))) ?_) | (refine Hd.yv (y_load1 ag72 rfl (Rd.seg1 pkk (by (first | exact woT_at (j := 1) (by omega) rfl | rfl)))) ?_) | (refine Hd.yv (y_loadR1 ag72 rfl (by (first | exact RdS.own pkk)) (by (first | exact woT_at (j := 1) (by omega) rfl | rfl))) ?_)
  refine Hd.yv (y_move rfl) ?_
  refine Hd.callE rfl fk105 (count_ct _ i.sb w.hd w.ct hw.hdl hw.ctl s) (Ent.sep enn) ?_
  intro _
  refine Hd.yv (y_assign rfl) ?_
  refine Hd.nil ?_
  refine Hd.slots [(4, _)] ⟨rfl, trivial⟩ ?_
  refine Hd.toK hK4 ?_
  refine Hd.ret ?_
  clear hK1 hK2 hK3 hK4
  exact Hd.ret1 rfl () rfl (Ent.sep (.ex i (.pure ⟨hw, hrs⟩ enn)))
def onK (flt : Int) (r : RdyA) : Bool := (r.h || r.e || (decide (flt = 1) && r.i)) || (decide (flt = 2) && r.o)
def eofK (r : RdyA) : Int := if (r.h || r.e) = true then 128 else 0
def newsK (x : KnA) (flt : Int) (r : RdyA) : Bool := decide (bits .and .i64 x.flags 16 = 0) || x.armed || decide (riseK flt r > x.seen)
def toldK (f : Ky → Option KnA) (w : WA) (a : Ky) : NoA × Bool :=
  if bits .and .i64 ((f a).getD zKn).flags 8 ≠ 0 then ((a.1, a.2, 0, 0), false)
  else if a.2 = 3 then ((a.1, a.2, 0, cntS w.ct a.1), decide (cntS w.ct a.1 > 0))
  else ((a.1, a.2, eofK (readyR w a.1), 0), onK a.2 (readyR w a.1) && newsK ((f a).getD zKn) a.2 (readyR w a.1))
set_option maxHeartbeats 2000000 in
theorem ktold_ct (L : List SP) (qb wb mb : Nat) (f : Ky → Option KnA) (m : Nat) (w : WA) (a : Ky) : Ct Try.prog 86 #[.pointer (some ⟨qb, 0, none⟩), .agg (encKy a).toArray] (KqB qb wb mb f m w L) (fun _ : Unit => .tuple #[.agg (encNo (toldK f w a).1).toArray, .bool (toldK f w a).2]) (fun _ : Unit => KqB qb wb mb f m w L) := by
  refine Ct.of (vs := [.pointer (some ⟨qb, 0, none⟩), .agg (encKy a).toArray]) Try.func86 rfl rfl [(0, .pointer (some ⟨qb, 0, none⟩)), (1, .agg (encKy a).toArray)] (by repeat (first | exact trivial | refine ⟨rfl, ?_⟩)) ?_
  intro E
  show Hd E 100 _ _ _ _
  refine Hd.seq (fun K1 hK1 => ?_)
  refine Hd.region ?_
  refine Hd.box rfl rfl (fun b3 => ?_)
  refine Hd.alloc zr57 (fun b4 => ?_)
  refine Hd.yv (y_assign rfl) ?_
  refine Hd.nil ?_
  refine Hd.slots [(0, _), (3, _), (4, _)] ⟨rfl, rfl, rfl, trivial⟩ ?_
  refine Hd.toK hK1 ?_
  refine Hd.cutK (ι := Nat × Nat) [(0, _), (3, _), (4, _)] (fun i => [(6, .pointer (some ⟨i.1, 0, none⟩)), (7, .pointer (some ⟨i.2, 0, none⟩))]) (fun i => pt i.1 (encKn ((f a).getD zKn)) 123 :: pt i.2 (encNo (a.1, a.2, 0, 0)) 57 :: pt b4 (encNo (0, 0, 0, 0)) 57 :: pt b3 (encKy a) 121 :: KqB qb wb mb f m w L) ?_ ?_ ⟨rfl, rfl, rfl, trivial⟩
  ·
    refine Hd.drawsH ([KqH qb wb mb, mpP mb .i64 (kmap f) m, pt b3 (encKy a) 121]) (fun j => !([14].contains j)) mixed ?_
    simp only [List.length, Nat.zero_add, Nat.reduceAdd]
    refine Hd.takeH 0 rfl (by kernel_rfl) (by kernel_rfl) (by kernel_rfl) (by kernel_rfl) (y_move rfl) (fun _ _ => rfl) (Ent.sep enn) ?_
    refine Hd.takeH 1 rfl (by kernel_rfl) (by kernel_rfl) (by kernel_rfl) (by kernel_rfl) (y_nilp rfl) (fun _ _ => rfl) (Ent.sep enn) ?_
    first | (refine Hd.takeH 2 rfl (by kernel_rfl) (by kernel_rfl) (by kernel_rfl) (by kernel_rfl) (y_field' (q := 1) (ft := 67) Try.underlying69 rfl sz67 rfl rfl) (fun _ _ => rfl) (Ent.sep enn) ?_) | (refine Hd.takeH 2 rfl (by kernel_rfl) (by kernel_rfl) (by kernel_rfl) (by kernel_rfl) (y_fieldR (q := 1) (ft := 67) Try.underlying69 rfl sz67 rfl rfl) (fun _ _ => rfl) (Ent.sep enn) ?_)
    first | (refine Hd.takeH 3 rfl (by kernel_rfl) (by kernel_rfl) (by kernel_rfl) (by kernel_rfl) (y_load1 ag67 rfl (Rd.pt1 pkk (by (first | rfl)))) (fun _ _ => rfl) (Ent.sep enn) ?_) | (refine Hd.takeH 3 rfl (by kernel_rfl) (by kernel_rfl) (by kernel_rfl) (by kernel_rfl) (y_load1 ag67 rfl (Rd.seg1 pkk (by (first | rfl)))) (fun _ _ => rfl) (Ent.sep enn) ?_) | (refine Hd.takeH 3 rfl (by kernel_rfl) (by kernel_rfl) (by kernel_rfl) (by kernel_rfl) (y_loadR1 ag67 rfl (by (first | exact RdS.own pkk)) (by (first | rfl))) (fun _ _ => rfl) (Ent.sep enn) ?_)
    first | (refine Hd.takeH 4 rfl (by kernel_rfl) (by kernel_rfl) (by kernel_rfl) (by kernel_rfl) (y_loadn (us := [_, _]) ag121 rfl (Rd.pt pkk (by (first | (intro j v e; rcases j with _|_|_|_|_|_|_|_|_|_|_|_|j <;> first | exact e | exact absurd e (by simp))))) (by exact sz121)) (fun _ _ => rfl) (Ent.sep enn) ?_) | (refine Hd.takeH 4 rfl (by kernel_rfl) (by kernel_rfl) (by kernel_rfl) (by kernel_rfl) (y_loadn (us := [_, _]) ag121 rfl (Rd.seg pkk (by (first | (intro j v e; rcases j with _|_|_|_|_|_|_|_|_|_|_|_|j <;> first | exact e | exact absurd e (by simp))))) (by exact sz121)) (fun _ _ => rfl) (Ent.sep enn) ?_) | (refine Hd.takeH 4 rfl (by kernel_rfl) (by kernel_rfl) (by kernel_rfl) (by kernel_rfl) (y_loadRn ag121 rfl (by (first | exact RdS.own pkk)) (by (first | (intro j v e; rcases j with _|_|_|_|_|_|_|_|_|_|_|_|j <;> first | exact e | exact absurd e (by simp)))) (by exact sz121) (by simp)) (fun _ _ => rfl) (Ent.sep enn) ?_)
    refine Hd.takeH 5 rfl (by kernel_rfl) (by kernel_rfl) (by kernel_rfl) (by kernel_rfl) (y_to (v' := .agg (encKn ((f a).getD zKn)).toArray) (y_lookupK mapt67 rfl rfl pkk) (by exact kmap_get f a)) (fun _ _ => rfl) (Ent.sep enn) ?_
    first | (refine Hd.takeH 6 rfl (by kernel_rfl) (by kernel_rfl) (by kernel_rfl) (by kernel_rfl) (y_field' (q := 0) (ft := 3) Try.underlying121 rfl sz3 rfl rfl) (fun _ _ => rfl) (Ent.sep enn) ?_) | (refine Hd.takeH 6 rfl (by kernel_rfl) (by kernel_rfl) (by kernel_rfl) (by kernel_rfl) (y_fieldR (q := 0) (ft := 3) Try.underlying121 rfl sz3 rfl rfl) (fun _ _ => rfl) (Ent.sep enn) ?_)
    first | (refine Hd.takeH 7 rfl (by kernel_rfl) (by kernel_rfl) (by kernel_rfl) (by kernel_rfl) (y_load1 ag3 rfl (Rd.pt1 pkk (by (first | rfl)))) (fun _ _ => rfl) (Ent.sep enn) ?_) | (refine Hd.takeH 7 rfl (by kernel_rfl) (by kernel_rfl) (by kernel_rfl) (by kernel_rfl) (y_load1 ag3 rfl (Rd.seg1 pkk (by (first | rfl)))) (fun _ _ => rfl) (Ent.sep enn) ?_) | (refine Hd.takeH 7 rfl (by kernel_rfl) (by kernel_rfl) (by kernel_rfl) (by kernel_rfl) (y_loadR1 ag3 rfl (by (first | exact RdS.own pkk)) (by (first | rfl))) (fun _ _ => rfl) (Ent.sep enn) ?_)
    first | (refine Hd.takeH 8 rfl (by kernel_rfl) (by kernel_rfl) (by kernel_rfl) (by kernel_rfl) (y_field' (q := 1) (ft := 3) Try.underlying121 rfl sz3 rfl rfl) (fun _ _ => rfl) (Ent.sep enn) ?_) | (refine Hd.takeH 8 rfl (by kernel_rfl) (by kernel_rfl) (by kernel_rfl) (by kernel_rfl) (y_fieldR (q := 1) (ft := 3) Try.underlying121 rfl sz3 rfl rfl) (fun _ _ => rfl) (Ent.sep enn) ?_)
    first | (refine Hd.takeH 9 rfl (by kernel_rfl) (by kernel_rfl) (by kernel_rfl) (by kernel_rfl) (y_load1 ag3 rfl (Rd.pt1 pkk (by (first | rfl)))) (fun _ _ => rfl) (Ent.sep enn) ?_) | (refine Hd.takeH 9 rfl (by kernel_rfl) (by kernel_rfl) (by kernel_rfl) (by kernel_rfl) (y_load1 ag3 rfl (Rd.seg1 pkk (by (first | rfl)))) (fun _ _ => rfl) (Ent.sep enn) ?_) | (refine Hd.takeH 9 rfl (by kernel_rfl) (by kernel_rfl) (by kernel_rfl) (by kernel_rfl) (y_loadR1 ag3 rfl (by (first | exact RdS.own pkk)) (by (first | rfl))) (fun _ _ => rfl) (Ent.sep enn) ?_)
    refine Hd.takeH 10 rfl (by kernel_rfl) (by kernel_rfl) (by kernel_rfl) (by kernel_rfl) (y_build (vs := [(0, _), (1, _)]) rfl (by first | exact bd86_20 .. | kernel_rfl)) (fun _ _ => rfl) (Ent.sep enn) ?_
    refine Hd.eitherH 11 12 rfl rfl (by kernel_rfl) ?_ ?_
    ·
      refine Hd.alloc zr123 (fun b6 => ?_)
      refine Hd.nil ?_
      refine Hd.thenN ?_
      refine Hd.heldK (J := (fun j => !([14].contains j))) (i := 11) (Ent.sep enn) ?_
      refine Hd.onlyH 12 rfl (by kernel_rfl) ?_
      refine Hd.alloc zr57 (fun b7 => ?_)
      refine Hd.nil ?_
      refine Hd.thenN ?_
      refine Hd.heldK (J := (fun j => !([14].contains j))) (i := 12) (Ent.sep enn) ?_
      refine Hd.onlyH 13 rfl (by kernel_rfl) ?_
      refine Hd.storeA (us := encKn ((f a).getD zKn)) sz123 rfl rfl rfl (by simp [Value.oneCell']) pkk (by exact rfl) ?_
      refine Hd.nil ?_
      refine Hd.thenN ?_
      refine Hd.heldK (J := (fun j => !([14].contains j))) (i := 13) (Ent.sep enn) ?_
      refine Hd.onlyH 14 rfl (by kernel_rfl) ?_
      refine Hd.storeA (us := encNo (a.1, a.2, 0, 0)) sz57 rfl rfl rfl (by simp [Value.oneCell']) pkk (by exact rfl) ?_
      refine Hd.nil ?_
      refine Hd.thenN ?_
      refine Hd.heldN (J := (fun j => !([14].contains j))) (i := 14) rfl ?_
      refine Hd.endH (by kernel_rfl) ?_
      refine Hd.slots [(0, _), (3, _), (4, _), (6, _), (7, _)] ⟨rfl, rfl, rfl, rfl, rfl, trivial⟩ ?_
      clear hK1
      refine Hd.thenN ?_
      exact Hd.meet (b6, b7) (by repeat (first | exact trivial | refine ⟨rfl, ?_⟩)) (Ent.sep enn)
    ·
      refine Hd.alloc zr57 (fun b7 => ?_)
      refine Hd.nil ?_
      refine Hd.thenN ?_
      refine Hd.heldK (J := (fun j => !([14].contains j))) (i := 12) (Ent.sep enn) ?_
      refine Hd.onlyH 11 rfl (by kernel_rfl) ?_
      refine Hd.alloc zr123 (fun b6 => ?_)
      refine Hd.nil ?_
      refine Hd.thenN ?_
      refine Hd.heldK (J := (fun j => !([14].contains j))) (i := 11) (Ent.sep enn) ?_
      refine Hd.onlyH 13 rfl (by kernel_rfl) ?_
      refine Hd.storeA (us := encKn ((f a).getD zKn)) sz123 rfl rfl rfl (by simp [Value.oneCell']) pkk (by exact rfl) ?_
      refine Hd.nil ?_
      refine Hd.thenN ?_
      refine Hd.heldK (J := (fun j => !([14].contains j))) (i := 13) (Ent.sep enn) ?_
      refine Hd.onlyH 14 rfl (by kernel_rfl) ?_
      refine Hd.storeA (us := encNo (a.1, a.2, 0, 0)) sz57 rfl rfl rfl (by simp [Value.oneCell']) pkk (by exact rfl) ?_
      refine Hd.nil ?_
      refine Hd.thenN ?_
      refine Hd.heldN (J := (fun j => !([14].contains j))) (i := 14) rfl ?_
      refine Hd.endH (by kernel_rfl) ?_
      refine Hd.slots [(0, _), (3, _), (4, _), (6, _), (7, _)] ⟨rfl, rfl, rfl, rfl, rfl, trivial⟩ ?_
      clear hK1
      refine Hd.thenN ?_
      exact Hd.meet (b6, b7) (by repeat (first | exact trivial | refine ⟨rfl, ?_⟩)) (Ent.sep enn)
  ·
    rintro ⟨b6, b7⟩
    dsimp only
    refine Hd.seq (fun K2 hK2 => ?_)
    refine Hd.seq (fun K3 hK3 => ?_)
    refine Hd.region ?_
    first | (refine Hd.yv (y_field' (q := 1) (ft := 3) Try.underlying123 rfl sz3 rfl rfl) ?_) | (refine Hd.yv (y_fieldR (q := 1) (ft := 3) Try.underlying123 rfl sz3 rfl rfl) ?_)
    first | (refine Hd.yv (y_load1 ag3 rfl (Rd.pt1 pkk (by (first | rfl)))) ?_) | (refine Hd.yv (y_load1 ag3 rfl (Rd.seg1 pkk (by (first | rfl)))) ?_) | (refine Hd.yv (y_loadR1 ag3 rfl (by (first | exact RdS.own pkk)) (by (first | rfl))) ?_)
    refine Hd.yv (y_and rfl rfl) ?_
    refine Hd.yv (y_neq rfl rfl) ?_
    refine Hd.nil ?_
    refine Hd.slots [(0, _), (3, _), (4, _), (6, _), (7, _), (24, _)] ⟨rfl, rfl, rfl, rfl, rfl, rfl, trivial⟩ ?_
    refine Hd.toK hK3 ?_
    refine Hd.cond rfl (fun hc0 => ?_) (fun hc0 => ?_)
    ·
      try simp only [decide_eq_true_eq, decide_eq_false_iff_not, Bool.and_eq_true, Bool.or_eq_true, Bool.and_eq_false_iff, Bool.or_eq_false_iff, Bool.not_eq_true', Bool.not_eq_false', Bool.not_eq_true, Bool.not_eq_false, Int.not_lt, Int.not_le, Decidable.not_not, ne_eq] at hc0
      have h0 : toldK f w a = ((a.1, a.2, 0, 0), false) := if_pos hc0
      refine Hd.seq (fun K4 hK4 => ?_)
      refine Hd.region ?_
      first | (refine Hd.yv (y_loadn (us := [_, _, _, _]) ag57 rfl (Rd.pt pkk (by (first | (intro j v e; rcases j with _|_|_|_|_|_|_|_|_|_|_|_|j <;> first | exact e | exact absurd e (by simp))))) (by exact sz57)) ?_) | (refine Hd.yv (y_loadn (us := [_, _, _, _]) ag57 rfl (Rd.seg pkk (by (first | (intro j v e; rcases j with _|_|_|_|_|_|_|_|_|_|_|_|j <;> first | exact e | exact absurd e (by simp))))) (by exact sz57)) ?_) | (refine Hd.yv (y_loadRn ag57 rfl (by (first | exact RdS.own pkk)) (by (first | (intro j v e; rcases j with _|_|_|_|_|_|_|_|_|_|_|_|j <;> first | exact e | exact absurd e (by simp)))) (by exact sz57) (by simp)) ?_)
      refine Hd.storeA (us := encNo (a.1, a.2, 0, 0)) sz57 rfl rfl rfl (by simp [Value.oneCell']) pkk (by exact rfl) ?_
      refine Hd.yv (y_assign rfl) ?_
      refine Hd.nil ?_
      refine Hd.slots [(4, _), (5, _)] ⟨rfl, rfl, trivial⟩ ?_
      refine Hd.toK hK4 ?_
      refine Hd.ret ?_
      refine Hd.thenRet ?_
      clear hK1 hK2 hK3 hK4
      rw [h0]
      exact Hd.retCT rfl () ag57 rfl rfl (Rd.pt (b := b4) (us := encNo (a.1, a.2, 0, 0)) pkk (fun j v e => by rw [Nat.zero_add]; exact e)) (by exact sz57) rfl (Ent.sep enn)
    ·
      try simp only [decide_eq_true_eq, decide_eq_false_iff_not, Bool.and_eq_true, Bool.or_eq_true, Bool.and_eq_false_iff, Bool.or_eq_false_iff, Bool.not_eq_true', Bool.not_eq_false', Bool.not_eq_true, Bool.not_eq_false, Int.not_lt, Int.not_le, Decidable.not_not, ne_eq] at hc0
      refine Hd.skip ?_
      refine Hd.toK hK2 ?_
      refine Hd.seq (fun K5 hK5 => ?_)
      refine Hd.seq (fun K6 hK6 => ?_)
      refine Hd.region ?_
      first | (refine Hd.yv (y_field' (q := 1) (ft := 3) Try.underlying121 rfl sz3 rfl rfl) ?_) | (refine Hd.yv (y_fieldR (q := 1) (ft := 3) Try.underlying121 rfl sz3 rfl rfl) ?_)
      first | (refine Hd.yv (y_load1 ag3 rfl (Rd.pt1 pkk (by (first | rfl)))) ?_) | (refine Hd.yv (y_load1 ag3 rfl (Rd.seg1 pkk (by (first | rfl)))) ?_) | (refine Hd.yv (y_loadR1 ag3 rfl (by (first | exact RdS.own pkk)) (by (first | rfl))) ?_)
      first | (refine Hd.yv (y_eqlT rfl rfl) ?_) | (refine Hd.yv (y_eql rfl rfl) ?_)
      refine Hd.nil ?_
      refine Hd.slots [(0, _), (3, _), (4, _), (6, _), (7, _), (28, _)] ⟨rfl, rfl, rfl, rfl, rfl, rfl, trivial⟩ ?_
      refine Hd.toK hK6 ?_
      refine Hd.cond rfl (fun hc1 => ?_) (fun hc1 => ?_)
      ·
        try simp only [decide_eq_true_eq, decide_eq_false_iff_not, Bool.and_eq_true, Bool.or_eq_true, Bool.and_eq_false_iff, Bool.or_eq_false_iff, Bool.not_eq_true', Bool.not_eq_false', Bool.not_eq_true, Bool.not_eq_false, Int.not_lt, Int.not_le, Decidable.not_not, ne_eq] at hc1
        have h0 : toldK f w a = ((a.1, a.2, 0, cntS w.ct a.1), decide (cntS w.ct a.1 > 0)) := by unfold toldK; rw [if_neg (fun h => h hc0), if_pos hc1]
        refine Hd.seq (fun K7 hK7 => ?_)
        refine Hd.drawsH ([KqH qb wb mb, pt b3 (encKy a) 121]) (fun j => !([8].contains j)) mixed ?_
        simp only [List.length, Nat.zero_add, Nat.reduceAdd]
        refine Hd.takeH 0 rfl (by kernel_rfl) (by kernel_rfl) (by kernel_rfl) (by kernel_rfl) (y_move rfl) (fun _ _ => rfl) (Ent.sep enn) ?_
        refine Hd.takeH 1 rfl (by kernel_rfl) (by kernel_rfl) (by kernel_rfl) (by kernel_rfl) (y_nilp rfl) (fun _ _ => rfl) (Ent.sep enn) ?_
        first | (refine Hd.takeH 2 rfl (by kernel_rfl) (by kernel_rfl) (by kernel_rfl) (by kernel_rfl) (y_field' (q := 0) (ft := 27) Try.underlying69 rfl sz27 rfl rfl) (fun _ _ => rfl) (Ent.sep enn) ?_) | (refine Hd.takeH 2 rfl (by kernel_rfl) (by kernel_rfl) (by kernel_rfl) (by kernel_rfl) (y_fieldR (q := 0) (ft := 27) Try.underlying69 rfl sz27 rfl rfl) (fun _ _ => rfl) (Ent.sep enn) ?_)
        first | (refine Hd.takeH 3 rfl (by kernel_rfl) (by kernel_rfl) (by kernel_rfl) (by kernel_rfl) (y_load1 ag27 rfl (Rd.pt1 pkk (by (first | rfl)))) (fun _ _ => rfl) (Ent.sep enn) ?_) | (refine Hd.takeH 3 rfl (by kernel_rfl) (by kernel_rfl) (by kernel_rfl) (by kernel_rfl) (y_load1 ag27 rfl (Rd.seg1 pkk (by (first | rfl)))) (fun _ _ => rfl) (Ent.sep enn) ?_) | (refine Hd.takeH 3 rfl (by kernel_rfl) (by kernel_rfl) (by kernel_rfl) (by kernel_rfl) (y_loadR1 ag27 rfl (by (first | exact RdS.own pkk)) (by (first | rfl))) (fun _ _ => rfl) (Ent.sep enn) ?_)
        first | (refine Hd.takeH 4 rfl (by kernel_rfl) (by kernel_rfl) (by kernel_rfl) (by kernel_rfl) (y_field' (q := 0) (ft := 3) Try.underlying121 rfl sz3 rfl rfl) (fun _ _ => rfl) (Ent.sep enn) ?_) | (refine Hd.takeH 4 rfl (by kernel_rfl) (by kernel_rfl) (by kernel_rfl) (by kernel_rfl) (y_fieldR (q := 0) (ft := 3) Try.underlying121 rfl sz3 rfl rfl) (fun _ _ => rfl) (Ent.sep enn) ?_)
        first | (refine Hd.takeH 5 rfl (by kernel_rfl) (by kernel_rfl) (by kernel_rfl) (by kernel_rfl) (y_load1 ag3 rfl (Rd.pt1 pkk (by (first | rfl)))) (fun _ _ => rfl) (Ent.sep enn) ?_) | (refine Hd.takeH 5 rfl (by kernel_rfl) (by kernel_rfl) (by kernel_rfl) (by kernel_rfl) (y_load1 ag3 rfl (Rd.seg1 pkk (by (first | rfl)))) (fun _ _ => rfl) (Ent.sep enn) ?_) | (refine Hd.takeH 5 rfl (by kernel_rfl) (by kernel_rfl) (by kernel_rfl) (by kernel_rfl) (y_loadR1 ag3 rfl (by (first | exact RdS.own pkk)) (by (first | rfl))) (fun _ _ => rfl) (Ent.sep enn) ?_)
        refine Hd.onlyH 6 rfl (by kernel_rfl) ?_
        refine Hd.callE rfl fk106 (wcount_ct _ wb w a.1) (Ent.sep enn) ?_
        intro _
        refine Hd.nil ?_
        refine Hd.thenN ?_
        refine Hd.heldK (J := (fun j => !([8].contains j))) (i := 6) (Ent.sep enn) ?_
        first | (refine Hd.takeH 7 rfl (by kernel_rfl) (by kernel_rfl) (by kernel_rfl) (by kernel_rfl) (y_field' (q := 3) (ft := 3) Try.underlying57 rfl sz3 rfl rfl) (fun _ _ => rfl) (Ent.sep enn) ?_) | (refine Hd.takeH 7 rfl (by kernel_rfl) (by kernel_rfl) (by kernel_rfl) (by kernel_rfl) (y_fieldR (q := 3) (ft := 3) Try.underlying57 rfl sz3 rfl rfl) (fun _ _ => rfl) (Ent.sep enn) ?_)
        refine Hd.onlyH 8 rfl (by kernel_rfl) ?_
        first | (refine Hd.store1 sz3 rfl rfl rfl pkk (by first | decide | (simp; done) | (simp; omega)) ?_) | (refine Hd.storeG1 sz3 rfl rfl rfl pkk (by first | decide | (simp; done) | (simp; omega)) ?_) | (refine Hd.storeO1 sz3 rfl rfl rfl pkk (by first | omega | (simp; done) | (simp; omega)) ?_)
        try simp only [List.set_cons_zero, List.set_cons_succ]
        refine Hd.nil ?_
        refine Hd.thenN ?_
        refine Hd.heldN (J := (fun j => !([8].contains j))) (i := 8) rfl ?_
        refine Hd.endH (by kernel_rfl) ?_
        refine Hd.slots [(4, _), (7, _)] ⟨rfl, rfl, trivial⟩ ?_
        refine Hd.toK hK7 ?_
        refine Hd.seq (fun K8 hK8 => ?_)
        refine Hd.drawsH ([pt b7 (encNo (a.1, a.2, 0, cntS w.ct a.1)) 57]) (fun j => !([4].contains j)) mixed ?_
        simp only [List.length, Nat.zero_add, Nat.reduceAdd]
        first | (refine Hd.takeH 0 rfl (by kernel_rfl) (by kernel_rfl) (by kernel_rfl) (by kernel_rfl) (y_loadn (us := [_, _, _, _]) ag57 rfl (Rd.pt pkk (by (first | (intro j v e; rcases j with _|_|_|_|_|_|_|_|_|_|_|_|j <;> first | exact e | exact absurd e (by simp))))) (by exact sz57)) (fun _ _ => rfl) (Ent.sep enn) ?_) | (refine Hd.takeH 0 rfl (by kernel_rfl) (by kernel_rfl) (by kernel_rfl) (by kernel_rfl) (y_loadn (us := [_, _, _, _]) ag57 rfl (Rd.seg pkk (by (first | (intro j v e; rcases j with _|_|_|_|_|_|_|_|_|_|_|_|j <;> first | exact e | exact absurd e (by simp))))) (by exact sz57)) (fun _ _ => rfl) (Ent.sep enn) ?_) | (refine Hd.takeH 0 rfl (by kernel_rfl) (by kernel_rfl) (by kernel_rfl) (by kernel_rfl) (y_loadRn ag57 rfl (by (first | exact RdS.own pkk)) (by (first | (intro j v e; rcases j with _|_|_|_|_|_|_|_|_|_|_|_|j <;> first | exact e | exact absurd e (by simp)))) (by exact sz57) (by simp)) (fun _ _ => rfl) (Ent.sep enn) ?_)
        refine Hd.eitherH 1 4 rfl rfl (by kernel_rfl) ?_ ?_
        ·
          first | (refine Hd.yv (y_field' (q := 3) (ft := 3) Try.underlying57 rfl sz3 rfl rfl) ?_) | (refine Hd.yv (y_fieldR (q := 3) (ft := 3) Try.underlying57 rfl sz3 rfl rfl) ?_)
          refine Hd.nil ?_
          refine Hd.thenN ?_
          refine Hd.heldK (J := (fun j => !([4].contains j))) (i := 1) (Ent.sep enn) ?_
          refine Hd.eitherH 2 4 rfl rfl (by kernel_rfl) ?_ ?_
          ·
            first | (refine Hd.yv (y_load1 ag3 rfl (Rd.pt1 pkk (by (first | rfl)))) ?_) | (refine Hd.yv (y_load1 ag3 rfl (Rd.seg1 pkk (by (first | rfl)))) ?_) | (refine Hd.yv (y_loadR1 ag3 rfl (by (first | exact RdS.own pkk)) (by (first | rfl))) ?_)
            refine Hd.nil ?_
            refine Hd.thenN ?_
            refine Hd.heldK (J := (fun j => !([4].contains j))) (i := 2) (Ent.sep enn) ?_
            refine Hd.eitherH 3 4 rfl rfl (by kernel_rfl) ?_ ?_
            ·
              refine Hd.yv (y_gtr rfl rfl) ?_
              refine Hd.nil ?_
              refine Hd.thenN ?_
              refine Hd.heldK (J := (fun j => !([4].contains j))) (i := 3) (Ent.sep enn) ?_
              refine Hd.onlyH 4 rfl (by kernel_rfl) ?_
              refine Hd.storeA (us := encNo (a.1, a.2, 0, cntS w.ct a.1)) sz57 rfl rfl rfl (by simp [Value.oneCell']) pkk (by exact rfl) ?_
              refine Hd.nil ?_
              refine Hd.thenN ?_
              refine Hd.heldN (J := (fun j => !([4].contains j))) (i := 4) rfl ?_
              refine Hd.onlyH 5 rfl (by kernel_rfl) ?_
              refine Hd.yv (y_assign rfl) ?_
              refine Hd.nil ?_
              refine Hd.thenN ?_
              refine Hd.heldK (J := (fun j => !([4].contains j))) (i := 5) (Ent.sep enn) ?_
              refine Hd.endH (by kernel_rfl) ?_
              refine Hd.slots [(4, _), (5, _)] ⟨rfl, rfl, trivial⟩ ?_
              refine Hd.toK hK8 ?_
              refine Hd.ret ?_
              refine Hd.thenRet ?_
              clear hK1 hK2 hK3 hK5 hK6 hK7 hK8
              rw [h0]
              exact Hd.retCT rfl () ag57 rfl rfl (Rd.pt (b := b4) (us := encNo (a.1, a.2, 0, cntS w.ct a.1)) pkk (fun j v e => by rw [Nat.zero_add]; exact e)) (by exact sz57) rfl (Ent.sep enn)
            ·
              refine Hd.storeA (us := encNo (a.1, a.2, 0, cntS w.ct a.1)) sz57 rfl rfl rfl (by simp [Value.oneCell']) pkk (by exact rfl) ?_
              refine Hd.nil ?_
              refine Hd.thenN ?_
              refine Hd.heldN (J := (fun j => !([4].contains j))) (i := 4) rfl ?_
              refine Hd.onlyH 3 rfl (by kernel_rfl) ?_
              refine Hd.yv (y_gtr rfl rfl) ?_
              refine Hd.nil ?_
              refine Hd.thenN ?_
              refine Hd.heldK (J := (fun j => !([4].contains j))) (i := 3) (Ent.sep enn) ?_
              refine Hd.onlyH 5 rfl (by kernel_rfl) ?_
              refine Hd.yv (y_assign rfl) ?_
              refine Hd.nil ?_
              refine Hd.thenN ?_
              refine Hd.heldK (J := (fun j => !([4].contains j))) (i := 5) (Ent.sep enn) ?_
              refine Hd.endH (by kernel_rfl) ?_
              refine Hd.slots [(4, _), (5, _)] ⟨rfl, rfl, trivial⟩ ?_
              refine Hd.toK hK8 ?_
              refine Hd.ret ?_
              refine Hd.thenRet ?_
              clear hK1 hK2 hK3 hK5 hK6 hK7 hK8
              rw [h0]
              exact Hd.retCT rfl () ag57 rfl rfl (Rd.pt (b := b4) (us := encNo (a.1, a.2, 0, cntS w.ct a.1)) pkk (fun j v e => by rw [Nat.zero_add]; exact e)) (by exact sz57) rfl (Ent.sep enn)
          ·
            refine Hd.storeA (us := encNo (a.1, a.2, 0, cntS w.ct a.1)) sz57 rfl rfl rfl (by simp [Value.oneCell']) pkk (by exact rfl) ?_
            refine Hd.nil ?_
            refine Hd.thenN ?_
            refine Hd.heldN (J := (fun j => !([4].contains j))) (i := 4) rfl ?_
            refine Hd.onlyH 2 rfl (by kernel_rfl) ?_
            first | (refine Hd.yv (y_load1 ag3 rfl (Rd.pt1 pkk (by (first | rfl)))) ?_) | (refine Hd.yv (y_load1 ag3 rfl (Rd.seg1 pkk (by (first | rfl)))) ?_) | (refine Hd.yv (y_loadR1 ag3 rfl (by (first | exact RdS.own pkk)) (by (first | rfl))) ?_)
            refine Hd.nil ?_
            refine Hd.thenN ?_
            refine Hd.heldK (J := (fun j => !([4].contains j))) (i := 2) (Ent.sep enn) ?_
            refine Hd.onlyH 3 rfl (by kernel_rfl) ?_
            refine Hd.yv (y_gtr rfl rfl) ?_
            refine Hd.nil ?_
            refine Hd.thenN ?_
            refine Hd.heldK (J := (fun j => !([4].contains j))) (i := 3) (Ent.sep enn) ?_
            refine Hd.onlyH 5 rfl (by kernel_rfl) ?_
            refine Hd.yv (y_assign rfl) ?_
            refine Hd.nil ?_
            refine Hd.thenN ?_
            refine Hd.heldK (J := (fun j => !([4].contains j))) (i := 5) (Ent.sep enn) ?_
            refine Hd.endH (by kernel_rfl) ?_
            refine Hd.slots [(4, _), (5, _)] ⟨rfl, rfl, trivial⟩ ?_
            refine Hd.toK hK8 ?_
            refine Hd.ret ?_
            refine Hd.thenRet ?_
            clear hK1 hK2 hK3 hK5 hK6 hK7 hK8
            rw [h0]
            exact Hd.retCT rfl () ag57 rfl rfl (Rd.pt (b := b4) (us := encNo (a.1, a.2, 0, cntS w.ct a.1)) pkk (fun j v e => by rw [Nat.zero_add]; exact e)) (by exact sz57) rfl (Ent.sep enn)
        ·
          refine Hd.storeA (us := encNo (a.1, a.2, 0, cntS w.ct a.1)) sz57 rfl rfl rfl (by simp [Value.oneCell']) pkk (by exact rfl) ?_
          refine Hd.nil ?_
          refine Hd.thenN ?_
          refine Hd.heldN (J := (fun j => !([4].contains j))) (i := 4) rfl ?_
          refine Hd.onlyH 1 rfl (by kernel_rfl) ?_
          first | (refine Hd.yv (y_field' (q := 3) (ft := 3) Try.underlying57 rfl sz3 rfl rfl) ?_) | (refine Hd.yv (y_fieldR (q := 3) (ft := 3) Try.underlying57 rfl sz3 rfl rfl) ?_)
          refine Hd.nil ?_
          refine Hd.thenN ?_
          refine Hd.heldK (J := (fun j => !([4].contains j))) (i := 1) (Ent.sep enn) ?_
          refine Hd.onlyH 2 rfl (by kernel_rfl) ?_
          first | (refine Hd.yv (y_load1 ag3 rfl (Rd.pt1 pkk (by (first | rfl)))) ?_) | (refine Hd.yv (y_load1 ag3 rfl (Rd.seg1 pkk (by (first | rfl)))) ?_) | (refine Hd.yv (y_loadR1 ag3 rfl (by (first | exact RdS.own pkk)) (by (first | rfl))) ?_)
          refine Hd.nil ?_
          refine Hd.thenN ?_
          refine Hd.heldK (J := (fun j => !([4].contains j))) (i := 2) (Ent.sep enn) ?_
          refine Hd.onlyH 3 rfl (by kernel_rfl) ?_
          refine Hd.yv (y_gtr rfl rfl) ?_
          refine Hd.nil ?_
          refine Hd.thenN ?_
          refine Hd.heldK (J := (fun j => !([4].contains j))) (i := 3) (Ent.sep enn) ?_
          refine Hd.onlyH 5 rfl (by kernel_rfl) ?_
          refine Hd.yv (y_assign rfl) ?_
          refine Hd.nil ?_
          refine Hd.thenN ?_
          refine Hd.heldK (J := (fun j => !([4].contains j))) (i := 5) (Ent.sep enn) ?_
          refine Hd.endH (by kernel_rfl) ?_
          refine Hd.slots [(4, _), (5, _)] ⟨rfl, rfl, trivial⟩ ?_
          refine Hd.toK hK8 ?_
          refine Hd.ret ?_
          refine Hd.thenRet ?_
          clear hK1 hK2 hK3 hK5 hK6 hK7 hK8
          rw [h0]
          exact Hd.retCT rfl () ag57 rfl rfl (Rd.pt (b := b4) (us := encNo (a.1, a.2, 0, cntS w.ct a.1)) pkk (fun j v e => by rw [Nat.zero_add]; exact e)) (by exact sz57) rfl (Ent.sep enn)
      ·
        try simp only [decide_eq_true_eq, decide_eq_false_iff_not, Bool.and_eq_true, Bool.or_eq_true, Bool.and_eq_false_iff, Bool.or_eq_false_iff, Bool.not_eq_true', Bool.not_eq_false', Bool.not_eq_true, Bool.not_eq_false, Int.not_lt, Int.not_le, Decidable.not_not, ne_eq] at hc1
        obtain ⟨r, hr⟩ : ∃ r, r = readyR w a.1 := ⟨_, rfl⟩
        have h0 : toldK f w a = ((a.1, a.2, eofK r, 0), onK a.2 r && newsK ((f a).getD zKn) a.2 r) := by unfold toldK; rw [if_neg (fun h => h hc0), if_neg hc1, hr]
        refine Hd.skip ?_
        refine Hd.toK hK5 ?_
        refine Hd.cutK (ι := Nat) [(3, _), (4, _), (6, _), (7, _)] (fun b8 => [(8, .pointer (some ⟨b8, 0, none⟩))]) (fun b8 => pt b8 (encR r) 97 :: pt b6 (encKn ((f a).getD zKn)) 123 :: pt b7 (encNo (a.1, a.2, 0, 0)) 57 :: pt b4 (encNo (0, 0, 0, 0)) 57 :: pt b3 (encKy a) 121 :: KqB qb wb mb f m w L) ?_ ?_ ⟨rfl, rfl, rfl, rfl, trivial⟩
        ·
          refine Hd.drawsH ([KqH qb wb mb, pt b3 (encKy a) 121]) (fun j => !([8].contains j)) mixed ?_
          simp only [List.length, Nat.zero_add, Nat.reduceAdd]
          refine Hd.takeH 0 rfl (by kernel_rfl) (by kernel_rfl) (by kernel_rfl) (by kernel_rfl) (y_move rfl) (fun _ _ => rfl) (Ent.sep enn) ?_
          refine Hd.takeH 1 rfl (by kernel_rfl) (by kernel_rfl) (by kernel_rfl) (by kernel_rfl) (y_nilp rfl) (fun _ _ => rfl) (Ent.sep enn) ?_
          first | (refine Hd.takeH 2 rfl (by kernel_rfl) (by kernel_rfl) (by kernel_rfl) (by kernel_rfl) (y_field' (q := 0) (ft := 27) Try.underlying69 rfl sz27 rfl rfl) (fun _ _ => rfl) (Ent.sep enn) ?_) | (refine Hd.takeH 2 rfl (by kernel_rfl) (by kernel_rfl) (by kernel_rfl) (by kernel_rfl) (y_fieldR (q := 0) (ft := 27) Try.underlying69 rfl sz27 rfl rfl) (fun _ _ => rfl) (Ent.sep enn) ?_)
          first | (refine Hd.takeH 3 rfl (by kernel_rfl) (by kernel_rfl) (by kernel_rfl) (by kernel_rfl) (y_load1 ag27 rfl (Rd.pt1 pkk (by (first | rfl)))) (fun _ _ => rfl) (Ent.sep enn) ?_) | (refine Hd.takeH 3 rfl (by kernel_rfl) (by kernel_rfl) (by kernel_rfl) (by kernel_rfl) (y_load1 ag27 rfl (Rd.seg1 pkk (by (first | rfl)))) (fun _ _ => rfl) (Ent.sep enn) ?_) | (refine Hd.takeH 3 rfl (by kernel_rfl) (by kernel_rfl) (by kernel_rfl) (by kernel_rfl) (y_loadR1 ag27 rfl (by (first | exact RdS.own pkk)) (by (first | rfl))) (fun _ _ => rfl) (Ent.sep enn) ?_)
          first | (refine Hd.takeH 4 rfl (by kernel_rfl) (by kernel_rfl) (by kernel_rfl) (by kernel_rfl) (y_field' (q := 0) (ft := 3) Try.underlying121 rfl sz3 rfl rfl) (fun _ _ => rfl) (Ent.sep enn) ?_) | (refine Hd.takeH 4 rfl (by kernel_rfl) (by kernel_rfl) (by kernel_rfl) (by kernel_rfl) (y_fieldR (q := 0) (ft := 3) Try.underlying121 rfl sz3 rfl rfl) (fun _ _ => rfl) (Ent.sep enn) ?_)
          first | (refine Hd.takeH 5 rfl (by kernel_rfl) (by kernel_rfl) (by kernel_rfl) (by kernel_rfl) (y_load1 ag3 rfl (Rd.pt1 pkk (by (first | rfl)))) (fun _ _ => rfl) (Ent.sep enn) ?_) | (refine Hd.takeH 5 rfl (by kernel_rfl) (by kernel_rfl) (by kernel_rfl) (by kernel_rfl) (y_load1 ag3 rfl (Rd.seg1 pkk (by (first | rfl)))) (fun _ _ => rfl) (Ent.sep enn) ?_) | (refine Hd.takeH 5 rfl (by kernel_rfl) (by kernel_rfl) (by kernel_rfl) (by kernel_rfl) (y_loadR1 ag3 rfl (by (first | exact RdS.own pkk)) (by (first | rfl))) (fun _ _ => rfl) (Ent.sep enn) ?_)
          refine Hd.eitherH 6 7 rfl rfl (by kernel_rfl) ?_ ?_
          ·
            refine Hd.callE rfl fk39 (wready_ct _ wb w a.1) (Ent.sep enn) ?_
            intro _
            refine Hd.nil ?_
            refine Hd.thenN ?_
            refine Hd.heldK (J := (fun j => !([8].contains j))) (i := 6) (Ent.sep enn) ?_
            refine Hd.onlyH 7 rfl (by kernel_rfl) ?_
            refine Hd.alloc zr97 (fun b8 => ?_)
            refine Hd.nil ?_
            refine Hd.thenN ?_
            refine Hd.heldK (J := (fun j => !([8].contains j))) (i := 7) (Ent.sep enn) ?_
            refine Hd.onlyH 8 rfl (by kernel_rfl) ?_
            refine Hd.storeA (us := encR (readyR w a.1)) sz97 rfl rfl rfl (by simp [Value.oneCell']) pkk (by exact rfl) ?_
            refine Hd.nil ?_
            refine Hd.thenN ?_
            refine Hd.heldN (J := (fun j => !([8].contains j))) (i := 8) rfl ?_
            refine Hd.endH (by kernel_rfl) ?_
            refine Hd.slots [(3, _), (4, _), (6, _), (7, _), (8, _)] ⟨rfl, rfl, rfl, rfl, rfl, trivial⟩ ?_
            clear hK1 hK2 hK3 hK5 hK6
            refine Hd.thenN ?_
            exact Hd.meet b8 (by repeat (first | exact trivial | refine ⟨rfl, ?_⟩)) (Ent.sep (.eq pkk (pt_eq (by rw [hr])) enn))
          ·
            refine Hd.alloc zr97 (fun b8 => ?_)
            refine Hd.nil ?_
            refine Hd.thenN ?_
            refine Hd.heldK (J := (fun j => !([8].contains j))) (i := 7) (Ent.sep enn) ?_
            refine Hd.onlyH 6 rfl (by kernel_rfl) ?_
            refine Hd.callE rfl fk39 (wready_ct _ wb w a.1) (Ent.sep enn) ?_
            intro _
            refine Hd.nil ?_
            refine Hd.thenN ?_
            refine Hd.heldK (J := (fun j => !([8].contains j))) (i := 6) (Ent.sep enn) ?_
            refine Hd.onlyH 8 rfl (by kernel_rfl) ?_
            refine Hd.storeA (us := encR (readyR w a.1)) sz97 rfl rfl rfl (by simp [Value.oneCell']) pkk (by exact rfl) ?_
            refine Hd.nil ?_
            refine Hd.thenN ?_
            refine Hd.heldN (J := (fun j => !([8].contains j))) (i := 8) rfl ?_
            refine Hd.endH (by kernel_rfl) ?_
            refine Hd.slots [(3, _), (4, _), (6, _), (7, _), (8, _)] ⟨rfl, rfl, rfl, rfl, rfl, trivial⟩ ?_
            clear hK1 hK2 hK3 hK5 hK6
            refine Hd.thenN ?_
            exact Hd.meet b8 (by repeat (first | exact trivial | refine ⟨rfl, ?_⟩)) (Ent.sep (.eq pkk (pt_eq (by rw [hr])) enn))
        ·
          intro b8
          refine Hd.seq (fun K9 hK9 => ?_)
          refine Hd.region ?_
          first | (refine Hd.yv (y_field' (q := 3) (ft := 4) Try.underlying97 rfl sz4 rfl rfl) ?_) | (refine Hd.yv (y_fieldR (q := 3) (ft := 4) Try.underlying97 rfl sz4 rfl rfl) ?_)
          first | (refine Hd.yv (y_load1 ag4 rfl (Rd.pt1 pkk (by (first | rfl)))) ?_) | (refine Hd.yv (y_load1 ag4 rfl (Rd.seg1 pkk (by (first | rfl)))) ?_) | (refine Hd.yv (y_loadR1 ag4 rfl (by (first | exact RdS.own pkk)) (by (first | rfl))) ?_)
          refine Hd.yv (y_move rfl) ?_
          apply Hd.org 3 50 53 [(3, _), (4, _), (6, _), (7, _), (8, _)] rfl ⟨rfl, rfl, rfl, rfl, rfl, trivial⟩
          · intro hg8_50
            try simp only [decide_eq_true_eq, decide_eq_false_iff_not, Bool.and_eq_true, Bool.or_eq_true, Bool.and_eq_false_iff, Bool.or_eq_false_iff, Bool.not_eq_true', Bool.not_eq_false', Bool.not_eq_true, Bool.not_eq_false, Int.not_lt, Int.not_le, Decidable.not_not, ne_eq] at hg8_50
            simp only [List.take]
            refine Hd.ng rfl rfl rfl ?_
            refine Hd.ng rfl rfl rfl ?_
            first | (refine Hd.yv (y_pickT rfl rfl) ?_) | (refine Hd.yv (y_pickF rfl rfl) ?_) | (refine Hd.yv (y_pickb rfl rfl rfl) ?_) | (refine Hd.yv (y_pick rfl rfl rfl) ?_)
            refine Hd.nil ?_
            exact Hd.mend (by repeat (first | exact trivial | refine ⟨rfl, ?_⟩)) (Ent.sep enn)
          · intro hg8_50
            try simp only [decide_eq_true_eq, decide_eq_false_iff_not, Bool.and_eq_true, Bool.or_eq_true, Bool.and_eq_false_iff, Bool.or_eq_false_iff, Bool.not_eq_true', Bool.not_eq_false', Bool.not_eq_true, Bool.not_eq_false, Int.not_lt, Int.not_le, Decidable.not_not, ne_eq] at hg8_50
            simp only [List.take]
            first | (refine Hd.yg rfl rfl (y_field' (q := 4) (ft := 4) Try.underlying97 rfl sz4 rfl rfl) ?_) | (refine Hd.yg rfl rfl (y_fieldR (q := 4) (ft := 4) Try.underlying97 rfl sz4 rfl rfl) ?_)
            first | (refine Hd.yg rfl rfl (y_load1 ag4 rfl (Rd.pt1 pkk (by (first | rfl)))) ?_) | (refine Hd.yg rfl rfl (y_load1 ag4 rfl (Rd.seg1 pkk (by (first | rfl)))) ?_) | (refine Hd.yg rfl rfl (y_loadR1 ag4 rfl (by (first | exact RdS.own pkk)) (by (first | rfl))) ?_)
            first | (refine Hd.yv (y_pickT rfl rfl) ?_) | (refine Hd.yv (y_pickF rfl rfl) ?_) | (refine Hd.yv (y_pickb rfl rfl rfl) ?_) | (refine Hd.yv (y_pick rfl rfl rfl) ?_)
            refine Hd.nil ?_
            exact Hd.mend (by repeat (first | exact trivial | refine ⟨rfl, ?_⟩)) (Ent.sep enn)
          simp only [List.drop]
          refine Hd.yv (y_move rfl) ?_
          apply Hd.org 8 54 62 [(3, _), (4, _), (6, _), (7, _), (8, _)] rfl ⟨rfl, rfl, rfl, rfl, rfl, trivial⟩
          · intro hg8_54
            try simp only [decide_eq_true_eq, decide_eq_false_iff_not, Bool.and_eq_true, Bool.or_eq_true, Bool.and_eq_false_iff, Bool.or_eq_false_iff, Bool.not_eq_true', Bool.not_eq_false', Bool.not_eq_true, Bool.not_eq_false, Int.not_lt, Int.not_le, Decidable.not_not, ne_eq] at hg8_54
            simp only [List.take]
            refine Hd.ng rfl rfl rfl ?_
            refine Hd.ng rfl rfl rfl ?_
            refine Hd.ng rfl rfl rfl ?_
            refine Hd.ng rfl rfl rfl ?_
            refine Hd.ng rfl rfl rfl ?_
            refine Hd.ng rfl rfl rfl ?_
            refine Hd.ng rfl rfl rfl ?_
            first | (refine Hd.yv (y_pickT rfl rfl) ?_) | (refine Hd.yv (y_pickF rfl rfl) ?_) | (refine Hd.yv (y_pickb rfl rfl rfl) ?_) | (refine Hd.yv (y_pick rfl rfl rfl) ?_)
            refine Hd.nil ?_
            exact Hd.mend (by repeat (first | exact trivial | refine ⟨rfl, ?_⟩)) (Ent.sep enn)
          · intro hg8_54
            try simp only [decide_eq_true_eq, decide_eq_false_iff_not, Bool.and_eq_true, Bool.or_eq_true, Bool.and_eq_false_iff, Bool.or_eq_false_iff, Bool.not_eq_true', Bool.not_eq_false', Bool.not_eq_true, Bool.not_eq_false, Int.not_lt, Int.not_le, Decidable.not_not, ne_eq] at hg8_54
            simp only [List.take]
            first | (refine Hd.yg rfl rfl (y_field' (q := 1) (ft := 3) Try.underlying121 rfl sz3 rfl rfl) ?_) | (refine Hd.yg rfl rfl (y_fieldR (q := 1) (ft := 3) Try.underlying121 rfl sz3 rfl rfl) ?_)
            first | (refine Hd.yg rfl rfl (y_load1 ag3 rfl (Rd.pt1 pkk (by (first | rfl)))) ?_) | (refine Hd.yg rfl rfl (y_load1 ag3 rfl (Rd.seg1 pkk (by (first | rfl)))) ?_) | (refine Hd.yg rfl rfl (y_loadR1 ag3 rfl (by (first | exact RdS.own pkk)) (by (first | rfl))) ?_)
            first | (refine Hd.yg rfl rfl (y_eqlT rfl rfl) ?_) | (refine Hd.yg rfl rfl (y_eql rfl rfl) ?_)
            refine Hd.yg rfl rfl (y_move rfl) ?_
            apply Hd.andg 3 58 61 [(3, _), (4, _), (6, _), (7, _), (8, _), (54, _)] rfl ⟨rfl, rfl, rfl, rfl, rfl, rfl, trivial⟩
            · intro hg8_58
              try simp only [decide_eq_true_eq, decide_eq_false_iff_not, Bool.and_eq_true, Bool.or_eq_true, Bool.and_eq_false_iff, Bool.or_eq_false_iff, Bool.not_eq_true', Bool.not_eq_false', Bool.not_eq_true, Bool.not_eq_false, Int.not_lt, Int.not_le, Decidable.not_not, ne_eq] at hg8_58
              simp only [List.take]
              first | (refine Hd.yg rfl rfl (y_field' (q := 1) (ft := 4) Try.underlying97 rfl sz4 rfl rfl) ?_) | (refine Hd.yg rfl rfl (y_fieldR (q := 1) (ft := 4) Try.underlying97 rfl sz4 rfl rfl) ?_)
              first | (refine Hd.yg rfl rfl (y_load1 ag4 rfl (Rd.pt1 pkk (by (first | rfl)))) ?_) | (refine Hd.yg rfl rfl (y_load1 ag4 rfl (Rd.seg1 pkk (by (first | rfl)))) ?_) | (refine Hd.yg rfl rfl (y_loadR1 ag4 rfl (by (first | exact RdS.own pkk)) (by (first | rfl))) ?_)
              first | (refine Hd.yg rfl rfl (y_pickT rfl rfl) ?_) | (refine Hd.yg rfl rfl (y_pickF rfl rfl) ?_) | (refine Hd.yg rfl rfl (y_pickb rfl rfl rfl) ?_) | (refine Hd.yg rfl rfl (y_pick rfl rfl rfl) ?_)
              refine Hd.nil ?_
              exact Hd.mend (by repeat (first | exact trivial | refine ⟨rfl, ?_⟩)) (Ent.sep enn)
            · intro hg8_58
              try simp only [decide_eq_true_eq, decide_eq_false_iff_not, Bool.and_eq_true, Bool.or_eq_true, Bool.and_eq_false_iff, Bool.or_eq_false_iff, Bool.not_eq_true', Bool.not_eq_false', Bool.not_eq_true, Bool.not_eq_false, Int.not_lt, Int.not_le, Decidable.not_not, ne_eq] at hg8_58
              simp only [List.take]
              refine Hd.ng rfl rfl rfl ?_
              refine Hd.ng rfl rfl rfl ?_
              first | (refine Hd.yg rfl rfl (y_pickT rfl rfl) ?_) | (refine Hd.yg rfl rfl (y_pickF rfl rfl) ?_) | (refine Hd.yg rfl rfl (y_pickb rfl rfl rfl) ?_) | (refine Hd.yg rfl rfl (y_pick rfl rfl rfl) ?_)
              refine Hd.nil ?_
              exact Hd.mend (by repeat (first | exact trivial | refine ⟨rfl, ?_⟩)) (Ent.sep enn)
            simp only [List.drop]
            first | (refine Hd.yv (y_pickT rfl rfl) ?_) | (refine Hd.yv (y_pickF rfl rfl) ?_) | (refine Hd.yv (y_pickb rfl rfl rfl) ?_) | (refine Hd.yv (y_pick rfl rfl rfl) ?_)
            refine Hd.nil ?_
            exact Hd.mend (by repeat (first | exact trivial | refine ⟨rfl, ?_⟩)) (Ent.sep enn)
          simp only [List.drop]
          refine Hd.yv (y_move rfl) ?_
          apply Hd.org 8 63 71 [(3, _), (4, _), (6, _), (7, _), (8, _)] rfl ⟨rfl, rfl, rfl, rfl, rfl, trivial⟩
          · intro hg8_63
            try simp only [decide_eq_true_eq, decide_eq_false_iff_not, Bool.and_eq_true, Bool.or_eq_true, Bool.and_eq_false_iff, Bool.or_eq_false_iff, Bool.not_eq_true', Bool.not_eq_false', Bool.not_eq_true, Bool.not_eq_false, Int.not_lt, Int.not_le, Decidable.not_not, ne_eq] at hg8_63
            simp only [List.take]
            refine Hd.ng rfl rfl rfl ?_
            refine Hd.ng rfl rfl rfl ?_
            refine Hd.ng rfl rfl rfl ?_
            refine Hd.ng rfl rfl rfl ?_
            refine Hd.ng rfl rfl rfl ?_
            refine Hd.ng rfl rfl rfl ?_
            refine Hd.ng rfl rfl rfl ?_
            first | (refine Hd.yv (y_pickT rfl rfl) ?_) | (refine Hd.yv (y_pickF rfl rfl) ?_) | (refine Hd.yv (y_pickb rfl rfl rfl) ?_) | (refine Hd.yv (y_pick rfl rfl rfl) ?_)
            refine Hd.nil ?_
            exact Hd.mend (by repeat (first | exact trivial | refine ⟨rfl, ?_⟩)) (Ent.sep enn)
          · intro hg8_63
            try simp only [decide_eq_true_eq, decide_eq_false_iff_not, Bool.and_eq_true, Bool.or_eq_true, Bool.and_eq_false_iff, Bool.or_eq_false_iff, Bool.not_eq_true', Bool.not_eq_false', Bool.not_eq_true, Bool.not_eq_false, Int.not_lt, Int.not_le, Decidable.not_not, ne_eq] at hg8_63
            simp only [List.take]
            first | (refine Hd.yg rfl rfl (y_field' (q := 1) (ft := 3) Try.underlying121 rfl sz3 rfl rfl) ?_) | (refine Hd.yg rfl rfl (y_fieldR (q := 1) (ft := 3) Try.underlying121 rfl sz3 rfl rfl) ?_)
            first | (refine Hd.yg rfl rfl (y_load1 ag3 rfl (Rd.pt1 pkk (by (first | rfl)))) ?_) | (refine Hd.yg rfl rfl (y_load1 ag3 rfl (Rd.seg1 pkk (by (first | rfl)))) ?_) | (refine Hd.yg rfl rfl (y_loadR1 ag3 rfl (by (first | exact RdS.own pkk)) (by (first | rfl))) ?_)
            first | (refine Hd.yg rfl rfl (y_eqlT rfl rfl) ?_) | (refine Hd.yg rfl rfl (y_eql rfl rfl) ?_)
            refine Hd.yg rfl rfl (y_move rfl) ?_
            apply Hd.andg 3 67 70 [(3, _), (4, _), (6, _), (7, _), (8, _), (63, _)] rfl ⟨rfl, rfl, rfl, rfl, rfl, rfl, trivial⟩
            · intro hg8_67
              try simp only [decide_eq_true_eq, decide_eq_false_iff_not, Bool.and_eq_true, Bool.or_eq_true, Bool.and_eq_false_iff, Bool.or_eq_false_iff, Bool.not_eq_true', Bool.not_eq_false', Bool.not_eq_true, Bool.not_eq_false, Int.not_lt, Int.not_le, Decidable.not_not, ne_eq] at hg8_67
              simp only [List.take]
              first | (refine Hd.yg rfl rfl (y_field' (q := 2) (ft := 4) Try.underlying97 rfl sz4 rfl rfl) ?_) | (refine Hd.yg rfl rfl (y_fieldR (q := 2) (ft := 4) Try.underlying97 rfl sz4 rfl rfl) ?_)
              first | (refine Hd.yg rfl rfl (y_load1 ag4 rfl (Rd.pt1 pkk (by (first | rfl)))) ?_) | (refine Hd.yg rfl rfl (y_load1 ag4 rfl (Rd.seg1 pkk (by (first | rfl)))) ?_) | (refine Hd.yg rfl rfl (y_loadR1 ag4 rfl (by (first | exact RdS.own pkk)) (by (first | rfl))) ?_)
              first | (refine Hd.yg rfl rfl (y_pickT rfl rfl) ?_) | (refine Hd.yg rfl rfl (y_pickF rfl rfl) ?_) | (refine Hd.yg rfl rfl (y_pickb rfl rfl rfl) ?_) | (refine Hd.yg rfl rfl (y_pick rfl rfl rfl) ?_)
              refine Hd.nil ?_
              exact Hd.mend (by repeat (first | exact trivial | refine ⟨rfl, ?_⟩)) (Ent.sep enn)
            · intro hg8_67
              try simp only [decide_eq_true_eq, decide_eq_false_iff_not, Bool.and_eq_true, Bool.or_eq_true, Bool.and_eq_false_iff, Bool.or_eq_false_iff, Bool.not_eq_true', Bool.not_eq_false', Bool.not_eq_true, Bool.not_eq_false, Int.not_lt, Int.not_le, Decidable.not_not, ne_eq] at hg8_67
              simp only [List.take]
              refine Hd.ng rfl rfl rfl ?_
              refine Hd.ng rfl rfl rfl ?_
              first | (refine Hd.yg rfl rfl (y_pickT rfl rfl) ?_) | (refine Hd.yg rfl rfl (y_pickF rfl rfl) ?_) | (refine Hd.yg rfl rfl (y_pickb rfl rfl rfl) ?_) | (refine Hd.yg rfl rfl (y_pick rfl rfl rfl) ?_)
              refine Hd.nil ?_
              exact Hd.mend (by repeat (first | exact trivial | refine ⟨rfl, ?_⟩)) (Ent.sep enn)
            simp only [List.drop]
            first | (refine Hd.yv (y_pickT rfl rfl) ?_) | (refine Hd.yv (y_pickF rfl rfl) ?_) | (refine Hd.yv (y_pickb rfl rfl rfl) ?_) | (refine Hd.yv (y_pick rfl rfl rfl) ?_)
            refine Hd.nil ?_
            exact Hd.mend (by repeat (first | exact trivial | refine ⟨rfl, ?_⟩)) (Ent.sep enn)
          simp only [List.drop]
          refine Hd.yv (y_to (v' := .bool (onK a.2 r)) (y_assign rfl) (by rfl)) ?_
          refine Hd.nil ?_
          refine Hd.slots [(3, _), (4, _), (6, _), (7, _), (8, _), (9, _)] ⟨rfl, rfl, rfl, rfl, rfl, rfl, trivial⟩ ?_
          refine Hd.toK hK9 ?_
          refine Hd.cutK (ι := Unit) [(3, _), (4, _), (6, _), (7, _), (8, _), (9, _)] (fun _ => []) (fun _ => pt b7 (encNo (a.1, a.2, eofK r, 0)) 57 :: pt b8 (encR r) 97 :: pt b6 (encKn ((f a).getD zKn)) 123 :: pt b4 (encNo (0, 0, 0, 0)) 57 :: pt b3 (encKy a) 121 :: KqB qb wb mb f m w L) ?_ ?_ ⟨rfl, rfl, rfl, rfl, rfl, rfl, trivial⟩
          ·
            refine Hd.seq (fun K10 hK10 => ?_)
            refine Hd.region ?_
            first | (refine Hd.yv (y_field' (q := 3) (ft := 4) Try.underlying97 rfl sz4 rfl rfl) ?_) | (refine Hd.yv (y_fieldR (q := 3) (ft := 4) Try.underlying97 rfl sz4 rfl rfl) ?_)
            first | (refine Hd.yv (y_load1 ag4 rfl (Rd.pt1 pkk (by (first | rfl)))) ?_) | (refine Hd.yv (y_load1 ag4 rfl (Rd.seg1 pkk (by (first | rfl)))) ?_) | (refine Hd.yv (y_loadR1 ag4 rfl (by (first | exact RdS.own pkk)) (by (first | rfl))) ?_)
            refine Hd.yv (y_move rfl) ?_
            apply Hd.org 3 74 77 [(3, _), (4, _), (6, _), (7, _), (8, _), (9, _)] rfl ⟨rfl, rfl, rfl, rfl, rfl, rfl, trivial⟩
            · intro hg9_74
              try simp only [decide_eq_true_eq, decide_eq_false_iff_not, Bool.and_eq_true, Bool.or_eq_true, Bool.and_eq_false_iff, Bool.or_eq_false_iff, Bool.not_eq_true', Bool.not_eq_false', Bool.not_eq_true, Bool.not_eq_false, Int.not_lt, Int.not_le, Decidable.not_not, ne_eq] at hg9_74
              simp only [List.take]
              refine Hd.ng rfl rfl rfl ?_
              refine Hd.ng rfl rfl rfl ?_
              first | (refine Hd.yv (y_pickT rfl rfl) ?_) | (refine Hd.yv (y_pickF rfl rfl) ?_) | (refine Hd.yv (y_pickb rfl rfl rfl) ?_) | (refine Hd.yv (y_pick rfl rfl rfl) ?_)
              refine Hd.nil ?_
              exact Hd.mend (by repeat (first | exact trivial | refine ⟨rfl, ?_⟩)) (Ent.sep enn)
            · intro hg9_74
              try simp only [decide_eq_true_eq, decide_eq_false_iff_not, Bool.and_eq_true, Bool.or_eq_true, Bool.and_eq_false_iff, Bool.or_eq_false_iff, Bool.not_eq_true', Bool.not_eq_false', Bool.not_eq_true, Bool.not_eq_false, Int.not_lt, Int.not_le, Decidable.not_not, ne_eq] at hg9_74
              simp only [List.take]
              first | (refine Hd.yg rfl rfl (y_field' (q := 4) (ft := 4) Try.underlying97 rfl sz4 rfl rfl) ?_) | (refine Hd.yg rfl rfl (y_fieldR (q := 4) (ft := 4) Try.underlying97 rfl sz4 rfl rfl) ?_)
              first | (refine Hd.yg rfl rfl (y_load1 ag4 rfl (Rd.pt1 pkk (by (first | rfl)))) ?_) | (refine Hd.yg rfl rfl (y_load1 ag4 rfl (Rd.seg1 pkk (by (first | rfl)))) ?_) | (refine Hd.yg rfl rfl (y_loadR1 ag4 rfl (by (first | exact RdS.own pkk)) (by (first | rfl))) ?_)
              first | (refine Hd.yv (y_pickT rfl rfl) ?_) | (refine Hd.yv (y_pickF rfl rfl) ?_) | (refine Hd.yv (y_pickb rfl rfl rfl) ?_) | (refine Hd.yv (y_pick rfl rfl rfl) ?_)
              refine Hd.nil ?_
              exact Hd.mend (by repeat (first | exact trivial | refine ⟨rfl, ?_⟩)) (Ent.sep enn)
            simp only [List.drop]
            refine Hd.nil ?_
            refine Hd.slots [(3, _), (4, _), (6, _), (7, _), (8, _), (9, _), (77, _)] ⟨rfl, rfl, rfl, rfl, rfl, rfl, rfl, trivial⟩ ?_
            refine Hd.toK hK10 ?_
            refine Hd.cond rfl (fun hc2 => ?_) (fun hc2 => ?_)
            ·
              try simp only [decide_eq_true_eq, decide_eq_false_iff_not, Bool.and_eq_true, Bool.or_eq_true, Bool.and_eq_false_iff, Bool.or_eq_false_iff, Bool.not_eq_true', Bool.not_eq_false', Bool.not_eq_true, Bool.not_eq_false, Int.not_lt, Int.not_le, Decidable.not_not, ne_eq] at hc2
              refine Hd.region ?_
              first | (refine Hd.yv (y_field' (q := 2) (ft := 3) Try.underlying57 rfl sz3 rfl rfl) ?_) | (refine Hd.yv (y_fieldR (q := 2) (ft := 3) Try.underlying57 rfl sz3 rfl rfl) ?_)
              first | (refine Hd.store1 sz3 rfl rfl rfl pkk (by first | decide | (simp; done) | (simp; omega)) ?_) | (refine Hd.storeG1 sz3 rfl rfl rfl pkk (by first | decide | (simp; done) | (simp; omega)) ?_) | (refine Hd.storeO1 sz3 rfl rfl rfl pkk (by first | omega | (simp; done) | (simp; omega)) ?_)
              try simp only [List.set_cons_zero, List.set_cons_succ]
              refine Hd.nil ?_
              refine Hd.slots [(3, _), (4, _), (6, _), (7, _), (8, _), (9, _)] ⟨rfl, rfl, rfl, rfl, rfl, rfl, trivial⟩ ?_
              clear hK1 hK2 hK3 hK5 hK6 hK9 hK10
              refine Hd.thenN ?_
              exact Hd.meet () (by repeat (first | exact trivial | refine ⟨rfl, ?_⟩)) (Ent.sep (.eq pkk (pt_eq (by rw [show eofK r = 128 from if_pos (by simpa using hc2)])) enn))
            ·
              try simp only [decide_eq_true_eq, decide_eq_false_iff_not, Bool.and_eq_true, Bool.or_eq_true, Bool.and_eq_false_iff, Bool.or_eq_false_iff, Bool.not_eq_true', Bool.not_eq_false', Bool.not_eq_true, Bool.not_eq_false, Int.not_lt, Int.not_le, Decidable.not_not, ne_eq] at hc2
              refine Hd.skip ?_
              clear hK1 hK2 hK3 hK5 hK6 hK9 hK10
              refine Hd.thenN ?_
              exact Hd.meet () (by repeat (first | exact trivial | refine ⟨rfl, ?_⟩)) (Ent.sep (.eq pkk (pt_eq (by rw [show eofK r = 0 from if_neg (by rw [hc2.1, hc2.2]; decide)])) enn))
          ·
            intro _
            refine Hd.seq (fun K11 hK11 => ?_)
            refine Hd.drawsH ([pt b6 (encKn ((f a).getD zKn)) 123, pt b3 (encKy a) 121, pt b7 (encNo (a.1, a.2, eofK r, 0)) 57, pt b8 (encR r) 97]) (fun j => !(([1000] : List Nat).contains j)) mixed ?_
            simp only [List.length, Nat.zero_add, Nat.reduceAdd]
            first | (refine Hd.takeH 0 rfl (by kernel_rfl) (by kernel_rfl) (by kernel_rfl) (by kernel_rfl) (y_loadn (us := [_, _, _, _]) ag57 rfl (Rd.pt pkk (by (first | (intro j v e; rcases j with _|_|_|_|_|_|_|_|_|_|_|_|j <;> first | exact e | exact absurd e (by simp))))) (by exact sz57)) (fun _ _ => rfl) (Ent.sep enn) ?_) | (refine Hd.takeH 0 rfl (by kernel_rfl) (by kernel_rfl) (by kernel_rfl) (by kernel_rfl) (y_loadn (us := [_, _, _, _]) ag57 rfl (Rd.seg pkk (by (first | (intro j v e; rcases j with _|_|_|_|_|_|_|_|_|_|_|_|j <;> first | exact e | exact absurd e (by simp))))) (by exact sz57)) (fun _ _ => rfl) (Ent.sep enn) ?_) | (refine Hd.takeH 0 rfl (by kernel_rfl) (by kernel_rfl) (by kernel_rfl) (by kernel_rfl) (y_loadRn ag57 rfl (by (first | exact RdS.own pkk)) (by (first | (intro j v e; rcases j with _|_|_|_|_|_|_|_|_|_|_|_|j <;> first | exact e | exact absurd e (by simp)))) (by exact sz57) (by simp)) (fun _ _ => rfl) (Ent.sep enn) ?_)
            refine Hd.takeH 1 rfl (by kernel_rfl) (by kernel_rfl) (by kernel_rfl) (by kernel_rfl) (y_move rfl) (fun _ _ => rfl) (Ent.sep enn) ?_
            refine Hd.takeH 2 rfl (by kernel_rfl) (by kernel_rfl) (by kernel_rfl) (by kernel_rfl) (y_move rfl) (fun _ _ => rfl) (Ent.sep enn) ?_
            refine Hd.part (gd := 81) rfl (fun hg11_81 => ?_) (fun hg11_81 => ?_)
            ·
              try simp only [decide_eq_true_eq, decide_eq_false_iff_not, Bool.and_eq_true, Bool.or_eq_true, Bool.and_eq_false_iff, Bool.or_eq_false_iff, Bool.not_eq_true', Bool.not_eq_false', Bool.not_eq_true, Bool.not_eq_false, Int.not_lt, Int.not_le, Decidable.not_not, ne_eq] at hg11_81
              first | (refine Hd.takegH 3 rfl (by kernel_rfl) (by kernel_rfl) (by kernel_rfl) (by kernel_rfl) rfl rfl (y_field' (q := 1) (ft := 3) Try.underlying123 rfl sz3 rfl rfl) (fun _ _ => rfl) (Ent.sep enn) ?_) | (refine Hd.takegH 3 rfl (by kernel_rfl) (by kernel_rfl) (by kernel_rfl) (by kernel_rfl) rfl rfl (y_fieldR (q := 1) (ft := 3) Try.underlying123 rfl sz3 rfl rfl) (fun _ _ => rfl) (Ent.sep enn) ?_)
              first | (refine Hd.takegH 4 rfl (by kernel_rfl) (by kernel_rfl) (by kernel_rfl) (by kernel_rfl) rfl rfl (y_load1 ag3 rfl (Rd.pt1 pkk (by (first | rfl)))) (fun _ _ => rfl) (Ent.sep enn) ?_) | (refine Hd.takegH 4 rfl (by kernel_rfl) (by kernel_rfl) (by kernel_rfl) (by kernel_rfl) rfl rfl (y_load1 ag3 rfl (Rd.seg1 pkk (by (first | rfl)))) (fun _ _ => rfl) (Ent.sep enn) ?_) | (refine Hd.takegH 4 rfl (by kernel_rfl) (by kernel_rfl) (by kernel_rfl) (by kernel_rfl) rfl rfl (y_loadR1 ag3 rfl (by (first | exact RdS.own pkk)) (by (first | rfl))) (fun _ _ => rfl) (Ent.sep enn) ?_)
              refine Hd.takegH 5 rfl (by kernel_rfl) (by kernel_rfl) (by kernel_rfl) (by kernel_rfl) rfl rfl (y_and rfl rfl) (fun _ _ => rfl) (Ent.sep enn) ?_
              first | (refine Hd.takegH 6 rfl (by kernel_rfl) (by kernel_rfl) (by kernel_rfl) (by kernel_rfl) rfl rfl (y_eqlT rfl rfl) (fun _ _ => rfl) (Ent.sep enn) ?_) | (refine Hd.takegH 6 rfl (by kernel_rfl) (by kernel_rfl) (by kernel_rfl) (by kernel_rfl) rfl rfl (y_eql rfl rfl) (fun _ _ => rfl) (Ent.sep enn) ?_)
              refine Hd.takegH 7 rfl (by kernel_rfl) (by kernel_rfl) (by kernel_rfl) (by kernel_rfl) rfl rfl (y_move rfl) (fun _ _ => rfl) (Ent.sep enn) ?_
              refine Hd.part (gd := 86) rfl (fun hg11_86 => ?_) (fun hg11_86 => ?_)
              ·
                try simp only [decide_eq_true_eq, decide_eq_false_iff_not, Bool.and_eq_true, Bool.or_eq_true, Bool.and_eq_false_iff, Bool.or_eq_false_iff, Bool.not_eq_true', Bool.not_eq_false', Bool.not_eq_true, Bool.not_eq_false, Int.not_lt, Int.not_le, Decidable.not_not, ne_eq] at hg11_86
                refine Hd.takenH 8 rfl (by kernel_rfl) (by kernel_rfl) (by kernel_rfl) (by kernel_rfl) rfl rfl rfl (fun _ _ => rfl) (Ent.sep enn) ?_
                refine Hd.takenH 9 rfl (by kernel_rfl) (by kernel_rfl) (by kernel_rfl) (by kernel_rfl) rfl rfl rfl (fun _ _ => rfl) (Ent.sep enn) ?_
                first | (refine Hd.takegH 10 rfl (by kernel_rfl) (by kernel_rfl) (by kernel_rfl) (by kernel_rfl) rfl rfl (y_pickT rfl rfl) (fun _ _ => rfl) (Ent.sep enn) ?_) | (refine Hd.takegH 10 rfl (by kernel_rfl) (by kernel_rfl) (by kernel_rfl) (by kernel_rfl) rfl rfl (y_pickF rfl rfl) (fun _ _ => rfl) (Ent.sep enn) ?_) | (refine Hd.takegH 10 rfl (by kernel_rfl) (by kernel_rfl) (by kernel_rfl) (by kernel_rfl) rfl rfl (y_pickb rfl rfl rfl) (fun _ _ => rfl) (Ent.sep enn) ?_) | (refine Hd.takegH 10 rfl (by kernel_rfl) (by kernel_rfl) (by kernel_rfl) (by kernel_rfl) rfl rfl (y_pick rfl rfl rfl) (fun _ _ => rfl) (Ent.sep enn) ?_)
                refine Hd.takegH 11 rfl (by kernel_rfl) (by kernel_rfl) (by kernel_rfl) (by kernel_rfl) rfl rfl (y_move rfl) (fun _ _ => rfl) (Ent.sep enn) ?_
                refine Hd.part (gd := 90) rfl (fun hg11_90 => ?_) (fun hg11_90 => ?_)
                ·
                  try simp only [decide_eq_true_eq, decide_eq_false_iff_not, Bool.and_eq_true, Bool.or_eq_true, Bool.and_eq_false_iff, Bool.or_eq_false_iff, Bool.not_eq_true', Bool.not_eq_false', Bool.not_eq_true, Bool.not_eq_false, Int.not_lt, Int.not_le, Decidable.not_not, ne_eq] at hg11_90
                  refine Hd.takenH 12 rfl (by kernel_rfl) (by kernel_rfl) (by kernel_rfl) (by kernel_rfl) rfl rfl rfl (fun _ _ => rfl) (Ent.sep enn) ?_
                  refine Hd.takenH 13 rfl (by kernel_rfl) (by kernel_rfl) (by kernel_rfl) (by kernel_rfl) rfl rfl rfl (fun _ _ => rfl) (Ent.sep enn) ?_
                  refine Hd.takenH 14 rfl (by kernel_rfl) (by kernel_rfl) (by kernel_rfl) (by kernel_rfl) rfl rfl rfl (fun _ _ => rfl) (Ent.sep enn) ?_
                  refine Hd.takenH 16 rfl (by kernel_rfl) (by kernel_rfl) (by kernel_rfl) (by kernel_rfl) rfl rfl rfl (fun _ _ => rfl) (Ent.sep enn) ?_
                  refine Hd.takenH 17 rfl (by kernel_rfl) (by kernel_rfl) (by kernel_rfl) (by kernel_rfl) rfl rfl rfl (fun _ _ => rfl) (Ent.sep enn) ?_
                  refine Hd.onlyH 15 rfl (by kernel_rfl) ?_
                  refine Hd.ng rfl rfl rfl ?_
                  refine Hd.nil ?_
                  refine Hd.thenN ?_
                  refine Hd.heldK (J := (fun j => !(([1000] : List Nat).contains j))) (i := 15) (Ent.sep enn) ?_
                  refine Hd.takenH 18 rfl (by kernel_rfl) (by kernel_rfl) (by kernel_rfl) (by kernel_rfl) rfl rfl rfl (fun _ _ => rfl) (Ent.sep enn) ?_
                  first | (refine Hd.takegH 19 rfl (by kernel_rfl) (by kernel_rfl) (by kernel_rfl) (by kernel_rfl) rfl rfl (y_pickT rfl rfl) (fun _ _ => rfl) (Ent.sep enn) ?_) | (refine Hd.takegH 19 rfl (by kernel_rfl) (by kernel_rfl) (by kernel_rfl) (by kernel_rfl) rfl rfl (y_pickF rfl rfl) (fun _ _ => rfl) (Ent.sep enn) ?_) | (refine Hd.takegH 19 rfl (by kernel_rfl) (by kernel_rfl) (by kernel_rfl) (by kernel_rfl) rfl rfl (y_pickb rfl rfl rfl) (fun _ _ => rfl) (Ent.sep enn) ?_) | (refine Hd.takegH 19 rfl (by kernel_rfl) (by kernel_rfl) (by kernel_rfl) (by kernel_rfl) rfl rfl (y_pick rfl rfl rfl) (fun _ _ => rfl) (Ent.sep enn) ?_)
                  first | (refine Hd.takeH 20 rfl (by kernel_rfl) (by kernel_rfl) (by kernel_rfl) (by kernel_rfl) (y_pickT rfl rfl) (fun _ _ => rfl) (Ent.sep enn) ?_) | (refine Hd.takeH 20 rfl (by kernel_rfl) (by kernel_rfl) (by kernel_rfl) (by kernel_rfl) (y_pickF rfl rfl) (fun _ _ => rfl) (Ent.sep enn) ?_) | (refine Hd.takeH 20 rfl (by kernel_rfl) (by kernel_rfl) (by kernel_rfl) (by kernel_rfl) (y_pickb rfl rfl rfl) (fun _ _ => rfl) (Ent.sep enn) ?_) | (refine Hd.takeH 20 rfl (by kernel_rfl) (by kernel_rfl) (by kernel_rfl) (by kernel_rfl) (y_pick rfl rfl rfl) (fun _ _ => rfl) (Ent.sep enn) ?_)
                  refine Hd.onlyH 21 rfl (by kernel_rfl) ?_
                  refine Hd.storeA (us := encNo (a.1, a.2, eofK r, 0)) sz57 rfl rfl rfl (by simp [Value.oneCell']) pkk (by exact rfl) ?_
                  refine Hd.nil ?_
                  refine Hd.thenN ?_
                  refine Hd.heldK (J := (fun j => !(([1000] : List Nat).contains j))) (i := 21) (Ent.sep enn) ?_
                  refine Hd.takeH 22 rfl (by kernel_rfl) (by kernel_rfl) (by kernel_rfl) (by kernel_rfl) (y_assign rfl) (fun _ _ => rfl) (Ent.sep enn) ?_
                  refine Hd.endH (by kernel_rfl) ?_
                  refine Hd.slots [(4, _), (5, _)] ⟨rfl, rfl, trivial⟩ ?_
                  refine Hd.toK hK11 ?_
                  refine Hd.ret ?_
                  clear hK1 hK2 hK3 hK5 hK6 hK9 hK11
                  rw [h0, show (onK a.2 r && newsK ((f a).getD zKn) a.2 r) = true by unfold newsK; simp [hg11_81, hg11_86]]
                  exact Hd.retCT rfl () ag57 rfl rfl (Rd.pt (b := b4) (us := encNo (a.1, a.2, eofK r, 0)) pkk (fun j v e => by rw [Nat.zero_add]; exact e)) (by exact sz57) rfl (Ent.sep enn)
                ·
                  try simp only [decide_eq_true_eq, decide_eq_false_iff_not, Bool.and_eq_true, Bool.or_eq_true, Bool.and_eq_false_iff, Bool.or_eq_false_iff, Bool.not_eq_true', Bool.not_eq_false', Bool.not_eq_true, Bool.not_eq_false, Int.not_lt, Int.not_le, Decidable.not_not, ne_eq] at hg11_90
                  exact absurd hg11_90 (by simp)
              ·
                try simp only [decide_eq_true_eq, decide_eq_false_iff_not, Bool.and_eq_true, Bool.or_eq_true, Bool.and_eq_false_iff, Bool.or_eq_false_iff, Bool.not_eq_true', Bool.not_eq_false', Bool.not_eq_true, Bool.not_eq_false, Int.not_lt, Int.not_le, Decidable.not_not, ne_eq] at hg11_86
                first | (refine Hd.takegH 8 rfl (by kernel_rfl) (by kernel_rfl) (by kernel_rfl) (by kernel_rfl) rfl rfl (y_field' (q := 2) (ft := 4) Try.underlying123 rfl sz4 rfl rfl) (fun _ _ => rfl) (Ent.sep enn) ?_) | (refine Hd.takegH 8 rfl (by kernel_rfl) (by kernel_rfl) (by kernel_rfl) (by kernel_rfl) rfl rfl (y_fieldR (q := 2) (ft := 4) Try.underlying123 rfl sz4 rfl rfl) (fun _ _ => rfl) (Ent.sep enn) ?_)
                first | (refine Hd.takegH 9 rfl (by kernel_rfl) (by kernel_rfl) (by kernel_rfl) (by kernel_rfl) rfl rfl (y_load1 ag4 rfl (Rd.pt1 pkk (by (first | rfl)))) (fun _ _ => rfl) (Ent.sep enn) ?_) | (refine Hd.takegH 9 rfl (by kernel_rfl) (by kernel_rfl) (by kernel_rfl) (by kernel_rfl) rfl rfl (y_load1 ag4 rfl (Rd.seg1 pkk (by (first | rfl)))) (fun _ _ => rfl) (Ent.sep enn) ?_) | (refine Hd.takegH 9 rfl (by kernel_rfl) (by kernel_rfl) (by kernel_rfl) (by kernel_rfl) rfl rfl (y_loadR1 ag4 rfl (by (first | exact RdS.own pkk)) (by (first | rfl))) (fun _ _ => rfl) (Ent.sep enn) ?_)
                first | (refine Hd.takegH 10 rfl (by kernel_rfl) (by kernel_rfl) (by kernel_rfl) (by kernel_rfl) rfl rfl (y_pickT rfl rfl) (fun _ _ => rfl) (Ent.sep enn) ?_) | (refine Hd.takegH 10 rfl (by kernel_rfl) (by kernel_rfl) (by kernel_rfl) (by kernel_rfl) rfl rfl (y_pickF rfl rfl) (fun _ _ => rfl) (Ent.sep enn) ?_) | (refine Hd.takegH 10 rfl (by kernel_rfl) (by kernel_rfl) (by kernel_rfl) (by kernel_rfl) rfl rfl (y_pickb rfl rfl rfl) (fun _ _ => rfl) (Ent.sep enn) ?_) | (refine Hd.takegH 10 rfl (by kernel_rfl) (by kernel_rfl) (by kernel_rfl) (by kernel_rfl) rfl rfl (y_pick rfl rfl rfl) (fun _ _ => rfl) (Ent.sep enn) ?_)
                refine Hd.takegH 11 rfl (by kernel_rfl) (by kernel_rfl) (by kernel_rfl) (by kernel_rfl) rfl rfl (y_move rfl) (fun _ _ => rfl) (Ent.sep enn) ?_
                refine Hd.part (gd := 90) rfl (fun hg11_90 => ?_) (fun hg11_90 => ?_)
                ·
                  try simp only [decide_eq_true_eq, decide_eq_false_iff_not, Bool.and_eq_true, Bool.or_eq_true, Bool.and_eq_false_iff, Bool.or_eq_false_iff, Bool.not_eq_true', Bool.not_eq_false', Bool.not_eq_true, Bool.not_eq_false, Int.not_lt, Int.not_le, Decidable.not_not, ne_eq] at hg11_90
                  refine Hd.takenH 12 rfl (by kernel_rfl) (by kernel_rfl) (by kernel_rfl) (by kernel_rfl) rfl rfl rfl (fun _ _ => rfl) (Ent.sep enn) ?_
                  refine Hd.takenH 13 rfl (by kernel_rfl) (by kernel_rfl) (by kernel_rfl) (by kernel_rfl) rfl rfl rfl (fun _ _ => rfl) (Ent.sep enn) ?_
                  refine Hd.takenH 14 rfl (by kernel_rfl) (by kernel_rfl) (by kernel_rfl) (by kernel_rfl) rfl rfl rfl (fun _ _ => rfl) (Ent.sep enn) ?_
                  refine Hd.takenH 16 rfl (by kernel_rfl) (by kernel_rfl) (by kernel_rfl) (by kernel_rfl) rfl rfl rfl (fun _ _ => rfl) (Ent.sep enn) ?_
                  refine Hd.takenH 17 rfl (by kernel_rfl) (by kernel_rfl) (by kernel_rfl) (by kernel_rfl) rfl rfl rfl (fun _ _ => rfl) (Ent.sep enn) ?_
                  refine Hd.onlyH 15 rfl (by kernel_rfl) ?_
                  refine Hd.ng rfl rfl rfl ?_
                  refine Hd.nil ?_
                  refine Hd.thenN ?_
                  refine Hd.heldK (J := (fun j => !(([1000] : List Nat).contains j))) (i := 15) (Ent.sep enn) ?_
                  refine Hd.takenH 18 rfl (by kernel_rfl) (by kernel_rfl) (by kernel_rfl) (by kernel_rfl) rfl rfl rfl (fun _ _ => rfl) (Ent.sep enn) ?_
                  first | (refine Hd.takegH 19 rfl (by kernel_rfl) (by kernel_rfl) (by kernel_rfl) (by kernel_rfl) rfl rfl (y_pickT rfl rfl) (fun _ _ => rfl) (Ent.sep enn) ?_) | (refine Hd.takegH 19 rfl (by kernel_rfl) (by kernel_rfl) (by kernel_rfl) (by kernel_rfl) rfl rfl (y_pickF rfl rfl) (fun _ _ => rfl) (Ent.sep enn) ?_) | (refine Hd.takegH 19 rfl (by kernel_rfl) (by kernel_rfl) (by kernel_rfl) (by kernel_rfl) rfl rfl (y_pickb rfl rfl rfl) (fun _ _ => rfl) (Ent.sep enn) ?_) | (refine Hd.takegH 19 rfl (by kernel_rfl) (by kernel_rfl) (by kernel_rfl) (by kernel_rfl) rfl rfl (y_pick rfl rfl rfl) (fun _ _ => rfl) (Ent.sep enn) ?_)
                  first | (refine Hd.takeH 20 rfl (by kernel_rfl) (by kernel_rfl) (by kernel_rfl) (by kernel_rfl) (y_pickT rfl rfl) (fun _ _ => rfl) (Ent.sep enn) ?_) | (refine Hd.takeH 20 rfl (by kernel_rfl) (by kernel_rfl) (by kernel_rfl) (by kernel_rfl) (y_pickF rfl rfl) (fun _ _ => rfl) (Ent.sep enn) ?_) | (refine Hd.takeH 20 rfl (by kernel_rfl) (by kernel_rfl) (by kernel_rfl) (by kernel_rfl) (y_pickb rfl rfl rfl) (fun _ _ => rfl) (Ent.sep enn) ?_) | (refine Hd.takeH 20 rfl (by kernel_rfl) (by kernel_rfl) (by kernel_rfl) (by kernel_rfl) (y_pick rfl rfl rfl) (fun _ _ => rfl) (Ent.sep enn) ?_)
                  refine Hd.onlyH 21 rfl (by kernel_rfl) ?_
                  refine Hd.storeA (us := encNo (a.1, a.2, eofK r, 0)) sz57 rfl rfl rfl (by simp [Value.oneCell']) pkk (by exact rfl) ?_
                  refine Hd.nil ?_
                  refine Hd.thenN ?_
                  refine Hd.heldK (J := (fun j => !(([1000] : List Nat).contains j))) (i := 21) (Ent.sep enn) ?_
                  refine Hd.takeH 22 rfl (by kernel_rfl) (by kernel_rfl) (by kernel_rfl) (by kernel_rfl) (y_assign rfl) (fun _ _ => rfl) (Ent.sep enn) ?_
                  refine Hd.endH (by kernel_rfl) ?_
                  refine Hd.slots [(4, _), (5, _)] ⟨rfl, rfl, trivial⟩ ?_
                  refine Hd.toK hK11 ?_
                  refine Hd.ret ?_
                  clear hK1 hK2 hK3 hK5 hK6 hK9 hK11
                  rw [h0, show (onK a.2 r && newsK ((f a).getD zKn) a.2 r) = true by unfold newsK; simp [hg11_81, hg11_90]]
                  exact Hd.retCT rfl () ag57 rfl rfl (Rd.pt (b := b4) (us := encNo (a.1, a.2, eofK r, 0)) pkk (fun j v e => by rw [Nat.zero_add]; exact e)) (by exact sz57) rfl (Ent.sep enn)
                ·
                  try simp only [decide_eq_true_eq, decide_eq_false_iff_not, Bool.and_eq_true, Bool.or_eq_true, Bool.and_eq_false_iff, Bool.or_eq_false_iff, Bool.not_eq_true', Bool.not_eq_false', Bool.not_eq_true, Bool.not_eq_false, Int.not_lt, Int.not_le, Decidable.not_not, ne_eq] at hg11_90
                  first | (refine Hd.takegH 12 rfl (by kernel_rfl) (by kernel_rfl) (by kernel_rfl) (by kernel_rfl) rfl rfl (y_field' (q := 1) (ft := 3) Try.underlying121 rfl sz3 rfl rfl) (fun _ _ => rfl) (Ent.sep enn) ?_) | (refine Hd.takegH 12 rfl (by kernel_rfl) (by kernel_rfl) (by kernel_rfl) (by kernel_rfl) rfl rfl (y_fieldR (q := 1) (ft := 3) Try.underlying121 rfl sz3 rfl rfl) (fun _ _ => rfl) (Ent.sep enn) ?_)
                  first | (refine Hd.takegH 13 rfl (by kernel_rfl) (by kernel_rfl) (by kernel_rfl) (by kernel_rfl) rfl rfl (y_load1 ag3 rfl (Rd.pt1 pkk (by (first | rfl)))) (fun _ _ => rfl) (Ent.sep enn) ?_) | (refine Hd.takegH 13 rfl (by kernel_rfl) (by kernel_rfl) (by kernel_rfl) (by kernel_rfl) rfl rfl (y_load1 ag3 rfl (Rd.seg1 pkk (by (first | rfl)))) (fun _ _ => rfl) (Ent.sep enn) ?_) | (refine Hd.takegH 13 rfl (by kernel_rfl) (by kernel_rfl) (by kernel_rfl) (by kernel_rfl) rfl rfl (y_loadR1 ag3 rfl (by (first | exact RdS.own pkk)) (by (first | rfl))) (fun _ _ => rfl) (Ent.sep enn) ?_)
                  first | (refine Hd.takegH 14 rfl (by kernel_rfl) (by kernel_rfl) (by kernel_rfl) (by kernel_rfl) rfl rfl (y_loadn (us := [_, _, _, _, _, _, _]) ag97 rfl (Rd.pt pkk (by (first | (intro j v e; rcases j with _|_|_|_|_|_|_|_|_|_|_|_|j <;> first | exact e | exact absurd e (by simp))))) (by exact sz97)) (fun _ _ => rfl) (Ent.sep enn) ?_) | (refine Hd.takegH 14 rfl (by kernel_rfl) (by kernel_rfl) (by kernel_rfl) (by kernel_rfl) rfl rfl (y_loadn (us := [_, _, _, _, _, _, _]) ag97 rfl (Rd.seg pkk (by (first | (intro j v e; rcases j with _|_|_|_|_|_|_|_|_|_|_|_|j <;> first | exact e | exact absurd e (by simp))))) (by exact sz97)) (fun _ _ => rfl) (Ent.sep enn) ?_) | (refine Hd.takegH 14 rfl (by kernel_rfl) (by kernel_rfl) (by kernel_rfl) (by kernel_rfl) rfl rfl (y_loadRn ag97 rfl (by (first | exact RdS.own pkk)) (by (first | (intro j v e; rcases j with _|_|_|_|_|_|_|_|_|_|_|_|j <;> first | exact e | exact absurd e (by simp)))) (by exact sz97) (by simp)) (fun _ _ => rfl) (Ent.sep enn) ?_)
                  first | (refine Hd.takegH 16 rfl (by kernel_rfl) (by kernel_rfl) (by kernel_rfl) (by kernel_rfl) rfl rfl (y_field' (q := 3) (ft := 78) Try.underlying123 rfl sz78 rfl rfl) (fun _ _ => rfl) (Ent.sep enn) ?_) | (refine Hd.takegH 16 rfl (by kernel_rfl) (by kernel_rfl) (by kernel_rfl) (by kernel_rfl) rfl rfl (y_fieldR (q := 3) (ft := 78) Try.underlying123 rfl sz78 rfl rfl) (fun _ _ => rfl) (Ent.sep enn) ?_)
                  first | (refine Hd.takegH 17 rfl (by kernel_rfl) (by kernel_rfl) (by kernel_rfl) (by kernel_rfl) rfl rfl (y_load1 ag78 rfl (Rd.pt1 pkk (by (first | rfl)))) (fun _ _ => rfl) (Ent.sep enn) ?_) | (refine Hd.takegH 17 rfl (by kernel_rfl) (by kernel_rfl) (by kernel_rfl) (by kernel_rfl) rfl rfl (y_load1 ag78 rfl (Rd.seg1 pkk (by (first | rfl)))) (fun _ _ => rfl) (Ent.sep enn) ?_) | (refine Hd.takegH 17 rfl (by kernel_rfl) (by kernel_rfl) (by kernel_rfl) (by kernel_rfl) rfl rfl (y_loadR1 ag78 rfl (by (first | exact RdS.own pkk)) (by (first | rfl))) (fun _ _ => rfl) (Ent.sep enn) ?_)
                  refine Hd.onlyH 15 rfl (by kernel_rfl) ?_
                  refine Hd.unguard rfl rfl ?_
                  refine Hd.callE rfl fk62 (krises_ct _ a.2 r) (Ent.sep enn) ?_
                  intro _
                  refine Hd.nil ?_
                  refine Hd.thenN ?_
                  refine Hd.heldK (J := (fun j => !(([1000] : List Nat).contains j))) (i := 15) (Ent.sep enn) ?_
                  refine Hd.takegH 18 rfl (by kernel_rfl) (by kernel_rfl) (by kernel_rfl) (by kernel_rfl) rfl rfl (y_gtr rfl rfl) (fun _ _ => rfl) (Ent.sep enn) ?_
                  first | (refine Hd.takegH 19 rfl (by kernel_rfl) (by kernel_rfl) (by kernel_rfl) (by kernel_rfl) rfl rfl (y_pickT rfl rfl) (fun _ _ => rfl) (Ent.sep enn) ?_) | (refine Hd.takegH 19 rfl (by kernel_rfl) (by kernel_rfl) (by kernel_rfl) (by kernel_rfl) rfl rfl (y_pickF rfl rfl) (fun _ _ => rfl) (Ent.sep enn) ?_) | (refine Hd.takegH 19 rfl (by kernel_rfl) (by kernel_rfl) (by kernel_rfl) (by kernel_rfl) rfl rfl (y_pickb rfl rfl rfl) (fun _ _ => rfl) (Ent.sep enn) ?_) | (refine Hd.takegH 19 rfl (by kernel_rfl) (by kernel_rfl) (by kernel_rfl) (by kernel_rfl) rfl rfl (y_pick rfl rfl rfl) (fun _ _ => rfl) (Ent.sep enn) ?_)
                  first | (refine Hd.takeH 20 rfl (by kernel_rfl) (by kernel_rfl) (by kernel_rfl) (by kernel_rfl) (y_pickT rfl rfl) (fun _ _ => rfl) (Ent.sep enn) ?_) | (refine Hd.takeH 20 rfl (by kernel_rfl) (by kernel_rfl) (by kernel_rfl) (by kernel_rfl) (y_pickF rfl rfl) (fun _ _ => rfl) (Ent.sep enn) ?_) | (refine Hd.takeH 20 rfl (by kernel_rfl) (by kernel_rfl) (by kernel_rfl) (by kernel_rfl) (y_pickb rfl rfl rfl) (fun _ _ => rfl) (Ent.sep enn) ?_) | (refine Hd.takeH 20 rfl (by kernel_rfl) (by kernel_rfl) (by kernel_rfl) (by kernel_rfl) (y_pick rfl rfl rfl) (fun _ _ => rfl) (Ent.sep enn) ?_)
                  refine Hd.onlyH 21 rfl (by kernel_rfl) ?_
                  refine Hd.storeA (us := encNo (a.1, a.2, eofK r, 0)) sz57 rfl rfl rfl (by simp [Value.oneCell']) pkk (by exact rfl) ?_
                  refine Hd.nil ?_
                  refine Hd.thenN ?_
                  refine Hd.heldK (J := (fun j => !(([1000] : List Nat).contains j))) (i := 21) (Ent.sep enn) ?_
                  refine Hd.takeH 22 rfl (by kernel_rfl) (by kernel_rfl) (by kernel_rfl) (by kernel_rfl) (y_assign rfl) (fun _ _ => rfl) (Ent.sep enn) ?_
                  refine Hd.endH (by kernel_rfl) ?_
                  refine Hd.slots [(4, _), (5, _)] ⟨rfl, rfl, trivial⟩ ?_
                  refine Hd.toK hK11 ?_
                  refine Hd.ret ?_
                  clear hK1 hK2 hK3 hK5 hK6 hK9 hK11
                  rw [h0, show (onK a.2 r && newsK ((f a).getD zKn) a.2 r) = decide (riseK a.2 r > ((f a).getD zKn).seen) by unfold newsK; simp [hg11_81, hg11_86, hg11_90]]
                  exact Hd.retCT rfl () ag57 rfl rfl (Rd.pt (b := b4) (us := encNo (a.1, a.2, eofK r, 0)) pkk (fun j v e => by rw [Nat.zero_add]; exact e)) (by exact sz57) rfl (Ent.sep enn)
            ·
              try simp only [decide_eq_true_eq, decide_eq_false_iff_not, Bool.and_eq_true, Bool.or_eq_true, Bool.and_eq_false_iff, Bool.or_eq_false_iff, Bool.not_eq_true', Bool.not_eq_false', Bool.not_eq_true, Bool.not_eq_false, Int.not_lt, Int.not_le, Decidable.not_not, ne_eq] at hg11_81
              refine Hd.takenH 3 rfl (by kernel_rfl) (by kernel_rfl) (by kernel_rfl) (by kernel_rfl) rfl rfl rfl (fun _ _ => rfl) (Ent.sep enn) ?_
              refine Hd.takenH 4 rfl (by kernel_rfl) (by kernel_rfl) (by kernel_rfl) (by kernel_rfl) rfl rfl rfl (fun _ _ => rfl) (Ent.sep enn) ?_
              refine Hd.takenH 5 rfl (by kernel_rfl) (by kernel_rfl) (by kernel_rfl) (by kernel_rfl) rfl rfl rfl (fun _ _ => rfl) (Ent.sep enn) ?_
              refine Hd.takenH 6 rfl (by kernel_rfl) (by kernel_rfl) (by kernel_rfl) (by kernel_rfl) rfl rfl rfl (fun _ _ => rfl) (Ent.sep enn) ?_
              refine Hd.takenH 7 rfl (by kernel_rfl) (by kernel_rfl) (by kernel_rfl) (by kernel_rfl) rfl rfl rfl (fun _ _ => rfl) (Ent.sep enn) ?_
              refine Hd.takenH 8 rfl (by kernel_rfl) (by kernel_rfl) (by kernel_rfl) (by kernel_rfl) rfl rfl rfl (fun _ _ => rfl) (Ent.sep enn) ?_
              refine Hd.takenH 9 rfl (by kernel_rfl) (by kernel_rfl) (by kernel_rfl) (by kernel_rfl) rfl rfl rfl (fun _ _ => rfl) (Ent.sep enn) ?_
              refine Hd.takenH 10 rfl (by kernel_rfl) (by kernel_rfl) (by kernel_rfl) (by kernel_rfl) rfl rfl rfl (fun _ _ => rfl) (Ent.sep enn) ?_
              refine Hd.takenH 11 rfl (by kernel_rfl) (by kernel_rfl) (by kernel_rfl) (by kernel_rfl) rfl rfl rfl (fun _ _ => rfl) (Ent.sep enn) ?_
              refine Hd.takenH 12 rfl (by kernel_rfl) (by kernel_rfl) (by kernel_rfl) (by kernel_rfl) rfl rfl rfl (fun _ _ => rfl) (Ent.sep enn) ?_
              refine Hd.takenH 13 rfl (by kernel_rfl) (by kernel_rfl) (by kernel_rfl) (by kernel_rfl) rfl rfl rfl (fun _ _ => rfl) (Ent.sep enn) ?_
              refine Hd.takenH 14 rfl (by kernel_rfl) (by kernel_rfl) (by kernel_rfl) (by kernel_rfl) rfl rfl rfl (fun _ _ => rfl) (Ent.sep enn) ?_
              refine Hd.takenH 16 rfl (by kernel_rfl) (by kernel_rfl) (by kernel_rfl) (by kernel_rfl) rfl rfl rfl (fun _ _ => rfl) (Ent.sep enn) ?_
              refine Hd.takenH 17 rfl (by kernel_rfl) (by kernel_rfl) (by kernel_rfl) (by kernel_rfl) rfl rfl rfl (fun _ _ => rfl) (Ent.sep enn) ?_
              refine Hd.onlyH 15 rfl (by kernel_rfl) ?_
              refine Hd.ng rfl rfl rfl ?_
              refine Hd.nil ?_
              refine Hd.thenN ?_
              refine Hd.heldK (J := (fun j => !(([1000] : List Nat).contains j))) (i := 15) (Ent.sep enn) ?_
              refine Hd.takenH 18 rfl (by kernel_rfl) (by kernel_rfl) (by kernel_rfl) (by kernel_rfl) rfl rfl rfl (fun _ _ => rfl) (Ent.sep enn) ?_
              refine Hd.takenH 19 rfl (by kernel_rfl) (by kernel_rfl) (by kernel_rfl) (by kernel_rfl) rfl rfl rfl (fun _ _ => rfl) (Ent.sep enn) ?_
              first | (refine Hd.takeH 20 rfl (by kernel_rfl) (by kernel_rfl) (by kernel_rfl) (by kernel_rfl) (y_pickT rfl rfl) (fun _ _ => rfl) (Ent.sep enn) ?_) | (refine Hd.takeH 20 rfl (by kernel_rfl) (by kernel_rfl) (by kernel_rfl) (by kernel_rfl) (y_pickF rfl rfl) (fun _ _ => rfl) (Ent.sep enn) ?_) | (refine Hd.takeH 20 rfl (by kernel_rfl) (by kernel_rfl) (by kernel_rfl) (by kernel_rfl) (y_pickb rfl rfl rfl) (fun _ _ => rfl) (Ent.sep enn) ?_) | (refine Hd.takeH 20 rfl (by kernel_rfl) (by kernel_rfl) (by kernel_rfl) (by kernel_rfl) (y_pick rfl rfl rfl) (fun _ _ => rfl) (Ent.sep enn) ?_)
              refine Hd.onlyH 21 rfl (by kernel_rfl) ?_
              refine Hd.storeA (us := encNo (a.1, a.2, eofK r, 0)) sz57 rfl rfl rfl (by simp [Value.oneCell']) pkk (by exact rfl) ?_
              refine Hd.nil ?_
              refine Hd.thenN ?_
              refine Hd.heldK (J := (fun j => !(([1000] : List Nat).contains j))) (i := 21) (Ent.sep enn) ?_
              refine Hd.takeH 22 rfl (by kernel_rfl) (by kernel_rfl) (by kernel_rfl) (by kernel_rfl) (y_assign rfl) (fun _ _ => rfl) (Ent.sep enn) ?_
              refine Hd.endH (by kernel_rfl) ?_
              refine Hd.slots [(4, _), (5, _)] ⟨rfl, rfl, trivial⟩ ?_
              refine Hd.toK hK11 ?_
              refine Hd.ret ?_
              clear hK1 hK2 hK3 hK5 hK6 hK9 hK11
              rw [h0, show (onK a.2 r && newsK ((f a).getD zKn) a.2 r) = false by unfold newsK; simp [hg11_81]]
              exact Hd.retCT rfl () ag57 rfl rfl (Rd.pt (b := b4) (us := encNo (a.1, a.2, eofK r, 0)) pkk (fun j v e => by rw [Nat.zero_add]; exact e)) (by exact sz57) rfl (Ent.sep enn)
end Kq
end Go.Proofs.Ytbfddabjbkohdaa
namespace Go.Proofs.Ytbfddabjbkohdaa
set_option linter.unusedSimpArgs false
set_option linter.unusedVariables false
set_option linter.unnecessarySimpa false
open Go.RX Fx
namespace Wo
theorem Hd.wokK {E : World} {n : Nat} {ds : List Deferred} {st : List (Nat × Value)} {L L' : List SP} {K : Act → World → Prop} {wb : Nat} {w : WA} (p : Pick L (WorldP wb w) L') (h : WOk w → Hd E n ds st L K) : Hd E n ds st L K := fun a v f s => by
  refine h ?_ a v f s
  obtain ⟨h1, s1, i, x⟩ := sep.one p s.2.2.2
  obtain ⟨_, _, _, _, _, hq, _⟩ := x
  exact hq.1
end Wo
namespace Kq
open Wo
set_option maxRecDepth 8000
theorem ltK_ext : ∀ {a b : List Ky}, a.Pairwise ltK → b.Pairwise ltK → (∀ x, x ∈ a ↔ x ∈ b) → a = b
  | [], [], _, _, _ => rfl
  | [], y :: b, _, _, h => absurd ((h y).2 List.mem_cons_self) (by simp)
  | x :: a, [], _, _, h => absurd ((h x).1 List.mem_cons_self) (by simp)
  | x :: a, y :: b, ha, hb, h => by
    rw [List.pairwise_cons] at ha hb
    have hxy : x = y := by
      rcases List.mem_cons.1 ((h x).1 List.mem_cons_self) with e | e
      · exact e
      · rcases List.mem_cons.1 ((h y).2 List.mem_cons_self) with e2 | e2
        · exact e2.symm
        · have h1 := hb.1 x e
          have h2 := ha.1 y e2
          unfold ltK at h1 h2
          omega
    subst hxy
    congr 1
    refine ltK_ext ha.2 hb.2 fun z => ?_
    have := h z
    simp only [List.mem_cons] at this
    constructor
    · intro hz
      rcases this.1 (.inr hz) with rfl | e
      · have := ha.1 z hz; unfold ltK at this; omega
      · exact e
    · intro hz
      rcases this.2 (.inr hz) with rfl | e
      · have := hb.1 z hz; unfold ltK at this; omega
      · exact e
structure OkK (f : Ky → Option KnA) : Prop where
  fl : ∀ a x, f a = some x → 1 ≤ a.2 ∧ a.2 ≤ 3
  sg : ∀ a x, f a = some x → a.2 = 3 → 1 ≤ a.1 ∧ a.1 ≤ 31
def gridK : List Ky := (List.range 96).flatMap fun n : Nat => [((n : Int), 1), ((n : Int), 2), ((n : Int), 3)]
theorem mem_grid {a : Ky} : a ∈ gridK ↔ (0 ≤ a.1 ∧ a.1 < 96) ∧ 1 ≤ a.2 ∧ a.2 ≤ 3 := by
  unfold gridK
  rw [List.mem_flatMap]
  constructor
  · rintro ⟨n, hn, h⟩
    have := List.mem_range.1 hn
    simp only [List.mem_cons, List.not_mem_nil, or_false] at h
    rcases h with rfl | rfl | rfl <;> exact ⟨⟨by omega, by omega⟩, by omega, by omega⟩
  · rintro ⟨⟨h1, h2⟩, h3, h4⟩
    refine ⟨a.1.toNat, List.mem_range.2 (by omega), ?_⟩
    have e : ((a.1.toNat : Nat) : Int) = a.1 := by omega
    rw [e]
    simp only [List.mem_cons, List.not_mem_nil, or_false]
    have h5 : a.2 = 1 ∨ a.2 = 2 ∨ a.2 = 3 := by omega
    rcases h5 with h | h | h
    · exact .inl (Prod.ext rfl h)
    · exact .inr (.inl (Prod.ext rfl h))
    · exact .inr (.inr (Prod.ext rfl h))
theorem grid_srt : gridK.Pairwise ltK := by
  unfold gridK
  rw [List.pairwise_flatMap]
  refine ⟨fun n _ => by simp [ltK], ?_⟩
  refine List.pairwise_lt_range.imp fun {a b} h x hx y hy => ?_
  simp only [List.mem_cons, List.not_mem_nil, or_false] at hx hy
  have h1 : x.1 = (a : Int) := by rcases hx with rfl | rfl | rfl <;> rfl
  have h2 : y.1 = (b : Int) := by rcases hy with rfl | rfl | rfl <;> rfl
  exact .inl (by omega)
def allK (f : Ky → Option KnA) (w : WA) : List Ky := gridK.filter (isK f w)
theorem mem_allK {f : Ky → Option KnA} {w : WA} (hw : WOk w) (hf : OkK f) {a : Ky} : a ∈ allK f w ↔ isK f w a = true := by
  unfold allK
  rw [List.mem_filter, mem_grid]
  refine ⟨fun h => h.2, fun h => ⟨?_, h⟩⟩
  obtain ⟨x, hx⟩ := Option.isSome_iff_exists.1 (isK_some h)
  have h1 := hf.fl a x hx
  refine ⟨?_, h1⟩
  by_cases h3 : a.2 = 3
  · have := hf.sg a x hx h3
    omega
  · unfold isK at h
    rw [hx] at h
    simp only [if_neg h3, decide_eq_true_eq] at h
    obtain ⟨p, hp⟩ := Option.isSome_iff_exists.1 h.1
    have := hw.at_lt (n := p.1) (k := p.2) hp
    omega
theorem AllK.eq {f : Ky → Option KnA} {m : Nat} {w : WA} {ks : List Ky} (hw : WOk w) (hf : OkK f) (h : AllK f m w ks) : ks = allK f w :=
  ltK_ext h.srt (grid_srt.sublist List.filter_sublist) fun a => by rw [h.mem, mem_allK hw hf]
theorem allK_len (f : Ky → Option KnA) (w : WA) : (allK f w).length ≤ 288 := by
  unfold allK
  have := List.length_filter_le (isK f w) gridK
  have e : gridK.length = 288 := by decide +kernel
  omega
theorem okK_0 : OkK k0 := ⟨fun _ _ h => (by cases h), fun _ _ h => (by cases h)⟩
theorem OkK.upd {f : Ky → Option KnA} (h : OkK f) {k : Ky} {o : Option KnA} (hk : ∀ x, o = some x → (1 ≤ k.2 ∧ k.2 ≤ 3) ∧ (k.2 = 3 → 1 ≤ k.1 ∧ k.1 ≤ 31)) : OkK (updK f k o) := by
  constructor
  · intro a x ha
    unfold updK at ha
    split at ha
    · rename_i e; subst e; exact (hk x ha).1
    · exact h.fl a x ha
  · intro a x ha h3
    unfold updK at ha
    split at ha
    · rename_i e; subst e; exact (hk x ha).2 h3
    · exact h.sg a x ha h3
theorem mayK_fl {p : NoA} (h : ¬ (mayK p = false)) : 1 ≤ p.2.1 ∧ p.2.1 ≤ 3 := by
  by_cases hb : badN p
  · exact absurd (if_pos hb) h
  · unfold badN at hb
    simp only [not_or] at hb
    omega
theorem OkK.chg {f : Ky → Option KnA} (h : OkK f) (w : WA) (p : NoA) : OkK (chgK f w p).2 := by
  unfold chgK
  split
  · exact h
  rename_i h0
  split
  · exact h
  rename_i h1
  have hk : ∀ (o : Option KnA) x, o = some x → (1 ≤ ((p.1, p.2.1) : Ky).2 ∧ ((p.1, p.2.1) : Ky).2 ≤ 3) ∧ (((p.1, p.2.1) : Ky).2 = 3 → 1 ≤ ((p.1, p.2.1) : Ky).1 ∧ ((p.1, p.2.1) : Ky).1 ≤ 31) := fun o x _ => ⟨mayK_fl h0, fun h3 => by
    have h3' : p.2.1 = 3 := h3
    show 1 ≤ p.1 ∧ p.1 ≤ 31
    omega⟩
  repeat' split
  all_goals first | exact h | exact h.upd (hk _)
theorem OkK.chs {w : WA} : ∀ {f : Ky → Option KnA} (_ : OkK f) (l : List NoA), OkK (chsK f w l).2
  | _, h, [] => h
  | _, h, p :: l => OkK.chs (h.chg w p) l
def dueT (f : Ky → Option KnA) (w : WA) (l : List Ky) : List NoA := l.filterMap fun a => if (toldK f w a).2 = true then some (toldK f w a).1 else none
abbrev dueK (f : Ky → Option KnA) (w : WA) : List NoA := dueT f w (allK f w)
theorem dueT_app (f : Ky → Option KnA) (w : WA) (a b : List Ky) : dueT f w (a ++ b) = dueT f w a ++ dueT f w b := List.filterMap_append
theorem dueT_one (f : Ky → Option KnA) (w : WA) (a : Ky) : dueT f w [a] = if (toldK f w a).2 = true then [(toldK f w a).1] else [] := by
  unfold dueT
  rw [List.filterMap_cons]
  by_cases h : (toldK f w a).2 = true
  · rw [if_pos h, if_pos h]; rfl
  · rw [if_neg h, if_neg h]; rfl
theorem dueT_succ (f : Ky → Option KnA) (w : WA) {l : List Ky} {i : Nat} (h : i < l.length) : dueT f w (l.take (i + 1)) = dueT f w (l.take i) ++ (if (toldK f w l[i]).2 = true then [(toldK f w l[i]).1] else []) := by
  rw [List.take_add_one, List.getElem?_eq_getElem h, Option.toList_some, dueT_app, dueT_one]
theorem dueT_pre (f : Ky → Option KnA) (w : WA) (l : List Ky) (i : Nat) : dueT f w (l.take i) <+: dueT f w l := by
  conv => rhs; rw [← List.take_append_drop i l]
  rw [dueT_app]; exact List.prefix_append _ _
theorem dueK_len (f : Ky → Option KnA) (w : WA) : (dueK f w).length ≤ 288 := Nat.le_trans (List.length_filterMap_le _ _) (allK_len f w)
abbrev encNA (p : NoA) : List Value := [.agg (encNo p).toArray]
abbrev KqM (px qb wb mb : Nat) (f : Ky → Option KnA) (m : Nat) (w : WA) (L : List SP) : List SP := pt px [.pointer (some ⟨qb, 0, none⟩)] 52 :: KqB qb wb mb f m w L
set_option maxHeartbeats 2000000 in
theorem kdu_ct (L : List SP) (qb : Nat) : Ct Try.prog 58 #[.pointer (some ⟨qb, 0, none⟩)] (L) (fun b : Nat => .func (.func 85) #[] #[.pointer (some ⟨b, 0, none⟩)]) (fun b : Nat => pt b [.pointer (some ⟨qb, 0, none⟩)] 52 :: L) := by
  refine Ct.of (vs := [.pointer (some ⟨qb, 0, none⟩)]) Try.func58 rfl rfl [(0, .pointer (some ⟨qb, 0, none⟩))] (by repeat (first | exact trivial | refine ⟨rfl, ?_⟩)) ?_
  intro E
  show Hd E 4 _ _ _ _
  refine Hd.seq (fun K1 hK1 => ?_)
  refine Hd.region ?_
  refine Hd.box rfl rfl (fun b1 => ?_)
  refine Hd.yv (y_assign rfl) ?_
  refine Hd.nil ?_
  refine Hd.slots [(1, _)] ⟨rfl, trivial⟩ ?_
  refine Hd.toK hK1 ?_
  refine Hd.seq (fun K2 hK2 => ?_)
  refine Hd.region ?_
  refine Hd.yv (y_mkf (fv := []) (cv := [_]) rfl rfl) ?_
  refine Hd.yv (y_assign rfl) ?_
  refine Hd.nil ?_
  refine Hd.slots [(2, _)] ⟨rfl, trivial⟩ ?_
  refine Hd.toK hK2 ?_
  refine Hd.ret ?_
  clear hK1 hK2
  exact Hd.ret1 rfl b1 rfl (Ent.sep enn)
theorem kdu_it (px qb wb mb : Nat) (f : Ky → Option KnA) (m : Nat) (hm : m ≤ 1000000) (hf : OkK f) (w : WA) : RX.It Try.prog 85 [.pointer (some ⟨px, 0, none⟩)] encNA (fun ys => ys = dueK f w) (fun ys => ys <+: dueK f w)
    (KqM px qb wb mb f m w []) (KqM px qb wb mb f m w []) := by
  intro l J X hy
  refine Ct.of (vs := [.func (.yield l) #[] #[], .pointer (some ⟨px, 0, none⟩)]) Try.func85 rfl rfl [(0, .func (.yield l) #[] #[]), (1, .pointer (some ⟨px, 0, none⟩))] ⟨rfl, rfl, trivial⟩ ?_
  intro E
  show Hd E 28 _ _ _ _
  refine Hd.heap (KqM px qb wb mb f m w (J [])) (fun k h => by have := sep_app h; exact this) ?_
  refine Hd.wokK pkk (fun hw => ?_)
  refine Hd.seq (fun K1 hK1 => ?_)
  refine Hd.region ?_
  first | (refine Hd.yv (y_load1 ag52 rfl (Rd.pt1 pkk (by (first | rfl)))) ?_) | (refine Hd.yv (y_load1 ag52 rfl (Rd.seg1 pkk (by (first | rfl)))) ?_) | (refine Hd.yv (y_loadR1 ag52 rfl (by (first | exact RdS.own pkk)) (by (first | rfl))) ?_)
  refine Hd.callE rfl fk59 (kkeys_ct _ qb wb mb f m hm w) (Ent.sep enn) ?_
  rintro ⟨ka, kc, ks⟩
  dsimp only
  refine Hd.pure (fun hA => ?_)
  obtain rfl := hA.eq hw hf
  clear hA
  have hkl := allK_len f w
  refine Hd.yv (y_len Try.underlying118 rfl) ?_
  refine Hd.yv (y_move rfl) ?_
  refine Hd.nil ?_
  refine Hd.slots [(0, _), (1, _), (8, _), (9, _), (10, _)] ⟨rfl, rfl, rfl, rfl, rfl, trivial⟩ ?_
  refine Hd.toK hK1 ?_
  refine Hd.block ?_
  refine Hd.loopK (ι := Nat) [(0, _), (1, _), (8, _), (9, _)] (fun i => [(10, .int .i64 (i : Int))]) (fun i => pu (i ≤ (allK f w).length) :: OwK ka (allK f w).length kc (allK f w) :: KqM px qb wb mb f m w (J (dueT f w ((allK f w).take i)))) (fun i => (allK f w).length - i) 0 (by repeat (first | exact trivial | refine ⟨rfl, ?_⟩)) (by repeat (first | exact trivial | refine ⟨rfl, ?_⟩)) (Ent.sep (.pure (by first | omega | (simp; done) | (simp; omega) | exact ⟨by simp, by simp⟩) enn)) ?_
  intro i
  try dsimp only
  refine Hd.pure (fun hp0 => ?_)
  try dsimp only at hp0
  refine Hd.seq (fun K2 hK2 => ?_)
  refine Hd.region ?_
  refine Hd.yv (y_lss rfl rfl) ?_
  refine Hd.nil ?_
  refine Hd.slots [(0, _), (1, _), (8, _), (9, _), (10, _), (11, _)] ⟨rfl, rfl, rfl, rfl, rfl, rfl, trivial⟩ ?_
  refine Hd.toK hK2 ?_
  refine Hd.seq (fun K3 hK3 => ?_)
  refine Hd.cond rfl (fun hc0 => ?_) (fun hc0 => ?_)
  ·
    try simp only [decide_eq_true_eq, decide_eq_false_iff_not, Bool.and_eq_true, Bool.or_eq_true, Bool.and_eq_false_iff, Bool.or_eq_false_iff, Bool.not_eq_true', Bool.not_eq_false', Bool.not_eq_true, Bool.not_eq_false, Int.not_lt, Int.not_le, Decidable.not_not, ne_eq] at hc0
    have hi : i < (allK f w).length := by omega
    have hgi : (allK f w)[i]? = some (allK f w)[i] := List.getElem?_eq_getElem hi
    have hsc := dueT_succ f w hi
    have hpr := dueT_pre f w (allK f w) (i + 1)
    obtain ⟨a, ha⟩ : ∃ a, a = (allK f w)[i] := ⟨_, rfl⟩
    rw [← ha] at hgi hsc
    refine Hd.skip ?_
    refine Hd.toK hK3 ?_
    refine Hd.seq (fun K4 hK4 => ?_)
    refine Hd.block ?_
    refine Hd.seq (fun K5 hK5 => ?_)
    refine Hd.region ?_
    first | (refine Hd.yv (y_idxS Try.underlying118 sz121 rfl rfl (by first | omega | decide)) ?_) | (refine Hd.yv (y_idxR Try.underlying118 sz121 rfl rfl (by first | omega | decide) (by (first | exact RdS.own pkk))) ?_)
    refine Hd.yv (y_loadRn (vs := encKy a) ag121 rfl (RdS.own (ad := ka) (us := (allK f w).flatMap encKy) pkk) (flat_cells encKy 2 (fun _ => rfl) hgi) (by exact sz121) (by simp)) ?_
    refine Hd.alloc zr121 (fun b4 => ?_)
    refine Hd.storeA (us := encKy a) sz121 rfl rfl rfl (encKy_one _) pkk (by exact rfl) ?_
    refine Hd.nil ?_
    refine Hd.slots [(0, _), (1, _), (4, _), (8, _), (9, _), (10, _)] ⟨rfl, rfl, rfl, rfl, rfl, rfl, trivial⟩ ?_
    refine Hd.toK hK5 ?_
    refine Hd.seq (fun K6 hK6 => ?_)
    refine Hd.region ?_
    first | (refine Hd.yv (y_load1 ag52 rfl (Rd.pt1 pkk (by (first | rfl)))) ?_) | (refine Hd.yv (y_load1 ag52 rfl (Rd.seg1 pkk (by (first | rfl)))) ?_) | (refine Hd.yv (y_loadR1 ag52 rfl (by (first | exact RdS.own pkk)) (by (first | rfl))) ?_)
    first | (refine Hd.yv (y_loadn (us := [_, _]) ag121 rfl (Rd.pt pkk (by (first | (intro j v e; rcases j with _|_|_|_|_|_|_|_|_|_|_|_|j <;> first | exact e | exact absurd e (by simp))))) (by exact sz121)) ?_) | (refine Hd.yv (y_loadn (us := [_, _]) ag121 rfl (Rd.seg pkk (by (first | (intro j v e; rcases j with _|_|_|_|_|_|_|_|_|_|_|_|j <;> first | exact e | exact absurd e (by simp))))) (by exact sz121)) ?_) | (refine Hd.yv (y_loadRn ag121 rfl (by (first | exact RdS.own pkk)) (by (first | (intro j v e; rcases j with _|_|_|_|_|_|_|_|_|_|_|_|j <;> first | exact e | exact absurd e (by simp)))) (by exact sz121) (by simp)) ?_)
    refine Hd.callE rfl fk86 (ktold_ct _ qb wb mb f m w a) (Ent.sep enn) ?_
    intro _
    refine Hd.yv (y_move rfl) ?_
    refine Hd.yv (y_extract rfl rfl) ?_
    refine Hd.yv (y_extract rfl rfl) ?_
    refine Hd.alloc zr57 (fun b5 => ?_)
    refine Hd.storeA (us := encNo (toldK f w a).1) sz57 rfl rfl rfl (encNo_one _) pkk (by exact rfl) ?_
    refine Hd.yv (y_assign rfl) ?_
    refine Hd.nil ?_
    refine Hd.slots [(0, _), (1, _), (5, _), (6, _), (8, _), (9, _), (10, _)] ⟨rfl, rfl, rfl, rfl, rfl, rfl, rfl, trivial⟩ ?_
    refine Hd.toK hK6 ?_
    refine Hd.seq (fun K7 hK7 => ?_)
    refine Hd.region ?_
    refine Hd.yv (y_move rfl) ?_
    refine Hd.yv (y_move rfl) ?_
    refine Hd.part (gd := 21) rfl (fun hg4_21 => ?_) (fun hg4_21 => ?_)
    ·
      try simp only [decide_eq_true_eq, decide_eq_false_iff_not, Bool.and_eq_true, Bool.or_eq_true, Bool.and_eq_false_iff, Bool.or_eq_false_iff, Bool.not_eq_true', Bool.not_eq_false', Bool.not_eq_true, Bool.not_eq_false, Int.not_lt, Int.not_le, Decidable.not_not, ne_eq] at hg4_21
      have hb : (toldK f w a).2 = true := hg4_21
      rw [if_pos hb] at hsc
      rw [hsc] at hpr
      refine Hd.yg rfl rfl (y_move rfl) ?_
      first | (refine Hd.yg rfl rfl (y_loadn (us := [_, _, _, _]) ag57 rfl (Rd.pt pkk (by (first | (intro j v e; rcases j with _|_|_|_|_|_|_|_|_|_|_|_|j <;> first | exact e | exact absurd e (by simp))))) (by exact sz57)) ?_) | (refine Hd.yg rfl rfl (y_loadn (us := [_, _, _, _]) ag57 rfl (Rd.seg pkk (by (first | (intro j v e; rcases j with _|_|_|_|_|_|_|_|_|_|_|_|j <;> first | exact e | exact absurd e (by simp))))) (by exact sz57)) ?_) | (refine Hd.yg rfl rfl (y_loadRn ag57 rfl (by (first | exact RdS.own pkk)) (by (first | (intro j v e; rcases j with _|_|_|_|_|_|_|_|_|_|_|_|j <;> first | exact e | exact absurd e (by simp)))) (by exact sz57) (by simp)) ?_)
      refine Hd.unguard rfl rfl ?_
      refine Hd.yield (pre := dueT f w ((allK f w).take i)) (c := (toldK f w a).1) (M := pt b4 (encKy a) 121 :: OwK ka (allK f w).length kc (allK f w) :: KqM px qb wb mb f m w []) hy rfl rfl hpr (fun k' h => sep_app (show sep ((pt b4 (encKy a) 121 :: OwK ka (allK f w).length kc (allK f w) :: KqM px qb wb mb f m w []) ++ J (dueT f w ((allK f w).take i))) k' from Ent.sep enn k' h)) ?_
      intro yb
      refine Hd.yg rfl rfl (y_not rfl) ?_
      first | (refine Hd.yv (y_pickT rfl rfl) ?_) | (refine Hd.yv (y_pickF rfl rfl) ?_) | (refine Hd.yv (y_pickb rfl rfl rfl) ?_) | (refine Hd.yv (y_pick rfl rfl rfl) ?_)
      refine Hd.nil ?_
      refine Hd.slots [(0, _), (1, _), (8, _), (9, _), (10, _), (26, _)] ⟨rfl, rfl, rfl, rfl, rfl, rfl, trivial⟩ ?_
      refine Hd.toK hK7 ?_
      refine Hd.cond rfl (fun hc1 => ?_) (fun hc1 => ?_)
      ·
        try simp only [decide_eq_true_eq, decide_eq_false_iff_not, Bool.and_eq_true, Bool.or_eq_true, Bool.and_eq_false_iff, Bool.or_eq_false_iff, Bool.not_eq_true', Bool.not_eq_false', Bool.not_eq_true, Bool.not_eq_false, Int.not_lt, Int.not_le, Decidable.not_not, ne_eq] at hc1
        subst hc1
        simp only [cond_false]
        refine Hd.ret ?_
        refine Hd.inBret ?_
        refine Hd.thenRet ?_
        refine Hd.thenRet ?_
        refine Hd.inBret ?_
        clear hK1 hK2 hK3 hK4 hK5 hK6 hK7
        exact Hd.ret0 rfl (dueT f w ((allK f w).take i) ++ [(toldK f w a).1], false) rfl (fun k' h => Ent.sep (.pure hpr .same) k' (sep_right (fun k s => Ent.sep (show Ent (pt b4 (encKy a) 121 :: OwK ka (allK f w).length kc (allK f w) :: KqM px qb wb mb f m w []) (KqM px qb wb mb f m w []) from .skip (.skip .same)) k s) h))
      ·
        try simp only [decide_eq_true_eq, decide_eq_false_iff_not, Bool.and_eq_true, Bool.or_eq_true, Bool.and_eq_false_iff, Bool.or_eq_false_iff, Bool.not_eq_true', Bool.not_eq_false', Bool.not_eq_true, Bool.not_eq_false, Int.not_lt, Int.not_le, Decidable.not_not, ne_eq] at hc1
        subst hc1
        simp only [cond_true]
        refine Hd.heap (pt b4 (encKy a) 121 :: OwK ka (allK f w).length kc (allK f w) :: KqM px qb wb mb f m w (J (dueT f w ((allK f w).take i) ++ [(toldK f w a).1]))) (fun k' h => sep_app h) ?_
        rw [← hsc]
        refine Hd.skip ?_
        refine Hd.inB ?_
        refine Hd.toK hK4 ?_
        refine Hd.region ?_
        first | (refine Hd.yv (y_addn rfl rfl (by simp only [InK]; omega)) ?_) | (refine Hd.yv (y_add rfl rfl) ?_)
        refine Hd.yv (y_move rfl) ?_
        refine Hd.nil ?_
        refine Hd.slots [(0, _), (1, _), (8, _), (9, _), (10, _)] ⟨rfl, rfl, rfl, rfl, rfl, trivial⟩ ?_
        clear hK1 hK2 hK3 hK4 hK5 hK6 hK7
        refine Hd.thenN ?_
        exact Hd.again (i + 1) (by first | omega | (simp only; omega) | (simp; omega)) (by repeat (first | exact trivial | refine ⟨rfl, ?_⟩)) (Ent.sep (.pure (by first | omega | (simp; done) | (simp; omega) | (dsimp only; omega)) enn))
    ·
      try simp only [decide_eq_true_eq, decide_eq_false_iff_not, Bool.and_eq_true, Bool.or_eq_true, Bool.and_eq_false_iff, Bool.or_eq_false_iff, Bool.not_eq_true', Bool.not_eq_false', Bool.not_eq_true, Bool.not_eq_false, Int.not_lt, Int.not_le, Decidable.not_not, ne_eq] at hg4_21
      have hb : ¬ ((toldK f w a).2 = true) := by rw [hg4_21]; decide
      rw [if_neg hb, List.append_nil] at hsc
      refine Hd.ng rfl rfl rfl ?_
      refine Hd.ng rfl rfl rfl ?_
      refine Hd.ng rfl rfl rfl ?_
      refine Hd.ng rfl rfl rfl ?_
      first | (refine Hd.yv (y_pickT rfl rfl) ?_) | (refine Hd.yv (y_pickF rfl rfl) ?_) | (refine Hd.yv (y_pickb rfl rfl rfl) ?_) | (refine Hd.yv (y_pick rfl rfl rfl) ?_)
      refine Hd.nil ?_
      refine Hd.slots [(0, _), (1, _), (8, _), (9, _), (10, _), (26, _)] ⟨rfl, rfl, rfl, rfl, rfl, rfl, trivial⟩ ?_
      refine Hd.toK hK7 ?_
      refine Hd.condF rfl ?_
      refine Hd.skip ?_
      refine Hd.inB ?_
      refine Hd.toK hK4 ?_
      refine Hd.region ?_
      first | (refine Hd.yv (y_addn rfl rfl (by simp only [InK]; omega)) ?_) | (refine Hd.yv (y_add rfl rfl) ?_)
      refine Hd.yv (y_move rfl) ?_
      refine Hd.nil ?_
      refine Hd.slots [(0, _), (1, _), (8, _), (9, _), (10, _)] ⟨rfl, rfl, rfl, rfl, rfl, trivial⟩ ?_
      clear hK1 hK2 hK3 hK4 hK5 hK6 hK7
      refine Hd.thenN ?_
      rw [← hsc]
      exact Hd.again (i + 1) (by first | omega | (simp only; omega) | (simp; omega)) (by repeat (first | exact trivial | refine ⟨rfl, ?_⟩)) (Ent.sep (.pure (by first | omega | (simp; done) | (simp; omega) | (dsimp only; omega)) enn))
  ·
    try simp only [decide_eq_true_eq, decide_eq_false_iff_not, Bool.and_eq_true, Bool.or_eq_true, Bool.and_eq_false_iff, Bool.or_eq_false_iff, Bool.not_eq_true', Bool.not_eq_false', Bool.not_eq_true, Bool.not_eq_false, Int.not_lt, Int.not_le, Decidable.not_not, ne_eq] at hc0
    refine Hd.exit ?_
    refine Hd.thenExit ?_
    refine Hd.thenExit ?_
    refine Hd.inBexit ?_
    clear hK1 hK2 hK3
    obtain rfl : i = (allK f w).length := by omega
    rw [List.take_length]
    exact Hd.end0 rfl (dueK f w, true) rfl (fun k' h => Ent.sep (.pure rfl .same) k' (sep_app (M := KqM px qb wb mb f m w []) (N := J (dueK f w)) (Ent.sep enn k' h)))
end Kq
end Go.Proofs.Ytbfddabjbkohdaa
namespace Go.Proofs.Ytbfddabjbkohdaa
set_option linter.unusedSimpArgs false
set_option linter.unusedVariables false
set_option linter.unnecessarySimpa false
open Go.RX Fx
namespace Kq
open Wo
set_option maxRecDepth 8000
abbrev vi (l : List Int) : List Value := l.map fun v => Value.int .i64 v
set_option maxHeartbeats 2000000 in
theorem kdue_ct (L : List SP) (qb wb mb : Nat) (f : Ky → Option KnA) (m : Nat) (hm : m ≤ 1000000) (hf : OkK f) (w : WA) : Ct Try.prog 26 #[.pointer (some ⟨qb, 0, none⟩)] (KqB qb wb mb f m w L) (fun _ : Unit => .bool (!(dueK f w).isEmpty)) (fun _ : Unit => KqB qb wb mb f m w L) := by
  refine Ct.ofM (vs := [.pointer (some ⟨qb, 0, none⟩)]) Try.func26 rfl rfl [(0, .pointer (some ⟨qb, 0, none⟩))] (by repeat (first | exact trivial | refine ⟨rfl, ?_⟩)) ?_
  intro E
  show Hd E 8 _ _ _ _
  refine Hd.seq (fun K1 hK1 => ?_)
  refine Hd.region ?_
  refine Hd.alloc zr4 (fun b2 => ?_)
  refine Hd.nil ?_
  refine Hd.slots [(0, _), (2, _)] ⟨rfl, rfl, trivial⟩ ?_
  refine Hd.toK hK1 ?_
  refine Hd.seq (fun K2 hK2 => ?_)
  refine Hd.seq (fun K3 hK3 => ?_)
  refine Hd.region ?_
  refine Hd.yv (y_move rfl) ?_
  refine Hd.callE rfl fk57 (knone_ct _ qb wb mb) (Ent.sep enn) ?_
  intro _
  refine Hd.nil ?_
  refine Hd.slots [(0, _), (2, _), (4, _)] ⟨rfl, rfl, rfl, trivial⟩ ?_
  refine Hd.toK hK3 ?_
  refine Hd.condF rfl ?_
  refine Hd.skip ?_
  refine Hd.toK hK2 ?_
  refine Hd.seq (fun K4 hK4 => ?_)
  refine Hd.seq (fun K5 hK5 => ?_)
  refine Hd.region ?_
  refine Hd.yv (y_move rfl) ?_
  refine Hd.callE rfl fk58 (kdu_ct _ qb) (Ent.sep enn) ?_
  intro px
  refine Hd.nil ?_
  refine Hd.slots [(2, _), (6, _)] ⟨rfl, rfl, trivial⟩ ?_
  refine Hd.toK hK5 ?_
  refine Hd.block ?_
  refine Hd.rangeF (enc := encNA) (S := fun ys => ys = dueK f w) (Sp := fun ys => ys <+: dueK f w)
    (fun pre => pu (pre = []) :: pt b2 [.bool false] 4 :: L) (fun j _ => [pu (j = none ∧ dueK f w ≠ []), pt b2 [.bool true] 4] ++ L)
    rfl (by kernel_rfl) (fun _ => rfl) rfl (kdu_it px qb wb mb f m hm hf w) (by refine Ent.sep ?_; refine Ent.pure rfl ?_; refine Ent.pick pkk ?_; exact Ent.swap (L := [_, _, _, _])) ?_ ?_ ?_
  ·
    intro E l' R pre p N hR hG
    unfold Rnd
    simp only [List.cons_append, List.nil_append, pz, encNA]
    refine Hd.skip ?_
    refine Hd.thenN ?_
    refine Hd.begin hR pkk ?_
    refine Hd.block ?_
    refine Hd.seq (fun K6 hK6 => ?_)
    refine Hd.region ?_
    first | (refine Hd.store1 sz4 rfl rfl rfl pkk (by first | decide | (simp; done) | (simp; omega)) ?_) | (refine Hd.storeG1 sz4 rfl rfl rfl pkk (by first | decide | (simp; done) | (simp; omega)) ?_) | (refine Hd.storeO1 sz4 rfl rfl rfl pkk (by first | omega | (simp; done) | (simp; omega)) ?_)
    try simp only [List.set_cons_zero, List.set_cons_succ]
    refine Hd.nil ?_
    refine Hd.slots [(2, _)] ⟨rfl, trivial⟩ ?_
    refine Hd.toK hK6 ?_
    refine Hd.ret ?_
    refine Hd.inBret ?_
    clear hK1 hK2 hK3 hK4 hK5 hK6
    refine Hd.reR ?_
    simp only [List.cons_append, List.nil_append]
    have hne : dueK f w ≠ [] := fun e => by rw [e] at hG; have := hG.length_le; simp at this
    exact Ent.sep (.pick pkk (.pure ⟨(by first | trivial | rfl), hne⟩ enn))
  ·
    intro r0 ys hys
    obtain rfl : ys = dueK f w := hys
    simp only [List.cons_append, List.nil_append]
    refine Hd.pure (fun he => ?_)
    try simp only [List.cons_append, List.nil_append]
    refine Hd.inB ?_
    refine Hd.toK hK4 ?_
    refine Hd.seq (fun K7 hK7 => ?_)
    refine Hd.region ?_
    first | (refine Hd.store1 sz4 rfl rfl rfl pkk (by first | decide | (simp; done) | (simp; omega)) ?_) | (refine Hd.storeG1 sz4 rfl rfl rfl pkk (by first | decide | (simp; done) | (simp; omega)) ?_) | (refine Hd.storeO1 sz4 rfl rfl rfl pkk (by first | omega | (simp; done) | (simp; omega)) ?_)
    try simp only [List.set_cons_zero, List.set_cons_succ]
    refine Hd.nil ?_
    refine Hd.slots [(2, _)] ⟨rfl, trivial⟩ ?_
    refine Hd.toK hK7 ?_
    refine Hd.ret ?_
    clear hK1 hK2 hK3 hK4 hK5 hK7
    rw [he]
    exact Hd.retM (fun a fr => Lv.mark pkk (Lv.endC1 fr rfl () ag4 rfl (Rd.pt1 pkk rfl) rfl (Ent.sep enn)))
  ·
    rintro r0_0 (_ | id0) pre0 hG0
    ·
      simp only [List.cons_append, List.nil_append]
      refine Hd.pure (fun hne => ?_)
      try simp only [List.cons_append, List.nil_append]
      refine Hd.ret ?_
      refine Hd.inBret ?_
      refine Hd.thenRet ?_
      clear hK1 hK2 hK3 hK4 hK5
      have e : (dueK f w).isEmpty = false := by cases h : dueK f w with | nil => exact absurd h hne.2 | cons a t => rfl
      rw [e]
      exact Hd.retM (fun a fr => Lv.mark pkk (Lv.endC1 fr rfl () ag4 rfl (Rd.pt1 pkk rfl) rfl (Ent.sep enn)))
    ·
      exact Hd.absurd (by first | exact id | simp)
abbrev OutN (b : Nat) (l : List NoA) : SP := RX.ex fun i : Option Addr × Nat => [pt b [.slice i.1 l.length i.2] 59, own 57 4 i.1 l.length i.2 (l.flatMap encNo)]
abbrev seqK (px : Nat) : Value := .func (.func 85) #[] #[.pointer (some ⟨px, 0, none⟩)]
set_option maxHeartbeats 2000000 in
theorem appd_ct (L : List SP) (px qb wb mb : Nat) (f : Ky → Option KnA) (m : Nat) (hm : m ≤ 1000000) (hf : OkK f) (w : WA) : Ct Try.prog 93 #[.slice none 0 0, seqK px] (KqM px qb wb mb f m w L) (fun q_ : Option Addr × Nat => .slice q_.1 (dueK f w).length q_.2) (fun q_ : Option Addr × Nat => own 57 4 q_.1 (dueK f w).length q_.2 ((dueK f w).flatMap encNo) :: KqM px qb wb mb f m w L) := by
  refine Ct.ofM (vs := [.slice none 0 0, seqK px]) Try.func93 rfl rfl [(0, .slice none 0 0), (1, seqK px)] (by repeat (first | exact trivial | refine ⟨rfl, ?_⟩)) ?_
  intro E
  show Hd E 13 _ _ _ _
  refine Hd.seq (fun K1 hK1 => ?_)
  refine Hd.region ?_
  refine Hd.box rfl rfl (fun b2 => ?_)
  refine Hd.yv (y_assign rfl) ?_
  refine Hd.nil ?_
  refine Hd.slots [(1, _), (2, _)] ⟨rfl, rfl, trivial⟩ ?_
  refine Hd.toK hK1 ?_
  refine Hd.seq (fun K2 hK2 => ?_)
  refine Hd.seq (fun K3 hK3 => ?_)
  refine Hd.region ?_
  refine Hd.yv (y_move rfl) ?_
  refine Hd.nil ?_
  refine Hd.slots [(2, _), (6, _)] ⟨rfl, rfl, trivial⟩ ?_
  refine Hd.toK hK3 ?_
  refine Hd.block ?_
  refine Hd.rangeF (enc := encNA) (S := fun ys => ys = dueK f w) (Sp := fun ys => ys <+: dueK f w)
    (fun pre => OutN b2 pre :: L) (fun _ _ => [pu False])
    rfl (by kernel_rfl) (fun _ => rfl) rfl (kdu_it px qb wb mb f m hm hf w) (by refine Ent.sep ?_; refine Ent.ex (none, 0) ?_; refine Ent.eq pkk (pt_eq (by rfl)) ?_; refine Ent.ownNil ?_; exact Ent.swap (L := [_, _, _, _])) ?_ ?_ ?_
  ·
    intro E l' R pre c N hR hG
    have hdl := dueK_len f w
    have hpl : pre.length + 1 ≤ 1000000 := by have h1 := hG.length_le; simp at h1; omega
    unfold Rnd
    simp only [List.cons_append, List.nil_append, pz, encNA]
    refine Hd.region ?_
    refine Hd.alloc zr57 (fun b5 => ?_)
    refine Hd.storeA (us := encNo c) sz57 rfl rfl rfl (encNo_one _) pkk (by exact rfl) ?_
    refine Hd.nil ?_
    refine Hd.slots [(2, _), (5, _)] ⟨rfl, rfl, trivial⟩ ?_
    refine Hd.thenN ?_
    refine Hd.begin hR pkk ?_
    refine Hd.block ?_
    refine Hd.exs pkk ?_
    rintro ⟨a3, c3⟩
    simp only [List.cons_append, List.nil_append]
    refine Hd.region ?_
    first | (refine Hd.yv (y_load1 ag59 rfl (Rd.pt1 pkk (by (first | rfl)))) ?_) | (refine Hd.yv (y_load1 ag59 rfl (Rd.seg1 pkk (by (first | rfl)))) ?_) | (refine Hd.yv (y_loadR1 ag59 rfl (by (first | exact RdS.own pkk)) (by (first | rfl))) ?_)
    refine Hd.yv (y_loadn (us := encNo c) ag57 rfl (Rd.pt pkk (fun j v e => by rw [Nat.zero_add]; exact e)) (by exact sz57)) ?_
    refine Hd.bslice (vs := [(0, _)]) rfl (by first | exact bs93_10 .. | kernel_rfl) (fun b10 => ?_)
    refine Hd.append Try.underlying59 ty57 rfl rfl rfl pkk (by first | exact RdS.rd (Rd.pt pkk (fun j v e => by simpa using e)) rfl | (first | exact RdS.own pkk)) (by first | (simp [Value.oneCell']; done) | assumption) (by first | (simp only [maxLen]; omega) | assumption) (by omega) (fun ad11 cap11 => ?_)
    first | (refine Hd.store1 sz59 rfl rfl rfl pkk (by first | decide | (simp; done) | (simp; omega)) ?_) | (refine Hd.storeG1 sz59 rfl rfl rfl pkk (by first | decide | (simp; done) | (simp; omega)) ?_) | (refine Hd.storeO1 sz59 rfl rfl rfl pkk (by first | omega | (simp; done) | (simp; omega)) ?_)
    try simp only [List.set_cons_zero, List.set_cons_succ]
    refine Hd.nil ?_
    refine Hd.slots [(2, _)] ⟨rfl, trivial⟩ ?_
    refine Hd.inB ?_
    clear hK1 hK2 hK3
    refine Hd.reN ?_
    simp only [List.cons_append, List.nil_append]
    exact Ent.sep (.pick pkk (.ex (ad11, cap11) (.eq pkk (pt_eq (by simp)) (.eq pkk (own_eq (by simp) (by simp)) enn))))
  ·
    intro r0 ys hys
    obtain rfl : ys = dueK f w := hys
    try simp only [List.cons_append, List.nil_append]
    refine Hd.inB ?_
    refine Hd.toK hK2 ?_
    refine Hd.seq (fun K4 hK4 => ?_)
    refine Hd.exs pkk ?_
    rintro ⟨a3, c3⟩
    simp only [List.cons_append, List.nil_append]
    refine Hd.region ?_
    first | (refine Hd.yv (y_load1 ag59 rfl (Rd.pt1 pkk (by (first | rfl)))) ?_) | (refine Hd.yv (y_load1 ag59 rfl (Rd.seg1 pkk (by (first | rfl)))) ?_) | (refine Hd.yv (y_loadR1 ag59 rfl (by (first | exact RdS.own pkk)) (by (first | rfl))) ?_)
    refine Hd.yv (y_assign rfl) ?_
    refine Hd.nil ?_
    refine Hd.slots [(4, _)] ⟨rfl, trivial⟩ ?_
    refine Hd.toK hK4 ?_
    refine Hd.ret ?_
    clear hK1 hK2 hK3 hK4
    exact Hd.retM (fun a fr => Lv.mark pkk (Lv.end1 fr rfl (a3, c3) rfl (Ent.sep enn)))
  ·
    rintro r0_0 (_ | id0) pre0 hG0
    ·
      exact Hd.absurd (by first | exact id | simp)
    ·
      exact Hd.absurd (by first | exact id | simp)
set_option maxHeartbeats 2000000 in
theorem colld_ct (L : List SP) (px qb wb mb : Nat) (f : Ky → Option KnA) (m : Nat) (hm : m ≤ 1000000) (hf : OkK f) (w : WA) : Ct Try.prog 61 #[seqK px] (KqM px qb wb mb f m w L) (fun q_ : Option Addr × Nat => .slice q_.1 (dueK f w).length q_.2) (fun q_ : Option Addr × Nat => own 57 4 q_.1 (dueK f w).length q_.2 ((dueK f w).flatMap encNo) :: KqM px qb wb mb f m w L) := by
  refine Ct.of (vs := [seqK px]) Try.func61 rfl rfl [(0, seqK px)] (by repeat (first | exact trivial | refine ⟨rfl, ?_⟩)) ?_
  intro E
  show Hd E 5 _ _ _ _
  refine Hd.seq (fun K1 hK1 => ?_)
  refine Hd.region ?_
  refine Hd.yv (y_assign rfl) ?_
  refine Hd.nil ?_
  refine Hd.slots [(0, _)] ⟨rfl, trivial⟩ ?_
  refine Hd.toK hK1 ?_
  refine Hd.seq (fun K2 hK2 => ?_)
  refine Hd.region ?_
  refine Hd.yv (y_move rfl) ?_
  refine Hd.callE rfl fk93 (appd_ct L px qb wb mb f m hm hf w) (Ent.sep enn) ?_
  rintro ⟨a2, c2⟩
  dsimp only
  refine Hd.yv (y_assign rfl) ?_
  refine Hd.nil ?_
  refine Hd.slots [(2, _)] ⟨rfl, trivial⟩ ?_
  refine Hd.toK hK2 ?_
  refine Hd.ret ?_
  clear hK1 hK2
  exact Hd.ret1 rfl (a2, c2) rfl (Ent.sep enn)
def offX (w : WA) (y : KnA) (k : Ky) : KnA := { y with armed := false, seen := riseK k.2 (readyR w k.1) }
def off1 (w : WA) (f : Ky → Option KnA) (x : NoA) : Ky → Option KnA :=
  if bits .and .i64 (oldK f x).flags 32 ≠ 0 then updK (updK f (x.1, x.2.1) (some (offX w (oldK f x) (x.1, x.2.1)))) (x.1, x.2.1) none else updK f (x.1, x.2.1) (some (offX w (oldK f x) (x.1, x.2.1)))
def offK (w : WA) (f : Ky → Option KnA) : List NoA → (Ky → Option KnA)
  | [] => f
  | x :: t => offK w (off1 w f x) t
theorem offK_app (w : WA) (x : NoA) : ∀ (l : List NoA) (f : Ky → Option KnA), offK w f (l ++ [x]) = off1 w (offK w f l) x
  | [], _ => rfl
  | y :: t, f => offK_app w x t _
def polK (f : Ky → Option KnA) (w : WA) (most : Int) (ord : List Int) : List NoA := (Sh.shufTo ord (dueK f w) (dueK f w).length).take most.toNat
theorem polK_len (f : Ky → Option KnA) (w : WA) (most : Int) (ord : List Int) : (polK f w most ord).length = min most.toNat (dueK f w).length := by unfold polK; rw [List.length_take, Sh.shuf_len]
set_option maxHeartbeats 2000000 in
theorem kpollbad_ct (L : List SP) (qb wb mb : Nat) (most : Int) (h1 : most < 1) (v : Value) : Ct Try.prog 29 #[.pointer (some ⟨qb, 0, none⟩), .int .i64 most, v] (KqH qb wb mb :: L) (fun _ : Unit => .tuple #[.slice none 0 0, .int .i64 2]) (fun _ : Unit => KqH qb wb mb :: L) := by
  refine Ct.of (vs := [.pointer (some ⟨qb, 0, none⟩), .int .i64 most, v]) Try.func29 rfl rfl [(0, .pointer (some ⟨qb, 0, none⟩)), (1, .int .i64 most), (2, v)] (by repeat (first | exact trivial | refine ⟨rfl, ?_⟩)) ?_
  intro E
  show Hd E 76 _ _ _ _
  refine Hd.seq (fun K1 hK1 => ?_)
  refine Hd.region ?_
  refine Hd.yv (y_assign rfl) ?_
  refine Hd.yv (y_assign rfl) ?_
  refine Hd.nil ?_
  refine Hd.slots [(0, _), (1, _), (2, _)] ⟨rfl, rfl, rfl, trivial⟩ ?_
  refine Hd.toK hK1 ?_
  refine Hd.seq (fun K2 hK2 => ?_)
  refine Hd.block ?_
  refine Hd.seq (fun K3 hK3 => ?_)
  refine Hd.region ?_
  refine Hd.yv (y_move rfl) ?_
  refine Hd.callE rfl fk57 (knone_ct _ qb wb mb) (Ent.sep enn) ?_
  intro _
  refine Hd.yv (y_assign rfl) ?_
  refine Hd.nil ?_
  refine Hd.slots [(0, _), (1, _), (2, _), (13, _)] ⟨rfl, rfl, rfl, rfl, trivial⟩ ?_
  refine Hd.toK hK3 ?_
  refine Hd.condF rfl ?_
  refine Hd.seq (fun K4 hK4 => ?_)
  refine Hd.region ?_
  refine Hd.yv (y_move rfl) ?_
  refine Hd.yv (y_lss rfl rfl) ?_
  refine Hd.yv (y_assign rfl) ?_
  refine Hd.nil ?_
  refine Hd.slots [(0, _), (1, _), (2, _), (16, _)] ⟨rfl, rfl, rfl, rfl, trivial⟩ ?_
  refine Hd.toK hK4 ?_
  refine Hd.cond rfl (fun hc1 => ?_) (fun hc1 => ?_)
  ·
    try simp only [decide_eq_true_eq, decide_eq_false_iff_not, Bool.and_eq_true, Bool.or_eq_true, Bool.and_eq_false_iff, Bool.or_eq_false_iff, Bool.not_eq_true', Bool.not_eq_false', Bool.not_eq_true, Bool.not_eq_false, Int.not_lt, Int.not_le, Decidable.not_not, ne_eq] at hc1
    refine Hd.seq (fun K5 hK5 => ?_)
    refine Hd.region ?_
    refine Hd.yv (y_assign rfl) ?_
    refine Hd.yv (y_assign rfl) ?_
    refine Hd.nil ?_
    refine Hd.slots [(6, _), (7, _)] ⟨rfl, rfl, trivial⟩ ?_
    refine Hd.toK hK5 ?_
    refine Hd.ret ?_
    refine Hd.inBret ?_
    refine Hd.thenRet ?_
    clear hK1 hK2 hK3 hK4 hK5
    exact Hd.ret2 rfl () rfl rfl rfl (Ent.sep enn)
  ·
    try simp only [decide_eq_true_eq, decide_eq_false_iff_not, Bool.and_eq_true, Bool.or_eq_true, Bool.and_eq_false_iff, Bool.or_eq_false_iff, Bool.not_eq_true', Bool.not_eq_false', Bool.not_eq_true, Bool.not_eq_false, Int.not_lt, Int.not_le, Decidable.not_not, ne_eq] at hc1
    omega
set_option maxHeartbeats 2000000 in
theorem kpoll_ct (L : List SP) (qb wb mb : Nat) (f : Ky → Option KnA) (m : Nat) (hm : m ≤ 1000000) (hf : OkK f) (w : WA) (most : Int) (h1 : 1 ≤ most) (ao : Option Addr) (co : Nat) (ord : List Int) (ho : RdS L 1 ao ord.length (vi ord)) (hol : ord.length ≤ 1000000) : Ct Try.prog 29 #[.pointer (some ⟨qb, 0, none⟩), .int .i64 most, .slice ao ord.length co] (KqB qb wb mb f m w L) (fun q_ : Option Addr × Nat × Nat => .tuple #[.slice q_.1 (polK f w most ord).length q_.2.1, .int .i64 0]) (fun q_ : Option Addr × Nat × Nat => pu (q_.2.2 ≤ m + (polK f w most ord).length) :: own 57 4 q_.1 (polK f w most ord).length q_.2.1 ((polK f w most ord).flatMap encNo) :: KqB qb wb mb (offK w f (polK f w most ord)) q_.2.2 w L) := by
  refine Ct.of (vs := [.pointer (some ⟨qb, 0, none⟩), .int .i64 most, .slice ao ord.length co]) Try.func29 rfl rfl [(0, .pointer (some ⟨qb, 0, none⟩)), (1, .int .i64 most), (2, .slice ao ord.length co)] (by repeat (first | exact trivial | refine ⟨rfl, ?_⟩)) ?_
  intro E
  show Hd E 76 _ _ _ _
  have hdl := dueK_len f w
  refine Hd.seq (fun K1 hK1 => ?_)
  refine Hd.region ?_
  refine Hd.yv (y_assign rfl) ?_
  refine Hd.yv (y_assign rfl) ?_
  refine Hd.nil ?_
  refine Hd.slots [(0, _), (1, _), (2, _)] ⟨rfl, rfl, rfl, trivial⟩ ?_
  refine Hd.toK hK1 ?_
  refine Hd.seq (fun K2 hK2 => ?_)
  refine Hd.block ?_
  refine Hd.seq (fun K3 hK3 => ?_)
  refine Hd.region ?_
  refine Hd.yv (y_move rfl) ?_
  refine Hd.callE rfl fk57 (knone_ct _ qb wb mb) (Ent.sep enn) ?_
  intro _
  refine Hd.yv (y_assign rfl) ?_
  refine Hd.nil ?_
  refine Hd.slots [(0, _), (1, _), (2, _), (13, _)] ⟨rfl, rfl, rfl, rfl, trivial⟩ ?_
  refine Hd.toK hK3 ?_
  refine Hd.condF rfl ?_
  refine Hd.seq (fun K4 hK4 => ?_)
  refine Hd.region ?_
  refine Hd.yv (y_move rfl) ?_
  refine Hd.yv (y_lss rfl rfl) ?_
  refine Hd.yv (y_assign rfl) ?_
  refine Hd.nil ?_
  refine Hd.slots [(0, _), (1, _), (2, _), (16, _)] ⟨rfl, rfl, rfl, rfl, trivial⟩ ?_
  refine Hd.toK hK4 ?_
  refine Hd.cond rfl (fun hc1 => ?_) (fun hc1 => ?_)
  ·
    try simp only [decide_eq_true_eq, decide_eq_false_iff_not, Bool.and_eq_true, Bool.or_eq_true, Bool.and_eq_false_iff, Bool.or_eq_false_iff, Bool.not_eq_true', Bool.not_eq_false', Bool.not_eq_true, Bool.not_eq_false, Int.not_lt, Int.not_le, Decidable.not_not, ne_eq] at hc1
    omega
  ·
    try simp only [decide_eq_true_eq, decide_eq_false_iff_not, Bool.and_eq_true, Bool.or_eq_true, Bool.and_eq_false_iff, Bool.or_eq_false_iff, Bool.not_eq_true', Bool.not_eq_false', Bool.not_eq_true, Bool.not_eq_false, Int.not_lt, Int.not_le, Decidable.not_not, ne_eq] at hc1
    refine Hd.skip ?_
    refine Hd.inB ?_
    refine Hd.toK hK2 ?_
    refine Hd.seq (fun K5 hK5 => ?_)
    refine Hd.region ?_
    refine Hd.yv (y_move rfl) ?_
    refine Hd.callE rfl fk58 (kdu_ct _ qb) (Ent.sep enn) ?_
    intro px
    refine Hd.callE rfl fk61 (colld_ct L px qb wb mb f m hm hf w) (Ent.sep enn) ?_
    rintro ⟨a1, c1⟩
    dsimp only
    refine Hd.yv (y_move rfl) ?_
    refine Hd.callE rfl fk60 (Sh.shuffleN_ct _ a1 ao c1 co (dueK f w) ord ?hD ?hO (by omega) hol) (Ent.sep enn) ?_
    case hD => exact RdS.own pkk
    case hO => exact RdS.mono ho (Ent.sep enn)
    rintro ⟨a2, c2⟩
    dsimp only
    obtain ⟨s, hs⟩ : ∃ s, s = Sh.shufTo ord (dueK f w) (dueK f w).length := ⟨_, rfl⟩
    have hsl : s.length = (dueK f w).length := by rw [hs, Sh.shuf_len]
    obtain ⟨kk, hkk⟩ : ∃ k, k = min most.toNat (dueK f w).length := ⟨_, rfl⟩
    have hpo : polK f w most ord = s.take kk := by
      unfold polK
      rw [← hs, hkk, ← hsl]
      rcases Nat.le_total most.toNat s.length with h | h
      · rw [Nat.min_eq_left h]
      · rw [Nat.min_eq_right h, List.take_length, List.take_of_length_le h]
    have hpl : (polK f w most ord).length = kk := by rw [polK_len, hkk]
    rw [hpo] at hpl ⊢
    rw [hpl, ← hs]
    refine Hd.ownCap (e := 57) (ad := a2) (m := (dueK f w).length) (cap := c2) pkk (fun hcap => ?_)
    refine Hd.yv (y_assign rfl) ?_
    refine Hd.nil ?_
    refine Hd.slots [(0, _), (1, _), (8, _)] ⟨rfl, rfl, rfl, trivial⟩ ?_
    refine Hd.toK hK5 ?_
    refine Hd.seq (fun K6 hK6 => ?_)
    refine Hd.region ?_
    refine Hd.yv (y_move rfl) ?_
    refine Hd.yv (y_move rfl) ?_
    refine Hd.yv (y_move rfl) ?_
    refine Hd.yv (y_len Try.underlying59 rfl) ?_
    refine Hd.yv (y_to (v' := .int .i64 (kk : Int)) (y_min rfl rfl) (by (congr 1; omega))) ?_
    first | (refine Hd.yv (y_slo_xoxN Try.underlying59 sz57 rfl rfl (by first | omega | (simp; done) | decide)) ?_) | (refine Hd.yv (y_slo_xox Try.underlying59 sz57 rfl rfl (by first | omega | (simp; done) | decide) (by first | omega | (simp; done) | decide)) ?_)
    refine Hd.yv (y_assign rfl) ?_
    refine Hd.nil ?_
    refine Hd.slots [(0, _), (8, _)] ⟨rfl, rfl, trivial⟩ ?_
    refine Hd.toK hK6 ?_
    refine Hd.seq (fun K7 hK7 => ?_)
    refine Hd.seq (fun K8 hK8 => ?_)
    refine Hd.region ?_
    refine Hd.yv (y_move rfl) ?_
    refine Hd.yv (y_len Try.underlying59 rfl) ?_
    refine Hd.yv (y_move rfl) ?_
    refine Hd.nil ?_
    refine Hd.slots [(0, _), (8, _), (30, _), (31, _), (32, _)] ⟨rfl, rfl, rfl, rfl, rfl, trivial⟩ ?_
    refine Hd.toK hK8 ?_
    refine Hd.block ?_
    refine Hd.loopK (ι := Nat × Nat) [(0, _), (8, _), (30, _), (31, _)] (fun q_ => [(32, .int .i64 (q_.1 : Int))]) (fun q_ => pu (q_.1 ≤ kk ∧ q_.2 ≤ m + q_.1) :: own 57 4 a2 (dueK f w).length c2 (s.flatMap encNo) :: KqB qb wb mb (offK w f (s.take q_.1)) q_.2 w L) (fun q_ => kk - q_.1) (0, m) (by repeat (first | exact trivial | refine ⟨rfl, ?_⟩)) (by repeat (first | exact trivial | refine ⟨rfl, ?_⟩)) (Ent.sep (.pure ⟨Nat.zero_le _, Nat.le_refl _⟩ enn)) ?_
    rintro ⟨i, m'⟩
    try dsimp only
    refine Hd.pure (fun hp0 => ?_)
    try dsimp only at hp0
    refine Hd.seq (fun K9 hK9 => ?_)
    refine Hd.region ?_
    refine Hd.yv (y_lss rfl rfl) ?_
    refine Hd.nil ?_
    refine Hd.slots [(0, _), (8, _), (30, _), (31, _), (32, _), (33, _)] ⟨rfl, rfl, rfl, rfl, rfl, rfl, trivial⟩ ?_
    refine Hd.toK hK9 ?_
    refine Hd.seq (fun K10 hK10 => ?_)
    refine Hd.cond rfl (fun hc2 => ?_) (fun hc2 => ?_)
    ·
      try simp only [decide_eq_true_eq, decide_eq_false_iff_not, Bool.and_eq_true, Bool.or_eq_true, Bool.and_eq_false_iff, Bool.or_eq_false_iff, Bool.not_eq_true', Bool.not_eq_false', Bool.not_eq_true, Bool.not_eq_false, Int.not_lt, Int.not_le, Decidable.not_not, ne_eq] at hc2
      have hi : i < s.length := by omega
      have hgi : s[i]? = some s[i] := List.getElem?_eq_getElem hi
      have hsc : s.take (i + 1) = s.take i ++ [s[i]] := by rw [List.take_add_one, hgi]; rfl
      obtain ⟨x, hx⟩ : ∃ x, x = s[i] := ⟨_, rfl⟩
      rw [← hx] at hgi hsc
      obtain ⟨g, hg⟩ : ∃ g, g = offK w f (s.take i) := ⟨_, rfl⟩
      have hoa := offK_app w x (s.take i) f
      rw [← hsc, ← hg] at hoa
      rw [← hg]
      refine Hd.skip ?_
      refine Hd.toK hK10 ?_
      refine Hd.seq (fun K11 hK11 => ?_)
      refine Hd.block ?_
      refine Hd.seq (fun K12 hK12 => ?_)
      refine Hd.region ?_
      first | (refine Hd.yv (y_idxS Try.underlying59 sz57 rfl rfl (by first | omega | decide)) ?_) | (refine Hd.yv (y_idxR Try.underlying59 sz57 rfl rfl (by first | omega | decide) (by (first | exact RdS.own pkk | exact RdS.head (RdS.own (ad := a2) (us := s.flatMap encNo) pkk) (by omega)))) ?_)
      refine Hd.yv (y_loadRn (vs := encNo x) ag57 rfl (RdS.own (ad := a2) (us := s.flatMap encNo) pkk) (flat_cells encNo 4 (fun _ => rfl) hgi) (by exact sz57) (by simp)) ?_
      refine Hd.alloc zr57 (fun b10 => ?_)
      refine Hd.storeA (us := encNo x) sz57 rfl rfl rfl (encNo_one _) pkk (by exact rfl) ?_
      refine Hd.nil ?_
      refine Hd.slots [(0, _), (8, _), (10, _), (30, _), (31, _), (32, _)] ⟨rfl, rfl, rfl, rfl, rfl, rfl, trivial⟩ ?_
      refine Hd.toK hK12 ?_
      refine Hd.seq (fun K13 hK13 => ?_)
      refine Hd.region ?_
      first | (refine Hd.yv (y_field' (q := 0) (ft := 3) Try.underlying57 rfl sz3 rfl rfl) ?_) | (refine Hd.yv (y_fieldR (q := 0) (ft := 3) Try.underlying57 rfl sz3 rfl rfl) ?_)
      first | (refine Hd.yv (y_load1 ag3 rfl (Rd.pt1 pkk (by (first | rfl)))) ?_) | (refine Hd.yv (y_load1 ag3 rfl (Rd.seg1 pkk (by (first | rfl)))) ?_) | (refine Hd.yv (y_loadR1 ag3 rfl (by (first | exact RdS.own pkk | exact RdS.head (RdS.own (ad := a2) (us := s.flatMap encNo) pkk) (by omega))) (by (first | rfl))) ?_)
      first | (refine Hd.yv (y_field' (q := 1) (ft := 3) Try.underlying57 rfl sz3 rfl rfl) ?_) | (refine Hd.yv (y_fieldR (q := 1) (ft := 3) Try.underlying57 rfl sz3 rfl rfl) ?_)
      first | (refine Hd.yv (y_load1 ag3 rfl (Rd.pt1 pkk (by (first | rfl)))) ?_) | (refine Hd.yv (y_load1 ag3 rfl (Rd.seg1 pkk (by (first | rfl)))) ?_) | (refine Hd.yv (y_loadR1 ag3 rfl (by (first | exact RdS.own pkk | exact RdS.head (RdS.own (ad := a2) (us := s.flatMap encNo) pkk) (by omega))) (by (first | rfl))) ?_)
      refine Hd.yv (y_build (vs := [(0, _), (1, _)]) rfl (by first | exact bd29_40 .. | kernel_rfl)) ?_
      refine Hd.alloc zr121 (fun b11 => ?_)
      refine Hd.storeA (us := [.int .i64 x.1, .int .i64 x.2.1]) sz121 rfl rfl rfl (by simp [Value.oneCell']) pkk (by exact rfl) ?_
      refine Hd.nil ?_
      refine Hd.slots [(0, _), (8, _), (11, _), (30, _), (31, _), (32, _)] ⟨rfl, rfl, rfl, rfl, rfl, rfl, trivial⟩ ?_
      refine Hd.toK hK13 ?_
      refine Hd.seq (fun K14 hK14 => ?_)
      refine Hd.drawsH ([KqH qb wb mb, pt b11 [.int .i64 x.1, .int .i64 x.2.1] 121, mpP mb .i64 (kmap g) m']) (fun j => !([7].contains j)) mixed ?_
      simp only [List.length, Nat.zero_add, Nat.reduceAdd]
      refine Hd.takeH 0 rfl (by kernel_rfl) (by kernel_rfl) (by kernel_rfl) (by kernel_rfl) (y_move rfl) (fun _ _ => rfl) (Ent.sep enn) ?_
      refine Hd.takeH 1 rfl (by kernel_rfl) (by kernel_rfl) (by kernel_rfl) (by kernel_rfl) (y_nilp rfl) (fun _ _ => rfl) (Ent.sep enn) ?_
      first | (refine Hd.takeH 2 rfl (by kernel_rfl) (by kernel_rfl) (by kernel_rfl) (by kernel_rfl) (y_field' (q := 1) (ft := 67) Try.underlying69 rfl sz67 rfl rfl) (fun _ _ => rfl) (Ent.sep enn) ?_) | (refine Hd.takeH 2 rfl (by kernel_rfl) (by kernel_rfl) (by kernel_rfl) (by kernel_rfl) (y_fieldR (q := 1) (ft := 67) Try.underlying69 rfl sz67 rfl rfl) (fun _ _ => rfl) (Ent.sep enn) ?_)
      first | (refine Hd.takeH 3 rfl (by kernel_rfl) (by kernel_rfl) (by kernel_rfl) (by kernel_rfl) (y_load1 ag67 rfl (Rd.pt1 pkk (by (first | rfl)))) (fun _ _ => rfl) (Ent.sep enn) ?_) | (refine Hd.takeH 3 rfl (by kernel_rfl) (by kernel_rfl) (by kernel_rfl) (by kernel_rfl) (y_load1 ag67 rfl (Rd.seg1 pkk (by (first | rfl)))) (fun _ _ => rfl) (Ent.sep enn) ?_) | (refine Hd.takeH 3 rfl (by kernel_rfl) (by kernel_rfl) (by kernel_rfl) (by kernel_rfl) (y_loadR1 ag67 rfl (by (first | exact RdS.own pkk | exact RdS.head (RdS.own (ad := a2) (us := s.flatMap encNo) pkk) (by omega))) (by (first | rfl))) (fun _ _ => rfl) (Ent.sep enn) ?_)
      first | (refine Hd.takeH 4 rfl (by kernel_rfl) (by kernel_rfl) (by kernel_rfl) (by kernel_rfl) (y_loadn (us := [_, _]) ag121 rfl (Rd.pt pkk (by (first | (intro j v e; rcases j with _|_|_|_|_|_|_|_|_|_|_|_|j <;> first | exact e | exact absurd e (by simp))))) (by exact sz121)) (fun _ _ => rfl) (Ent.sep enn) ?_) | (refine Hd.takeH 4 rfl (by kernel_rfl) (by kernel_rfl) (by kernel_rfl) (by kernel_rfl) (y_loadn (us := [_, _]) ag121 rfl (Rd.seg pkk (by (first | (intro j v e; rcases j with _|_|_|_|_|_|_|_|_|_|_|_|j <;> first | exact e | exact absurd e (by simp))))) (by exact sz121)) (fun _ _ => rfl) (Ent.sep enn) ?_) | (refine Hd.takeH 4 rfl (by kernel_rfl) (by kernel_rfl) (by kernel_rfl) (by kernel_rfl) (y_loadRn ag121 rfl (by (first | exact RdS.own pkk | exact RdS.head (RdS.own (ad := a2) (us := s.flatMap encNo) pkk) (by omega))) (by (first | (intro j v e; rcases j with _|_|_|_|_|_|_|_|_|_|_|_|j <;> first | exact e | exact absurd e (by simp)))) (by exact sz121) (by simp)) (fun _ _ => rfl) (Ent.sep enn) ?_)
      refine Hd.takeH 5 rfl (by kernel_rfl) (by kernel_rfl) (by kernel_rfl) (by kernel_rfl) (y_to (v' := .agg (encKn (oldK g x)).toArray) (y_lookupK mapt67 rfl rfl pkk) (by exact kmap_get g (x.1, x.2.1))) (fun _ _ => rfl) (Ent.sep enn) ?_
      refine Hd.onlyH 6 rfl (by kernel_rfl) ?_
      refine Hd.alloc zr123 (fun b12 => ?_)
      refine Hd.nil ?_
      refine Hd.thenN ?_
      refine Hd.heldK (J := (fun j => !([7].contains j))) (i := 6) (Ent.sep enn) ?_
      refine Hd.onlyH 7 rfl (by kernel_rfl) ?_
      refine Hd.storeA (us := encKn (oldK g x)) sz123 rfl rfl rfl (by simp [Value.oneCell']) pkk (by exact rfl) ?_
      refine Hd.nil ?_
      refine Hd.thenN ?_
      refine Hd.heldN (J := (fun j => !([7].contains j))) (i := 7) rfl ?_
      refine Hd.endH (by kernel_rfl) ?_
      refine Hd.slots [(0, _), (8, _), (11, _), (12, _), (30, _), (31, _), (32, _)] ⟨rfl, rfl, rfl, rfl, rfl, rfl, rfl, trivial⟩ ?_
      refine Hd.toK hK14 ?_
      refine Hd.seq (fun K15 hK15 => ?_)
      refine Hd.drawsH ([KqH qb wb mb, pt b11 [.int .i64 x.1, .int .i64 x.2.1] 121]) (fun j => !(([1000] : List Nat).contains j)) mixed ?_
      simp only [List.length, Nat.zero_add, Nat.reduceAdd]
      first | (refine Hd.takeH 0 rfl (by kernel_rfl) (by kernel_rfl) (by kernel_rfl) (by kernel_rfl) (y_field' (q := 1) (ft := 3) Try.underlying121 rfl sz3 rfl rfl) (fun _ _ => rfl) (Ent.sep enn) ?_) | (refine Hd.takeH 0 rfl (by kernel_rfl) (by kernel_rfl) (by kernel_rfl) (by kernel_rfl) (y_fieldR (q := 1) (ft := 3) Try.underlying121 rfl sz3 rfl rfl) (fun _ _ => rfl) (Ent.sep enn) ?_)
      first | (refine Hd.takeH 1 rfl (by kernel_rfl) (by kernel_rfl) (by kernel_rfl) (by kernel_rfl) (y_load1 ag3 rfl (Rd.pt1 pkk (by (first | rfl)))) (fun _ _ => rfl) (Ent.sep enn) ?_) | (refine Hd.takeH 1 rfl (by kernel_rfl) (by kernel_rfl) (by kernel_rfl) (by kernel_rfl) (y_load1 ag3 rfl (Rd.seg1 pkk (by (first | rfl)))) (fun _ _ => rfl) (Ent.sep enn) ?_) | (refine Hd.takeH 1 rfl (by kernel_rfl) (by kernel_rfl) (by kernel_rfl) (by kernel_rfl) (y_loadR1 ag3 rfl (by (first | exact RdS.own pkk | exact RdS.head (RdS.own (ad := a2) (us := s.flatMap encNo) pkk) (by omega))) (by (first | rfl))) (fun _ _ => rfl) (Ent.sep enn) ?_)
      refine Hd.takeH 2 rfl (by kernel_rfl) (by kernel_rfl) (by kernel_rfl) (by kernel_rfl) (y_move rfl) (fun _ _ => rfl) (Ent.sep enn) ?_
      refine Hd.takeH 3 rfl (by kernel_rfl) (by kernel_rfl) (by kernel_rfl) (by kernel_rfl) (y_nilp rfl) (fun _ _ => rfl) (Ent.sep enn) ?_
      first | (refine Hd.takeH 4 rfl (by kernel_rfl) (by kernel_rfl) (by kernel_rfl) (by kernel_rfl) (y_field' (q := 0) (ft := 27) Try.underlying69 rfl sz27 rfl rfl) (fun _ _ => rfl) (Ent.sep enn) ?_) | (refine Hd.takeH 4 rfl (by kernel_rfl) (by kernel_rfl) (by kernel_rfl) (by kernel_rfl) (y_fieldR (q := 0) (ft := 27) Try.underlying69 rfl sz27 rfl rfl) (fun _ _ => rfl) (Ent.sep enn) ?_)
      first | (refine Hd.takeH 5 rfl (by kernel_rfl) (by kernel_rfl) (by kernel_rfl) (by kernel_rfl) (y_load1 ag27 rfl (Rd.pt1 pkk (by (first | rfl)))) (fun _ _ => rfl) (Ent.sep enn) ?_) | (refine Hd.takeH 5 rfl (by kernel_rfl) (by kernel_rfl) (by kernel_rfl) (by kernel_rfl) (y_load1 ag27 rfl (Rd.seg1 pkk (by (first | rfl)))) (fun _ _ => rfl) (Ent.sep enn) ?_) | (refine Hd.takeH 5 rfl (by kernel_rfl) (by kernel_rfl) (by kernel_rfl) (by kernel_rfl) (y_loadR1 ag27 rfl (by (first | exact RdS.own pkk | exact RdS.head (RdS.own (ad := a2) (us := s.flatMap encNo) pkk) (by omega))) (by (first | rfl))) (fun _ _ => rfl) (Ent.sep enn) ?_)
      first | (refine Hd.takeH 6 rfl (by kernel_rfl) (by kernel_rfl) (by kernel_rfl) (by kernel_rfl) (y_field' (q := 0) (ft := 3) Try.underlying121 rfl sz3 rfl rfl) (fun _ _ => rfl) (Ent.sep enn) ?_) | (refine Hd.takeH 6 rfl (by kernel_rfl) (by kernel_rfl) (by kernel_rfl) (by kernel_rfl) (y_fieldR (q := 0) (ft := 3) Try.underlying121 rfl sz3 rfl rfl) (fun _ _ => rfl) (Ent.sep enn) ?_)
      first | (refine Hd.takeH 7 rfl (by kernel_rfl) (by kernel_rfl) (by kernel_rfl) (by kernel_rfl) (y_load1 ag3 rfl (Rd.pt1 pkk (by (first | rfl)))) (fun _ _ => rfl) (Ent.sep enn) ?_) | (refine Hd.takeH 7 rfl (by kernel_rfl) (by kernel_rfl) (by kernel_rfl) (by kernel_rfl) (y_load1 ag3 rfl (Rd.seg1 pkk (by (first | rfl)))) (fun _ _ => rfl) (Ent.sep enn) ?_) | (refine Hd.takeH 7 rfl (by kernel_rfl) (by kernel_rfl) (by kernel_rfl) (by kernel_rfl) (y_loadR1 ag3 rfl (by (first | exact RdS.own pkk | exact RdS.head (RdS.own (ad := a2) (us := s.flatMap encNo) pkk) (by omega))) (by (first | rfl))) (fun _ _ => rfl) (Ent.sep enn) ?_)
      first | (refine Hd.takeH 10 rfl (by kernel_rfl) (by kernel_rfl) (by kernel_rfl) (by kernel_rfl) (y_field' (q := 2) (ft := 4) Try.underlying123 rfl sz4 rfl rfl) (fun _ _ => rfl) (Ent.sep enn) ?_) | (refine Hd.takeH 10 rfl (by kernel_rfl) (by kernel_rfl) (by kernel_rfl) (by kernel_rfl) (y_fieldR (q := 2) (ft := 4) Try.underlying123 rfl sz4 rfl rfl) (fun _ _ => rfl) (Ent.sep enn) ?_)
      refine Hd.onlyH 8 rfl (by kernel_rfl) ?_
      refine Hd.callE rfl fk39 (wready_ct _ wb w x.1) (Ent.sep enn) ?_
      intro _
      refine Hd.nil ?_
      refine Hd.thenN ?_
      refine Hd.heldK (J := (fun j => !(([1000] : List Nat).contains j))) (i := 8) (Ent.sep enn) ?_
      refine Hd.onlyH 9 rfl (by kernel_rfl) ?_
      refine Hd.callE rfl fk62 (krises_ct _ x.2.1 (readyR w x.1)) (Ent.sep enn) ?_
      intro _
      refine Hd.nil ?_
      refine Hd.thenN ?_
      refine Hd.heldK (J := (fun j => !(([1000] : List Nat).contains j))) (i := 9) (Ent.sep enn) ?_
      refine Hd.onlyH 11 rfl (by kernel_rfl) ?_
      first | (refine Hd.store1 sz4 rfl rfl rfl pkk (by first | decide | (simp; done) | (simp; omega)) ?_) | (refine Hd.storeG1 sz4 rfl rfl rfl pkk (by first | decide | (simp; done) | (simp; omega)) ?_) | (refine Hd.storeO1 sz4 rfl rfl rfl pkk (by first | omega | (simp; done) | (simp; omega)) ?_)
      try simp only [List.set_cons_zero, List.set_cons_succ]
      refine Hd.nil ?_
      refine Hd.thenN ?_
      refine Hd.heldK (J := (fun j => !(([1000] : List Nat).contains j))) (i := 11) (Ent.sep enn) ?_
      first | (refine Hd.takeH 12 rfl (by kernel_rfl) (by kernel_rfl) (by kernel_rfl) (by kernel_rfl) (y_field' (q := 3) (ft := 78) Try.underlying123 rfl sz78 rfl rfl) (fun _ _ => rfl) (Ent.sep enn) ?_) | (refine Hd.takeH 12 rfl (by kernel_rfl) (by kernel_rfl) (by kernel_rfl) (by kernel_rfl) (y_fieldR (q := 3) (ft := 78) Try.underlying123 rfl sz78 rfl rfl) (fun _ _ => rfl) (Ent.sep enn) ?_)
      refine Hd.onlyH 13 rfl (by kernel_rfl) ?_
      first | (refine Hd.store1 sz78 rfl rfl rfl pkk (by first | decide | (simp; done) | (simp; omega)) ?_) | (refine Hd.storeG1 sz78 rfl rfl rfl pkk (by first | decide | (simp; done) | (simp; omega)) ?_) | (refine Hd.storeO1 sz78 rfl rfl rfl pkk (by first | omega | (simp; done) | (simp; omega)) ?_)
      try simp only [List.set_cons_zero, List.set_cons_succ]
      refine Hd.nil ?_
      refine Hd.thenN ?_
      refine Hd.heldK (J := (fun j => !(([1000] : List Nat).contains j))) (i := 13) (Ent.sep enn) ?_
      refine Hd.endH (by kernel_rfl) ?_
      refine Hd.slots [(0, _), (8, _), (11, _), (12, _), (30, _), (31, _), (32, _)] ⟨rfl, rfl, rfl, rfl, rfl, rfl, rfl, trivial⟩ ?_
      refine Hd.toK hK15 ?_
      refine Hd.seq (fun K16 hK16 => ?_)
      refine Hd.tail 6 mixed (by kernel_rfl) ?_
      simp only [List.take, List.drop]
      refine Ht.yv (y_move rfl) ?_
      refine Ht.yv (y_nilp rfl) ?_
      first | (refine Ht.yv (y_field' (q := 1) (ft := 67) Try.underlying69 rfl sz67 rfl rfl) ?_) | (refine Ht.yv (y_fieldR (q := 1) (ft := 67) Try.underlying69 rfl sz67 rfl rfl) ?_)
      first | (refine Ht.yv (y_load1 ag67 rfl (Rd.pt1 pkk (by (first | rfl)))) ?_) | (refine Ht.yv (y_load1 ag67 rfl (Rd.seg1 pkk (by (first | rfl)))) ?_) | (refine Ht.yv (y_loadR1 ag67 rfl (by (first | exact RdS.own pkk | exact RdS.head (RdS.own (ad := a2) (us := s.flatMap encNo) pkk) (by omega))) (by (first | rfl))) ?_)
      first | (refine Ht.yv (y_loadn (us := [_, _]) ag121 rfl (Rd.pt pkk (by (first | (intro j v e; rcases j with _|_|_|_|_|_|_|_|_|_|_|_|j <;> first | exact e | exact absurd e (by simp))))) (by exact sz121)) ?_) | (refine Ht.yv (y_loadn (us := [_, _]) ag121 rfl (Rd.seg pkk (by (first | (intro j v e; rcases j with _|_|_|_|_|_|_|_|_|_|_|_|j <;> first | exact e | exact absurd e (by simp))))) (by exact sz121)) ?_) | (refine Ht.yv (y_loadRn ag121 rfl (by (first | exact RdS.own pkk | exact RdS.head (RdS.own (ad := a2) (us := s.flatMap encNo) pkk) (by omega))) (by (first | (intro j v e; rcases j with _|_|_|_|_|_|_|_|_|_|_|_|j <;> first | exact e | exact absurd e (by simp)))) (by exact sz121) (by simp)) ?_)
      first | (refine Ht.yv (y_loadn (us := [_, _, _, _]) ag123 rfl (Rd.pt pkk (by (first | (intro j v e; rcases j with _|_|_|_|_|_|_|_|_|_|_|_|j <;> first | exact e | exact absurd e (by simp))))) (by exact sz123)) ?_) | (refine Ht.yv (y_loadn (us := [_, _, _, _]) ag123 rfl (Rd.seg pkk (by (first | (intro j v e; rcases j with _|_|_|_|_|_|_|_|_|_|_|_|j <;> first | exact e | exact absurd e (by simp))))) (by exact sz123)) ?_) | (refine Ht.yv (y_loadRn ag123 rfl (by (first | exact RdS.own pkk | exact RdS.head (RdS.own (ad := a2) (us := s.flatMap encNo) pkk) (by omega))) (by (first | (intro j v e; rcases j with _|_|_|_|_|_|_|_|_|_|_|_|j <;> first | exact e | exact absurd e (by simp)))) (by exact sz123) (by simp)) ?_)
      refine Ht.nil ?_
      refine Hd.mapUpdateK mapt67 rfl rfl rfl pkk ?_
      refine Hd.nil ?_
      refine Hd.slots [(0, _), (8, _), (11, _), (12, _), (30, _), (31, _), (32, _)] ⟨rfl, rfl, rfl, rfl, rfl, rfl, rfl, trivial⟩ ?_
      refine Hd.toK hK16 ?_
      refine Hd.seq (fun K17 hK17 => ?_)
      refine Hd.region ?_
      first | (refine Hd.yv (y_field' (q := 1) (ft := 3) Try.underlying123 rfl sz3 rfl rfl) ?_) | (refine Hd.yv (y_fieldR (q := 1) (ft := 3) Try.underlying123 rfl sz3 rfl rfl) ?_)
      first | (refine Hd.yv (y_load1 ag3 rfl (Rd.pt1 pkk (by (first | rfl)))) ?_) | (refine Hd.yv (y_load1 ag3 rfl (Rd.seg1 pkk (by (first | rfl)))) ?_) | (refine Hd.yv (y_loadR1 ag3 rfl (by (first | exact RdS.own pkk | exact RdS.head (RdS.own (ad := a2) (us := s.flatMap encNo) pkk) (by omega))) (by (first | rfl))) ?_)
      refine Hd.yv (y_and rfl rfl) ?_
      refine Hd.yv (y_neq rfl rfl) ?_
      refine Hd.nil ?_
      refine Hd.slots [(0, _), (8, _), (11, _), (30, _), (31, _), (32, _), (68, _)] ⟨rfl, rfl, rfl, rfl, rfl, rfl, rfl, trivial⟩ ?_
      refine Hd.toK hK17 ?_
      refine Hd.cond rfl (fun hc3 => ?_) (fun hc3 => ?_)
      ·
        try simp only [decide_eq_true_eq, decide_eq_false_iff_not, Bool.and_eq_true, Bool.or_eq_true, Bool.and_eq_false_iff, Bool.or_eq_false_iff, Bool.not_eq_true', Bool.not_eq_false', Bool.not_eq_true, Bool.not_eq_false, Int.not_lt, Int.not_le, Decidable.not_not, ne_eq] at hc3
        refine Hd.tail 5 mixed (by kernel_rfl) ?_
        simp only [List.take, List.drop]
        refine Ht.yv (y_move rfl) ?_
        refine Ht.yv (y_nilp rfl) ?_
        first | (refine Ht.yv (y_field' (q := 1) (ft := 67) Try.underlying69 rfl sz67 rfl rfl) ?_) | (refine Ht.yv (y_fieldR (q := 1) (ft := 67) Try.underlying69 rfl sz67 rfl rfl) ?_)
        first | (refine Ht.yv (y_load1 ag67 rfl (Rd.pt1 pkk (by (first | rfl)))) ?_) | (refine Ht.yv (y_load1 ag67 rfl (Rd.seg1 pkk (by (first | rfl)))) ?_) | (refine Ht.yv (y_loadR1 ag67 rfl (by (first | exact RdS.own pkk | exact RdS.head (RdS.own (ad := a2) (us := s.flatMap encNo) pkk) (by omega))) (by (first | rfl))) ?_)
        first | (refine Ht.yv (y_loadn (us := [_, _]) ag121 rfl (Rd.pt pkk (by (first | (intro j v e; rcases j with _|_|_|_|_|_|_|_|_|_|_|_|j <;> first | exact e | exact absurd e (by simp))))) (by exact sz121)) ?_) | (refine Ht.yv (y_loadn (us := [_, _]) ag121 rfl (Rd.seg pkk (by (first | (intro j v e; rcases j with _|_|_|_|_|_|_|_|_|_|_|_|j <;> first | exact e | exact absurd e (by simp))))) (by exact sz121)) ?_) | (refine Ht.yv (y_loadRn ag121 rfl (by (first | exact RdS.own pkk | exact RdS.head (RdS.own (ad := a2) (us := s.flatMap encNo) pkk) (by omega))) (by (first | (intro j v e; rcases j with _|_|_|_|_|_|_|_|_|_|_|_|j <;> first | exact e | exact absurd e (by simp)))) (by exact sz121) (by simp)) ?_)
        refine Ht.nil ?_
        refine Hd.mapDelete0K mapt67 rfl rfl pkk ?_
        refine Hd.nil ?_
        refine Hd.slots [(0, _), (8, _), (30, _), (31, _), (32, _)] ⟨rfl, rfl, rfl, rfl, rfl, trivial⟩ ?_
        refine Hd.inB ?_
        refine Hd.toK hK11 ?_
        refine Hd.region ?_
        first | (refine Hd.yv (y_addn rfl rfl (by simp only [InK]; omega)) ?_) | (refine Hd.yv (y_add rfl rfl) ?_)
        refine Hd.yv (y_move rfl) ?_
        refine Hd.nil ?_
        refine Hd.slots [(0, _), (8, _), (30, _), (31, _), (32, _)] ⟨rfl, rfl, rfl, rfl, rfl, trivial⟩ ?_
        clear hK1 hK2 hK3 hK4 hK5 hK6 hK7 hK8 hK9 hK10 hK11 hK12 hK13 hK14 hK15 hK16 hK17
        refine Hd.thenN ?_
        exact Hd.again (i + 1, (if (kmap g (x.1, x.2.1)).isSome then m' else m' + 1) - 1) (by first | omega | (simp only; omega) | (simp; omega)) (by repeat (first | exact trivial | refine ⟨rfl, ?_⟩)) (Ent.sep (.pure ⟨by omega, by dsimp only; split <;> omega⟩ (.pick pkk (.pick pkk (.eq pkk (mpP_eq (by rw [hoa]; unfold off1; rw [if_pos hc3, kmap_del, kmap_upd]; rfl) (by simp)) enn)))))
      ·
        try simp only [decide_eq_true_eq, decide_eq_false_iff_not, Bool.and_eq_true, Bool.or_eq_true, Bool.and_eq_false_iff, Bool.or_eq_false_iff, Bool.not_eq_true', Bool.not_eq_false', Bool.not_eq_true, Bool.not_eq_false, Int.not_lt, Int.not_le, Decidable.not_not, ne_eq] at hc3
        refine Hd.skip ?_
        refine Hd.inB ?_
        refine Hd.toK hK11 ?_
        refine Hd.region ?_
        first | (refine Hd.yv (y_addn rfl rfl (by simp only [InK]; omega)) ?_) | (refine Hd.yv (y_add rfl rfl) ?_)
        refine Hd.yv (y_move rfl) ?_
        refine Hd.nil ?_
        refine Hd.slots [(0, _), (8, _), (30, _), (31, _), (32, _)] ⟨rfl, rfl, rfl, rfl, rfl, trivial⟩ ?_
        clear hK1 hK2 hK3 hK4 hK5 hK6 hK7 hK8 hK9 hK10 hK11 hK12 hK13 hK14 hK15 hK16 hK17
        refine Hd.thenN ?_
        exact Hd.again (i + 1, (if (kmap g (x.1, x.2.1)).isSome then m' else m' + 1)) (by first | omega | (simp only; omega) | (simp; omega)) (by repeat (first | exact trivial | refine ⟨rfl, ?_⟩)) (Ent.sep (.pure ⟨by omega, by dsimp only; split <;> omega⟩ (.pick pkk (.pick pkk (.eq pkk (mpP_eq (by rw [hoa]; unfold off1; rw [if_neg (fun h => h hc3), kmap_upd]; rfl) rfl) enn)))))
    ·
      try simp only [decide_eq_true_eq, decide_eq_false_iff_not, Bool.and_eq_true, Bool.or_eq_true, Bool.and_eq_false_iff, Bool.or_eq_false_iff, Bool.not_eq_true', Bool.not_eq_false', Bool.not_eq_true, Bool.not_eq_false, Int.not_lt, Int.not_le, Decidable.not_not, ne_eq] at hc2
      obtain rfl : i = kk := by omega
      refine Hd.exit ?_
      refine Hd.thenExit ?_
      refine Hd.thenExit ?_
      refine Hd.inBexit ?_
      refine Hd.toK hK7 ?_
      refine Hd.seq (fun K18 hK18 => ?_)
      refine Hd.region ?_
      refine Hd.yv (y_move rfl) ?_
      refine Hd.yv (y_assign rfl) ?_
      refine Hd.yv (y_assign rfl) ?_
      refine Hd.nil ?_
      refine Hd.slots [(6, _), (7, _)] ⟨rfl, rfl, trivial⟩ ?_
      refine Hd.toK hK18 ?_
      refine Hd.ret ?_
      clear hK1 hK2 hK3 hK4 hK5 hK6 hK7 hK8 hK9 hK10 hK18
      refine Hd.ownTake (e := 57) (ad := a2) (m := (dueK f w).length) (cap := c2) pkk i ((s.take i).flatMap encNo) ((s.drop i).flatMap encNo) (by omega) (by rw [← List.flatMap_append, List.take_append_drop]) (by rw [rows_len (k := 4) (fun _ => rfl), List.length_take]; omega) ?_
      rw [hpo, hpl]
      exact Hd.ret2 rfl (a2, c2, m') rfl rfl rfl (Ent.sep (.pure hp0.2 enn))
end Kq
end Go.Proofs.Ytbfddabjbkohdaa
