/-
  Pairs: pass.
-/
import Derived.Test.YtgifpkpkkgkfeaaPa2
namespace Go.Proofs.Ytgifpkpkkgkfeaa
set_option linter.unusedSimpArgs false
set_option linter.unusedVariables false
set_option linter.unnecessarySimpa false
open Go.RX Fx
namespace Pa
open Bc
set_option maxRecDepth 8000
/-- what is told of an end -/
structure TV where
  rd : Bool
  wr : Bool
  ev : Int
  er : Int
  inn : Int
  out : Int
abbrev encT (t : TV) : List Value := [.bool t.rd, .bool t.wr, .int .i64 t.ev, .int .i64 t.er, .int .i64 t.inn, .int .i64 t.out]
structure EOk (e : PE) : Prop where
  gi : Bc.Good e.i
  gu : Bc.Good e.u
  low : 0 ≤ e.low ∧ e.low ≤ 1048576
  high : 0 ≤ e.high ∧ e.high ≤ 1048576
  least : 0 ≤ e.least ∧ e.least ≤ 1048576
theorem manyN_le (a c : PE) (fl : Bool) : manyN a c fl ≤ (flat a.u).length ∧ manyN a c fl ≤ 1048576 - (flat c.i).length := by
  unfold manyN
  split
  · omega
  · split <;> omega
/-- what is told of the one from which bytes go, and of the other one -/
def tvF (a : PE) (n : Nat) (x : TV) : TV := if 0 < n then { x with out := (n : Int), wr := decide ((((flat a.u).length - n : Nat) : Int) ≤ a.least) } else x
def tvT (c : PE) (n : Nat) (y : TV) : TV := if 0 < n then { y with inn := (n : Int), rd := decide (c.low ≤ (((flat c.i).length + n : Nat) : Int)) } else y
def endB (a c : PE) (n : Nat) : Bool := a.fin && (decide ((flat a.u).length = n) && (decide (bits .and .i64 c.on 2 ≠ 0) && !c.tol))
set_option maxHeartbeats 2000000 in
theorem pass_ct (L : List SP) (b bt k o o' q q' : Nat) (hk : k < 2) (ho : o = k * 10) (ho' : o' = (1 - k) * 10) (hq : q = k * 6) (hq' : q' = (1 - k) * 6) (a c : PE) (fl : Bool) (ha : EOk a) (hc : EOk c) (x y : TV) : Ct Try.prog 81 #[.pointer (some ⟨b, 0, none⟩), .int .i64 (k : Int), .bool fl, .pointer (some ⟨bt, 0, none⟩)] (En b o a (En b o' c (segK bt q 0 (encT x) :: segK bt q' 0 (encT y) :: L))) (fun q_ : List Row × List Row => .tuple #[]) (fun q_ : List Row × List Row => pu (Bc.Good q_.1 ∧ Bc.Good q_.2 ∧ flat q_.1 = (flat a.u).drop (manyN a c fl) ∧ flat q_.2 = flat c.i ++ (flat a.u).take (manyN a c fl)) :: En b o { a with u := q_.1 } (En b o' { c with i := q_.2, tol := c.tol || endB a c (manyN a c fl) } (segK bt q 0 (encT (tvF a (manyN a c fl) x)) :: segK bt q' 0 (encT { tvT c (manyN a c fl) y with ev := if endB a c (manyN a c fl) = true then 17 else (tvT c (manyN a c fl) y).ev }) :: L))) := by
  refine Ct.of (vs := [.pointer (some ⟨b, 0, none⟩), .int .i64 (k : Int), .bool fl, .pointer (some ⟨bt, 0, none⟩)]) Try.func81 rfl rfl [(0, .pointer (some ⟨b, 0, none⟩)), (1, .int .i64 (k : Int)), (2, .bool fl), (3, .pointer (some ⟨bt, 0, none⟩))] (by repeat (first | exact trivial | refine ⟨rfl, ?_⟩)) ?_
  intro E
  show Hd E 113 _ _ _ _
  obtain rfl : o = k * 10 := by omega
  obtain rfl : o' = (1 - k) * 10 := by omega
  obtain rfl : q = k * 6 := by omega
  obtain rfl : q' = (1 - k) * 6 := by omega
  have hau := ha.gu.2
  have hci := hc.gi.2
  have hml := manyN_le a c fl
  obtain ⟨n, hn⟩ : ∃ n, n = manyN a c fl := ⟨_, rfl⟩
  rw [← hn] at hml ⊢
  refine Hd.seq (fun K1 hK1 => ?_)
  refine Hd.drawsH ([]) (fun _ => true) mixed ?_
  simp only [List.length, Nat.zero_add, Nat.reduceAdd]
  refine Hd.takeH 0 rfl (by kernel_rfl) (by kernel_rfl) (by kernel_rfl) (by kernel_rfl) (y_move rfl) (fun _ _ => rfl) (Ent.sep enn) ?_
  refine Hd.takeH 1 rfl (by kernel_rfl) (by kernel_rfl) (by kernel_rfl) (by kernel_rfl) (y_move rfl) (fun _ _ => rfl) (Ent.sep enn) ?_
  refine Hd.takeH 2 rfl (by kernel_rfl) (by kernel_rfl) (by kernel_rfl) (by kernel_rfl) (y_nilp rfl) (fun _ _ => rfl) (Ent.sep enn) ?_
  first | (refine Hd.takeH 3 rfl (by kernel_rfl) (by kernel_rfl) (by kernel_rfl) (by kernel_rfl) (y_field' (q := 0) (ft := 115) Try.underlying117 rfl sz115 rfl rfl) (fun _ _ => rfl) (Ent.sep enn) ?_) | (refine Hd.takeH 3 rfl (by kernel_rfl) (by kernel_rfl) (by kernel_rfl) (by kernel_rfl) (y_fieldR (q := 0) (ft := 115) Try.underlying117 rfl sz115 rfl rfl) (fun _ _ => rfl) (Ent.sep enn) ?_)
  refine Hd.takeH 4 rfl (by kernel_rfl) (by kernel_rfl) (by kernel_rfl) (by kernel_rfl) (y_idxA Try.underlying115 sz114 rfl rfl (by first | omega | decide)) (fun _ _ => rfl) (Ent.sep enn) ?_
  refine Hd.takeH 5 rfl (by kernel_rfl) (by kernel_rfl) (by kernel_rfl) (by kernel_rfl) (y_move rfl) (fun _ _ => rfl) (Ent.sep enn) ?_
  refine Hd.takeH 6 rfl (by kernel_rfl) (by kernel_rfl) (by kernel_rfl) (by kernel_rfl) (y_move rfl) (fun _ _ => rfl) (Ent.sep enn) ?_
  first | (refine Hd.takeH 7 rfl (by kernel_rfl) (by kernel_rfl) (by kernel_rfl) (by kernel_rfl) (y_to (v' := .int .i64 ((1 - k : Nat) : Int)) (y_subn rfl rfl (by simp only [InK]; omega)) (by (congr 1; omega))) (fun _ _ => rfl) (Ent.sep enn) ?_) | (refine Hd.takeH 7 rfl (by kernel_rfl) (by kernel_rfl) (by kernel_rfl) (by kernel_rfl) (y_to (v' := .int .i64 ((1 - k : Nat) : Int)) (y_sub rfl rfl) (by (congr 1; omega))) (fun _ _ => rfl) (Ent.sep enn) ?_)
  refine Hd.takeH 8 rfl (by kernel_rfl) (by kernel_rfl) (by kernel_rfl) (by kernel_rfl) (y_nilp rfl) (fun _ _ => rfl) (Ent.sep enn) ?_
  first | (refine Hd.takeH 9 rfl (by kernel_rfl) (by kernel_rfl) (by kernel_rfl) (by kernel_rfl) (y_field' (q := 0) (ft := 115) Try.underlying117 rfl sz115 rfl rfl) (fun _ _ => rfl) (Ent.sep enn) ?_) | (refine Hd.takeH 9 rfl (by kernel_rfl) (by kernel_rfl) (by kernel_rfl) (by kernel_rfl) (y_fieldR (q := 0) (ft := 115) Try.underlying117 rfl sz115 rfl rfl) (fun _ _ => rfl) (Ent.sep enn) ?_)
  refine Hd.takeH 10 rfl (by kernel_rfl) (by kernel_rfl) (by kernel_rfl) (by kernel_rfl) (y_idxA Try.underlying115 sz114 rfl rfl (by first | omega | decide)) (fun _ _ => rfl) (Ent.sep enn) ?_
  refine Hd.takeH 11 rfl (by kernel_rfl) (by kernel_rfl) (by kernel_rfl) (by kernel_rfl) (y_assign rfl) (fun _ _ => rfl) (Ent.sep enn) ?_
  refine Hd.takeH 12 rfl (by kernel_rfl) (by kernel_rfl) (by kernel_rfl) (by kernel_rfl) (y_assign rfl) (fun _ _ => rfl) (Ent.sep enn) ?_
  refine Hd.endH (by kernel_rfl) ?_
  simp only [Nat.zero_add]
  refine Hd.slots [(1, _), (2, _), (3, _), (8, _), (9, _)] ⟨rfl, rfl, rfl, rfl, rfl, trivial⟩ ?_
  refine Hd.toK hK1 ?_
  refine Hd.cutK (ι := List Row × List Row) [(1, _), (3, _), (8, _), (9, _)] (fun _ => []) (fun j => pu (Bc.Good j.1 ∧ Bc.Good j.2 ∧ flat j.1 = (flat a.u).drop n ∧ flat j.2 = flat c.i ++ (flat a.u).take n) :: En b (k * 10) { a with u := j.1 } (En b ((1 - k) * 10) { c with i := j.2 } (segK bt (k * 6) 0 (encT (tvF a n x)) :: segK bt ((1 - k) * 6) 0 (encT (tvT c n y)) :: L))) ?_ ?_ ⟨rfl, rfl, rfl, rfl, trivial⟩
  ·
    refine Hd.seq (fun K2 hK2 => ?_)
    refine Hd.region ?_
    refine Hd.yv (y_move rfl) ?_
    refine Hd.yv (y_move rfl) ?_
    refine Hd.yv (y_move rfl) ?_
    refine Hd.callE rfl fk83 (many_ct (segK bt (k * 6) 0 (encT x) :: segK bt ((1 - k) * 6) 0 (encT y) :: L) b (k * 10) ((1 - k) * 10) a c fl hau hci hc.high) (Ent.sep enn) ?_
    intro _
    rw [← hn]
    refine Hd.yv (y_assign rfl) ?_
    refine Hd.nil ?_
    refine Hd.slots [(1, _), (3, _), (8, _), (9, _), (10, _)] ⟨rfl, rfl, rfl, rfl, rfl, trivial⟩ ?_
    refine Hd.toK hK2 ?_
    refine Hd.seq (fun K3 hK3 => ?_)
    refine Hd.region ?_
    refine Hd.yv (y_move rfl) ?_
    refine Hd.yv (y_gtr rfl rfl) ?_
    refine Hd.nil ?_
    refine Hd.slots [(1, _), (3, _), (8, _), (9, _), (10, _), (27, _)] ⟨rfl, rfl, rfl, rfl, rfl, rfl, trivial⟩ ?_
    refine Hd.toK hK3 ?_
    refine Hd.cond rfl (fun hc0 => ?_) (fun hc0 => ?_)
    ·
      try simp only [decide_eq_true_eq, decide_eq_false_iff_not, Bool.and_eq_true, Bool.or_eq_true, Bool.and_eq_false_iff, Bool.or_eq_false_iff, Bool.not_eq_true', Bool.not_eq_false', Bool.not_eq_true, Bool.not_eq_false, Int.not_lt, Int.not_le, Decidable.not_not, ne_eq] at hc0
      have hn0 : 0 < n := by omega
      refine Hd.seq (fun K4 hK4 => ?_)
      refine Hd.drawsH ([]) (fun _ => true) mixed ?_
      simp only [List.length, Nat.zero_add, Nat.reduceAdd]
      refine Hd.takeH 0 rfl (by kernel_rfl) (by kernel_rfl) (by kernel_rfl) (by kernel_rfl) (y_move rfl) (fun _ _ => rfl) (Ent.sep enn) ?_
      refine Hd.takeH 1 rfl (by kernel_rfl) (by kernel_rfl) (by kernel_rfl) (by kernel_rfl) (y_nilp rfl) (fun _ _ => rfl) (Ent.sep enn) ?_
      first | (refine Hd.takeH 2 rfl (by kernel_rfl) (by kernel_rfl) (by kernel_rfl) (by kernel_rfl) (y_field' (q := 2) (ft := 27) Try.underlying114 rfl sz27 rfl rfl) (fun _ _ => rfl) (Ent.sep enn) ?_) | (refine Hd.takeH 2 rfl (by kernel_rfl) (by kernel_rfl) (by kernel_rfl) (by kernel_rfl) (y_fieldR (q := 2) (ft := 27) Try.underlying114 rfl sz27 rfl rfl) (fun _ _ => rfl) (Ent.sep enn) ?_)
      refine Hd.takeH 3 rfl (by kernel_rfl) (by kernel_rfl) (by kernel_rfl) (by kernel_rfl) (y_move rfl) (fun _ _ => rfl) (Ent.sep enn) ?_
      refine Hd.takeH 4 rfl (by kernel_rfl) (by kernel_rfl) (by kernel_rfl) (by kernel_rfl) (y_nilp rfl) (fun _ _ => rfl) (Ent.sep enn) ?_
      first | (refine Hd.takeH 5 rfl (by kernel_rfl) (by kernel_rfl) (by kernel_rfl) (by kernel_rfl) (y_field' (q := 0) (ft := 27) Try.underlying114 rfl sz27 rfl rfl) (fun _ _ => rfl) (Ent.sep enn) ?_) | (refine Hd.takeH 5 rfl (by kernel_rfl) (by kernel_rfl) (by kernel_rfl) (by kernel_rfl) (y_fieldR (q := 0) (ft := 27) Try.underlying114 rfl sz27 rfl rfl) (fun _ _ => rfl) (Ent.sep enn) ?_)
      refine Hd.takeH 6 rfl (by kernel_rfl) (by kernel_rfl) (by kernel_rfl) (by kernel_rfl) (y_move rfl) (fun _ _ => rfl) (Ent.sep enn) ?_
      refine Hd.onlyH 7 rfl (by kernel_rfl) ?_
      refine Hd.callE rfl fk24 (move_ct (Ch b (k * 10 + 0) a.i :: segK b (k * 10) 4 (encE a) :: Ch b ((1 - k) * 10 + 2) c.u :: segK b ((1 - k) * 10) 4 (encE c) :: segK bt (k * 6) 0 (encT x) :: segK bt ((1 - k) * 6) 0 (encT y) :: L) b (k * 10 + 2) b ((1 - k) * 10 + 0) a.u c.i ha.gu hc.gi (n : Int) (by simp only [InK]; omega) (NeP.same (by omega))) (Ent.sep enn) ?_
      rintro ⟨u2, i2⟩
      dsimp only
      have hmk : mvK (flat a.u).length (flat c.i).length (n : Int) = n := by rw [mvK_ok (by omega) (by rw [Int.toNat_natCast]; omega), Int.toNat_natCast]; omega
      rw [hmk]
      refine Hd.pure (fun hj => ?_)
      have hu2 : (flat u2).length = (flat a.u).length - n := by rw [hj.2.2.1, List.length_drop]
      have hi2 : (flat i2).length = (flat c.i).length + n := by rw [hj.2.2.2, List.length_append, List.length_take]; omega
      refine Hd.nil ?_
      refine Hd.thenN ?_
      refine Hd.heldK (J := (fun _ => true)) (i := 7) (Ent.sep enn) ?_
      refine Hd.endH (by kernel_rfl) ?_
      refine Hd.slots [(1, _), (3, _), (8, _), (9, _), (10, _)] ⟨rfl, rfl, rfl, rfl, rfl, trivial⟩ ?_
      refine Hd.toK hK4 ?_
      refine Hd.seq (fun K5 hK5 => ?_)
      refine Hd.draws mixed ?_
      simp only [List.length, Nat.zero_add, Nat.reduceAdd]
      refine Hd.take 0 rfl (by kernel_rfl) (by kernel_rfl) (by kernel_rfl) (fun _ => y_move rfl) (fun _ _ => rfl) ?_
      refine Hd.take 1 rfl (by kernel_rfl) (by kernel_rfl) (by kernel_rfl) (fun _ => y_move rfl) (fun _ _ => rfl) ?_
      refine Hd.take 2 rfl (by kernel_rfl) (by kernel_rfl) (by kernel_rfl) (fun _ => y_move rfl) (fun _ _ => rfl) ?_
      refine Hd.take 3 rfl (by kernel_rfl) (by kernel_rfl) (by kernel_rfl) (fun _ => y_move rfl) (fun _ _ => rfl) ?_
      first | (refine Hd.take 4 rfl (by kernel_rfl) (by kernel_rfl) (by kernel_rfl) (fun _ => y_to (v' := .int .i64 ((1 - k : Nat) : Int)) (y_subn rfl rfl (by simp only [InK]; omega)) (by (congr 1; omega))) (fun _ _ => rfl) ?_) | (refine Hd.take 4 rfl (by kernel_rfl) (by kernel_rfl) (by kernel_rfl) (fun _ => y_to (v' := .int .i64 ((1 - k : Nat) : Int)) (y_sub rfl rfl) (by (congr 1; omega))) (fun _ _ => rfl) ?_)
      refine Hd.take 5 rfl (by kernel_rfl) (by kernel_rfl) (by kernel_rfl) (fun _ => y_move rfl) (fun _ _ => rfl) ?_
      refine Hd.take 6 rfl (by kernel_rfl) (by kernel_rfl) (by kernel_rfl) (fun _ => y_move rfl) (fun _ _ => rfl) ?_
      refine Hd.take 7 rfl (by kernel_rfl) (by kernel_rfl) (by kernel_rfl) (fun _ => y_nilp rfl) (fun _ _ => rfl) ?_
      refine Hd.take 11 rfl (by kernel_rfl) (by kernel_rfl) (by kernel_rfl) (fun _ => y_nilp rfl) (fun _ _ => rfl) ?_
      refine Hd.tailAt 10 [8, 9] [10, 12, 13, 14] rfl rfl rfl (by kernel_rfl) ?_
      simp only [pk, List.getElem?_cons_zero, List.getElem?_cons_succ]
      refine Ht.yv (y_to (v' := .pointer (some ⟨bt, k * 6, none⟩)) (y_idxA Try.underlying69 sz68 rfl rfl (by first | omega | decide)) (by rw [Nat.zero_add])) ?_
      refine Ht.yv (y_field' (b := bt) (o := k * 6) (q := 5) (ft := 3) Try.underlying68 rfl sz3 rfl rfl) ?_
      refine Ht.nil ?_
      first | (refine Hd.store1 sz3 rfl rfl rfl pkk (by first | decide | (simp; done) | (simp; omega)) ?_) | (refine Hd.storeG1 sz3 rfl rfl rfl pkk (by first | decide | (simp; done) | (simp; omega)) ?_) | (refine Hd.storeO1 sz3 rfl rfl rfl pkk (by first | omega | (simp; done) | (simp; omega)) ?_) | (refine Hd.storeK1 sz3 rfl rfl rfl pkk (by decide) (by first | decide | (simp; done) | (simp; omega)) ?_)
      try simp only [List.set_cons_zero, List.set_cons_succ]
      refine Hd.yv (y_to (v' := .pointer (some ⟨bt, (1 - k) * 6, none⟩)) (y_idxA Try.underlying69 sz68 rfl rfl (by first | omega | decide)) (by rw [Nat.zero_add])) ?_
      first | (refine Hd.yv (y_field' (q := 4) (ft := 3) Try.underlying68 rfl sz3 rfl rfl) ?_) | (refine Hd.yv (y_fieldR (q := 4) (ft := 3) Try.underlying68 rfl sz3 rfl rfl) ?_)
      first | (refine Hd.store1 sz3 rfl rfl rfl pkk (by first | decide | (simp; done) | (simp; omega)) ?_) | (refine Hd.storeG1 sz3 rfl rfl rfl pkk (by first | decide | (simp; done) | (simp; omega)) ?_) | (refine Hd.storeO1 sz3 rfl rfl rfl pkk (by first | omega | (simp; done) | (simp; omega)) ?_) | (refine Hd.storeK1 sz3 rfl rfl rfl pkk (by decide) (by first | decide | (simp; done) | (simp; omega)) ?_)
      try simp only [List.set_cons_zero, List.set_cons_succ]
      refine Hd.nil ?_
      refine Hd.noPn ?_
      refine Hd.slots [(1, _), (3, _), (8, _), (9, _)] ⟨rfl, rfl, rfl, rfl, trivial⟩ ?_
      refine Hd.toK hK5 ?_
      refine Hd.seq (fun K6 hK6 => ?_)
      refine Hd.drawsH ([segK b (k * 10) 4 (encE a)]) (fun j => !([14].contains j)) mixed ?_
      simp only [List.length, Nat.zero_add, Nat.reduceAdd]
      refine Hd.takeH 0 rfl (by kernel_rfl) (by kernel_rfl) (by kernel_rfl) (by kernel_rfl) (y_move rfl) (fun _ _ => rfl) (Ent.sep enn) ?_
      refine Hd.takeH 1 rfl (by kernel_rfl) (by kernel_rfl) (by kernel_rfl) (by kernel_rfl) (y_move rfl) (fun _ _ => rfl) (Ent.sep enn) ?_
      refine Hd.takeH 2 rfl (by kernel_rfl) (by kernel_rfl) (by kernel_rfl) (by kernel_rfl) (y_move rfl) (fun _ _ => rfl) (Ent.sep enn) ?_
      refine Hd.takeH 3 rfl (by kernel_rfl) (by kernel_rfl) (by kernel_rfl) (by kernel_rfl) (y_nilp rfl) (fun _ _ => rfl) (Ent.sep enn) ?_
      first | (refine Hd.takeH 4 rfl (by kernel_rfl) (by kernel_rfl) (by kernel_rfl) (by kernel_rfl) (y_field' (q := 2) (ft := 27) Try.underlying114 rfl sz27 rfl rfl) (fun _ _ => rfl) (Ent.sep enn) ?_) | (refine Hd.takeH 4 rfl (by kernel_rfl) (by kernel_rfl) (by kernel_rfl) (by kernel_rfl) (y_fieldR (q := 2) (ft := 27) Try.underlying114 rfl sz27 rfl rfl) (fun _ _ => rfl) (Ent.sep enn) ?_)
      refine Hd.takeH 6 rfl (by kernel_rfl) (by kernel_rfl) (by kernel_rfl) (by kernel_rfl) (y_move rfl) (fun _ _ => rfl) (Ent.sep enn) ?_
      refine Hd.takeH 7 rfl (by kernel_rfl) (by kernel_rfl) (by kernel_rfl) (by kernel_rfl) (y_nilp rfl) (fun _ _ => rfl) (Ent.sep enn) ?_
      first | (refine Hd.takeH 8 rfl (by kernel_rfl) (by kernel_rfl) (by kernel_rfl) (by kernel_rfl) (y_field' (q := 7) (ft := 3) Try.underlying114 rfl sz3 rfl rfl) (fun _ _ => rfl) (Ent.sep enn) ?_) | (refine Hd.takeH 8 rfl (by kernel_rfl) (by kernel_rfl) (by kernel_rfl) (by kernel_rfl) (y_fieldR (q := 7) (ft := 3) Try.underlying114 rfl sz3 rfl rfl) (fun _ _ => rfl) (Ent.sep enn) ?_)
      first | (refine Hd.takeH 9 rfl (by kernel_rfl) (by kernel_rfl) (by kernel_rfl) (by kernel_rfl) (y_load1 ag3 rfl (Rd.pt1 pkk (by (first | rfl)))) (fun _ _ => rfl) (Ent.sep enn) ?_) | (refine Hd.takeH 9 rfl (by kernel_rfl) (by kernel_rfl) (by kernel_rfl) (by kernel_rfl) (y_load1 ag3 rfl (Rd.seg1 pkk (by (first | rfl)))) (fun _ _ => rfl) (Ent.sep enn) ?_) | (refine Hd.takeH 9 rfl (by kernel_rfl) (by kernel_rfl) (by kernel_rfl) (by kernel_rfl) (y_load1 ag3 rfl (Rd.segK1 pkk (by decide) (by (first | rfl)))) (fun _ _ => rfl) (Ent.sep enn) ?_) | (refine Hd.takeH 9 rfl (by kernel_rfl) (by kernel_rfl) (by kernel_rfl) (by kernel_rfl) (y_loadR1 ag3 rfl (by (first | exact RdS.own pkk)) (by (first | rfl))) (fun _ _ => rfl) (Ent.sep enn) ?_)
      refine Hd.eitherH 5 11 rfl rfl (by kernel_rfl) ?_ ?_
      ·
        refine Hd.callE rfl fk23 (lenC_ct _ b (k * 10 + 2) u2) (Ent.sep enn) ?_
        intro _
        refine Hd.nil ?_
        refine Hd.thenN ?_
        refine Hd.heldK (J := (fun j => !([14].contains j))) (i := 5) (Ent.sep enn) ?_
        refine Hd.takeH 10 rfl (by kernel_rfl) (by kernel_rfl) (by kernel_rfl) (by kernel_rfl) (y_leq rfl rfl) (fun _ _ => rfl) (Ent.sep enn) ?_
        refine Hd.onlyH 11 rfl (by kernel_rfl) ?_
        refine Hd.yv (y_nilp rfl) ?_
        refine Hd.nil ?_
        refine Hd.thenN ?_
        refine Hd.heldK (J := (fun j => !([14].contains j))) (i := 11) (Ent.sep enn) ?_
        refine Hd.onlyH 12 rfl (by kernel_rfl) ?_
        refine Hd.yv (y_to (v' := .pointer (some ⟨bt, k * 6, none⟩)) (y_idxA Try.underlying69 sz68 rfl rfl (by first | omega | decide)) (by rw [Nat.zero_add])) ?_
        refine Hd.nil ?_
        refine Hd.thenN ?_
        refine Hd.heldK (J := (fun j => !([14].contains j))) (i := 12) (Ent.sep enn) ?_
        first | (refine Hd.takeH 13 rfl (by kernel_rfl) (by kernel_rfl) (by kernel_rfl) (by kernel_rfl) (y_field' (q := 1) (ft := 4) Try.underlying68 rfl sz4 rfl rfl) (fun _ _ => rfl) (Ent.sep enn) ?_) | (refine Hd.takeH 13 rfl (by kernel_rfl) (by kernel_rfl) (by kernel_rfl) (by kernel_rfl) (y_fieldR (q := 1) (ft := 4) Try.underlying68 rfl sz4 rfl rfl) (fun _ _ => rfl) (Ent.sep enn) ?_)
        refine Hd.onlyH 14 rfl (by kernel_rfl) ?_
        first | (refine Hd.store1 sz4 rfl rfl rfl pkk (by first | decide | (simp; done) | (simp; omega)) ?_) | (refine Hd.storeG1 sz4 rfl rfl rfl pkk (by first | decide | (simp; done) | (simp; omega)) ?_) | (refine Hd.storeO1 sz4 rfl rfl rfl pkk (by first | omega | (simp; done) | (simp; omega)) ?_) | (refine Hd.storeK1 sz4 rfl rfl rfl pkk (by decide) (by first | decide | (simp; done) | (simp; omega)) ?_)
        try simp only [List.set_cons_zero, List.set_cons_succ]
        refine Hd.nil ?_
        refine Hd.thenN ?_
        refine Hd.heldN (J := (fun j => !([14].contains j))) (i := 14) rfl ?_
        refine Hd.endH (by kernel_rfl) ?_
        refine Hd.slots [(1, _), (3, _), (8, _), (9, _)] ⟨rfl, rfl, rfl, rfl, trivial⟩ ?_
        refine Hd.toK hK6 ?_
        refine Hd.drawsH ([segK b ((1 - k) * 10) 4 (encE c)]) (fun j => !([15].contains j)) mixed ?_
        simp only [List.length, Nat.zero_add, Nat.reduceAdd]
        refine Hd.takeH 0 rfl (by kernel_rfl) (by kernel_rfl) (by kernel_rfl) (by kernel_rfl) (y_move rfl) (fun _ _ => rfl) (Ent.sep enn) ?_
        refine Hd.takeH 1 rfl (by kernel_rfl) (by kernel_rfl) (by kernel_rfl) (by kernel_rfl) (y_move rfl) (fun _ _ => rfl) (Ent.sep enn) ?_
        first | (refine Hd.takeH 2 rfl (by kernel_rfl) (by kernel_rfl) (by kernel_rfl) (by kernel_rfl) (y_to (v' := .int .i64 ((1 - k : Nat) : Int)) (y_subn rfl rfl (by simp only [InK]; omega)) (by (congr 1; omega))) (fun _ _ => rfl) (Ent.sep enn) ?_) | (refine Hd.takeH 2 rfl (by kernel_rfl) (by kernel_rfl) (by kernel_rfl) (by kernel_rfl) (y_to (v' := .int .i64 ((1 - k : Nat) : Int)) (y_sub rfl rfl) (by (congr 1; omega))) (fun _ _ => rfl) (Ent.sep enn) ?_)
        refine Hd.takeH 3 rfl (by kernel_rfl) (by kernel_rfl) (by kernel_rfl) (by kernel_rfl) (y_move rfl) (fun _ _ => rfl) (Ent.sep enn) ?_
        refine Hd.takeH 4 rfl (by kernel_rfl) (by kernel_rfl) (by kernel_rfl) (by kernel_rfl) (y_nilp rfl) (fun _ _ => rfl) (Ent.sep enn) ?_
        first | (refine Hd.takeH 5 rfl (by kernel_rfl) (by kernel_rfl) (by kernel_rfl) (by kernel_rfl) (y_field' (q := 0) (ft := 27) Try.underlying114 rfl sz27 rfl rfl) (fun _ _ => rfl) (Ent.sep enn) ?_) | (refine Hd.takeH 5 rfl (by kernel_rfl) (by kernel_rfl) (by kernel_rfl) (by kernel_rfl) (y_fieldR (q := 0) (ft := 27) Try.underlying114 rfl sz27 rfl rfl) (fun _ _ => rfl) (Ent.sep enn) ?_)
        refine Hd.takeH 7 rfl (by kernel_rfl) (by kernel_rfl) (by kernel_rfl) (by kernel_rfl) (y_move rfl) (fun _ _ => rfl) (Ent.sep enn) ?_
        refine Hd.takeH 8 rfl (by kernel_rfl) (by kernel_rfl) (by kernel_rfl) (by kernel_rfl) (y_nilp rfl) (fun _ _ => rfl) (Ent.sep enn) ?_
        first | (refine Hd.takeH 9 rfl (by kernel_rfl) (by kernel_rfl) (by kernel_rfl) (by kernel_rfl) (y_field' (q := 5) (ft := 3) Try.underlying114 rfl sz3 rfl rfl) (fun _ _ => rfl) (Ent.sep enn) ?_) | (refine Hd.takeH 9 rfl (by kernel_rfl) (by kernel_rfl) (by kernel_rfl) (by kernel_rfl) (y_fieldR (q := 5) (ft := 3) Try.underlying114 rfl sz3 rfl rfl) (fun _ _ => rfl) (Ent.sep enn) ?_)
        first | (refine Hd.takeH 10 rfl (by kernel_rfl) (by kernel_rfl) (by kernel_rfl) (by kernel_rfl) (y_load1 ag3 rfl (Rd.pt1 pkk (by (first | rfl)))) (fun _ _ => rfl) (Ent.sep enn) ?_) | (refine Hd.takeH 10 rfl (by kernel_rfl) (by kernel_rfl) (by kernel_rfl) (by kernel_rfl) (y_load1 ag3 rfl (Rd.seg1 pkk (by (first | rfl)))) (fun _ _ => rfl) (Ent.sep enn) ?_) | (refine Hd.takeH 10 rfl (by kernel_rfl) (by kernel_rfl) (by kernel_rfl) (by kernel_rfl) (y_load1 ag3 rfl (Rd.segK1 pkk (by decide) (by (first | rfl)))) (fun _ _ => rfl) (Ent.sep enn) ?_) | (refine Hd.takeH 10 rfl (by kernel_rfl) (by kernel_rfl) (by kernel_rfl) (by kernel_rfl) (y_loadR1 ag3 rfl (by (first | exact RdS.own pkk)) (by (first | rfl))) (fun _ _ => rfl) (Ent.sep enn) ?_)
        refine Hd.eitherH 6 12 rfl rfl (by kernel_rfl) ?_ ?_
        ·
          refine Hd.callE rfl fk23 (lenC_ct _ b ((1 - k) * 10 + 0) i2) (Ent.sep enn) ?_
          intro _
          refine Hd.nil ?_
          refine Hd.thenN ?_
          refine Hd.heldK (J := (fun j => !([15].contains j))) (i := 6) (Ent.sep enn) ?_
          refine Hd.takeH 11 rfl (by kernel_rfl) (by kernel_rfl) (by kernel_rfl) (by kernel_rfl) (y_geq rfl rfl) (fun _ _ => rfl) (Ent.sep enn) ?_
          refine Hd.onlyH 12 rfl (by kernel_rfl) ?_
          refine Hd.yv (y_nilp rfl) ?_
          refine Hd.nil ?_
          refine Hd.thenN ?_
          refine Hd.heldK (J := (fun j => !([15].contains j))) (i := 12) (Ent.sep enn) ?_
          refine Hd.onlyH 13 rfl (by kernel_rfl) ?_
          refine Hd.yv (y_to (v' := .pointer (some ⟨bt, (1 - k) * 6, none⟩)) (y_idxA Try.underlying69 sz68 rfl rfl (by first | omega | decide)) (by rw [Nat.zero_add])) ?_
          refine Hd.nil ?_
          refine Hd.thenN ?_
          refine Hd.heldK (J := (fun j => !([15].contains j))) (i := 13) (Ent.sep enn) ?_
          first | (refine Hd.takeH 14 rfl (by kernel_rfl) (by kernel_rfl) (by kernel_rfl) (by kernel_rfl) (y_field' (q := 0) (ft := 4) Try.underlying68 rfl sz4 rfl rfl) (fun _ _ => rfl) (Ent.sep enn) ?_) | (refine Hd.takeH 14 rfl (by kernel_rfl) (by kernel_rfl) (by kernel_rfl) (by kernel_rfl) (y_fieldR (q := 0) (ft := 4) Try.underlying68 rfl sz4 rfl rfl) (fun _ _ => rfl) (Ent.sep enn) ?_)
          refine Hd.onlyH 15 rfl (by kernel_rfl) ?_
          first | (refine Hd.store1 sz4 rfl rfl rfl pkk (by first | decide | (simp; done) | (simp; omega)) ?_) | (refine Hd.storeG1 sz4 rfl rfl rfl pkk (by first | decide | (simp; done) | (simp; omega)) ?_) | (refine Hd.storeO1 sz4 rfl rfl rfl pkk (by first | omega | (simp; done) | (simp; omega)) ?_) | (refine Hd.storeK1 sz4 rfl rfl rfl pkk (by decide) (by first | decide | (simp; done) | (simp; omega)) ?_)
          try simp only [List.set_cons_zero, List.set_cons_succ]
          refine Hd.nil ?_
          refine Hd.thenN ?_
          refine Hd.heldN (J := (fun j => !([15].contains j))) (i := 15) rfl ?_
          refine Hd.endH (by kernel_rfl) ?_
          refine Hd.slots [(1, _), (3, _), (8, _), (9, _)] ⟨rfl, rfl, rfl, rfl, trivial⟩ ?_
          clear hK1 hK2 hK3 hK4 hK5 hK6
          refine Hd.thenN ?_
          have e1 : tvF a n x = { x with out := (n : Int), wr := decide ((((flat a.u).length - n : Nat) : Int) ≤ a.least) } := by unfold tvF; rw [if_pos hn0]
          have e2 : tvT c n y = { y with inn := (n : Int), rd := decide (c.low ≤ (((flat c.i).length + n : Nat) : Int)) } := by unfold tvT; rw [if_pos hn0]
          rw [e1, e2]
          exact Hd.meet (u2, i2) (by repeat (first | exact trivial | refine ⟨rfl, ?_⟩)) (Ent.sep (.pure hj (.pick pkk (.pick pkk (.pick pkk (.pick pkk (.pick pkk (.pick pkk (.eq pkk (segK_eq (by first | (rw [hu2]; done) | (rw [hu2]; rfl))) (.eq pkk (segK_eq (by first | (rw [hi2]; done) | (rw [hi2]; rfl))) enn))))))))))
        ·
          refine Hd.yv (y_nilp rfl) ?_
          refine Hd.nil ?_
          refine Hd.thenN ?_
          refine Hd.heldK (J := (fun j => !([15].contains j))) (i := 12) (Ent.sep enn) ?_
          refine Hd.onlyH 6 rfl (by kernel_rfl) ?_
          refine Hd.callE rfl fk23 (lenC_ct _ b ((1 - k) * 10 + 0) i2) (Ent.sep enn) ?_
          intro _
          refine Hd.nil ?_
          refine Hd.thenN ?_
          refine Hd.heldK (J := (fun j => !([15].contains j))) (i := 6) (Ent.sep enn) ?_
          refine Hd.takeH 11 rfl (by kernel_rfl) (by kernel_rfl) (by kernel_rfl) (by kernel_rfl) (y_geq rfl rfl) (fun _ _ => rfl) (Ent.sep enn) ?_
          refine Hd.onlyH 13 rfl (by kernel_rfl) ?_
          refine Hd.yv (y_to (v' := .pointer (some ⟨bt, (1 - k) * 6, none⟩)) (y_idxA Try.underlying69 sz68 rfl rfl (by first | omega | decide)) (by rw [Nat.zero_add])) ?_
          refine Hd.nil ?_
          refine Hd.thenN ?_
          refine Hd.heldK (J := (fun j => !([15].contains j))) (i := 13) (Ent.sep enn) ?_
          first | (refine Hd.takeH 14 rfl (by kernel_rfl) (by kernel_rfl) (by kernel_rfl) (by kernel_rfl) (y_field' (q := 0) (ft := 4) Try.underlying68 rfl sz4 rfl rfl) (fun _ _ => rfl) (Ent.sep enn) ?_) | (refine Hd.takeH 14 rfl (by kernel_rfl) (by kernel_rfl) (by kernel_rfl) (by kernel_rfl) (y_fieldR (q := 0) (ft := 4) Try.underlying68 rfl sz4 rfl rfl) (fun _ _ => rfl) (Ent.sep enn) ?_)
          refine Hd.onlyH 15 rfl (by kernel_rfl) ?_
          first | (refine Hd.store1 sz4 rfl rfl rfl pkk (by first | decide | (simp; done) | (simp; omega)) ?_) | (refine Hd.storeG1 sz4 rfl rfl rfl pkk (by first | decide | (simp; done) | (simp; omega)) ?_) | (refine Hd.storeO1 sz4 rfl rfl rfl pkk (by first | omega | (simp; done) | (simp; omega)) ?_) | (refine Hd.storeK1 sz4 rfl rfl rfl pkk (by decide) (by first | decide | (simp; done) | (simp; omega)) ?_)
          try simp only [List.set_cons_zero, List.set_cons_succ]
          refine Hd.nil ?_
          refine Hd.thenN ?_
          refine Hd.heldN (J := (fun j => !([15].contains j))) (i := 15) rfl ?_
          refine Hd.endH (by kernel_rfl) ?_
          refine Hd.slots [(1, _), (3, _), (8, _), (9, _)] ⟨rfl, rfl, rfl, rfl, trivial⟩ ?_
          clear hK1 hK2 hK3 hK4 hK5 hK6
          refine Hd.thenN ?_
          have e1 : tvF a n x = { x with out := (n : Int), wr := decide ((((flat a.u).length - n : Nat) : Int) ≤ a.least) } := by unfold tvF; rw [if_pos hn0]
          have e2 : tvT c n y = { y with inn := (n : Int), rd := decide (c.low ≤ (((flat c.i).length + n : Nat) : Int)) } := by unfold tvT; rw [if_pos hn0]
          rw [e1, e2]
          exact Hd.meet (u2, i2) (by repeat (first | exact trivial | refine ⟨rfl, ?_⟩)) (Ent.sep (.pure hj (.pick pkk (.pick pkk (.pick pkk (.pick pkk (.pick pkk (.pick pkk (.eq pkk (segK_eq (by first | (rw [hu2]; done) | (rw [hu2]; rfl))) (.eq pkk (segK_eq (by first | (rw [hi2]; done) | (rw [hi2]; rfl))) enn))))))))))
      ·
        refine Hd.yv (y_nilp rfl) ?_
        refine Hd.nil ?_
        refine Hd.thenN ?_
        refine Hd.heldK (J := (fun j => !([14].contains j))) (i := 11) (Ent.sep enn) ?_
        refine Hd.onlyH 5 rfl (by kernel_rfl) ?_
        refine Hd.callE rfl fk23 (lenC_ct _ b (k * 10 + 2) u2) (Ent.sep enn) ?_
        intro _
        refine Hd.nil ?_
        refine Hd.thenN ?_
        refine Hd.heldK (J := (fun j => !([14].contains j))) (i := 5) (Ent.sep enn) ?_
        refine Hd.takeH 10 rfl (by kernel_rfl) (by kernel_rfl) (by kernel_rfl) (by kernel_rfl) (y_leq rfl rfl) (fun _ _ => rfl) (Ent.sep enn) ?_
        refine Hd.onlyH 12 rfl (by kernel_rfl) ?_
        refine Hd.yv (y_to (v' := .pointer (some ⟨bt, k * 6, none⟩)) (y_idxA Try.underlying69 sz68 rfl rfl (by first | omega | decide)) (by rw [Nat.zero_add])) ?_
        refine Hd.nil ?_
        refine Hd.thenN ?_
        refine Hd.heldK (J := (fun j => !([14].contains j))) (i := 12) (Ent.sep enn) ?_
        first | (refine Hd.takeH 13 rfl (by kernel_rfl) (by kernel_rfl) (by kernel_rfl) (by kernel_rfl) (y_field' (q := 1) (ft := 4) Try.underlying68 rfl sz4 rfl rfl) (fun _ _ => rfl) (Ent.sep enn) ?_) | (refine Hd.takeH 13 rfl (by kernel_rfl) (by kernel_rfl) (by kernel_rfl) (by kernel_rfl) (y_fieldR (q := 1) (ft := 4) Try.underlying68 rfl sz4 rfl rfl) (fun _ _ => rfl) (Ent.sep enn) ?_)
        refine Hd.onlyH 14 rfl (by kernel_rfl) ?_
        first | (refine Hd.store1 sz4 rfl rfl rfl pkk (by first | decide | (simp; done) | (simp; omega)) ?_) | (refine Hd.storeG1 sz4 rfl rfl rfl pkk (by first | decide | (simp; done) | (simp; omega)) ?_) | (refine Hd.storeO1 sz4 rfl rfl rfl pkk (by first | omega | (simp; done) | (simp; omega)) ?_) | (refine Hd.storeK1 sz4 rfl rfl rfl pkk (by decide) (by first | decide | (simp; done) | (simp; omega)) ?_)
        try simp only [List.set_cons_zero, List.set_cons_succ]
        refine Hd.nil ?_
        refine Hd.thenN ?_
        refine Hd.heldN (J := (fun j => !([14].contains j))) (i := 14) rfl ?_
        refine Hd.endH (by kernel_rfl) ?_
        refine Hd.slots [(1, _), (3, _), (8, _), (9, _)] ⟨rfl, rfl, rfl, rfl, trivial⟩ ?_
        refine Hd.toK hK6 ?_
        refine Hd.drawsH ([segK b ((1 - k) * 10) 4 (encE c)]) (fun j => !([15].contains j)) mixed ?_
        simp only [List.length, Nat.zero_add, Nat.reduceAdd]
        refine Hd.takeH 0 rfl (by kernel_rfl) (by kernel_rfl) (by kernel_rfl) (by kernel_rfl) (y_move rfl) (fun _ _ => rfl) (Ent.sep enn) ?_
        refine Hd.takeH 1 rfl (by kernel_rfl) (by kernel_rfl) (by kernel_rfl) (by kernel_rfl) (y_move rfl) (fun _ _ => rfl) (Ent.sep enn) ?_
        first | (refine Hd.takeH 2 rfl (by kernel_rfl) (by kernel_rfl) (by kernel_rfl) (by kernel_rfl) (y_to (v' := .int .i64 ((1 - k : Nat) : Int)) (y_subn rfl rfl (by simp only [InK]; omega)) (by (congr 1; omega))) (fun _ _ => rfl) (Ent.sep enn) ?_) | (refine Hd.takeH 2 rfl (by kernel_rfl) (by kernel_rfl) (by kernel_rfl) (by kernel_rfl) (y_to (v' := .int .i64 ((1 - k : Nat) : Int)) (y_sub rfl rfl) (by (congr 1; omega))) (fun _ _ => rfl) (Ent.sep enn) ?_)
        refine Hd.takeH 3 rfl (by kernel_rfl) (by kernel_rfl) (by kernel_rfl) (by kernel_rfl) (y_move rfl) (fun _ _ => rfl) (Ent.sep enn) ?_
        refine Hd.takeH 4 rfl (by kernel_rfl) (by kernel_rfl) (by kernel_rfl) (by kernel_rfl) (y_nilp rfl) (fun _ _ => rfl) (Ent.sep enn) ?_
        first | (refine Hd.takeH 5 rfl (by kernel_rfl) (by kernel_rfl) (by kernel_rfl) (by kernel_rfl) (y_field' (q := 0) (ft := 27) Try.underlying114 rfl sz27 rfl rfl) (fun _ _ => rfl) (Ent.sep enn) ?_) | (refine Hd.takeH 5 rfl (by kernel_rfl) (by kernel_rfl) (by kernel_rfl) (by kernel_rfl) (y_fieldR (q := 0) (ft := 27) Try.underlying114 rfl sz27 rfl rfl) (fun _ _ => rfl) (Ent.sep enn) ?_)
        refine Hd.takeH 7 rfl (by kernel_rfl) (by kernel_rfl) (by kernel_rfl) (by kernel_rfl) (y_move rfl) (fun _ _ => rfl) (Ent.sep enn) ?_
        refine Hd.takeH 8 rfl (by kernel_rfl) (by kernel_rfl) (by kernel_rfl) (by kernel_rfl) (y_nilp rfl) (fun _ _ => rfl) (Ent.sep enn) ?_
        first | (refine Hd.takeH 9 rfl (by kernel_rfl) (by kernel_rfl) (by kernel_rfl) (by kernel_rfl) (y_field' (q := 5) (ft := 3) Try.underlying114 rfl sz3 rfl rfl) (fun _ _ => rfl) (Ent.sep enn) ?_) | (refine Hd.takeH 9 rfl (by kernel_rfl) (by kernel_rfl) (by kernel_rfl) (by kernel_rfl) (y_fieldR (q := 5) (ft := 3) Try.underlying114 rfl sz3 rfl rfl) (fun _ _ => rfl) (Ent.sep enn) ?_)
        first | (refine Hd.takeH 10 rfl (by kernel_rfl) (by kernel_rfl) (by kernel_rfl) (by kernel_rfl) (y_load1 ag3 rfl (Rd.pt1 pkk (by (first | rfl)))) (fun _ _ => rfl) (Ent.sep enn) ?_) | (refine Hd.takeH 10 rfl (by kernel_rfl) (by kernel_rfl) (by kernel_rfl) (by kernel_rfl) (y_load1 ag3 rfl (Rd.seg1 pkk (by (first | rfl)))) (fun _ _ => rfl) (Ent.sep enn) ?_) | (refine Hd.takeH 10 rfl (by kernel_rfl) (by kernel_rfl) (by kernel_rfl) (by kernel_rfl) (y_load1 ag3 rfl (Rd.segK1 pkk (by decide) (by (first | rfl)))) (fun _ _ => rfl) (Ent.sep enn) ?_) | (refine Hd.takeH 10 rfl (by kernel_rfl) (by kernel_rfl) (by kernel_rfl) (by kernel_rfl) (y_loadR1 ag3 rfl (by (first | exact RdS.own pkk)) (by (first | rfl))) (fun _ _ => rfl) (Ent.sep enn) ?_)
        refine Hd.eitherH 6 12 rfl rfl (by kernel_rfl) ?_ ?_
        ·
          refine Hd.callE rfl fk23 (lenC_ct _ b ((1 - k) * 10 + 0) i2) (Ent.sep enn) ?_
          intro _
          refine Hd.nil ?_
          refine Hd.thenN ?_
          refine Hd.heldK (J := (fun j => !([15].contains j))) (i := 6) (Ent.sep enn) ?_
          refine Hd.takeH 11 rfl (by kernel_rfl) (by kernel_rfl) (by kernel_rfl) (by kernel_rfl) (y_geq rfl rfl) (fun _ _ => rfl) (Ent.sep enn) ?_
          refine Hd.onlyH 12 rfl (by kernel_rfl) ?_
          refine Hd.yv (y_nilp rfl) ?_
          refine Hd.nil ?_
          refine Hd.thenN ?_
          refine Hd.heldK (J := (fun j => !([15].contains j))) (i := 12) (Ent.sep enn) ?_
          refine Hd.onlyH 13 rfl (by kernel_rfl) ?_
          refine Hd.yv (y_to (v' := .pointer (some ⟨bt, (1 - k) * 6, none⟩)) (y_idxA Try.underlying69 sz68 rfl rfl (by first | omega | decide)) (by rw [Nat.zero_add])) ?_
          refine Hd.nil ?_
          refine Hd.thenN ?_
          refine Hd.heldK (J := (fun j => !([15].contains j))) (i := 13) (Ent.sep enn) ?_
          first | (refine Hd.takeH 14 rfl (by kernel_rfl) (by kernel_rfl) (by kernel_rfl) (by kernel_rfl) (y_field' (q := 0) (ft := 4) Try.underlying68 rfl sz4 rfl rfl) (fun _ _ => rfl) (Ent.sep enn) ?_) | (refine Hd.takeH 14 rfl (by kernel_rfl) (by kernel_rfl) (by kernel_rfl) (by kernel_rfl) (y_fieldR (q := 0) (ft := 4) Try.underlying68 rfl sz4 rfl rfl) (fun _ _ => rfl) (Ent.sep enn) ?_)
          refine Hd.onlyH 15 rfl (by kernel_rfl) ?_
          first | (refine Hd.store1 sz4 rfl rfl rfl pkk (by first | decide | (simp; done) | (simp; omega)) ?_) | (refine Hd.storeG1 sz4 rfl rfl rfl pkk (by first | decide | (simp; done) | (simp; omega)) ?_) | (refine Hd.storeO1 sz4 rfl rfl rfl pkk (by first | omega | (simp; done) | (simp; omega)) ?_) | (refine Hd.storeK1 sz4 rfl rfl rfl pkk (by decide) (by first | decide | (simp; done) | (simp; omega)) ?_)
          try simp only [List.set_cons_zero, List.set_cons_succ]
          refine Hd.nil ?_
          refine Hd.thenN ?_
          refine Hd.heldN (J := (fun j => !([15].contains j))) (i := 15) rfl ?_
          refine Hd.endH (by kernel_rfl) ?_
          refine Hd.slots [(1, _), (3, _), (8, _), (9, _)] ⟨rfl, rfl, rfl, rfl, trivial⟩ ?_
          clear hK1 hK2 hK3 hK4 hK5 hK6
          refine Hd.thenN ?_
          have e1 : tvF a n x = { x with out := (n : Int), wr := decide ((((flat a.u).length - n : Nat) : Int) ≤ a.least) } := by unfold tvF; rw [if_pos hn0]
          have e2 : tvT c n y = { y with inn := (n : Int), rd := decide (c.low ≤ (((flat c.i).length + n : Nat) : Int)) } := by unfold tvT; rw [if_pos hn0]
          rw [e1, e2]
          exact Hd.meet (u2, i2) (by repeat (first | exact trivial | refine ⟨rfl, ?_⟩)) (Ent.sep (.pure hj (.pick pkk (.pick pkk (.pick pkk (.pick pkk (.pick pkk (.pick pkk (.eq pkk (segK_eq (by first | (rw [hu2]; done) | (rw [hu2]; rfl))) (.eq pkk (segK_eq (by first | (rw [hi2]; done) | (rw [hi2]; rfl))) enn))))))))))
        ·
          refine Hd.yv (y_nilp rfl) ?_
          refine Hd.nil ?_
          refine Hd.thenN ?_
          refine Hd.heldK (J := (fun j => !([15].contains j))) (i := 12) (Ent.sep enn) ?_
          refine Hd.onlyH 6 rfl (by kernel_rfl) ?_
          refine Hd.callE rfl fk23 (lenC_ct _ b ((1 - k) * 10 + 0) i2) (Ent.sep enn) ?_
          intro _
          refine Hd.nil ?_
          refine Hd.thenN ?_
          refine Hd.heldK (J := (fun j => !([15].contains j))) (i := 6) (Ent.sep enn) ?_
          refine Hd.takeH 11 rfl (by kernel_rfl) (by kernel_rfl) (by kernel_rfl) (by kernel_rfl) (y_geq rfl rfl) (fun _ _ => rfl) (Ent.sep enn) ?_
          refine Hd.onlyH 13 rfl (by kernel_rfl) ?_
          refine Hd.yv (y_to (v' := .pointer (some ⟨bt, (1 - k) * 6, none⟩)) (y_idxA Try.underlying69 sz68 rfl rfl (by first | omega | decide)) (by rw [Nat.zero_add])) ?_
          refine Hd.nil ?_
          refine Hd.thenN ?_
          refine Hd.heldK (J := (fun j => !([15].contains j))) (i := 13) (Ent.sep enn) ?_
          first | (refine Hd.takeH 14 rfl (by kernel_rfl) (by kernel_rfl) (by kernel_rfl) (by kernel_rfl) (y_field' (q := 0) (ft := 4) Try.underlying68 rfl sz4 rfl rfl) (fun _ _ => rfl) (Ent.sep enn) ?_) | (refine Hd.takeH 14 rfl (by kernel_rfl) (by kernel_rfl) (by kernel_rfl) (by kernel_rfl) (y_fieldR (q := 0) (ft := 4) Try.underlying68 rfl sz4 rfl rfl) (fun _ _ => rfl) (Ent.sep enn) ?_)
          refine Hd.onlyH 15 rfl (by kernel_rfl) ?_
          first | (refine Hd.store1 sz4 rfl rfl rfl pkk (by first | decide | (simp; done) | (simp; omega)) ?_) | (refine Hd.storeG1 sz4 rfl rfl rfl pkk (by first | decide | (simp; done) | (simp; omega)) ?_) | (refine Hd.storeO1 sz4 rfl rfl rfl pkk (by first | omega | (simp; done) | (simp; omega)) ?_) | (refine Hd.storeK1 sz4 rfl rfl rfl pkk (by decide) (by first | decide | (simp; done) | (simp; omega)) ?_)
          try simp only [List.set_cons_zero, List.set_cons_succ]
          refine Hd.nil ?_
          refine Hd.thenN ?_
          refine Hd.heldN (J := (fun j => !([15].contains j))) (i := 15) rfl ?_
          refine Hd.endH (by kernel_rfl) ?_
          refine Hd.slots [(1, _), (3, _), (8, _), (9, _)] ⟨rfl, rfl, rfl, rfl, trivial⟩ ?_
          clear hK1 hK2 hK3 hK4 hK5 hK6
          refine Hd.thenN ?_
          have e1 : tvF a n x = { x with out := (n : Int), wr := decide ((((flat a.u).length - n : Nat) : Int) ≤ a.least) } := by unfold tvF; rw [if_pos hn0]
          have e2 : tvT c n y = { y with inn := (n : Int), rd := decide (c.low ≤ (((flat c.i).length + n : Nat) : Int)) } := by unfold tvT; rw [if_pos hn0]
          rw [e1, e2]
          exact Hd.meet (u2, i2) (by repeat (first | exact trivial | refine ⟨rfl, ?_⟩)) (Ent.sep (.pure hj (.pick pkk (.pick pkk (.pick pkk (.pick pkk (.pick pkk (.pick pkk (.eq pkk (segK_eq (by first | (rw [hu2]; done) | (rw [hu2]; rfl))) (.eq pkk (segK_eq (by first | (rw [hi2]; done) | (rw [hi2]; rfl))) enn))))))))))
    ·
      try simp only [decide_eq_true_eq, decide_eq_false_iff_not, Bool.and_eq_true, Bool.or_eq_true, Bool.and_eq_false_iff, Bool.or_eq_false_iff, Bool.not_eq_true', Bool.not_eq_false', Bool.not_eq_true, Bool.not_eq_false, Int.not_lt, Int.not_le, Decidable.not_not, ne_eq] at hc0
      refine Hd.skip ?_
      clear hK1 hK2 hK3
      refine Hd.thenN ?_
      obtain rfl : n = 0 := by omega
      exact Hd.meet (a.u, c.i) (by repeat (first | exact trivial | refine ⟨rfl, ?_⟩)) (Ent.sep (.pure ⟨ha.gu, hc.gi, by simp, by simp⟩ enn))
  ·
    rintro ⟨u2, i2⟩
    dsimp only
    refine Hd.pure (fun hj => ?_)
    have hu2 : (flat u2).length = (flat a.u).length - n := by rw [hj.2.2.1, List.length_drop]
    refine Hd.seq (fun K7 hK7 => ?_)
    refine Hd.region ?_
    refine Hd.yv (y_move rfl) ?_
    refine Hd.yv (y_nilp rfl) ?_
    first | (refine Hd.yv (y_field' (q := 8) (ft := 4) Try.underlying114 rfl sz4 rfl rfl) ?_) | (refine Hd.yv (y_fieldR (q := 8) (ft := 4) Try.underlying114 rfl sz4 rfl rfl) ?_)
    first | (refine Hd.yv (y_load1 ag4 rfl (Rd.pt1 pkk (by (first | rfl)))) ?_) | (refine Hd.yv (y_load1 ag4 rfl (Rd.seg1 pkk (by (first | rfl)))) ?_) | (refine Hd.yv (y_load1 ag4 rfl (Rd.segK1 pkk (by decide) (by (first | rfl)))) ?_) | (refine Hd.yv (y_loadR1 ag4 rfl (by (first | exact RdS.own pkk)) (by (first | rfl))) ?_)
    refine Hd.yv (y_move rfl) ?_
    apply Hd.andg 6 82 88 [(1, _), (3, _), (9, _)] rfl ⟨rfl, rfl, rfl, trivial⟩
    · intro hg7_82
      try simp only [decide_eq_true_eq, decide_eq_false_iff_not, Bool.and_eq_true, Bool.or_eq_true, Bool.and_eq_false_iff, Bool.or_eq_false_iff, Bool.not_eq_true', Bool.not_eq_false', Bool.not_eq_true, Bool.not_eq_false, Int.not_lt, Int.not_le, Decidable.not_not, ne_eq] at hg7_82
      simp only [List.take]
      refine Hd.yg rfl rfl (y_move rfl) ?_
      refine Hd.yg rfl rfl (y_nilp rfl) ?_
      first | (refine Hd.yg rfl rfl (y_field' (q := 2) (ft := 27) Try.underlying114 rfl sz27 rfl rfl) ?_) | (refine Hd.yg rfl rfl (y_fieldR (q := 2) (ft := 27) Try.underlying114 rfl sz27 rfl rfl) ?_)
      refine Hd.unguard rfl rfl ?_
      refine Hd.callE rfl fk23 (lenC_ct _ b (k * 10 + 2) u2) (Ent.sep enn) ?_
      intro _
      first | (refine Hd.yg rfl rfl (y_eqlT rfl rfl) ?_) | (refine Hd.yg rfl rfl (y_eql rfl rfl) ?_)
      first | (refine Hd.yv (y_pickT rfl rfl) ?_) | (refine Hd.yv (y_pickF rfl rfl) ?_) | (refine Hd.yv (y_pickb rfl rfl rfl) ?_) | (refine Hd.yv (y_pick rfl rfl rfl) ?_)
      refine Hd.nil ?_
      exact Hd.mend (by repeat (first | exact trivial | refine ⟨rfl, ?_⟩)) (Ent.sep enn)
    · intro hg7_82
      try simp only [decide_eq_true_eq, decide_eq_false_iff_not, Bool.and_eq_true, Bool.or_eq_true, Bool.and_eq_false_iff, Bool.or_eq_false_iff, Bool.not_eq_true', Bool.not_eq_false', Bool.not_eq_true, Bool.not_eq_false, Int.not_lt, Int.not_le, Decidable.not_not, ne_eq] at hg7_82
      simp only [List.take]
      refine Hd.ng rfl rfl rfl ?_
      refine Hd.ng rfl rfl rfl ?_
      refine Hd.ng rfl rfl rfl ?_
      refine Hd.ng rfl rfl rfl ?_
      refine Hd.ng rfl rfl rfl ?_
      first | (refine Hd.yv (y_pickT rfl rfl) ?_) | (refine Hd.yv (y_pickF rfl rfl) ?_) | (refine Hd.yv (y_pickb rfl rfl rfl) ?_) | (refine Hd.yv (y_pick rfl rfl rfl) ?_)
      refine Hd.nil ?_
      exact Hd.mend (by repeat (first | exact trivial | refine ⟨rfl, ?_⟩)) (Ent.sep enn)
    simp only [List.drop]
    refine Hd.yv (y_move rfl) ?_
    apply Hd.andg 7 89 96 [(1, _), (3, _), (9, _)] rfl ⟨rfl, rfl, rfl, trivial⟩
    · intro hg7_89
      try simp only [decide_eq_true_eq, decide_eq_false_iff_not, Bool.and_eq_true, Bool.or_eq_true, Bool.and_eq_false_iff, Bool.or_eq_false_iff, Bool.not_eq_true', Bool.not_eq_false', Bool.not_eq_true, Bool.not_eq_false, Int.not_lt, Int.not_le, Decidable.not_not, ne_eq] at hg7_89
      simp only [List.take]
      refine Hd.yg rfl rfl (y_move rfl) ?_
      refine Hd.yg rfl rfl (y_nilp rfl) ?_
      first | (refine Hd.yg rfl rfl (y_field' (q := 4) (ft := 3) Try.underlying114 rfl sz3 rfl rfl) ?_) | (refine Hd.yg rfl rfl (y_fieldR (q := 4) (ft := 3) Try.underlying114 rfl sz3 rfl rfl) ?_)
      first | (refine Hd.yg rfl rfl (y_load1 ag3 rfl (Rd.pt1 pkk (by (first | rfl)))) ?_) | (refine Hd.yg rfl rfl (y_load1 ag3 rfl (Rd.seg1 pkk (by (first | rfl)))) ?_) | (refine Hd.yg rfl rfl (y_load1 ag3 rfl (Rd.segK1 pkk (by decide) (by (first | rfl)))) ?_) | (refine Hd.yg rfl rfl (y_loadR1 ag3 rfl (by (first | exact RdS.own pkk)) (by (first | rfl))) ?_)
      refine Hd.yg rfl rfl (y_and rfl rfl) ?_
      refine Hd.yg rfl rfl (y_neq rfl rfl) ?_
      first | (refine Hd.yv (y_pickT rfl rfl) ?_) | (refine Hd.yv (y_pickF rfl rfl) ?_) | (refine Hd.yv (y_pickb rfl rfl rfl) ?_) | (refine Hd.yv (y_pick rfl rfl rfl) ?_)
      refine Hd.nil ?_
      exact Hd.mend (by repeat (first | exact trivial | refine ⟨rfl, ?_⟩)) (Ent.sep enn)
    · intro hg7_89
      try simp only [decide_eq_true_eq, decide_eq_false_iff_not, Bool.and_eq_true, Bool.or_eq_true, Bool.and_eq_false_iff, Bool.or_eq_false_iff, Bool.not_eq_true', Bool.not_eq_false', Bool.not_eq_true, Bool.not_eq_false, Int.not_lt, Int.not_le, Decidable.not_not, ne_eq] at hg7_89
      simp only [List.take]
      refine Hd.ng rfl rfl rfl ?_
      refine Hd.ng rfl rfl rfl ?_
      refine Hd.ng rfl rfl rfl ?_
      refine Hd.ng rfl rfl rfl ?_
      refine Hd.ng rfl rfl rfl ?_
      refine Hd.ng rfl rfl rfl ?_
      first | (refine Hd.yv (y_pickT rfl rfl) ?_) | (refine Hd.yv (y_pickF rfl rfl) ?_) | (refine Hd.yv (y_pickb rfl rfl rfl) ?_) | (refine Hd.yv (y_pick rfl rfl rfl) ?_)
      refine Hd.nil ?_
      exact Hd.mend (by repeat (first | exact trivial | refine ⟨rfl, ?_⟩)) (Ent.sep enn)
    simp only [List.drop]
    refine Hd.yv (y_move rfl) ?_
    apply Hd.andg 6 97 103 [(1, _), (3, _), (9, _)] rfl ⟨rfl, rfl, rfl, trivial⟩
    · intro hg7_97
      try simp only [decide_eq_true_eq, decide_eq_false_iff_not, Bool.and_eq_true, Bool.or_eq_true, Bool.and_eq_false_iff, Bool.or_eq_false_iff, Bool.not_eq_true', Bool.not_eq_false', Bool.not_eq_true, Bool.not_eq_false, Int.not_lt, Int.not_le, Decidable.not_not, ne_eq] at hg7_97
      simp only [List.take]
      refine Hd.yg rfl rfl (y_move rfl) ?_
      refine Hd.yg rfl rfl (y_nilp rfl) ?_
      first | (refine Hd.yg rfl rfl (y_field' (q := 9) (ft := 4) Try.underlying114 rfl sz4 rfl rfl) ?_) | (refine Hd.yg rfl rfl (y_fieldR (q := 9) (ft := 4) Try.underlying114 rfl sz4 rfl rfl) ?_)
      first | (refine Hd.yg rfl rfl (y_load1 ag4 rfl (Rd.pt1 pkk (by (first | rfl)))) ?_) | (refine Hd.yg rfl rfl (y_load1 ag4 rfl (Rd.seg1 pkk (by (first | rfl)))) ?_) | (refine Hd.yg rfl rfl (y_load1 ag4 rfl (Rd.segK1 pkk (by decide) (by (first | rfl)))) ?_) | (refine Hd.yg rfl rfl (y_loadR1 ag4 rfl (by (first | exact RdS.own pkk)) (by (first | rfl))) ?_)
      refine Hd.yg rfl rfl (y_not rfl) ?_
      first | (refine Hd.yv (y_pickT rfl rfl) ?_) | (refine Hd.yv (y_pickF rfl rfl) ?_) | (refine Hd.yv (y_pickb rfl rfl rfl) ?_) | (refine Hd.yv (y_pick rfl rfl rfl) ?_)
      refine Hd.nil ?_
      exact Hd.mend (by repeat (first | exact trivial | refine ⟨rfl, ?_⟩)) (Ent.sep enn)
    · intro hg7_97
      try simp only [decide_eq_true_eq, decide_eq_false_iff_not, Bool.and_eq_true, Bool.or_eq_true, Bool.and_eq_false_iff, Bool.or_eq_false_iff, Bool.not_eq_true', Bool.not_eq_false', Bool.not_eq_true, Bool.not_eq_false, Int.not_lt, Int.not_le, Decidable.not_not, ne_eq] at hg7_97
      simp only [List.take]
      refine Hd.ng rfl rfl rfl ?_
      refine Hd.ng rfl rfl rfl ?_
      refine Hd.ng rfl rfl rfl ?_
      refine Hd.ng rfl rfl rfl ?_
      refine Hd.ng rfl rfl rfl ?_
      first | (refine Hd.yv (y_pickT rfl rfl) ?_) | (refine Hd.yv (y_pickF rfl rfl) ?_) | (refine Hd.yv (y_pickb rfl rfl rfl) ?_) | (refine Hd.yv (y_pick rfl rfl rfl) ?_)
      refine Hd.nil ?_
      exact Hd.mend (by repeat (first | exact trivial | refine ⟨rfl, ?_⟩)) (Ent.sep enn)
    simp only [List.drop]
    refine Hd.nil ?_
    refine Hd.slots [(1, _), (3, _), (9, _), (103, _)] ⟨rfl, rfl, rfl, rfl, trivial⟩ ?_
    refine Hd.toK hK7 ?_
    refine Hd.cond rfl (fun hc1 => ?_) (fun hc1 => ?_)
    ·
      try simp only [decide_eq_true_eq, decide_eq_false_iff_not, Bool.and_eq_true, Bool.or_eq_true, Bool.and_eq_false_iff, Bool.or_eq_false_iff, Bool.not_eq_true', Bool.not_eq_false', Bool.not_eq_true, Bool.not_eq_false, Int.not_lt, Int.not_le, Decidable.not_not, ne_eq] at hc1
      refine Hd.seq (fun K8 hK8 => ?_)
      refine Hd.region ?_
      refine Hd.yv (y_move rfl) ?_
      refine Hd.yv (y_nilp rfl) ?_
      first | (refine Hd.yv (y_field' (q := 9) (ft := 4) Try.underlying114 rfl sz4 rfl rfl) ?_) | (refine Hd.yv (y_fieldR (q := 9) (ft := 4) Try.underlying114 rfl sz4 rfl rfl) ?_)
      first | (refine Hd.store1 sz4 rfl rfl rfl pkk (by first | decide | (simp; done) | (simp; omega)) ?_) | (refine Hd.storeG1 sz4 rfl rfl rfl pkk (by first | decide | (simp; done) | (simp; omega)) ?_) | (refine Hd.storeO1 sz4 rfl rfl rfl pkk (by first | omega | (simp; done) | (simp; omega)) ?_) | (refine Hd.storeK1 sz4 rfl rfl rfl pkk (by decide) (by first | decide | (simp; done) | (simp; omega)) ?_)
      try simp only [List.set_cons_zero, List.set_cons_succ]
      refine Hd.nil ?_
      refine Hd.slots [(1, _), (3, _)] ⟨rfl, rfl, trivial⟩ ?_
      refine Hd.toK hK8 ?_
      refine Hd.region ?_
      refine Hd.yv (y_move rfl) ?_
      refine Hd.yv (y_move rfl) ?_
      first | (refine Hd.yv (y_to (v' := .int .i64 ((1 - k : Nat) : Int)) (y_subn rfl rfl (by simp only [InK]; omega)) (by (congr 1; omega))) ?_) | (refine Hd.yv (y_to (v' := .int .i64 ((1 - k : Nat) : Int)) (y_sub rfl rfl) (by (congr 1; omega))) ?_)
      refine Hd.yv (y_nilp rfl) ?_
      refine Hd.yv (y_to (v' := .pointer (some ⟨bt, (1 - k) * 6, none⟩)) (y_idxA Try.underlying69 sz68 rfl rfl (by first | omega | decide)) (by rw [Nat.zero_add])) ?_
      first | (refine Hd.yv (y_field' (q := 2) (ft := 3) Try.underlying68 rfl sz3 rfl rfl) ?_) | (refine Hd.yv (y_fieldR (q := 2) (ft := 3) Try.underlying68 rfl sz3 rfl rfl) ?_)
      first | (refine Hd.store1 sz3 rfl rfl rfl pkk (by first | decide | (simp; done) | (simp; omega)) ?_) | (refine Hd.storeG1 sz3 rfl rfl rfl pkk (by first | decide | (simp; done) | (simp; omega)) ?_) | (refine Hd.storeO1 sz3 rfl rfl rfl pkk (by first | omega | (simp; done) | (simp; omega)) ?_) | (refine Hd.storeK1 sz3 rfl rfl rfl pkk (by decide) (by first | decide | (simp; done) | (simp; omega)) ?_)
      try simp only [List.set_cons_zero, List.set_cons_succ]
      refine Hd.nil ?_
      refine Hd.slots [] trivial ?_
      clear hK1 hK7 hK8
      first
      | (obtain ⟨⟨⟨h1, h2⟩, h3⟩, h4⟩ := hc1
         have h5 : (flat a.u).length = n := by omega
         have hE : endB a c n = true := by unfold endB; rw [h1, h4]; simp [h5, h3]
         rw [hE, Bool.or_true, if_pos rfl]
         exact Hd.end0 rfl (u2, i2) rfl (Ent.sep (.pure hj enn)))
      | (have hE : endB a c n = false := by
           unfold endB
           rcases hc1 with ((h | h) | h) | h
           · rw [h]; rfl
           · have h5 : ¬ (flat a.u).length = n := by omega
             simp [h5]
           · simp [h]
           · simp [h]
         rw [hE, Bool.or_false, if_neg (by decide)]
         exact Hd.end0 rfl (u2, i2) rfl (Ent.sep (.pure hj enn)))
    ·
      try simp only [decide_eq_true_eq, decide_eq_false_iff_not, Bool.and_eq_true, Bool.or_eq_true, Bool.and_eq_false_iff, Bool.or_eq_false_iff, Bool.not_eq_true', Bool.not_eq_false', Bool.not_eq_true, Bool.not_eq_false, Int.not_lt, Int.not_le, Decidable.not_not, ne_eq] at hc1
      refine Hd.skip ?_
      clear hK1 hK7
      first
      | (obtain ⟨⟨⟨h1, h2⟩, h3⟩, h4⟩ := hc1
         have h5 : (flat a.u).length = n := by omega
         have hE : endB a c n = true := by unfold endB; rw [h1, h4]; simp [h5, h3]
         rw [hE, Bool.or_true, if_pos rfl]
         exact Hd.end0 rfl (u2, i2) rfl (Ent.sep (.pure hj enn)))
      | (have hE : endB a c n = false := by
           unfold endB
           rcases hc1 with ((h | h) | h) | h
           · rw [h]; rfl
           · have h5 : ¬ (flat a.u).length = n := by omega
             simp [h5]
           · simp [h]
           · simp [h]
         rw [hE, Bool.or_false, if_neg (by decide)]
         exact Hd.end0 rfl (u2, i2) rfl (Ent.sep (.pure hj enn)))
end Pa
end Go.Proofs.Ytgifpkpkkgkfeaa
