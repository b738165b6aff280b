/-
  Buffered events: chains in plain words; how one lies in memory; flag, some, may, New.
-/
import Derived.Test.YtmpemhbfgbochaaWrC
import Derived.Test.YtmpemhbfgbochaaBc10
import Derived.Test.YtmpemhbfgbochaaRxB
namespace Go.Proofs.Ytmpemhbfgbochaa
set_option linter.unusedSimpArgs false
set_option linter.unusedVariables false
set_option linter.unnecessarySimpa false
open Go.RX Fx
namespace Bu
open Wo
set_option maxRecDepth 8000
theorem sep_pure {p : Prop} {L : List SP} {k : PH} (h : sep (pu p :: L) k) : p ∧ sep L k := by
  obtain ⟨h1, h2, _, _, b, x, y⟩ := h
  exact ⟨x, y.up b⟩
theorem Ct.exs {P : Program} {f : FuncId} {vs : Array Value} {L : List SP} {ι κ : Type} {val : ι → Value} {post : ι → List SP} {X : κ → List SP} (h : ∀ i, Ct P f vs (X i ++ L) val post) : Ct P f vs (RX.ex X :: L) val post := fun E w s => by
  obtain ⟨h1, h2, h3, h4⟩ := s
  obtain ⟨k1, k2, d, s1, s2, ⟨i, x⟩, y⟩ := h4
  exact h i E w ⟨h1, h2, h3, sep_join d s1 s2 x y⟩
theorem Ct.pure {P : Program} {f : FuncId} {vs : Array Value} {L : List SP} {ι : Type} {val : ι → Value} {post : ι → List SP} {p : Prop} (h : p → Ct P f vs L val post) : Ct P f vs (pu p :: L) val post := fun E w s => by
  have := sep_pure s.2.2.2
  exact h this.1 E w ⟨s.1, s.2.1, s.2.2.1, this.2⟩
theorem Ct.imp {P : Program} {f : FuncId} {vs : Array Value} {L L' : List SP} {ι ι' : Type} {val : ι → Value} {val' : ι' → Value} {post : ι → List SP} {post' : ι' → List SP} (h : Ct P f vs L val post) (hL : ∀ k, sep L' k → sep L k)
    (hp : ∀ i, ∃ j, val i = val' j ∧ ∀ k, sep (post i) k → sep (post' j) k) : Ct P f vs L' val' post' := fun E w s =>
  Calls.mono (h E w (s.mp hL)) (fun e w' ⟨i, he, hs⟩ => by obtain ⟨j, hv, hj⟩ := hp i; exact ⟨j, by rw [he, hv], hs.mp hj⟩)
/-- a chain that has these bytes -/
def ChB (b o : Nat) (l : List UInt8) : SP := RX.ex fun rs : List Bc.Row => [pu (Bc.Good rs ∧ Bc.flat rs = l), Bc.Ch b o rs]
theorem Hd.chB {E : World} {n : Nat} {ds : List Deferred} {st : List (Nat × Value)} {L L' : List SP} {K : Act → World → Prop} {b o : Nat} {l : List UInt8} (p : Pick L (ChB b o l) L') (h : l.length ≤ 1048576 → Hd E n ds st L K) : Hd E n ds st L K := fun a w f s => by
  refine h ?_ a w f s
  obtain ⟨h1, s1, rs, x⟩ := sep.one p s.2.2.2
  have x2 := (sep_pure (p := Bc.Good rs ∧ Bc.flat rs = l) x).1
  rw [← x2.2]; exact x2.1.2
theorem chLen (L : List SP) (b o : Nat) (l : List UInt8) : Ct Try.prog 41 #[.pointer (some ⟨b, o, none⟩)] (ChB b o l :: L) (fun _ : Unit => .int .i64 (l.length : Int)) (fun _ => ChB b o l :: L) :=
  Ct.exs fun rs => Ct.pure fun h => by
    obtain ⟨hg, rfl⟩ := h
    exact Ct.imp (Bc.lenC_ct L b o rs) (fun k s => s) fun i => ⟨(), rfl, fun k s => Ent.sep (.ex rs (.pure ⟨hg, rfl⟩ enn)) k s⟩
def addA (l bs : List UInt8) : List UInt8 := if bs.length ≤ 1048576 - l.length then l ++ bs else l
def addE (l bs : List UInt8) : Int := if bs.length ≤ 1048576 - l.length then 0 else 70
theorem chAdd (L : List SP) (b o : Nat) (l : List UInt8) (ad : Option Addr) (m cap : Nat) (bs : List UInt8) (hl : bs.length = m) (hD : RdS L 1 ad m (bsl bs)) (hmc : m ≤ cap) (hm : m ≤ 70368744177664) : Ct Try.prog 44 #[.pointer (some ⟨b, o, none⟩), .slice ad m cap] (ChB b o l :: L) (fun _ : Unit => .int .i64 (addE l bs)) (fun _ => ChB b o (addA l bs) :: L) :=
  Ct.exs fun rs => Ct.pure fun h => by
    obtain ⟨hg, rfl⟩ := h
    subst hl
    exact Ct.imp (Bc.add_ct L b o rs hg ad bs.length cap bs hD hmc hm) (fun k s => s) fun rs' => ⟨(), rfl, fun k s => by
      obtain ⟨⟨h1, h2⟩, s⟩ := sep_pure s
      exact Ent.sep (.ex rs' (.pure ⟨h1, h2⟩ enn)) k s⟩
theorem chTake (L : List SP) (b o : Nat) (l : List UInt8) (n : Int) (hn : n ≤ 9223372036854775807) : Ct Try.prog 40 #[.pointer (some ⟨b, o, none⟩), .int .i64 n] (ChB b o l :: L) (fun i : Option Addr × Nat => .slice i.1 (l.take n.toNat).length i.2) (fun i => own 5 1 i.1 (l.take n.toNat).length i.2 (bsl (l.take n.toNat)) :: ChB b o (l.drop n.toNat) :: L) :=
  Ct.exs fun rs => Ct.pure fun h => by
    obtain ⟨hg, rfl⟩ := h
    exact Ct.imp (Bc.take_ct L b o rs hg n hn) (fun k s => s) fun i => ⟨(i.2.1, i.2.2), rfl, fun k s => by
      obtain ⟨⟨h1, h2⟩, s⟩ := sep_pure s
      have hg2 : Bc.Good i.1 := ⟨h2, by rw [h1, List.length_drop]; have := hg.2; omega⟩
      exact Ent.sep (.pick pkk (.ex i.1 (.pure ⟨hg2, h1⟩ enn))) k s⟩
theorem chDrain (L : List SP) (b o : Nat) (l : List UInt8) (n : Int) (hn : n ≤ 9223372036854775807) : Ct Try.prog 64 #[.pointer (some ⟨b, o, none⟩), .int .i64 n] (ChB b o l :: L) (fun _ : Unit => .int .i64 ((l.take n.toNat).length : Int)) (fun _ => ChB b o (l.drop n.toNat) :: L) :=
  Ct.exs fun rs => Ct.pure fun h => by
    obtain ⟨hg, rfl⟩ := h
    exact Ct.imp (Bc.drain_ct L b o rs hg n hn) (fun k s => s) fun r => ⟨(), rfl, fun k s => by
      obtain ⟨⟨h1, h2⟩, s⟩ := sep_pure s
      have hg2 : Bc.Good r := ⟨h2, by rw [h1, List.length_drop]; have := hg.2; omega⟩
      exact Ent.sep (.ex r (.pure ⟨hg2, h1⟩ enn)) k s⟩
theorem chCopy (L : List SP) (b o : Nat) (l : List UInt8) (f n : Int) (hf : InK .i64 f) (hn : InK .i64 n) : Ct Try.prog 63 #[.pointer (some ⟨b, o, none⟩), .int .i64 f, .int .i64 n] (ChB b o l :: L) (fun i : Option Addr × Nat => .slice i.1 (Bc.cpy l f n).length i.2) (fun i => own 5 1 i.1 (Bc.cpy l f n).length i.2 (bsl (Bc.cpy l f n)) :: ChB b o l :: L) :=
  Ct.exs fun rs => Ct.pure fun h => by
    obtain ⟨hg, rfl⟩ := h
    exact Ct.imp (Bc.copy_ct L b o rs hg f n hf hn) (fun k s => s) fun i => ⟨i, rfl, fun k s => Ent.sep (.pick pkk (.ex rs (.pure ⟨hg, rfl⟩ enn))) k s⟩
/-! ### In memory -/
structure SdA where
  c : List UInt8
  on : Bool
  ended : Bool
  low : Int
  high : Int
  after : Int
  at_ : Int
structure BfA where
  s : Nat → SdA
  fd : Int
abbrev encS (s : SdA) : List Value := [.bool s.on, .bool s.ended, .int .i64 s.low, .int .i64 s.high, .int .u64 s.after, .int .u64 s.at_]
abbrev SdL (b k : Nat) (s : SdA) (L : List SP) : List SP := ChB b (2 + k * 8 + 0) s.c :: segK b (2 + k * 8) 2 (encS s) :: L
abbrev BfH (b wb : Nat) (fd : Int) : SP := seg b 0 [.pointer (some ⟨wb, 0, none⟩), .int .i64 fd]
abbrev BfK (b : Nat) : SP := kd b 18 94
/-- with its side k ahead -/
abbrev BfL (b wb : Nat) (x : BfA) (k : Nat) (L : List SP) : List SP := BfK b :: BfH b wb x.fd :: SdL b k (x.s k) (SdL b (1 - k) (x.s (1 - k)) L)
/-- a buffered event of the world in block wb -/
def BufP (b wb : Nat) (x : BfA) : SP := RX.ex fun _ : Unit => BfL b wb x 0 []
theorem Hd.buf {E : World} {n : Nat} {ds : List Deferred} {st : List (Nat × Value)} {L L' : List SP} {K : Act → World → Prop} {b wb : Nat} {x : BfA} (p : Pick L (BufP b wb x) L') (h : Hd E n ds st (BfL b wb x 0 L') K) : Hd E n ds st L K :=
  Hd.exs (f := fun _ : Unit => BfL b wb x 0 []) p fun _ => h
/-- a side's number in masks -/
def flagA (k : Nat) : Int := if k = 0 then 2 else 4
def hasA (mask : Int) (k : Nat) : Bool := decide (bits .and .i64 mask (flagA k) ≠ 0)
/-- the sides of a mask -/
def sidesA (mask : Int) : List Nat := [0, 1].filter (hasA mask)
set_option maxHeartbeats 2000000 in
theorem flag_ct (L : List SP) (k : Nat) : Ct Try.prog 45 #[.int .i64 (k : Int)] (L) (fun _ : Unit => .int .i64 (flagA k)) (fun _ : Unit => L) := by
  refine Ct.of (vs := [.int .i64 (k : Int)]) Try.func45 rfl rfl [(0, .int .i64 (k : Int))] (by repeat (first | exact trivial | refine ⟨rfl, ?_⟩)) ?_
  intro E
  show Hd E 5 _ _ _ _
  refine Hd.seq (fun K1 hK1 => ?_)
  refine Hd.region ?_
  refine Hd.yv (y_assign rfl) ?_
  refine Hd.nil ?_
  refine Hd.slots [(0, _)] ⟨rfl, trivial⟩ ?_
  refine Hd.toK hK1 ?_
  refine Hd.seq (fun K2 hK2 => ?_)
  refine Hd.seq (fun K3 hK3 => ?_)
  refine Hd.region ?_
  refine Hd.yv (y_move rfl) ?_
  first | (refine Hd.yv (y_eqlT rfl rfl) ?_) | (refine Hd.yv (y_eql rfl rfl) ?_)
  refine Hd.nil ?_
  refine Hd.slots [(4, _)] ⟨rfl, trivial⟩ ?_
  refine Hd.toK hK3 ?_
  refine Hd.cond rfl (fun hc0 => ?_) (fun hc0 => ?_)
  ·
    try simp only [decide_eq_true_eq, decide_eq_false_iff_not, Bool.and_eq_true, Bool.or_eq_true, Bool.and_eq_false_iff, Bool.or_eq_false_iff, Bool.not_eq_true', Bool.not_eq_false', Bool.not_eq_true, Bool.not_eq_false, Int.not_lt, Int.not_le, Decidable.not_not, ne_eq] at hc0
    refine Hd.seq (fun K4 hK4 => ?_)
    refine Hd.region ?_
    refine Hd.yv (y_assign rfl) ?_
    refine Hd.nil ?_
    refine Hd.slots [(2, _)] ⟨rfl, trivial⟩ ?_
    refine Hd.toK hK4 ?_
    refine Hd.ret ?_
    refine Hd.thenRet ?_
    clear hK1 hK2 hK3 hK4
    obtain rfl : k = 0 := by omega
    exact Hd.ret1 rfl () rfl (Ent.sep enn)
  ·
    try simp only [decide_eq_true_eq, decide_eq_false_iff_not, Bool.and_eq_true, Bool.or_eq_true, Bool.and_eq_false_iff, Bool.or_eq_false_iff, Bool.not_eq_true', Bool.not_eq_false', Bool.not_eq_true, Bool.not_eq_false, Int.not_lt, Int.not_le, Decidable.not_not, ne_eq] at hc0
    refine Hd.skip ?_
    refine Hd.toK hK2 ?_
    refine Hd.seq (fun K5 hK5 => ?_)
    refine Hd.region ?_
    refine Hd.yv (y_assign rfl) ?_
    refine Hd.nil ?_
    refine Hd.slots [(2, _)] ⟨rfl, trivial⟩ ?_
    refine Hd.toK hK5 ?_
    refine Hd.ret ?_
    clear hK1 hK2 hK3 hK5
    have : k ≠ 0 := by omega
    exact Hd.ret1 rfl () (by unfold flagA; rw [if_neg this]; rfl) (Ent.sep enn)
set_option maxHeartbeats 2000000 in
theorem bnone_ct (L : List SP) (b wb : Nat) (fd : Int) : Ct Try.prog 36 #[.pointer (some ⟨b, 0, none⟩)] (BfH b wb fd :: L) (fun _ : Unit => .bool false) (fun _ : Unit => BfH b wb fd :: L) := by
  refine Ct.of (vs := [.pointer (some ⟨b, 0, none⟩)]) Try.func36 rfl rfl [(0, .pointer (some ⟨b, 0, none⟩))] (by repeat (first | exact trivial | refine ⟨rfl, ?_⟩)) ?_
  intro E
  show Hd E 12 _ _ _ _
  refine Hd.seq (fun K1 hK1 => ?_)
  refine Hd.region ?_
  refine Hd.yv (y_assign rfl) ?_
  refine Hd.nil ?_
  refine Hd.slots [(0, _)] ⟨rfl, trivial⟩ ?_
  refine Hd.toK hK1 ?_
  refine Hd.seq (fun K2 hK2 => ?_)
  refine Hd.region ?_
  refine Hd.yv (y_move rfl) ?_
  first | (refine Hd.yv (y_eql_pointer Try.underlying30 rfl rfl) ?_) | (refine Hd.yv (y_eql_one Try.underlying30 sz94 rfl rfl rfl) ?_)
  refine Hd.yv (y_move rfl) ?_
  refine Hd.yg rfl rfl (y_move rfl) ?_
  refine Hd.yg rfl rfl (y_nilp rfl) ?_
  first | (refine Hd.yg rfl rfl (y_field' (q := 0) (ft := 25) Try.underlying94 rfl sz25 rfl rfl) ?_) | (refine Hd.yg rfl rfl (y_fieldR (q := 0) (ft := 25) Try.underlying94 rfl sz25 rfl rfl) ?_)
  first | (refine Hd.yg rfl rfl (y_load1 ag25 rfl (Rd.pt1 pkk (by (first | rfl)))) ?_) | (refine Hd.yg rfl rfl (y_load1 ag25 rfl (Rd.seg1 pkk (by (first | rfl)))) ?_) | (refine Hd.yg rfl rfl (y_loadR1 ag25 rfl (by (first | exact RdS.own pkk)) (by (first | rfl))) ?_)
  first | (refine Hd.yg rfl rfl (y_eql_pointer Try.underlying25 rfl rfl) ?_) | (refine Hd.yg rfl rfl (y_eql_one Try.underlying25 sz78 rfl rfl rfl) ?_)
  first | (refine Hd.yv (y_pickT rfl rfl) ?_) | (refine Hd.yv (y_pickF rfl rfl) ?_) | (refine Hd.yv (y_pickb rfl rfl rfl) ?_) | (refine Hd.yv (y_pick rfl rfl rfl) ?_)
  refine Hd.yv (y_assign rfl) ?_
  refine Hd.nil ?_
  refine Hd.slots [(2, _)] ⟨rfl, trivial⟩ ?_
  refine Hd.toK hK2 ?_
  refine Hd.ret ?_
  clear hK1 hK2
  exact Hd.ret1 rfl () (by first | rfl | (simp only [*]; done) | (simp [*]; done)) (Ent.sep enn)
set_option maxHeartbeats 2000000 in
theorem bnone_nil (L : List SP) : Ct Try.prog 36 #[.pointer none] (L) (fun _ : Unit => .bool true) (fun _ : Unit => L) := by
  refine Ct.of (vs := [.pointer none]) Try.func36 rfl rfl [(0, .pointer none)] (by repeat (first | exact trivial | refine ⟨rfl, ?_⟩)) ?_
  intro E
  show Hd E 12 _ _ _ _
  refine Hd.seq (fun K1 hK1 => ?_)
  refine Hd.region ?_
  refine Hd.yv (y_assign rfl) ?_
  refine Hd.nil ?_
  refine Hd.slots [(0, _)] ⟨rfl, trivial⟩ ?_
  refine Hd.toK hK1 ?_
  refine Hd.seq (fun K2 hK2 => ?_)
  refine Hd.region ?_
  refine Hd.yv (y_move rfl) ?_
  first | (refine Hd.yv (y_eql_pointer Try.underlying30 rfl rfl) ?_) | (refine Hd.yv (y_eql_one Try.underlying30 sz94 rfl rfl rfl) ?_)
  refine Hd.yv (y_move rfl) ?_
  refine Hd.ng rfl rfl rfl ?_
  refine Hd.ng rfl rfl rfl ?_
  refine Hd.ng rfl rfl rfl ?_
  refine Hd.ng rfl rfl rfl ?_
  refine Hd.ng rfl rfl rfl ?_
  first | (refine Hd.yv (y_pickT rfl rfl) ?_) | (refine Hd.yv (y_pickF rfl rfl) ?_) | (refine Hd.yv (y_pickb rfl rfl rfl) ?_) | (refine Hd.yv (y_pick rfl rfl rfl) ?_)
  refine Hd.yv (y_assign rfl) ?_
  refine Hd.nil ?_
  refine Hd.slots [(2, _)] ⟨rfl, trivial⟩ ?_
  refine Hd.toK hK2 ?_
  refine Hd.ret ?_
  clear hK1 hK2
  exact Hd.ret1 rfl () (by first | rfl | (simp only [*]; done) | (simp [*]; done)) (Ent.sep enn)
set_option maxHeartbeats 2000000 in
theorem may_ct (L : List SP) (b wb : Nat) (fd : Int) (s : Int) : Ct Try.prog 38 #[.pointer (some ⟨b, 0, none⟩), .int .i64 s] (BfH b wb fd :: L) (fun _ : Unit => .int .i64 (if bits .andNot .i64 s 6 = 0 then 0 else 2)) (fun _ : Unit => BfH b wb fd :: L) := by
  refine Ct.of (vs := [.pointer (some ⟨b, 0, none⟩), .int .i64 s]) Try.func38 rfl rfl [(0, .pointer (some ⟨b, 0, none⟩)), (1, .int .i64 s)] (by repeat (first | exact trivial | refine ⟨rfl, ?_⟩)) ?_
  intro E
  show Hd E 12 _ _ _ _
  refine Hd.seq (fun K1 hK1 => ?_)
  refine Hd.region ?_
  refine Hd.yv (y_assign rfl) ?_
  refine Hd.nil ?_
  refine Hd.slots [(0, _), (1, _)] ⟨rfl, rfl, trivial⟩ ?_
  refine Hd.toK hK1 ?_
  refine Hd.seq (fun K2 hK2 => ?_)
  refine Hd.block ?_
  refine Hd.seq (fun K3 hK3 => ?_)
  refine Hd.region ?_
  refine Hd.yv (y_move rfl) ?_
  refine Hd.callE rfl fk36 (bnone_ct _ b wb fd) (Ent.sep enn) ?_
  intro _
  refine Hd.yv (y_assign rfl) ?_
  refine Hd.nil ?_
  refine Hd.slots [(1, _), (5, _)] ⟨rfl, rfl, trivial⟩ ?_
  refine Hd.toK hK3 ?_
  refine Hd.condF rfl ?_
  refine Hd.seq (fun K4 hK4 => ?_)
  refine Hd.region ?_
  refine Hd.yv (y_move rfl) ?_
  refine Hd.yv (y_andNot rfl rfl) ?_
  refine Hd.yv (y_neq rfl rfl) ?_
  refine Hd.yv (y_assign rfl) ?_
  refine Hd.nil ?_
  refine Hd.slots [(8, _)] ⟨rfl, trivial⟩ ?_
  refine Hd.toK hK4 ?_
  refine Hd.cond rfl (fun hc1 => ?_) (fun hc1 => ?_)
  ·
    try simp only [decide_eq_true_eq, decide_eq_false_iff_not, Bool.and_eq_true, Bool.or_eq_true, Bool.and_eq_false_iff, Bool.or_eq_false_iff, Bool.not_eq_true', Bool.not_eq_false', Bool.not_eq_true, Bool.not_eq_false, Int.not_lt, Int.not_le, Decidable.not_not, ne_eq] at hc1
    refine Hd.seq (fun K5 hK5 => ?_)
    refine Hd.region ?_
    refine Hd.yv (y_assign rfl) ?_
    refine Hd.nil ?_
    refine Hd.slots [(4, _)] ⟨rfl, trivial⟩ ?_
    refine Hd.toK hK5 ?_
    refine Hd.ret ?_
    refine Hd.inBret ?_
    refine Hd.thenRet ?_
    clear hK1 hK2 hK3 hK4 hK5
    exact Hd.ret1 rfl () (by rw [if_neg hc1]; rfl) (Ent.sep enn)
  ·
    try simp only [decide_eq_true_eq, decide_eq_false_iff_not, Bool.and_eq_true, Bool.or_eq_true, Bool.and_eq_false_iff, Bool.or_eq_false_iff, Bool.not_eq_true', Bool.not_eq_false', Bool.not_eq_true, Bool.not_eq_false, Int.not_lt, Int.not_le, Decidable.not_not, ne_eq] at hc1
    refine Hd.skip ?_
    refine Hd.inB ?_
    refine Hd.toK hK2 ?_
    refine Hd.seq (fun K6 hK6 => ?_)
    refine Hd.region ?_
    refine Hd.yv (y_assign rfl) ?_
    refine Hd.nil ?_
    refine Hd.slots [(4, _)] ⟨rfl, trivial⟩ ?_
    refine Hd.toK hK6 ?_
    refine Hd.ret ?_
    clear hK1 hK2 hK3 hK4 hK6
    exact Hd.ret1 rfl () (by rw [if_pos hc1]; rfl) (Ent.sep enn)
set_option maxHeartbeats 2000000 in
theorem some_ct (L : List SP) (p : Option Addr) (mask : Int) : Ct Try.prog 37 #[.pointer p, .int .i64 mask] (L) (fun q_ : Nat × Nat => .func (.func 58) #[] #[.pointer (some ⟨q_.2, 0, none⟩), .pointer (some ⟨q_.1, 0, none⟩)]) (fun q_ : Nat × Nat => pt q_.1 [.pointer p] 30 :: pt q_.2 [.int .i64 mask] 3 :: L) := by
  refine Ct.of (vs := [.pointer p, .int .i64 mask]) Try.func37 rfl rfl [(0, .pointer p), (1, .int .i64 mask)] (by repeat (first | exact trivial | refine ⟨rfl, ?_⟩)) ?_
  intro E
  show Hd E 6 _ _ _ _
  refine Hd.seq (fun K1 hK1 => ?_)
  refine Hd.region ?_
  refine Hd.box rfl rfl (fun b2 => ?_)
  refine Hd.box rfl rfl (fun b3 => ?_)
  refine Hd.yv (y_assign rfl) ?_
  refine Hd.nil ?_
  refine Hd.slots [(2, _), (3, _)] ⟨rfl, rfl, trivial⟩ ?_
  refine Hd.toK hK1 ?_
  refine Hd.seq (fun K2 hK2 => ?_)
  refine Hd.region ?_
  refine Hd.yv (y_mkf (fv := []) (cv := [_, _]) rfl rfl) ?_
  refine Hd.yv (y_assign rfl) ?_
  refine Hd.nil ?_
  refine Hd.slots [(4, _)] ⟨rfl, trivial⟩ ?_
  refine Hd.toK hK2 ?_
  refine Hd.ret ?_
  clear hK1 hK2
  exact Hd.ret1 rfl (b2, b3) rfl (Ent.sep enn)
abbrev encK (b : Nat) (k : Nat) : List Value := [.int .i64 (k : Int), .pointer (some ⟨b, 2 + k * 8, none⟩)]
theorem range_pre (f : Nat → Bool) {i : Nat} (h : i ≤ 2) : (List.range i).filter f <+: [0, 1].filter f := by
  have := range_prefix f (m := 2) h
  exact this
theorem some_it (b bb bm : Nat) (mask : Int) : RX.It Try.prog 58 [.pointer (some ⟨bm, 0, none⟩), .pointer (some ⟨bb, 0, none⟩)] (encK b) (fun ys => ys = sidesA mask) (fun ys => ys <+: sidesA mask)
    [pt bb [.pointer (some ⟨b, 0, none⟩)] 30, pt bm [.int .i64 mask] 3] [] := by
  intro l J X hy
  refine Ct.of (vs := [.func (.yield l) #[] #[], .pointer (some ⟨bm, 0, none⟩), .pointer (some ⟨bb, 0, none⟩)]) Try.func58 rfl rfl [(0, .func (.yield l) #[] #[]), (1, .pointer (some ⟨bm, 0, none⟩)), (2, .pointer (some ⟨bb, 0, none⟩))] ⟨rfl, rfl, rfl, trivial⟩ ?_
  intro E
  show Hd E 23 _ _ _ _
  refine Hd.heap (pt bb [.pointer (some ⟨b, 0, none⟩)] 30 :: pt bm [.int .i64 mask] 3 :: J []) (fun k h => by have := sep_app h; exact this) ?_
  refine Hd.scope ?_
  refine Hd.seq (fun K1 hK1 => ?_)
  refine Hd.label ?_
  refine Hd.toK hK1 ?_
  refine Hd.seq (fun K2 hK2 => ?_)
  refine Hd.region ?_
  refine Hd.yv (y_move rfl) ?_
  refine Hd.nil ?_
  refine Hd.slots [(0, _), (1, _), (2, _), (5, _)] ⟨rfl, rfl, rfl, rfl, trivial⟩ ?_
  refine Hd.toK hK2 ?_
  refine Hd.block ?_
  refine Hd.loopK (ι := Nat) [(0, _), (1, _), (2, _)] (fun i => [(5, .int .i64 (i : Int))]) (fun i => pu (i ≤ 2) :: pt bb [.pointer (some ⟨b, 0, none⟩)] 30 :: pt bm [.int .i64 mask] 3 :: J ((List.range i).filter (hasA mask))) (fun i => 2 - i) 0 (by repeat (first | exact trivial | refine ⟨rfl, ?_⟩)) (by repeat (first | exact trivial | refine ⟨rfl, ?_⟩)) (Ent.sep (.pure (by first | omega | (simp; done) | (simp; omega) | exact ⟨by simp, by simp⟩) enn)) ?_
  intro i
  try dsimp only
  refine Hd.pure (fun hp0 => ?_)
  try dsimp only at hp0
  refine Hd.seq (fun K3 hK3 => ?_)
  refine Hd.region ?_
  refine Hd.yv (y_lss rfl rfl) ?_
  refine Hd.nil ?_
  refine Hd.slots [(0, _), (1, _), (2, _), (5, _), (6, _)] ⟨rfl, rfl, rfl, rfl, rfl, trivial⟩ ?_
  refine Hd.toK hK3 ?_
  refine Hd.seq (fun K4 hK4 => ?_)
  refine Hd.cond rfl (fun hc0 => ?_) (fun hc0 => ?_)
  ·
    try simp only [decide_eq_true_eq, decide_eq_false_iff_not, Bool.and_eq_true, Bool.or_eq_true, Bool.and_eq_false_iff, Bool.or_eq_false_iff, Bool.not_eq_true', Bool.not_eq_false', Bool.not_eq_true, Bool.not_eq_false, Int.not_lt, Int.not_le, Decidable.not_not, ne_eq] at hc0
    have hi : i < 2 := by omega
    have hsf := range_succ_filter (hasA mask) i
    refine Hd.skip ?_
    refine Hd.toK hK4 ?_
    refine Hd.seq (fun K5 hK5 => ?_)
    refine Hd.block ?_
    refine Hd.seq (fun K6 hK6 => ?_)
    refine Hd.region ?_
    refine Hd.yv (y_move rfl) ?_
    refine Hd.yv (y_assign rfl) ?_
    refine Hd.nil ?_
    refine Hd.slots [(0, _), (1, _), (2, _), (4, _), (5, _)] ⟨rfl, rfl, rfl, rfl, rfl, trivial⟩ ?_
    refine Hd.toK hK6 ?_
    refine Hd.seq (fun K7 hK7 => ?_)
    refine Hd.seq (fun K8 hK8 => ?_)
    refine Hd.drawsH ([pt bm [.int .i64 mask] 3]) (fun _ => true) mixed ?_
    simp only [List.length, Nat.zero_add, Nat.reduceAdd]
    first | (refine Hd.takeH 0 rfl (by kernel_rfl) (by kernel_rfl) (by kernel_rfl) (by kernel_rfl) (y_load1 ag3 rfl (Rd.pt1 pkk (by (first | rfl)))) (fun _ _ => rfl) (Ent.sep enn) ?_) | (refine Hd.takeH 0 rfl (by kernel_rfl) (by kernel_rfl) (by kernel_rfl) (by kernel_rfl) (y_load1 ag3 rfl (Rd.seg1 pkk (by (first | rfl)))) (fun _ _ => rfl) (Ent.sep enn) ?_) | (refine Hd.takeH 0 rfl (by kernel_rfl) (by kernel_rfl) (by kernel_rfl) (by kernel_rfl) (y_loadR1 ag3 rfl (by (first | exact RdS.own pkk)) (by (first | rfl))) (fun _ _ => rfl) (Ent.sep enn) ?_)
    refine Hd.takeH 1 rfl (by kernel_rfl) (by kernel_rfl) (by kernel_rfl) (by kernel_rfl) (y_move rfl) (fun _ _ => rfl) (Ent.sep enn) ?_
    refine Hd.onlyH 2 rfl (by kernel_rfl) ?_
    refine Hd.callE rfl fk45 (flag_ct _ i) (Ent.sep enn) ?_
    intro _
    refine Hd.nil ?_
    refine Hd.thenN ?_
    refine Hd.heldK (J := (fun _ => true)) (i := 2) (Ent.sep enn) ?_
    refine Hd.takeH 3 rfl (by kernel_rfl) (by kernel_rfl) (by kernel_rfl) (by kernel_rfl) (y_and rfl rfl) (fun _ _ => rfl) (Ent.sep enn) ?_
    first | (refine Hd.takeH 4 rfl (by kernel_rfl) (by kernel_rfl) (by kernel_rfl) (by kernel_rfl) (y_eqlT rfl rfl) (fun _ _ => rfl) (Ent.sep enn) ?_) | (refine Hd.takeH 4 rfl (by kernel_rfl) (by kernel_rfl) (by kernel_rfl) (by kernel_rfl) (y_eql rfl rfl) (fun _ _ => rfl) (Ent.sep enn) ?_)
    refine Hd.endH (by kernel_rfl) ?_
    refine Hd.slots [(0, _), (1, _), (2, _), (4, _), (5, _), (12, _)] ⟨rfl, rfl, rfl, rfl, rfl, rfl, trivial⟩ ?_
    refine Hd.toK hK8 ?_
    refine Hd.cond rfl (fun hc1 => ?_) (fun hc1 => ?_)
    ·
      try simp only [decide_eq_true_eq, decide_eq_false_iff_not, Bool.and_eq_true, Bool.or_eq_true, Bool.and_eq_false_iff, Bool.or_eq_false_iff, Bool.not_eq_true', Bool.not_eq_false', Bool.not_eq_true, Bool.not_eq_false, Int.not_lt, Int.not_le, Decidable.not_not, ne_eq] at hc1
      rw [if_neg (by unfold hasA; rw [hc1]; simp)] at hsf
      refine Hd.exit ?_
      refine Hd.thenExit ?_
      refine Hd.inBexit ?_
      refine Hd.toK hK5 ?_
      refine Hd.region ?_
      first | (refine Hd.yv (y_addn rfl rfl (by simp only [InK]; omega)) ?_) | (refine Hd.yv (y_add rfl rfl) ?_)
      refine Hd.yv (y_move rfl) ?_
      refine Hd.nil ?_
      refine Hd.slots [(0, _), (1, _), (2, _), (5, _)] ⟨rfl, rfl, rfl, rfl, trivial⟩ ?_
      clear hK1 hK2 hK3 hK4 hK5 hK6 hK7 hK8
      refine Hd.thenN ?_
      rw [← hsf]
      exact Hd.again (i + 1) (by first | omega | (simp only; omega) | (simp; omega)) (by repeat (first | exact trivial | refine ⟨rfl, ?_⟩)) (Ent.sep (.pure (by first | omega | (simp; done) | (simp; omega) | (dsimp only; omega)) enn))
    ·
      try simp only [decide_eq_true_eq, decide_eq_false_iff_not, Bool.and_eq_true, Bool.or_eq_true, Bool.and_eq_false_iff, Bool.or_eq_false_iff, Bool.not_eq_true', Bool.not_eq_false', Bool.not_eq_true, Bool.not_eq_false, Int.not_lt, Int.not_le, Decidable.not_not, ne_eq] at hc1
      rw [if_pos (by unfold hasA; simpa using hc1)] at hsf
      have hpr : (List.range i).filter (hasA mask) ++ [i] <+: sidesA mask := by rw [← hsf]; exact range_pre _ (by omega)
      refine Hd.skip ?_
      refine Hd.toK hK7 ?_
      refine Hd.seq (fun K9 hK9 => ?_)
      refine Hd.region ?_
      refine Hd.yv (y_move rfl) ?_
      refine Hd.yv (y_move rfl) ?_
      first | (refine Hd.yv (y_load1 ag30 rfl (Rd.pt1 pkk (by (first | rfl)))) ?_) | (refine Hd.yv (y_load1 ag30 rfl (Rd.seg1 pkk (by (first | rfl)))) ?_) | (refine Hd.yv (y_loadR1 ag30 rfl (by (first | exact RdS.own pkk)) (by (first | rfl))) ?_)
      refine Hd.yv (y_move rfl) ?_
      refine Hd.yv (y_nilp rfl) ?_
      first | (refine Hd.yv (y_field' (q := 2) (ft := 92) Try.underlying94 rfl sz92 rfl rfl) ?_) | (refine Hd.yv (y_fieldR (q := 2) (ft := 92) Try.underlying94 rfl sz92 rfl rfl) ?_)
      refine Hd.yv (y_idxA Try.underlying92 sz91 rfl rfl (by first | omega | decide)) ?_
      refine Hd.yield (pre := (List.range i).filter (hasA mask)) (c := i) (M := [pt bb [.pointer (some ⟨b, 0, none⟩)] 30, pt bm [.int .i64 mask] 3]) hy rfl rfl hpr (fun k' h => sep_app (show sep ([pt bb [.pointer (some ⟨b, 0, none⟩)] 30, pt bm [.int .i64 mask] 3] ++ J ((List.range i).filter (hasA mask))) k' from h)) ?_
      intro yb
      refine Hd.yv (y_not rfl) ?_
      refine Hd.nil ?_
      refine Hd.slots [(0, _), (1, _), (2, _), (5, _), (21, _)] ⟨rfl, rfl, rfl, rfl, rfl, trivial⟩ ?_
      refine Hd.toK hK9 ?_
      refine Hd.cond rfl (fun hc2 => ?_) (fun hc2 => ?_)
      ·
        try simp only [decide_eq_true_eq, decide_eq_false_iff_not, Bool.and_eq_true, Bool.or_eq_true, Bool.and_eq_false_iff, Bool.or_eq_false_iff, Bool.not_eq_true', Bool.not_eq_false', Bool.not_eq_true, Bool.not_eq_false, Int.not_lt, Int.not_le, Decidable.not_not, ne_eq] at hc2
        subst hc2
        simp only [cond_false]
        refine Hd.ret ?_
        refine Hd.inBret ?_
        refine Hd.thenRet ?_
        refine Hd.thenRet ?_
        refine Hd.inBret ?_
        refine Hd.scRet ?_
        clear hK1 hK2 hK3 hK4 hK5 hK6 hK7 hK8 hK9
        exact Hd.ret0 rfl ((List.range i).filter (hasA mask) ++ [i], false) rfl (fun k' h => Ent.sep (.pure hpr .same) k' (sep_right (fun k s => Ent.sep Ent.nil k s) h))
      ·
        try simp only [decide_eq_true_eq, decide_eq_false_iff_not, Bool.and_eq_true, Bool.or_eq_true, Bool.and_eq_false_iff, Bool.or_eq_false_iff, Bool.not_eq_true', Bool.not_eq_false', Bool.not_eq_true, Bool.not_eq_false, Int.not_lt, Int.not_le, Decidable.not_not, ne_eq] at hc2
        subst hc2
        simp only [cond_true]
        refine Hd.heap (pt bb [.pointer (some ⟨b, 0, none⟩)] 30 :: pt bm [.int .i64 mask] 3 :: J ((List.range i).filter (hasA mask) ++ [i])) (fun k' h => sep_app h) ?_
        rw [← hsf]
        refine Hd.skip ?_
        refine Hd.inB ?_
        refine Hd.toK hK5 ?_
        refine Hd.region ?_
        first | (refine Hd.yv (y_addn rfl rfl (by simp only [InK]; omega)) ?_) | (refine Hd.yv (y_add rfl rfl) ?_)
        refine Hd.yv (y_move rfl) ?_
        refine Hd.nil ?_
        refine Hd.slots [(0, _), (1, _), (2, _), (5, _)] ⟨rfl, rfl, rfl, rfl, trivial⟩ ?_
        clear hK1 hK2 hK3 hK4 hK5 hK6 hK7 hK8 hK9
        refine Hd.thenN ?_
        exact Hd.again (i + 1) (by first | omega | (simp only; omega) | (simp; omega)) (by repeat (first | exact trivial | refine ⟨rfl, ?_⟩)) (Ent.sep (.pure (by first | omega | (simp; done) | (simp; omega) | (dsimp only; omega)) enn))
  ·
    try simp only [decide_eq_true_eq, decide_eq_false_iff_not, Bool.and_eq_true, Bool.or_eq_true, Bool.and_eq_false_iff, Bool.or_eq_false_iff, Bool.not_eq_true', Bool.not_eq_false', Bool.not_eq_true, Bool.not_eq_false, Int.not_lt, Int.not_le, Decidable.not_not, ne_eq] at hc0
    refine Hd.exit ?_
    refine Hd.thenExit ?_
    refine Hd.thenExit ?_
    refine Hd.inBexit ?_
    refine Hd.scNorm ?_
    clear hK1 hK2 hK3 hK4
    obtain rfl : i = 2 := by omega
    exact Hd.end0 rfl (sidesA mask, true) rfl (fun k' h => Ent.sep (.pure rfl .same) k' (sep_app (M := []) (N := J (sidesA mask)) (Ent.sep enn k' h)))
end Bu
end Go.Proofs.Ytmpemhbfgbochaa
