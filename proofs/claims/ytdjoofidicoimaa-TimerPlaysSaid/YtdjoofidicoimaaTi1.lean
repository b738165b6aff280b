/-
  Timers: how they lie in memory; their calls' contracts, in plain words.
-/
import Derived.Test.YtdjoofidicoimaaCo9
namespace Go.Proofs.Ytdjoofidicoimaa
set_option linter.unusedSimpArgs false
set_option linter.unusedVariables false
set_option linter.unnecessarySimpa false
open Go.RX Fx Hp Cm
namespace Tm
set_option maxRecDepth 8000
abbrev NV : Int := 18446744073709551615
/-- each number's timeout -/
abbrev AF := Int → Option Int
abbrev afm (af : AF) : MF := fun k => (af k).map fun a => .int .u64 a
def addF (af : AF) (id a : Int) : AF := if id < 0 then af else fun k => if k = id then some a else af k
def delA (af : AF) (id : Int) : AF := fun k => if k = id then none else af k
theorem afm_put (af : AF) (id a : Int) : (fun c => if c = id then some (Value.int .u64 a) else afm af c) = afm (fun k => if k = id then some a else af k) := by
  funext c; show (if _ then _ else _) = Option.map _ (if _ then _ else _); split <;> rfl
theorem afm_del (af : AF) (id : Int) : (fun c => if c = id then none else afm af c) = afm (delA af id) := by
  funext c; show (if _ then _ else _) = Option.map _ (if _ then _ else _); split <;> rfl
theorem afm_get (af : AF) (id : Int) : (afm af id).getD (.int .u64 0) = .int .u64 ((af id).getD 0) := by
  show (Option.map _ (af id)).getD _ = _; cases af id <;> rfl
theorem afm_is (af : AF) (id : Int) : (afm af id).isSome = (af id).isSome := by
  show (Option.map _ (af id)).isSome = _; cases af id <;> rfl
theorem mp_eq {b m : Nat} {k : IntKind} {f f' : MF} (h : f = f') : mp b k f m = mp b k f' m := by rw [h]
structure TI where
  o : Nat
  mb : Nat
abbrev TmH (b : Nat) (t : TI) (lim : Int) : SP := pt b [.pointer (some ⟨t.o, 0, none⟩), .map (some t.mb), .int .u64 lim] 66
abbrev TmL (b : Nat) (t : TI) (qs : List Q) (s : List It) (nx : Int) (af : AF) (lim : Int) (L : List SP) : List SP := TmH b t lim :: CoA t.o qs s nx :: MP t.mb (afm af) :: L
def AtOk (s : List It) : Prop := ∀ x ∈ s, InK .u64 x.at_
/-- timers: the queues, what is pending, the next number, the timeouts, the limit -/
def TmA (b : Nat) (qs : List Q) (s : List It) (nx : Int) (af : AF) (lim : Int) : SP := RX.ex fun t : TI => pu (AtOk s ∧ InK .u64 lim) :: TmL b t qs s nx af lim []
theorem AtOk.cut {s : List It} (h : AtOk s) (id : Int) : AtOk (remI id s) := fun x hx => h x (rem_mem.1 hx).1
theorem dl_in {now a : Int} (hn : InK .u64 now) (ha : InK .u64 a) : InK .u64 (dl now a) := by
  simp only [InK] at *; unfold dl; split <;> omega
theorem AtOk.add {s : List It} (h : AtOk s) {now a : Int} (hn : InK .u64 now) (ha : InK .u64 a) (id nx : Int) : AtOk (addS s id now a nx) := fun x hx => by
  unfold addS at hx
  split at hx
  · exact h x hx
  · rcases insI_mem.1 hx with rfl | hx
    · exact dl_in hn ha
    · exact h x (rem_mem.1 hx).1
theorem AtOk.rest {s : List It} (h : AtOk s) (now : Int) : AtOk (restI now s) := fun x hx => h x ((List.dropWhile_sublist _).mem hx)
theorem AtOk.nil : AtOk [] := fun x hx => by cases hx
set_option maxHeartbeats 2000000 in
theorem tnone_ct (L : List SP) (b : Nat) (t : TI) (lim : Int) : Ct Try.prog 34 #[.pointer (some ⟨b, 0, none⟩)] (TmH b t lim :: L) (fun _ : Unit => .bool false) (fun _ : Unit => TmH b t lim :: L) := by
  refine Ct.of (vs := [.pointer (some ⟨b, 0, none⟩)]) Try.func34 rfl rfl [(0, .pointer (some ⟨b, 0, none⟩))] (by repeat (first | exact trivial | refine ⟨rfl, ?_⟩)) ?_
  intro E
  show Hd E 12 _ _ _ _
  refine Hd.seq (fun K1 hK1 => ?_)
  refine Hd.region ?_
  refine Hd.yv (y_assign rfl) ?_
  refine Hd.nil ?_
  refine Hd.slots [(0, _)] ⟨rfl, trivial⟩ ?_
  refine Hd.toK hK1 ?_
  refine Hd.seq (fun K2 hK2 => ?_)
  refine Hd.region ?_
  refine Hd.yv (y_move rfl) ?_
  first | (refine Hd.yv (y_eql_pointer Try.underlying25 rfl rfl) ?_) | (refine Hd.yv (y_eql_one Try.underlying25 sz66 rfl rfl rfl) ?_)
  refine Hd.yv (y_move rfl) ?_
  refine Hd.yg rfl rfl (y_move rfl) ?_
  refine Hd.yg rfl rfl (y_nilp rfl) ?_
  first | (refine Hd.yg rfl rfl (y_field' (q := 0) (ft := 62) Try.underlying66 rfl sz62 rfl rfl) ?_) | (refine Hd.yg rfl rfl (y_fieldR (q := 0) (ft := 62) Try.underlying66 rfl sz62 rfl rfl) ?_)
  first | (refine Hd.yg rfl rfl (y_load1 ag62 rfl (Rd.pt1 pkk (by (first | rfl)))) ?_) | (refine Hd.yg rfl rfl (y_load1 ag62 rfl (Rd.seg1 pkk (by (first | rfl)))) ?_) | (refine Hd.yg rfl rfl (y_loadR1 ag62 rfl (by (first | exact RdS.own pkk)) (by (first | rfl))) ?_)
  first | (refine Hd.yg rfl rfl (y_eql_pointer Try.underlying62 rfl rfl) ?_) | (refine Hd.yg rfl rfl (y_eql_one Try.underlying62 sz86 rfl rfl rfl) ?_)
  first | (refine Hd.yv (y_pickT rfl rfl) ?_) | (refine Hd.yv (y_pickF rfl rfl) ?_) | (refine Hd.yv (y_pickb rfl rfl rfl) ?_) | (refine Hd.yv (y_pick rfl rfl rfl) ?_)
  refine Hd.yv (y_assign rfl) ?_
  refine Hd.nil ?_
  refine Hd.slots [(2, _)] ⟨rfl, trivial⟩ ?_
  refine Hd.toK hK2 ?_
  refine Hd.ret ?_
  clear hK1 hK2
  exact Hd.ret1 rfl () (by first | rfl | (simp only [*]; done) | (simp [*]; done)) (Ent.sep enn)
set_option maxHeartbeats 2000000 in
theorem tnoneA_ct (L : List SP) (b : Nat) (qs : List Q) (s : List It) (nx : Int) (af : AF) (lim : Int) : Ct Try.prog 34 #[.pointer (some ⟨b, 0, none⟩)] (TmA b qs s nx af lim :: L) (fun _ : Unit => .bool false) (fun _ : Unit => TmA b qs s nx af lim :: L) := by
  refine Ct.of (vs := [.pointer (some ⟨b, 0, none⟩)]) Try.func34 rfl rfl [(0, .pointer (some ⟨b, 0, none⟩))] (by repeat (first | exact trivial | refine ⟨rfl, ?_⟩)) ?_
  intro E
  show Hd E 12 _ _ _ _
  refine Hd.exs .here ?_
  intro t
  simp only [List.cons_append, List.nil_append]
  refine Hd.pure (fun hq => ?_)
  refine Hd.seq (fun K1 hK1 => ?_)
  refine Hd.region ?_
  refine Hd.yv (y_assign rfl) ?_
  refine Hd.nil ?_
  refine Hd.slots [(0, _)] ⟨rfl, trivial⟩ ?_
  refine Hd.toK hK1 ?_
  refine Hd.seq (fun K2 hK2 => ?_)
  refine Hd.region ?_
  refine Hd.yv (y_move rfl) ?_
  first | (refine Hd.yv (y_eql_pointer Try.underlying25 rfl rfl) ?_) | (refine Hd.yv (y_eql_one Try.underlying25 sz66 rfl rfl rfl) ?_)
  refine Hd.yv (y_move rfl) ?_
  refine Hd.yg rfl rfl (y_move rfl) ?_
  refine Hd.yg rfl rfl (y_nilp rfl) ?_
  first | (refine Hd.yg rfl rfl (y_field' (q := 0) (ft := 62) Try.underlying66 rfl sz62 rfl rfl) ?_) | (refine Hd.yg rfl rfl (y_fieldR (q := 0) (ft := 62) Try.underlying66 rfl sz62 rfl rfl) ?_)
  first | (refine Hd.yg rfl rfl (y_load1 ag62 rfl (Rd.pt1 pkk (by (first | rfl)))) ?_) | (refine Hd.yg rfl rfl (y_load1 ag62 rfl (Rd.seg1 pkk (by (first | rfl)))) ?_) | (refine Hd.yg rfl rfl (y_loadR1 ag62 rfl (by (first | exact RdS.own pkk)) (by (first | rfl))) ?_)
  first | (refine Hd.yg rfl rfl (y_eql_pointer Try.underlying62 rfl rfl) ?_) | (refine Hd.yg rfl rfl (y_eql_one Try.underlying62 sz86 rfl rfl rfl) ?_)
  first | (refine Hd.yv (y_pickT rfl rfl) ?_) | (refine Hd.yv (y_pickF rfl rfl) ?_) | (refine Hd.yv (y_pickb rfl rfl rfl) ?_) | (refine Hd.yv (y_pick rfl rfl rfl) ?_)
  refine Hd.yv (y_assign rfl) ?_
  refine Hd.nil ?_
  refine Hd.slots [(2, _)] ⟨rfl, trivial⟩ ?_
  refine Hd.toK hK2 ?_
  refine Hd.ret ?_
  clear hK1 hK2
  exact Hd.ret1 rfl () rfl (Ent.sep (.ex t (.pure hq enn)))
set_option maxHeartbeats 2000000 in
theorem tnone_nil (L : List SP) : Ct Try.prog 34 #[.pointer none] (L) (fun _ : Unit => .bool true) (fun _ : Unit => L) := by
  refine Ct.of (vs := [.pointer none]) Try.func34 rfl rfl [(0, .pointer none)] (by repeat (first | exact trivial | refine ⟨rfl, ?_⟩)) ?_
  intro E
  show Hd E 12 _ _ _ _
  refine Hd.seq (fun K1 hK1 => ?_)
  refine Hd.region ?_
  refine Hd.yv (y_assign rfl) ?_
  refine Hd.nil ?_
  refine Hd.slots [(0, _)] ⟨rfl, trivial⟩ ?_
  refine Hd.toK hK1 ?_
  refine Hd.seq (fun K2 hK2 => ?_)
  refine Hd.region ?_
  refine Hd.yv (y_move rfl) ?_
  first | (refine Hd.yv (y_eql_pointer Try.underlying25 rfl rfl) ?_) | (refine Hd.yv (y_eql_one Try.underlying25 sz66 rfl rfl rfl) ?_)
  refine Hd.yv (y_move rfl) ?_
  refine Hd.ng rfl rfl rfl ?_
  refine Hd.ng rfl rfl rfl ?_
  refine Hd.ng rfl rfl rfl ?_
  refine Hd.ng rfl rfl rfl ?_
  refine Hd.ng rfl rfl rfl ?_
  first | (refine Hd.yv (y_pickT rfl rfl) ?_) | (refine Hd.yv (y_pickF rfl rfl) ?_) | (refine Hd.yv (y_pickb rfl rfl rfl) ?_) | (refine Hd.yv (y_pick rfl rfl rfl) ?_)
  refine Hd.yv (y_assign rfl) ?_
  refine Hd.nil ?_
  refine Hd.slots [(2, _)] ⟨rfl, trivial⟩ ?_
  refine Hd.toK hK2 ?_
  refine Hd.ret ?_
  clear hK1 hK2
  exact Hd.ret1 rfl () (by first | rfl | (simp only [*]; done) | (simp [*]; done)) (Ent.sep enn)
set_option maxHeartbeats 2000000 in
theorem tnew_ct (L : List SP) : Ct Try.prog 10 #[] (L) (fun b : Nat => .pointer (some ⟨b, 0, none⟩)) (fun b : Nat => TmA b [] [] 0 (fun _ => none) NV :: L) := by
  refine Ct.of (vs := []) Try.func10 rfl rfl [] (by repeat (first | exact trivial | refine ⟨rfl, ?_⟩)) ?_
  intro E
  show Hd E 5 _ _ _ _
  refine Hd.seq (fun K1 hK1 => ?_)
  refine Hd.region ?_
  refine Hd.yv (y_assign rfl) ?_
  refine Hd.nil ?_
  refine Hd.slots [] trivial ?_
  refine Hd.toK hK1 ?_
  refine Hd.seq (fun K2 hK2 => ?_)
  refine Hd.region ?_
  refine Hd.callE rfl fk33 (Cm.new_ct _) (Ent.sep enn) ?_
  intro o
  refine Hd.makeMap .i64 (fun b2 => ?_)
  refine Hd.yv (y_build (vs := [(0, _), (1, _), (2, _)]) rfl (by first | exact bd10_3 .. | kernel_rfl)) ?_
  refine Hd.box rfl rfl (fun b4 => ?_)
  refine Hd.yv (y_assign rfl) ?_
  refine Hd.nil ?_
  refine Hd.slots [(0, _)] ⟨rfl, trivial⟩ ?_
  refine Hd.toK hK2 ?_
  refine Hd.ret ?_
  clear hK1 hK2
  exact Hd.ret1 rfl b4 rfl (Ent.sep (.ex ⟨o, b2⟩ (.pure ⟨AtOk.nil, by simp [InK]⟩ (.eq pkk (pt_eq (by rfl)) (.pick pkk (.ex 0 (.eq pkk (mp_eq (by rfl)) enn)))))))
def lf (now d : Int) : Int := if d = NV then NV else if d ≤ now then 0 else d - now
set_option maxHeartbeats 2000000 in
theorem left_ct (L : List SP) (now d : Int) (hn : InK .u64 now) (hd : InK .u64 d) : Ct Try.prog 37 #[.int .u64 now, .int .u64 d] (L) (fun _ : Unit => .int .u64 (lf now d)) (fun _ : Unit => L) := by
  refine Ct.of (vs := [.int .u64 now, .int .u64 d]) Try.func37 rfl rfl [(0, .int .u64 now), (1, .int .u64 d)] (by repeat (first | exact trivial | refine ⟨rfl, ?_⟩)) ?_
  intro E
  show Hd E 15 _ _ _ _
  simp only [InK] at hn hd
  refine Hd.seq (fun K1 hK1 => ?_)
  refine Hd.region ?_
  refine Hd.yv (y_assign rfl) ?_
  refine Hd.nil ?_
  refine Hd.slots [(0, _), (1, _)] ⟨rfl, rfl, trivial⟩ ?_
  refine Hd.toK hK1 ?_
  refine Hd.seq (fun K2 hK2 => ?_)
  refine Hd.block ?_
  refine Hd.seq (fun K3 hK3 => ?_)
  refine Hd.region ?_
  refine Hd.yv (y_move rfl) ?_
  first | (refine Hd.yv (y_eqlT rfl rfl) ?_) | (refine Hd.yv (y_eql rfl rfl) ?_)
  refine Hd.yv (y_assign rfl) ?_
  refine Hd.nil ?_
  refine Hd.slots [(0, _), (1, _), (5, _)] ⟨rfl, rfl, rfl, trivial⟩ ?_
  refine Hd.toK hK3 ?_
  refine Hd.cond rfl (fun hc0 => ?_) (fun hc0 => ?_)
  ·
    try simp only [decide_eq_true_eq, decide_eq_false_iff_not, Bool.and_eq_true, Bool.or_eq_true, Bool.and_eq_false_iff, Bool.or_eq_false_iff, Bool.not_eq_true', Bool.not_eq_false', Bool.not_eq_true, Bool.not_eq_false, Int.not_lt, Int.not_le, Decidable.not_not, ne_eq] at hc0
    refine Hd.seq (fun K4 hK4 => ?_)
    refine Hd.region ?_
    refine Hd.yv (y_assign rfl) ?_
    refine Hd.nil ?_
    refine Hd.slots [(4, _)] ⟨rfl, trivial⟩ ?_
    refine Hd.toK hK4 ?_
    refine Hd.ret ?_
    refine Hd.inBret ?_
    refine Hd.thenRet ?_
    clear hK1 hK2 hK3 hK4
    exact Hd.ret1 rfl () (congrArg (fun z => some (Value.int .u64 z)) (show (18446744073709551615 : Int) = lf now d by unfold lf; rw [if_pos hc0])) (Ent.sep enn)
  ·
    try simp only [decide_eq_true_eq, decide_eq_false_iff_not, Bool.and_eq_true, Bool.or_eq_true, Bool.and_eq_false_iff, Bool.or_eq_false_iff, Bool.not_eq_true', Bool.not_eq_false', Bool.not_eq_true, Bool.not_eq_false, Int.not_lt, Int.not_le, Decidable.not_not, ne_eq] at hc0
    refine Hd.seq (fun K5 hK5 => ?_)
    refine Hd.region ?_
    refine Hd.yv (y_move rfl) ?_
    refine Hd.yv (y_move rfl) ?_
    refine Hd.yv (y_leq rfl rfl) ?_
    refine Hd.yv (y_assign rfl) ?_
    refine Hd.nil ?_
    refine Hd.slots [(0, _), (1, _), (8, _)] ⟨rfl, rfl, rfl, trivial⟩ ?_
    refine Hd.toK hK5 ?_
    refine Hd.cond rfl (fun hc1 => ?_) (fun hc1 => ?_)
    ·
      try simp only [decide_eq_true_eq, decide_eq_false_iff_not, Bool.and_eq_true, Bool.or_eq_true, Bool.and_eq_false_iff, Bool.or_eq_false_iff, Bool.not_eq_true', Bool.not_eq_false', Bool.not_eq_true, Bool.not_eq_false, Int.not_lt, Int.not_le, Decidable.not_not, ne_eq] at hc1
      refine Hd.seq (fun K6 hK6 => ?_)
      refine Hd.region ?_
      refine Hd.yv (y_assign rfl) ?_
      refine Hd.nil ?_
      refine Hd.slots [(4, _)] ⟨rfl, trivial⟩ ?_
      refine Hd.toK hK6 ?_
      refine Hd.ret ?_
      refine Hd.inBret ?_
      refine Hd.thenRet ?_
      clear hK1 hK2 hK3 hK5 hK6
      exact Hd.ret1 rfl () (congrArg (fun z => some (Value.int .u64 z)) (show (0 : Int) = lf now d by unfold lf; rw [if_neg hc0, if_pos hc1])) (Ent.sep enn)
    ·
      try simp only [decide_eq_true_eq, decide_eq_false_iff_not, Bool.and_eq_true, Bool.or_eq_true, Bool.and_eq_false_iff, Bool.or_eq_false_iff, Bool.not_eq_true', Bool.not_eq_false', Bool.not_eq_true, Bool.not_eq_false, Int.not_lt, Int.not_le, Decidable.not_not, ne_eq] at hc1
      refine Hd.skip ?_
      refine Hd.inB ?_
      refine Hd.toK hK2 ?_
      refine Hd.seq (fun K7 hK7 => ?_)
      refine Hd.region ?_
      refine Hd.yv (y_move rfl) ?_
      refine Hd.yv (y_move rfl) ?_
      first | (refine Hd.yv (y_subn rfl rfl (by simp only [InK]; omega)) ?_) | (refine Hd.yv (y_sub rfl rfl) ?_)
      refine Hd.yv (y_assign rfl) ?_
      refine Hd.nil ?_
      refine Hd.slots [(4, _)] ⟨rfl, trivial⟩ ?_
      refine Hd.toK hK7 ?_
      refine Hd.ret ?_
      clear hK1 hK2 hK3 hK5 hK7
      exact Hd.ret1 rfl () (congrArg (fun z => some (Value.int .u64 z)) (show d - now = lf now d by unfold lf; rw [if_neg hc0, if_neg (by omega)])) (Ent.sep enn)
theorem lf_in {now d : Int} (hn : InK .u64 now) (hd : InK .u64 d) : InK .u64 (lf now d) := by
  simp only [InK] at *; unfold lf; split
  · simp
  · split <;> omega
theorem mn_in {a b : Int} (ha : InK .u64 a) (hb : InK .u64 b) : InK .u64 (min a b) := by simp only [InK] at *; omega
set_option maxHeartbeats 2000000 in
theorem least_ct (L : List SP) (b : Nat) (x y : Int) (hx : InK .u64 x) (hy : InK .u64 y) : Ct Try.prog 39 #[.slice (some ⟨b, 0, none⟩) 2 2] (pt b [.int .u64 x, .int .u64 y] 23 :: L) (fun _ : Unit => .int .u64 (min x y)) (fun _ : Unit => pt b [.int .u64 x, .int .u64 y] 23 :: L) := by
  refine Ct.of (vs := [.slice (some ⟨b, 0, none⟩) 2 2]) Try.func39 rfl rfl [(0, .slice (some ⟨b, 0, none⟩) 2 2)] (by repeat (first | exact trivial | refine ⟨rfl, ?_⟩)) ?_
  intro E
  show Hd E 18 _ _ _ _
  simp only [InK] at hx hy
  refine Hd.seq (fun K1 hK1 => ?_)
  refine Hd.region ?_
  refine Hd.yv (y_assign rfl) ?_
  refine Hd.nil ?_
  refine Hd.slots [(0, _)] ⟨rfl, trivial⟩ ?_
  refine Hd.toK hK1 ?_
  refine Hd.scope ?_
  refine Hd.seq (fun K2 hK2 => ?_)
  refine Hd.region ?_
  refine Hd.yv (y_assign rfl) ?_
  refine Hd.nil ?_
  refine Hd.slots [(0, _), (3, _)] ⟨rfl, rfl, trivial⟩ ?_
  refine Hd.toK hK2 ?_
  refine Hd.seq (fun K3 hK3 => ?_)
  refine Hd.label ?_
  refine Hd.toK hK3 ?_
  refine Hd.seq (fun K4 hK4 => ?_)
  refine Hd.seq (fun K5 hK5 => ?_)
  refine Hd.region ?_
  refine Hd.yv (y_move rfl) ?_
  refine Hd.yv (y_len Try.underlying49 rfl) ?_
  refine Hd.yv (y_move rfl) ?_
  refine Hd.nil ?_
  refine Hd.slots [(3, _), (6, _), (7, _), (8, _)] ⟨rfl, rfl, rfl, rfl, trivial⟩ ?_
  refine Hd.toK hK5 ?_
  refine Hd.block ?_
  refine Hd.loopK (ι := Nat) [(6, _), (7, _)] (fun i => [(3, .int .u64 (if i = 0 then 18446744073709551615 else if i = 1 then x else min x y)), (8, .int .i64 (i : Int))]) (fun i => pu (i ≤ 2) :: pt b [.int .u64 x, .int .u64 y] 23 :: L) (fun i => 2 - i) 0 (by repeat (first | exact trivial | refine ⟨rfl, ?_⟩)) (by repeat (first | exact trivial | refine ⟨rfl, ?_⟩)) (Ent.sep (.pure (by first | omega | (simp; done) | (simp; omega) | exact ⟨by simp, by simp⟩) enn)) ?_
  intro i
  try dsimp only
  refine Hd.pure (fun hp0 => ?_)
  try dsimp only at hp0
  refine Hd.seq (fun K6 hK6 => ?_)
  refine Hd.region ?_
  refine Hd.yv (y_lss rfl rfl) ?_
  refine Hd.nil ?_
  refine Hd.slots [(3, _), (6, _), (7, _), (8, _), (9, _)] ⟨rfl, rfl, rfl, rfl, rfl, trivial⟩ ?_
  refine Hd.toK hK6 ?_
  refine Hd.seq (fun K7 hK7 => ?_)
  refine Hd.cond rfl (fun hc0 => ?_) (fun hc0 => ?_)
  ·
    try simp only [decide_eq_true_eq, decide_eq_false_iff_not, Bool.and_eq_true, Bool.or_eq_true, Bool.and_eq_false_iff, Bool.or_eq_false_iff, Bool.not_eq_true', Bool.not_eq_false', Bool.not_eq_true, Bool.not_eq_false, Int.not_lt, Int.not_le, Decidable.not_not, ne_eq] at hc0
    obtain ⟨z, hz⟩ : ∃ z, ([Value.int .u64 x, Value.int .u64 y] : List Value)[0 + i * 1]? = some (.int .u64 z) ∧ (i = 0 ∧ z = x ∨ i = 1 ∧ z = y) := by
      rcases (show i = 0 ∨ i = 1 by omega) with rfl | rfl
      · exact ⟨x, rfl, .inl ⟨rfl, rfl⟩⟩
      · exact ⟨y, rfl, .inr ⟨rfl, rfl⟩⟩
    refine Hd.skip ?_
    refine Hd.toK hK7 ?_
    refine Hd.seq (fun K8 hK8 => ?_)
    refine Hd.block ?_
    refine Hd.seq (fun K9 hK9 => ?_)
    refine Hd.region ?_
    first | (refine Hd.yv (y_idxS Try.underlying49 sz23 rfl rfl (by first | omega | decide)) ?_) | (refine Hd.yv (y_idxR Try.underlying49 sz23 rfl rfl (by first | omega | decide) (by (first | exact RdS.own pkk))) ?_)
    first | (refine Hd.yv (y_load1 ag23 rfl (Rd.pt1 pkk (by (first | exact hz.1 | rfl)))) ?_) | (refine Hd.yv (y_load1 ag23 rfl (Rd.seg1 pkk (by (first | exact hz.1 | rfl)))) ?_) | (refine Hd.yv (y_loadR1 ag23 rfl (by (first | exact RdS.own pkk)) (by (first | exact hz.1 | rfl))) ?_)
    refine Hd.yv (y_assign rfl) ?_
    refine Hd.nil ?_
    refine Hd.slots [(3, _), (5, _), (6, _), (7, _), (8, _)] ⟨rfl, rfl, rfl, rfl, rfl, trivial⟩ ?_
    refine Hd.toK hK9 ?_
    refine Hd.seq (fun K10 hK10 => ?_)
    refine Hd.seq (fun K11 hK11 => ?_)
    refine Hd.region ?_
    refine Hd.yv (y_move rfl) ?_
    refine Hd.yv (y_move rfl) ?_
    refine Hd.yv (y_geq rfl rfl) ?_
    refine Hd.nil ?_
    refine Hd.slots [(3, _), (5, _), (6, _), (7, _), (8, _), (14, _)] ⟨rfl, rfl, rfl, rfl, rfl, rfl, trivial⟩ ?_
    refine Hd.toK hK11 ?_
    refine Hd.cond rfl (fun hc1 => ?_) (fun hc1 => ?_)
    ·
      try simp only [decide_eq_true_eq, decide_eq_false_iff_not, Bool.and_eq_true, Bool.or_eq_true, Bool.and_eq_false_iff, Bool.or_eq_false_iff, Bool.not_eq_true', Bool.not_eq_false', Bool.not_eq_true, Bool.not_eq_false, Int.not_lt, Int.not_le, Decidable.not_not, ne_eq] at hc1
      have hv : (if i = 0 then (18446744073709551615 : Int) else if i = 1 then x else min x y) = (if i + 1 = 0 then (18446744073709551615 : Int) else if i + 1 = 1 then x else min x y) := by
        rcases hz.2 with ⟨rfl, rfl⟩ | ⟨rfl, rfl⟩
        · simp at hc1 ⊢; omega
        · simp at hc1 ⊢; omega
      refine Hd.exit ?_
      refine Hd.thenExit ?_
      refine Hd.inBexit ?_
      refine Hd.toK hK8 ?_
      refine Hd.region ?_
      first | (refine Hd.yv (y_addn rfl rfl (by simp only [InK]; omega)) ?_) | (refine Hd.yv (y_add rfl rfl) ?_)
      refine Hd.yv (y_move rfl) ?_
      refine Hd.nil ?_
      refine Hd.slots [(3, _), (6, _), (7, _), (8, _)] ⟨rfl, rfl, rfl, rfl, trivial⟩ ?_
      clear hK1 hK2 hK3 hK4 hK5 hK6 hK7 hK8 hK9 hK10 hK11
      refine Hd.thenN ?_
      rw [hv]
      exact Hd.again (i + 1) (by first | omega | (simp only; omega) | (simp; omega)) (by repeat (first | exact trivial | refine ⟨rfl, ?_⟩)) (Ent.sep (.pure (by first | omega | (simp; done) | (simp; omega) | (dsimp only; omega)) enn))
    ·
      try simp only [decide_eq_true_eq, decide_eq_false_iff_not, Bool.and_eq_true, Bool.or_eq_true, Bool.and_eq_false_iff, Bool.or_eq_false_iff, Bool.not_eq_true', Bool.not_eq_false', Bool.not_eq_true, Bool.not_eq_false, Int.not_lt, Int.not_le, Decidable.not_not, ne_eq] at hc1
      have hv : z = (if i + 1 = 0 then (18446744073709551615 : Int) else if i + 1 = 1 then x else min x y) := by
        rcases hz.2 with ⟨rfl, rfl⟩ | ⟨rfl, rfl⟩
        · simp
        · simp at hc1 ⊢; omega
      refine Hd.skip ?_
      refine Hd.toK hK10 ?_
      refine Hd.region ?_
      refine Hd.yv (y_to (v' := .int .u64 (if i + 1 = 0 then (18446744073709551615 : Int) else if i + 1 = 1 then x else min x y)) (y_move rfl) (by (rw [← hv]))) ?_
      refine Hd.yv (y_assign rfl) ?_
      refine Hd.nil ?_
      refine Hd.slots [(3, _), (6, _), (7, _), (8, _)] ⟨rfl, rfl, rfl, rfl, trivial⟩ ?_
      refine Hd.inB ?_
      refine Hd.toK hK8 ?_
      refine Hd.region ?_
      first | (refine Hd.yv (y_addn rfl rfl (by simp only [InK]; omega)) ?_) | (refine Hd.yv (y_add rfl rfl) ?_)
      refine Hd.yv (y_move rfl) ?_
      refine Hd.nil ?_
      refine Hd.slots [(3, _), (6, _), (7, _), (8, _)] ⟨rfl, rfl, rfl, rfl, trivial⟩ ?_
      clear hK1 hK2 hK3 hK4 hK5 hK6 hK7 hK8 hK9 hK10 hK11
      refine Hd.thenN ?_
      exact Hd.again (i + 1) (by first | omega | (simp only; omega) | (simp; omega)) (by repeat (first | exact trivial | refine ⟨rfl, ?_⟩)) (Ent.sep (.pure (by first | omega | (simp; done) | (simp; omega) | (dsimp only; omega)) enn))
  ·
    try simp only [decide_eq_true_eq, decide_eq_false_iff_not, Bool.and_eq_true, Bool.or_eq_true, Bool.and_eq_false_iff, Bool.or_eq_false_iff, Bool.not_eq_true', Bool.not_eq_false', Bool.not_eq_true, Bool.not_eq_false, Int.not_lt, Int.not_le, Decidable.not_not, ne_eq] at hc0
    obtain rfl : i = 2 := by omega
    refine Hd.exit ?_
    refine Hd.thenExit ?_
    refine Hd.thenExit ?_
    refine Hd.inBexit ?_
    refine Hd.toK hK4 ?_
    refine Hd.seq (fun K12 hK12 => ?_)
    refine Hd.region ?_
    refine Hd.yv (y_move rfl) ?_
    refine Hd.yv (y_assign rfl) ?_
    refine Hd.nil ?_
    refine Hd.slots [(2, _)] ⟨rfl, trivial⟩ ?_
    refine Hd.toK hK12 ?_
    refine Hd.ret ?_
    refine Hd.scRet ?_
    clear hK1 hK2 hK3 hK4 hK5 hK6 hK7 hK12
    exact Hd.ret1 rfl () (by first | rfl | (simp only [*]; done) | (simp [*]; done)) (Ent.sep enn)
set_option maxHeartbeats 2000000 in
theorem wait_ct (L : List SP) (x : Int) (hx : x ≠ 18446744073709551615) : Ct Try.prog 40 #[.int .u64 x, .bool false] (L) (fun _ : Unit => .int .u64 (min x 1048576)) (fun _ : Unit => L) := by
  refine Ct.of (vs := [.int .u64 x, .bool false]) Try.func40 rfl rfl [(0, .int .u64 x), (1, .bool false)] (by repeat (first | exact trivial | refine ⟨rfl, ?_⟩)) ?_
  intro E
  show Hd E 12 _ _ _ _
  refine Hd.seq (fun K1 hK1 => ?_)
  refine Hd.region ?_
  refine Hd.yv (y_assign rfl) ?_
  refine Hd.nil ?_
  refine Hd.slots [(0, _), (1, _)] ⟨rfl, rfl, trivial⟩ ?_
  refine Hd.toK hK1 ?_
  refine Hd.seq (fun K2 hK2 => ?_)
  refine Hd.block ?_
  refine Hd.seq (fun K3 hK3 => ?_)
  refine Hd.region ?_
  refine Hd.yv (y_move rfl) ?_
  refine Hd.yv (y_assign rfl) ?_
  refine Hd.nil ?_
  refine Hd.slots [(0, _), (5, _)] ⟨rfl, rfl, trivial⟩ ?_
  refine Hd.toK hK3 ?_
  refine Hd.condF rfl ?_
  refine Hd.seq (fun K4 hK4 => ?_)
  refine Hd.region ?_
  refine Hd.yv (y_move rfl) ?_
  first | (refine Hd.yv (y_eqlT rfl rfl) ?_) | (refine Hd.yv (y_eql rfl rfl) ?_)
  refine Hd.yv (y_assign rfl) ?_
  refine Hd.nil ?_
  refine Hd.slots [(0, _), (7, _)] ⟨rfl, rfl, trivial⟩ ?_
  refine Hd.toK hK4 ?_
  refine Hd.cond rfl (fun hc1 => ?_) (fun hc1 => ?_)
  ·
    try simp only [decide_eq_true_eq, decide_eq_false_iff_not, Bool.and_eq_true, Bool.or_eq_true, Bool.and_eq_false_iff, Bool.or_eq_false_iff, Bool.not_eq_true', Bool.not_eq_false', Bool.not_eq_true, Bool.not_eq_false, Int.not_lt, Int.not_le, Decidable.not_not, ne_eq] at hc1
    exact absurd hc1 hx
  ·
    try simp only [decide_eq_true_eq, decide_eq_false_iff_not, Bool.and_eq_true, Bool.or_eq_true, Bool.and_eq_false_iff, Bool.or_eq_false_iff, Bool.not_eq_true', Bool.not_eq_false', Bool.not_eq_true, Bool.not_eq_false, Int.not_lt, Int.not_le, Decidable.not_not, ne_eq] at hc1
    refine Hd.skip ?_
    refine Hd.inB ?_
    refine Hd.toK hK2 ?_
    refine Hd.seq (fun K5 hK5 => ?_)
    refine Hd.region ?_
    refine Hd.yv (y_move rfl) ?_
    refine Hd.yv (y_min rfl rfl) ?_
    refine Hd.yv (y_assign rfl) ?_
    refine Hd.nil ?_
    refine Hd.slots [(4, _)] ⟨rfl, trivial⟩ ?_
    refine Hd.toK hK5 ?_
    refine Hd.ret ?_
    clear hK1 hK2 hK3 hK4 hK5
    exact Hd.ret1 rfl () (by first | rfl | (simp only [*]; done) | (simp [*]; done)) (Ent.sep enn)
end Tm
end Go.Proofs.Ytdjoofidicoimaa
