/-
  What the laws of timers stand on: the calls, same, the chapter's first examples.
-/
import Derived.Test.YtdjoofidicoimaaTi3
namespace Go.Proofs.Ytdjoofidicoimaa
set_option linter.unusedSimpArgs false
set_option linter.unusedVariables false
set_option linter.unnecessarySimpa false
open Go.RX Fx Hp Cm
namespace Tm
set_option maxRecDepth 8000
structure Opt where
  k : Int
  id : Int
  now : Int
  af : Int
  busy : Bool
abbrev encO (o : Opt) : List Value := [.int .i64 o.k, .int .i64 o.id, .int .u64 o.now, .int .u64 o.af, .bool o.busy]
def OpOk (o : Opt) : Prop := InK .u64 o.now ∧ InK .u64 o.af
def AfOk (af : AF) : Prop := ∀ k a, af k = some a → InK .u64 a
theorem AfOk.none : AfOk (fun _ => none) := fun k a h => by cases h
theorem AfOk.add {af : AF} (h : AfOk af) {a : Int} (ha : InK .u64 a) (id : Int) : AfOk (addF af id a) := fun k b hb => by
  unfold addF at hb
  split at hb
  · exact h k b hb
  · simp only at hb
    split at hb
    · obtain rfl := Option.some.inj hb; exact ha
    · exact h k b hb
theorem AfOk.del {af : AF} (h : AfOk af) (id : Int) : AfOk (delA af id) := fun k b hb => by
  unfold delA at hb
  split at hb
  · cases hb
  · exact h k b hb
theorem AfOk.get {af : AF} (h : AfOk af) (id : Int) : InK .u64 ((af id).getD 0) := by
  cases hh : af id with
  | none => simp [InK]
  | some a => exact h id a hh
theorem AfOk.ag {af : AF} (h : AfOk af) (id : Int) : AfOk (agF af id) := by
  unfold agF; split
  · exact h.add (h.get id) id
  · exact h
theorem remI_len (s : List It) (id : Int) : (remI id s).length ≤ s.length := List.length_filter_le _ _
theorem restI_len (s : List It) (now : Int) : (restI now s).length ≤ s.length := (List.dropWhile_sublist _).length_le
theorem addS_len (s : List It) (id now af nx : Int) : (addS s id now af nx).length ≤ s.length + 1 := by
  unfold addS; split
  · omega
  · rw [(insI_perm _ _).length_eq]; have := remI_len s id; simp; omega
theorem addN_le (id nx : Int) : addN id nx ≤ nx + 1 := by unfold addN; split <;> omega
theorem agS_len (s : List It) (af : AF) (id now nx : Int) : (agS s af id now nx).length ≤ s.length + 1 := by
  unfold agS; split
  · exact addS_len ..
  · omega
theorem agN_le (af : AF) (id nx : Int) : agN af id nx ≤ nx + 1 := by
  unfold agN; split
  · exact addN_le ..
  · omega
abbrev eI (l : List Int) : List Value := l.map fun y => .int .i64 y
theorem eN_eI (l : List It) : eN l = eI (l.map It.id) := by simp [eN, eI]
theorem int_at {l : List Int} {k : IntKind} {i : Nat} {a : Int} (h : l[i]? = some a) : (l.map fun y => Value.int k y)[i * 1]? = some (.int k a) := by rw [Nat.mul_one, List.getElem?_map, h]; rfl
set_option maxHeartbeats 2000000 in
theorem same_ct (L : List SP) (ad : Option Addr) (n cap : Nat) (xs : List Int) (hn : xs.length = n) (hlen : n ≤ 1000000) (hR : RdS L 1 ad n (eI xs)) (ad2 : Option Addr) (n2 cap2 : Nat) (ys : List Int) (hn2 : ys.length = n2) (hR2 : RdS L 1 ad2 n2 (eI ys)) : Ct Try.prog 23 #[.slice ad n cap, .slice ad2 n2 cap2] (L) (fun b : Bool => .bool b) (fun b : Bool => pu (b = decide (xs = ys)) :: L) := by
  refine Ct.of (vs := [.slice ad n cap, .slice ad2 n2 cap2]) Try.func23 rfl rfl [(0, .slice ad n cap), (1, .slice ad2 n2 cap2)] (by repeat (first | exact trivial | refine ⟨rfl, ?_⟩)) ?_
  intro E
  show Hd E 26 _ _ _ _
  refine Hd.seq (fun K1 hK1 => ?_)
  refine Hd.region ?_
  refine Hd.yv (y_assign rfl) ?_
  refine Hd.nil ?_
  refine Hd.slots [(0, _), (1, _)] ⟨rfl, rfl, trivial⟩ ?_
  refine Hd.toK hK1 ?_
  refine Hd.seq (fun K2 hK2 => ?_)
  refine Hd.seq (fun K3 hK3 => ?_)
  refine Hd.region ?_
  refine Hd.yv (y_move rfl) ?_
  refine Hd.yv (y_len Try.underlying35 rfl) ?_
  refine Hd.yv (y_move rfl) ?_
  refine Hd.yv (y_len Try.underlying35 rfl) ?_
  refine Hd.yv (y_neq rfl rfl) ?_
  refine Hd.nil ?_
  refine Hd.slots [(0, _), (1, _), (10, _)] ⟨rfl, rfl, rfl, trivial⟩ ?_
  refine Hd.toK hK3 ?_
  refine Hd.cond rfl (fun hc0 => ?_) (fun hc0 => ?_)
  ·
    try simp only [decide_eq_true_eq, decide_eq_false_iff_not, Bool.and_eq_true, Bool.or_eq_true, Bool.and_eq_false_iff, Bool.or_eq_false_iff, Bool.not_eq_true', Bool.not_eq_false', Bool.not_eq_true, Bool.not_eq_false, Int.not_lt, Int.not_le, Decidable.not_not, ne_eq] at hc0
    refine Hd.seq (fun K4 hK4 => ?_)
    refine Hd.region ?_
    refine Hd.yv (y_assign rfl) ?_
    refine Hd.nil ?_
    refine Hd.slots [(4, _)] ⟨rfl, trivial⟩ ?_
    refine Hd.toK hK4 ?_
    refine Hd.ret ?_
    refine Hd.thenRet ?_
    clear hK1 hK2 hK3 hK4
    have hne : xs ≠ ys := fun e => by (subst e; omega)
    exact Hd.ret1 rfl false rfl (Ent.sep (.pure (decide_eq_false hne).symm enn))
  ·
    try simp only [decide_eq_true_eq, decide_eq_false_iff_not, Bool.and_eq_true, Bool.or_eq_true, Bool.and_eq_false_iff, Bool.or_eq_false_iff, Bool.not_eq_true', Bool.not_eq_false', Bool.not_eq_true, Bool.not_eq_false, Int.not_lt, Int.not_le, Decidable.not_not, ne_eq] at hc0
    have hnn : n = n2 := by omega
    refine Hd.skip ?_
    refine Hd.toK hK2 ?_
    refine Hd.seq (fun K5 hK5 => ?_)
    refine Hd.seq (fun K6 hK6 => ?_)
    refine Hd.region ?_
    refine Hd.yv (y_assign rfl) ?_
    refine Hd.nil ?_
    refine Hd.slots [(0, _), (1, _), (5, _)] ⟨rfl, rfl, rfl, trivial⟩ ?_
    refine Hd.toK hK6 ?_
    refine Hd.block ?_
    refine Hd.loopK (ι := Nat) [(0, _), (1, _)] (fun i => [(5, .int .i64 (i : Int))]) (fun i => pu (i ≤ n ∧ xs.take i = ys.take i) :: L) (fun i => n - i) 0 (by repeat (first | exact trivial | refine ⟨rfl, ?_⟩)) (by repeat (first | exact trivial | refine ⟨rfl, ?_⟩)) (Ent.sep (.pure ⟨Nat.zero_le _, rfl⟩ enn)) ?_
    intro i
    try dsimp only
    refine Hd.pure (fun hp0 => ?_)
    try dsimp only at hp0
    refine Hd.seq (fun K7 hK7 => ?_)
    refine Hd.seq (fun K8 hK8 => ?_)
    refine Hd.region ?_
    refine Hd.yv (y_move rfl) ?_
    refine Hd.yv (y_move rfl) ?_
    refine Hd.yv (y_len Try.underlying35 rfl) ?_
    refine Hd.yv (y_lss rfl rfl) ?_
    refine Hd.nil ?_
    refine Hd.slots [(0, _), (1, _), (5, _), (14, _)] ⟨rfl, rfl, rfl, rfl, trivial⟩ ?_
    refine Hd.toK hK8 ?_
    refine Hd.cond rfl (fun hc1 => ?_) (fun hc1 => ?_)
    ·
      try simp only [decide_eq_true_eq, decide_eq_false_iff_not, Bool.and_eq_true, Bool.or_eq_true, Bool.and_eq_false_iff, Bool.or_eq_false_iff, Bool.not_eq_true', Bool.not_eq_false', Bool.not_eq_true, Bool.not_eq_false, Int.not_lt, Int.not_le, Decidable.not_not, ne_eq] at hc1
      have hi : i < n := by omega
      obtain ⟨x, hgx⟩ : ∃ x, xs[i]? = some x := ⟨_, List.getElem?_eq_getElem (by omega)⟩
      obtain ⟨y, hgy⟩ : ∃ y, ys[i]? = some y := ⟨_, List.getElem?_eq_getElem (by omega)⟩
      refine Hd.skip ?_
      refine Hd.toK hK7 ?_
      refine Hd.seq (fun K9 hK9 => ?_)
      refine Hd.block ?_
      refine Hd.seq (fun K10 hK10 => ?_)
      refine Hd.quiet mixed (by kernel_rfl) ?_
      refine Hq.yv (y_move rfl) ?_
      refine Hq.yv (y_move rfl) ?_
      first | (refine Hq.yv (y_idxS Try.underlying35 sz3 rfl rfl (by first | omega | decide)) ?_) | (refine Hq.yv (y_idxR Try.underlying35 sz3 rfl rfl (by first | omega | decide) (by (first | exact RdS.own pkk | exact RdS.mono hR (Ent.sep enn) | exact RdS.mono hR2 (Ent.sep enn)))) ?_)
      refine Hq.yv (y_loadR1 ag3 rfl hR (int_at hgx)) ?_
      refine Hq.yv (y_move rfl) ?_
      refine Hq.yv (y_move rfl) ?_
      first | (refine Hq.yv (y_idxS Try.underlying35 sz3 rfl rfl (by first | omega | decide)) ?_) | (refine Hq.yv (y_idxR Try.underlying35 sz3 rfl rfl (by first | omega | decide) (by (first | exact RdS.own pkk | exact RdS.mono hR (Ent.sep enn) | exact RdS.mono hR2 (Ent.sep enn)))) ?_)
      refine Hq.yv (y_loadR1 ag3 rfl hR2 (int_at hgy)) ?_
      refine Hq.yv (y_neq rfl rfl) ?_
      refine Hq.nil ?_
      refine Hd.slots [(0, _), (1, _), (5, _), (25, _)] ⟨rfl, rfl, rfl, rfl, trivial⟩ ?_
      refine Hd.toK hK10 ?_
      refine Hd.cond rfl (fun hc2 => ?_) (fun hc2 => ?_)
      ·
        try simp only [decide_eq_true_eq, decide_eq_false_iff_not, Bool.and_eq_true, Bool.or_eq_true, Bool.and_eq_false_iff, Bool.or_eq_false_iff, Bool.not_eq_true', Bool.not_eq_false', Bool.not_eq_true, Bool.not_eq_false, Int.not_lt, Int.not_le, Decidable.not_not, ne_eq] at hc2
        refine Hd.seq (fun K11 hK11 => ?_)
        refine Hd.region ?_
        refine Hd.yv (y_assign rfl) ?_
        refine Hd.nil ?_
        refine Hd.slots [(4, _)] ⟨rfl, trivial⟩ ?_
        refine Hd.toK hK11 ?_
        refine Hd.ret ?_
        refine Hd.inBret ?_
        refine Hd.thenRet ?_
        refine Hd.thenRet ?_
        refine Hd.inBret ?_
        refine Hd.thenRet ?_
        clear hK1 hK2 hK3 hK5 hK6 hK7 hK8 hK9 hK10 hK11
        have hne : xs ≠ ys := fun e => by
          subst e
          rw [hgx] at hgy
          exact hc2 (Option.some.inj hgy)
        exact Hd.ret1 rfl false rfl (Ent.sep (.pure (decide_eq_false hne).symm enn))
      ·
        try simp only [decide_eq_true_eq, decide_eq_false_iff_not, Bool.and_eq_true, Bool.or_eq_true, Bool.and_eq_false_iff, Bool.or_eq_false_iff, Bool.not_eq_true', Bool.not_eq_false', Bool.not_eq_true, Bool.not_eq_false, Int.not_lt, Int.not_le, Decidable.not_not, ne_eq] at hc2
        refine Hd.skip ?_
        refine Hd.inB ?_
        refine Hd.toK hK9 ?_
        refine Hd.region ?_
        refine Hd.yv (y_move rfl) ?_
        first | (refine Hd.yv (y_addn rfl rfl (by simp only [InK]; omega)) ?_) | (refine Hd.yv (y_add rfl rfl) ?_)
        refine Hd.yv (y_assign rfl) ?_
        refine Hd.nil ?_
        refine Hd.slots [(0, _), (1, _), (5, _)] ⟨rfl, rfl, rfl, trivial⟩ ?_
        clear hK1 hK2 hK3 hK5 hK6 hK7 hK8 hK9 hK10
        refine Hd.thenN ?_
        exact Hd.again (i + 1) (by first | omega | (simp only; omega) | (simp; omega)) (by repeat (first | exact trivial | refine ⟨rfl, ?_⟩)) (Ent.sep (.pure ⟨hi, by rw [List.take_add_one, List.take_add_one, hp0.2, hgx, hgy, hc2]⟩ enn))
    ·
      try simp only [decide_eq_true_eq, decide_eq_false_iff_not, Bool.and_eq_true, Bool.or_eq_true, Bool.and_eq_false_iff, Bool.or_eq_false_iff, Bool.not_eq_true', Bool.not_eq_false', Bool.not_eq_true, Bool.not_eq_false, Int.not_lt, Int.not_le, Decidable.not_not, ne_eq] at hc1
      refine Hd.exit ?_
      refine Hd.thenExit ?_
      refine Hd.thenExit ?_
      refine Hd.inBexit ?_
      refine Hd.toK hK5 ?_
      refine Hd.seq (fun K12 hK12 => ?_)
      refine Hd.region ?_
      refine Hd.yv (y_assign rfl) ?_
      refine Hd.nil ?_
      refine Hd.slots [(4, _)] ⟨rfl, trivial⟩ ?_
      refine Hd.toK hK12 ?_
      refine Hd.ret ?_
      clear hK1 hK2 hK3 hK5 hK6 hK7 hK8 hK12
      have heq : xs = ys := by
        have h := hp0.2
        rwa [List.take_of_length_le (by omega), List.take_of_length_le (by omega)] at h
      exact Hd.ret1 rfl true rfl (Ent.sep (.pure (decide_eq_true heq).symm enn))
abbrev t1 : It := ⟨1, 30, 0⟩
abbrev t2 : It := ⟨2, 10, 1⟩
abbrev t3 : It := ⟨3, 10, 2⟩
set_option maxHeartbeats 2000000 in
theorem alive_ct (L : List SP) : Ct Try.prog 9 #[] (L) (fun _ : Unit => .bool true) (fun _ : Unit => L) := by
  refine Ct.of (vs := []) Try.func9 rfl rfl [] (by repeat (first | exact trivial | refine ⟨rfl, ?_⟩)) ?_
  intro E
  show Hd E 30 _ _ _ _
  refine Hd.seq (fun K1 hK1 => ?_)
  refine Hd.region ?_
  refine Hd.yv (y_assign rfl) ?_
  refine Hd.nil ?_
  refine Hd.slots [] trivial ?_
  refine Hd.toK hK1 ?_
  refine Hd.seq (fun K2 hK2 => ?_)
  refine Hd.region ?_
  refine Hd.callE rfl fk10 (tnew_ct _) (Ent.sep enn) ?_
  intro b
  refine Hd.yv (y_assign rfl) ?_
  refine Hd.nil ?_
  refine Hd.slots [(1, _)] ⟨rfl, trivial⟩ ?_
  refine Hd.toK hK2 ?_
  refine Hd.seq (fun K3 hK3 => ?_)
  refine Hd.region ?_
  refine Hd.yv (y_move rfl) ?_
  refine Hd.callE rfl fk13 (tadd_ct _ b [] [] 0 (fun _ => none) NV (by decide) (by decide) 1 0 30 (by simp [InK]) (by simp [InK])) (Ent.sep enn) ?_
  intro _
  rw [show addQ [] 1 0 30 0 = [] by decide +kernel, show addS [] 1 0 30 0 = [t1] by decide +kernel, show addN 1 0 = 1 by decide +kernel]
  refine Hd.nil ?_
  refine Hd.slots [(1, _)] ⟨rfl, trivial⟩ ?_
  refine Hd.toK hK3 ?_
  refine Hd.seq (fun K4 hK4 => ?_)
  refine Hd.region ?_
  refine Hd.yv (y_move rfl) ?_
  refine Hd.callE rfl fk13 (tadd_ct _ b [] [t1] 1 _ NV (by decide) (by decide) 2 0 10 (by simp [InK]) (by simp [InK])) (Ent.sep enn) ?_
  intro _
  rw [show addQ [] 2 0 10 1 = [] by decide +kernel, show addS [t1] 2 0 10 1 = [t2, t1] by decide +kernel, show addN 2 1 = 2 by decide +kernel]
  refine Hd.nil ?_
  refine Hd.slots [(1, _)] ⟨rfl, trivial⟩ ?_
  refine Hd.toK hK4 ?_
  refine Hd.seq (fun K5 hK5 => ?_)
  refine Hd.region ?_
  refine Hd.yv (y_move rfl) ?_
  refine Hd.callE rfl fk13 (tadd_ct _ b [] [t2, t1] 2 _ NV (by decide) (by decide) 3 5 5 (by simp [InK]) (by simp [InK])) (Ent.sep enn) ?_
  intro _
  rw [show addQ [] 3 5 5 2 = [] by decide +kernel, show addS [t2, t1] 3 5 5 2 = [t2, t3, t1] by decide +kernel, show addN 3 2 = 3 by decide +kernel]
  refine Hd.nil ?_
  refine Hd.slots [(1, _)] ⟨rfl, trivial⟩ ?_
  refine Hd.toK hK5 ?_
  refine Hd.seq (fun K6 hK6 => ?_)
  refine Hd.region ?_
  refine Hd.yv (y_move rfl) ?_
  refine Hd.callE rfl fk14 (twait_ct _ b [] [t2, t3, t1] 3 _ NV 5 (by simp [InK]) false) (Ent.sep enn) ?_
  intro _
  rw [show waitV [t2, t3, t1] NV 5 false = (5, false) by decide +kernel]
  refine Hd.yv (y_move rfl) ?_
  refine Hd.yv (y_extract rfl rfl) ?_
  refine Hd.yv (y_extract rfl rfl) ?_
  refine Hd.yv (y_assign rfl) ?_
  refine Hd.yv (y_assign rfl) ?_
  refine Hd.nil ?_
  refine Hd.slots [(1, _), (2, _), (3, _)] ⟨rfl, rfl, rfl, trivial⟩ ?_
  refine Hd.toK hK6 ?_
  refine Hd.seq (fun K7 hK7 => ?_)
  refine Hd.region ?_
  refine Hd.yv (y_move rfl) ?_
  refine Hd.callE rfl fk16 (tdue_ct _ b [] [t2, t3, t1] 3 _ NV (by decide) 10) (Ent.sep enn) ?_
  rintro ⟨ad, cap⟩
  dsimp only
  rw [show du 10 [t2, t3, t1] = [t2, t3] by decide +kernel]
  refine Hd.yv (y_assign rfl) ?_
  refine Hd.nil ?_
  refine Hd.slots [(2, _), (3, _), (4, _)] ⟨rfl, rfl, rfl, trivial⟩ ?_
  refine Hd.toK hK7 ?_
  refine Hd.seq (fun K8 hK8 => ?_)
  refine Hd.region ?_
  refine Hd.yv (y_move rfl) ?_
  first | (refine Hd.yv (y_eqlT rfl rfl) ?_) | (refine Hd.yv (y_eql rfl rfl) ?_)
  refine Hd.yv (y_move rfl) ?_
  refine Hd.yg rfl rfl (y_move rfl) ?_
  refine Hd.yg rfl rfl (y_not rfl) ?_
  first | (refine Hd.yv (y_pickT rfl rfl) ?_) | (refine Hd.yv (y_pickF rfl rfl) ?_) | (refine Hd.yv (y_pickb rfl rfl rfl) ?_) | (refine Hd.yv (y_pick rfl rfl rfl) ?_)
  refine Hd.yv (y_move rfl) ?_
  refine Hd.yg rfl rfl (y_move rfl) ?_
  refine Hd.unguard rfl rfl ?_
  refine Hd.bslice (vs := [(0, _), (1, _)]) rfl (by first | exact bs9_27 .. | kernel_rfl) (fun b27 => ?_)
  refine Hd.unguard rfl rfl ?_
  refine Hd.callE rfl fk23 (same_ct _ ad [t2, t3].length cap [2, 3] rfl (by decide) ?h1 (some ⟨b27, 0, none⟩) 2 2 [2, 3] rfl ?h2) (Ent.sep enn) ?_
  case h1 => exact (show RdS _ 1 ad [t2, t3].length (eN [t2, t3]) from RdS.own (ad := ad) pkk)
  case h2 => exact RdS.rd (Rd.pt pkk (fun j v e => by rw [Nat.zero_add]; exact e)) rfl
  intro bb
  refine Hd.pure (fun hbb => ?_)
  obtain rfl : bb = true := by rw [hbb]; simp
  first | (refine Hd.yv (y_pickT rfl rfl) ?_) | (refine Hd.yv (y_pickF rfl rfl) ?_) | (refine Hd.yv (y_pickb rfl rfl rfl) ?_) | (refine Hd.yv (y_pick rfl rfl rfl) ?_)
  refine Hd.yv (y_assign rfl) ?_
  refine Hd.nil ?_
  refine Hd.slots [(0, _)] ⟨rfl, trivial⟩ ?_
  refine Hd.toK hK8 ?_
  refine Hd.ret ?_
  clear hK1 hK2 hK3 hK4 hK5 hK6 hK7 hK8
  exact Hd.ret1 rfl () (by first | rfl | (simp only [*]; done) | (simp [*]; done)) (Ent.sep enn)
end Tm
end Go.Proofs.Ytdjoofidicoimaa
