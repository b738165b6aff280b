/-
  The pair's laws: the calls; what holds of a pair in plain words.
-/
import Derived.Test.YtgifpkpkkgkfeaaPa10
namespace Go.Proofs.Ytgifpkpkkgkfeaa
set_option linter.unusedSimpArgs false
set_option linter.unusedVariables false
set_option linter.unnecessarySimpa false
open Go.RX Fx
namespace Pa
open Bc
set_option maxRecDepth 8000
structure AOk (a : AE) : Prop where
  i : a.i.length ≤ 1048576
  u : a.u.length ≤ 1048576
  low : 0 ≤ a.low ∧ a.low ≤ 1048576
  high : 0 ≤ a.high ∧ a.high ≤ 1048576
  least : 0 ≤ a.least ∧ a.least ≤ 1048576
theorem AbE.aok {e : PE} {a : AE} (h : AbE e a) : AOk a :=
  ⟨by rw [← h.i]; exact h.ok.gi.2, by rw [← h.u]; exact h.ok.gu.2, by rw [← h.low]; exact h.ok.low, by rw [← h.high]; exact h.ok.high, by rw [← h.least]; exact h.ok.least⟩
theorem aMany_le (a c : AE) (fl : Bool) : aMany a c fl ≤ a.u.length ∧ aMany a c fl ≤ 1048576 - c.i.length := by
  unfold aMany
  split
  · omega
  · split <;> omega
theorem upd_self {α : Type} {A : Nat → α} {n : Nat} : upd A n (A n) = A := by
  funext j; unfold upd; split
  · rename_i h; rw [h]
  · rfl
def AOkS (S : AS) : Prop := AOk (S.e 0) ∧ AOk (S.e 1)
theorem AOkS.at {S : AS} (h : AOkS S) {n : Nat} (hn : n < 2) : AOk (S.e n) := by
  rcases (show n = 0 ∨ n = 1 by omega) with rfl | rfl
  · exact h.1
  · exact h.2
theorem AS.pass_n (S : AS) (fl : Bool) (n : Nat) : (S.pass fl n).e n = { S.e n with u := (S.e n).u.drop (aMany (S.e n) (S.e (1 - n)) fl) } ∧ (S.pass fl n).t n = aTvF (S.e n) (aMany (S.e n) (S.e (1 - n)) fl) (S.t n) := ⟨if_pos rfl, if_pos rfl⟩
theorem AS.pass_o (S : AS) (fl : Bool) {n : Nat} (hn : n < 2) : (S.pass fl n).e (1 - n) = { S.e (1 - n) with i := (S.e (1 - n)).i ++ (S.e n).u.take (aMany (S.e n) (S.e (1 - n)) fl), tol := (S.e (1 - n)).tol || aEnd (S.e n) (S.e (1 - n)) (aMany (S.e n) (S.e (1 - n)) fl) } ∧
    (S.pass fl n).t (1 - n) = { aTvT (S.e (1 - n)) (aMany (S.e n) (S.e (1 - n)) fl) (S.t (1 - n)) with ev := if aEnd (S.e n) (S.e (1 - n)) (aMany (S.e n) (S.e (1 - n)) fl) = true then 17 else (aTvT (S.e (1 - n)) (aMany (S.e n) (S.e (1 - n)) fl) (S.t (1 - n))).ev } := ⟨if_neg (by omega), if_neg (by omega)⟩
theorem AOkS.pass {S : AS} (h : AOkS S) (fl : Bool) {n : Nat} (hn : n < 2) : AOkS (S.pass fl n) := by
  have ha := h.at hn
  have hc := h.at (n := 1 - n) (by omega)
  have hm := aMany_le (S.e n) (S.e (1 - n)) fl
  have h1 : AOk ((S.pass fl n).e n) := by
    rw [(S.pass_n fl n).1]
    exact ⟨ha.i, by rw [List.length_drop]; have := ha.u; omega, ha.low, ha.high, ha.least⟩
  have h2 : AOk ((S.pass fl n).e (1 - n)) := by
    rw [(S.pass_o fl hn).1]
    exact ⟨by rw [List.length_append, List.length_take]; have := hc.i; omega, hc.u, hc.low, hc.high, hc.least⟩
  rcases (show n = 0 ∨ n = 1 by omega) with rfl | rfl
  · exact ⟨h1, h2⟩
  · exact ⟨h2, h1⟩
def ae0 : AE := ⟨[], [], false, true, 0, 0, 0, false, false⟩
theorem abE0 : AbE e0 ae0 := ⟨⟨good_nil, good_nil, by decide, by decide, by decide⟩, rfl, rfl, rfl, rfl, rfl, rfl, rfl, rfl⟩
theorem newA (L : List SP) : Ct Try.prog 32 #[] L (fun b : Nat => .pointer (some ⟨b, 0, none⟩)) (fun b => PrA b (fun _ => ae0) :: L) :=
  Ct.imp (new_ct L) (fun _ s => s) (fun b => ⟨b, rfl, fun k s => Ent.sep (.ex (fun _ => e0) (.pure (fun _ _ => abE0) enn)) k s⟩)
/-- what is told says no error -/
theorem pass_er {S : AS} (h : (S.t 0).er = 0 ∧ (S.t 1).er = 0) (fl : Bool) {n : Nat} (hn : n < 2) : ((S.pass fl n).t 0).er = 0 ∧ ((S.pass fl n).t 1).er = 0 := by
  have h1 : ((S.pass fl n).t n).er = (S.t n).er := by rw [(S.pass_n fl n).2]; unfold aTvF; split <;> rfl
  have h2 : ((S.pass fl n).t (1 - n)).er = (S.t (1 - n)).er := by rw [(S.pass_o fl hn).2]; show (aTvT _ _ _).er = _; unfold aTvT; split <;> rfl
  rcases (show n = 0 ∨ n = 1 by omega) with rfl | rfl
  · exact ⟨h1.trans h.1, h2.trans h.2⟩
  · exact ⟨h2.trans h.1, h1.trans h.2⟩
theorem step_er (A : Nat → AE) : ((aStep A).t 0).er = 0 ∧ ((aStep A).t 1).er = 0 := pass_er (pass_er ⟨rfl, rfl⟩ false (by omega)) false (by omega)
theorem flush_er (A : Nat → AE) (k : Int) : ((aFlush A k).t 0).er = 0 ∧ ((aFlush A k).t 1).er = 0 := by
  unfold aFlush; split
  · rename_i h; exact pass_er ⟨rfl, rfl⟩ true (by unfold isE at h; omega)
  · exact ⟨rfl, rfl⟩
theorem Hd.prOk {E : World} {n : Nat} {ds : List Deferred} {st : List (Nat × Value)} {L L' : List SP} {K : Act → World → Prop} {b : Nat} {A : Nat → AE} (p : Pick L (PrA b A) L') (h : AOk (A 0) ∧ AOk (A 1) → Hd E n ds st L K) : Hd E n ds st L K := fun a w f s => by
  refine h ?_ a w f s
  obtain ⟨h1, s1, x⟩ := sep.one p s.2.2.2
  obtain ⟨S, x⟩ := x
  obtain ⟨hS, _⟩ := sep_pure x
  exact ⟨(hS 0 (by omega)).aok, (hS 1 (by omega)).aok⟩
structure Cv where
  kind : Int
  k : Int
  side : Int
  n : Int
  m : Int
  ad : Option Addr
  c : Nat
  b : List UInt8
abbrev encC (o : Cv) : List Value := [.int .i64 o.kind, .int .i64 o.k, .int .i64 o.side, .int .i64 o.n, .int .i64 o.m, .slice o.ad o.b.length o.c]
structure CvOk (L : List SP) (o : Cv) : Prop where
  rd : RdS L 1 o.ad o.b.length (bsl o.b)
  k : InK .i64 o.k
  side : InK .i64 o.side
  n : InK .i64 o.n
  m : InK .i64 o.m
  c : o.b.length ≤ o.c
theorem CvOk.mono {L M : List SP} {o : Cv} (h : CvOk L o) (hm : ∀ k, sep M k → sep L k) : CvOk M o := ⟨h.rd.mono hm, h.k, h.side, h.n, h.m, h.c⟩
set_option maxHeartbeats 2000000 in
theorem great8_ct (L : List SP) (ad : Option Addr) (c : Nat) (xs : List Cv) (hR : RdS L 6 ad xs.length (xs.flatMap encC)) : Ct Try.prog 42 #[.slice ad xs.length c] (L) (fun g : Int => .int .i64 g) (fun g : Int => pu (¬ 0 < g → xs.length ≤ 100 ∧ ∀ o ∈ xs, o.b.length ≤ 300) :: L) := by
  refine Ct.of (vs := [.slice ad xs.length c]) Try.func42 rfl rfl [(0, .slice ad xs.length c)] (by repeat (first | exact trivial | refine ⟨rfl, ?_⟩)) ?_
  intro E
  show Hd E 20 _ _ _ _
  refine Hd.seq (fun K1 hK1 => ?_)
  refine Hd.region ?_
  refine Hd.yv (y_assign rfl) ?_
  refine Hd.nil ?_
  refine Hd.slots [(0, _)] ⟨rfl, trivial⟩ ?_
  refine Hd.toK hK1 ?_
  refine Hd.seq (fun K2 hK2 => ?_)
  refine Hd.seq (fun K3 hK3 => ?_)
  refine Hd.region ?_
  refine Hd.yv (y_move rfl) ?_
  refine Hd.yv (y_len Try.underlying75 rfl) ?_
  refine Hd.yv (y_gtr rfl rfl) ?_
  refine Hd.nil ?_
  refine Hd.slots [(0, _), (6, _)] ⟨rfl, rfl, trivial⟩ ?_
  refine Hd.toK hK3 ?_
  refine Hd.cond rfl (fun hc0 => ?_) (fun hc0 => ?_)
  ·
    try simp only [decide_eq_true_eq, decide_eq_false_iff_not, Bool.and_eq_true, Bool.or_eq_true, Bool.and_eq_false_iff, Bool.or_eq_false_iff, Bool.not_eq_true', Bool.not_eq_false', Bool.not_eq_true, Bool.not_eq_false, Int.not_lt, Int.not_le, Decidable.not_not, ne_eq] at hc0
    refine Hd.seq (fun K4 hK4 => ?_)
    refine Hd.region ?_
    refine Hd.yv (y_assign rfl) ?_
    refine Hd.nil ?_
    refine Hd.slots [(2, _)] ⟨rfl, trivial⟩ ?_
    refine Hd.toK hK4 ?_
    refine Hd.ret ?_
    refine Hd.thenRet ?_
    clear hK1 hK2 hK3 hK4
    exact Hd.ret1 rfl 1 rfl (Ent.sep (.pure (fun h => absurd (by decide) h) enn))
  ·
    try simp only [decide_eq_true_eq, decide_eq_false_iff_not, Bool.and_eq_true, Bool.or_eq_true, Bool.and_eq_false_iff, Bool.or_eq_false_iff, Bool.not_eq_true', Bool.not_eq_false', Bool.not_eq_true, Bool.not_eq_false, Int.not_lt, Int.not_le, Decidable.not_not, ne_eq] at hc0
    have hx : xs.length ≤ 100 := by omega
    refine Hd.skip ?_
    refine Hd.toK hK2 ?_
    refine Hd.seq (fun K5 hK5 => ?_)
    refine Hd.seq (fun K6 hK6 => ?_)
    refine Hd.region ?_
    refine Hd.yv (y_assign rfl) ?_
    refine Hd.nil ?_
    refine Hd.slots [(0, _), (3, _)] ⟨rfl, rfl, trivial⟩ ?_
    refine Hd.toK hK6 ?_
    refine Hd.block ?_
    refine Hd.loopK (ι := Nat) [(0, _)] (fun i => [(3, .int .i64 (i : Int))]) (fun i => pu (i ≤ xs.length ∧ ∀ o ∈ xs.take i, o.b.length ≤ 300) :: L) (fun i => xs.length - i) 0 (by repeat (first | exact trivial | refine ⟨rfl, ?_⟩)) (by repeat (first | exact trivial | refine ⟨rfl, ?_⟩)) (Ent.sep (.pure ⟨Nat.zero_le _, fun o ho => by simp at ho⟩ enn)) ?_
    intro i
    try dsimp only
    refine Hd.pure (fun hp0 => ?_)
    try dsimp only at hp0
    refine Hd.seq (fun K7 hK7 => ?_)
    refine Hd.seq (fun K8 hK8 => ?_)
    refine Hd.region ?_
    refine Hd.yv (y_move rfl) ?_
    refine Hd.yv (y_move rfl) ?_
    refine Hd.yv (y_len Try.underlying75 rfl) ?_
    refine Hd.yv (y_lss rfl rfl) ?_
    refine Hd.nil ?_
    refine Hd.slots [(0, _), (3, _), (10, _)] ⟨rfl, rfl, rfl, trivial⟩ ?_
    refine Hd.toK hK8 ?_
    refine Hd.cond rfl (fun hc1 => ?_) (fun hc1 => ?_)
    ·
      try simp only [decide_eq_true_eq, decide_eq_false_iff_not, Bool.and_eq_true, Bool.or_eq_true, Bool.and_eq_false_iff, Bool.or_eq_false_iff, Bool.not_eq_true', Bool.not_eq_false', Bool.not_eq_true, Bool.not_eq_false, Int.not_lt, Int.not_le, Decidable.not_not, ne_eq] at hc1
      have hi : i < xs.length := by omega
      obtain ⟨o, ho⟩ : ∃ o, xs[i]? = some o := ⟨_, List.getElem?_eq_getElem hi⟩
      refine Hd.skip ?_
      refine Hd.toK hK7 ?_
      refine Hd.seq (fun K9 hK9 => ?_)
      refine Hd.block ?_
      refine Hd.seq (fun K10 hK10 => ?_)
      refine Hd.region ?_
      refine Hd.yv (y_move rfl) ?_
      refine Hd.yv (y_move rfl) ?_
      first | (refine Hd.yv (y_idxS Try.underlying75 sz80 rfl rfl (by first | omega | decide)) ?_) | (refine Hd.yv (y_idxR Try.underlying75 sz80 rfl rfl (by first | omega | decide) (by (first | exact RdS.own pkk | exact RdS.mono hR (Ent.sep enn)))) ?_)
      first | (refine Hd.yv (y_field' (q := 5) (ft := 22) Try.underlying80 rfl sz22 rfl rfl) ?_) | (refine Hd.yv (y_fieldR (q := 5) (ft := 22) Try.underlying80 rfl sz22 rfl rfl) ?_)
      first | (refine Hd.yv (y_load1 ag22 rfl (Rd.pt1 pkk (by (first | exact flat_cells encC 6 (fun _ => rfl) ho 5 _ rfl | rfl)))) ?_) | (refine Hd.yv (y_load1 ag22 rfl (Rd.seg1 pkk (by (first | exact flat_cells encC 6 (fun _ => rfl) ho 5 _ rfl | rfl)))) ?_) | (refine Hd.yv (y_loadR1 ag22 rfl (by (first | exact RdS.own pkk | exact RdS.mono hR (Ent.sep enn))) (by (first | exact flat_cells encC 6 (fun _ => rfl) ho 5 _ rfl | rfl))) ?_)
      refine Hd.yv (y_len Try.underlying22 rfl) ?_
      refine Hd.yv (y_gtr rfl rfl) ?_
      refine Hd.nil ?_
      refine Hd.slots [(0, _), (3, _), (19, _)] ⟨rfl, rfl, rfl, trivial⟩ ?_
      refine Hd.toK hK10 ?_
      refine Hd.cond rfl (fun hc2 => ?_) (fun hc2 => ?_)
      ·
        try simp only [decide_eq_true_eq, decide_eq_false_iff_not, Bool.and_eq_true, Bool.or_eq_true, Bool.and_eq_false_iff, Bool.or_eq_false_iff, Bool.not_eq_true', Bool.not_eq_false', Bool.not_eq_true, Bool.not_eq_false, Int.not_lt, Int.not_le, Decidable.not_not, ne_eq] at hc2
        refine Hd.seq (fun K11 hK11 => ?_)
        refine Hd.region ?_
        refine Hd.yv (y_assign rfl) ?_
        refine Hd.nil ?_
        refine Hd.slots [(2, _)] ⟨rfl, trivial⟩ ?_
        refine Hd.toK hK11 ?_
        refine Hd.ret ?_
        refine Hd.inBret ?_
        refine Hd.thenRet ?_
        refine Hd.thenRet ?_
        refine Hd.inBret ?_
        refine Hd.thenRet ?_
        clear hK1 hK2 hK3 hK5 hK6 hK7 hK8 hK9 hK10 hK11
        exact Hd.ret1 rfl 1 rfl (Ent.sep (.pure (fun h => absurd (by decide) h) enn))
      ·
        try simp only [decide_eq_true_eq, decide_eq_false_iff_not, Bool.and_eq_true, Bool.or_eq_true, Bool.and_eq_false_iff, Bool.or_eq_false_iff, Bool.not_eq_true', Bool.not_eq_false', Bool.not_eq_true, Bool.not_eq_false, Int.not_lt, Int.not_le, Decidable.not_not, ne_eq] at hc2
        refine Hd.skip ?_
        refine Hd.inB ?_
        refine Hd.toK hK9 ?_
        refine Hd.region ?_
        refine Hd.yv (y_move rfl) ?_
        first | (refine Hd.yv (y_addn rfl rfl (by simp only [InK]; omega)) ?_) | (refine Hd.yv (y_add rfl rfl) ?_)
        refine Hd.yv (y_assign rfl) ?_
        refine Hd.nil ?_
        refine Hd.slots [(0, _), (3, _)] ⟨rfl, rfl, trivial⟩ ?_
        clear hK1 hK2 hK3 hK5 hK6 hK7 hK8 hK9 hK10
        refine Hd.thenN ?_
        have hnew : ∀ q ∈ xs.take (i + 1), q.b.length ≤ 300 := by
          intro q hq
          rw [List.take_add_one, ho] at hq
          rcases List.mem_append.1 hq with h | h
          · exact hp0.2 q h
          · obtain rfl : q = o := by simpa using h
            omega
        exact Hd.again (i + 1) (by first | omega | (simp only; omega) | (simp; omega)) (by repeat (first | exact trivial | refine ⟨rfl, ?_⟩)) (Ent.sep (.pure ⟨hi, hnew⟩ enn))
    ·
      try simp only [decide_eq_true_eq, decide_eq_false_iff_not, Bool.and_eq_true, Bool.or_eq_true, Bool.and_eq_false_iff, Bool.or_eq_false_iff, Bool.not_eq_true', Bool.not_eq_false', Bool.not_eq_true, Bool.not_eq_false, Int.not_lt, Int.not_le, Decidable.not_not, ne_eq] at hc1
      refine Hd.exit ?_
      refine Hd.thenExit ?_
      refine Hd.thenExit ?_
      refine Hd.inBexit ?_
      refine Hd.toK hK5 ?_
      refine Hd.seq (fun K12 hK12 => ?_)
      refine Hd.region ?_
      refine Hd.yv (y_assign rfl) ?_
      refine Hd.nil ?_
      refine Hd.slots [(2, _)] ⟨rfl, trivial⟩ ?_
      refine Hd.toK hK12 ?_
      refine Hd.ret ?_
      clear hK1 hK2 hK3 hK5 hK6 hK7 hK8 hK12
      exact Hd.ret1 rfl 0 rfl (Ent.sep (.pure (fun _ => ⟨hx, by rw [List.take_of_length_le (by omega)] at hp0; exact hp0.2⟩) enn))
end Pa
end Go.Proofs.Ytgifpkpkkgkfeaa
