/-
  Items and their order: cmp.Compare, cmp.Or, compare.
-/
import Derived.Test.YtdjoofidicoimaaFx
import Derived.Test.YtdjoofidicoimaaRxQ
import Derived.Test.YtdjoofidicoimaaRxG
namespace Go.Proofs.Ytdjoofidicoimaa
set_option linter.unusedSimpArgs false
set_option linter.unusedVariables false
set_option linter.unnecessarySimpa false
open Go.RX Fx
namespace Hp
set_option maxRecDepth 8000
structure It where
  id : Int
  at_ : Int
  n : Int
deriving DecidableEq
abbrev encI (x : It) : List Value := [.int .i64 x.id, .int .u64 x.at_, .int .u64 x.n]
abbrev aggI (x : It) : Value := .agg #[.int .i64 x.id, .int .u64 x.at_, .int .u64 x.n]
def cmpZ (x y : Int) : Int := if x < y then -1 else if y < x then 1 else 0
def ltI (a b : It) : Prop := a.at_ < b.at_ ∨ (a.at_ = b.at_ ∧ (a.n < b.n ∨ (a.n = b.n ∧ a.id < b.id)))
instance (a b : It) : Decidable (ltI a b) := by unfold ltI; exact inferInstance
/-- a is not behind b -/
def leI (a b : It) : Prop := ¬ ltI b a
instance (a b : It) : Decidable (leI a b) := by unfold leI; exact inferInstance
theorem leI_rfl (a : It) : leI a a := by unfold leI ltI; omega
theorem leI_trans {a b c : It} (h1 : leI a b) (h2 : leI b c) : leI a c := by unfold leI ltI at *; omega
theorem leI_of_lt {a b : It} (h : ltI a b) : leI a b := by unfold leI ltI at *; omega
theorem ltI_of_lt_le {a b c : It} (h1 : ltI a b) (h2 : leI b c) : ltI a c := by unfold leI ltI at *; omega
theorem ltI_of_le_lt {a b c : It} (h1 : leI a b) (h2 : ltI b c) : ltI a c := by unfold leI ltI at *; omega
theorem ltI_trans {a b c : It} (h1 : ltI a b) (h2 : ltI b c) : ltI a c := by unfold ltI at *; omega
theorem ltI_irrefl (a : It) : ¬ ltI a a := by unfold ltI; omega
theorem leI_total (a b : It) : leI a b ∨ leI b a := by unfold leI ltI; omega
theorem leI_anti {a b : It} (h1 : leI a b) (h2 : leI b a) : a = b := by
  obtain ⟨a1, a2, a3⟩ := a
  obtain ⟨b1, b2, b3⟩ := b
  simp only [leI, ltI] at h1 h2
  have : a1 = b1 ∧ a2 = b2 ∧ a3 = b3 := by omega
  obtain ⟨rfl, rfl, rfl⟩ := this; rfl
theorem ltI_of_ne {a b : It} (h1 : leI a b) (h2 : a ≠ b) : ltI a b := Decidable.byContradiction fun h => h2 (leI_anti h1 h)
def cmpI (a b : It) : Int := if cmpZ a.at_ b.at_ ≠ 0 then cmpZ a.at_ b.at_ else if cmpZ a.n b.n ≠ 0 then cmpZ a.n b.n else cmpZ a.id b.id
theorem cmpI_neg (a b : It) : cmpI a b < 0 ↔ ltI a b := by
  unfold cmpI cmpZ ltI; repeat' split
  all_goals omega
theorem cmpI_le (a b : It) : cmpI a b ≤ 0 ↔ leI a b := by
  unfold cmpI cmpZ leI ltI; repeat' split
  all_goals omega
set_option maxHeartbeats 2000000 in
theorem nan64_ct (L : List SP) (x : Int) : Ct Try.prog 83 #[.int .u64 x] (L) (fun _ : Unit => .bool false) (fun _ : Unit => L) := by
  refine Ct.of (vs := [.int .u64 x]) Try.func83 rfl rfl [(0, .int .u64 x)] (by repeat (first | exact trivial | refine ⟨rfl, ?_⟩)) ?_
  intro E
  show Hd E 6 _ _ _ _
  refine Hd.seq (fun K1 hK1 => ?_)
  refine Hd.region ?_
  refine Hd.yv (y_assign rfl) ?_
  refine Hd.nil ?_
  refine Hd.slots [(0, _)] ⟨rfl, trivial⟩ ?_
  refine Hd.toK hK1 ?_
  refine Hd.seq (fun K2 hK2 => ?_)
  refine Hd.region ?_
  refine Hd.yv (y_move rfl) ?_
  refine Hd.yv (y_move rfl) ?_
  refine Hd.yv (y_to (y_neq rfl rfl) (congrArg Value.bool (decide_eq_false ((fun h => h rfl))))) ?_
  refine Hd.yv (y_assign rfl) ?_
  refine Hd.nil ?_
  refine Hd.slots [(2, _)] ⟨rfl, trivial⟩ ?_
  refine Hd.toK hK2 ?_
  refine Hd.ret ?_
  clear hK1 hK2
  exact Hd.ret1 rfl () (by first | rfl | (simp only [*]; done) | (simp [*]; done)) (Ent.sep enn)
set_option maxHeartbeats 2000000 in
theorem nan_ct (L : List SP) (x : Int) : Ct Try.prog 97 #[.int .i64 x] (L) (fun _ : Unit => .bool false) (fun _ : Unit => L) := by
  refine Ct.of (vs := [.int .i64 x]) Try.func97 rfl rfl [(0, .int .i64 x)] (by repeat (first | exact trivial | refine ⟨rfl, ?_⟩)) ?_
  intro E
  show Hd E 6 _ _ _ _
  refine Hd.seq (fun K1 hK1 => ?_)
  refine Hd.region ?_
  refine Hd.yv (y_assign rfl) ?_
  refine Hd.nil ?_
  refine Hd.slots [(0, _)] ⟨rfl, trivial⟩ ?_
  refine Hd.toK hK1 ?_
  refine Hd.seq (fun K2 hK2 => ?_)
  refine Hd.region ?_
  refine Hd.yv (y_move rfl) ?_
  refine Hd.yv (y_move rfl) ?_
  refine Hd.yv (y_to (y_neq rfl rfl) (congrArg Value.bool (decide_eq_false ((fun h => h rfl))))) ?_
  refine Hd.yv (y_assign rfl) ?_
  refine Hd.nil ?_
  refine Hd.slots [(2, _)] ⟨rfl, trivial⟩ ?_
  refine Hd.toK hK2 ?_
  refine Hd.ret ?_
  clear hK1 hK2
  exact Hd.ret1 rfl () (by first | rfl | (simp only [*]; done) | (simp [*]; done)) (Ent.sep enn)
set_option maxHeartbeats 2000000 in
theorem cmp64_ct (L : List SP) (x y : Int) : Ct Try.prog 72 #[.int .u64 x, .int .u64 y] (L) (fun _ : Unit => .int .i64 (cmpZ x y)) (fun _ : Unit => L) := by
  refine Ct.of (vs := [.int .u64 x, .int .u64 y]) Try.func72 rfl rfl [(0, .int .u64 x), (1, .int .u64 y)] (by repeat (first | exact trivial | refine ⟨rfl, ?_⟩)) ?_
  intro E
  show Hd E 20 _ _ _ _
  refine Hd.seq (fun K1 hK1 => ?_)
  refine Hd.region ?_
  refine Hd.yv (y_assign rfl) ?_
  refine Hd.nil ?_
  refine Hd.slots [(0, _), (1, _)] ⟨rfl, rfl, trivial⟩ ?_
  refine Hd.toK hK1 ?_
  refine Hd.seq (fun K2 hK2 => ?_)
  refine Hd.region ?_
  refine Hd.yv (y_move rfl) ?_
  refine Hd.callE rfl fk83 (nan64_ct _ _) (Ent.sep enn) ?_
  intro _
  refine Hd.yv (y_assign rfl) ?_
  refine Hd.nil ?_
  refine Hd.slots [(0, _), (1, _), (5, _)] ⟨rfl, rfl, rfl, trivial⟩ ?_
  refine Hd.toK hK2 ?_
  refine Hd.seq (fun K3 hK3 => ?_)
  refine Hd.region ?_
  refine Hd.yv (y_move rfl) ?_
  refine Hd.callE rfl fk83 (nan64_ct _ _) (Ent.sep enn) ?_
  intro _
  refine Hd.yv (y_assign rfl) ?_
  refine Hd.nil ?_
  refine Hd.slots [(0, _), (1, _), (5, _), (6, _)] ⟨rfl, rfl, rfl, rfl, trivial⟩ ?_
  refine Hd.toK hK3 ?_
  refine Hd.seq (fun K4 hK4 => ?_)
  refine Hd.seq (fun K5 hK5 => ?_)
  refine Hd.region ?_
  refine Hd.yv (y_move rfl) ?_
  refine Hd.nil ?_
  refine Hd.slots [(0, _), (1, _), (6, _), (11, _)] ⟨rfl, rfl, rfl, rfl, trivial⟩ ?_
  refine Hd.toK hK5 ?_
  refine Hd.condF rfl ?_
  refine Hd.skip ?_
  refine Hd.toK hK4 ?_
  refine Hd.seq (fun K6 hK6 => ?_)
  refine Hd.seq (fun K7 hK7 => ?_)
  refine Hd.region ?_
  refine Hd.yv (y_move rfl) ?_
  refine Hd.nil ?_
  refine Hd.slots [(0, _), (1, _), (13, _)] ⟨rfl, rfl, rfl, trivial⟩ ?_
  refine Hd.toK hK7 ?_
  refine Hd.condF rfl ?_
  refine Hd.skip ?_
  refine Hd.toK hK6 ?_
  refine Hd.seq (fun K8 hK8 => ?_)
  refine Hd.seq (fun K9 hK9 => ?_)
  refine Hd.region ?_
  refine Hd.yv (y_move rfl) ?_
  refine Hd.yv (y_move rfl) ?_
  refine Hd.yv (y_lss rfl rfl) ?_
  refine Hd.nil ?_
  refine Hd.slots [(0, _), (1, _), (16, _)] ⟨rfl, rfl, rfl, trivial⟩ ?_
  refine Hd.toK hK9 ?_
  refine Hd.cond rfl (fun hc3 => ?_) (fun hc3 => ?_)
  ·
    try simp only [decide_eq_true_eq, decide_eq_false_iff_not, Bool.and_eq_true, Bool.or_eq_true, Bool.and_eq_false_iff, Bool.or_eq_false_iff, Bool.not_eq_true', Bool.not_eq_false', Bool.not_eq_true, Bool.not_eq_false, Int.not_lt, Int.not_le, Decidable.not_not, ne_eq] at hc3
    refine Hd.seq (fun K10 hK10 => ?_)
    refine Hd.region ?_
    refine Hd.yv (y_assign rfl) ?_
    refine Hd.nil ?_
    refine Hd.slots [(4, _)] ⟨rfl, trivial⟩ ?_
    refine Hd.toK hK10 ?_
    refine Hd.ret ?_
    refine Hd.thenRet ?_
    clear hK1 hK2 hK3 hK4 hK5 hK6 hK7 hK8 hK9 hK10
    exact Hd.ret1 rfl () (by unfold cmpZ; rw [if_pos hc3]; rfl) (Ent.sep enn)
  ·
    try simp only [decide_eq_true_eq, decide_eq_false_iff_not, Bool.and_eq_true, Bool.or_eq_true, Bool.and_eq_false_iff, Bool.or_eq_false_iff, Bool.not_eq_true', Bool.not_eq_false', Bool.not_eq_true, Bool.not_eq_false, Int.not_lt, Int.not_le, Decidable.not_not, ne_eq] at hc3
    refine Hd.skip ?_
    refine Hd.toK hK8 ?_
    refine Hd.seq (fun K11 hK11 => ?_)
    refine Hd.seq (fun K12 hK12 => ?_)
    refine Hd.region ?_
    refine Hd.yv (y_move rfl) ?_
    refine Hd.yv (y_move rfl) ?_
    refine Hd.yv (y_gtr rfl rfl) ?_
    refine Hd.nil ?_
    refine Hd.slots [(19, _)] ⟨rfl, trivial⟩ ?_
    refine Hd.toK hK12 ?_
    refine Hd.cond rfl (fun hc4 => ?_) (fun hc4 => ?_)
    ·
      try simp only [decide_eq_true_eq, decide_eq_false_iff_not, Bool.and_eq_true, Bool.or_eq_true, Bool.and_eq_false_iff, Bool.or_eq_false_iff, Bool.not_eq_true', Bool.not_eq_false', Bool.not_eq_true, Bool.not_eq_false, Int.not_lt, Int.not_le, Decidable.not_not, ne_eq] at hc4
      refine Hd.seq (fun K13 hK13 => ?_)
      refine Hd.region ?_
      refine Hd.yv (y_assign rfl) ?_
      refine Hd.nil ?_
      refine Hd.slots [(4, _)] ⟨rfl, trivial⟩ ?_
      refine Hd.toK hK13 ?_
      refine Hd.ret ?_
      refine Hd.thenRet ?_
      clear hK1 hK2 hK3 hK4 hK5 hK6 hK7 hK8 hK9 hK11 hK12 hK13
      exact Hd.ret1 rfl () (by unfold cmpZ; rw [if_neg (by omega), if_pos (by omega)]; rfl) (Ent.sep enn)
    ·
      try simp only [decide_eq_true_eq, decide_eq_false_iff_not, Bool.and_eq_true, Bool.or_eq_true, Bool.and_eq_false_iff, Bool.or_eq_false_iff, Bool.not_eq_true', Bool.not_eq_false', Bool.not_eq_true, Bool.not_eq_false, Int.not_lt, Int.not_le, Decidable.not_not, ne_eq] at hc4
      refine Hd.skip ?_
      refine Hd.toK hK11 ?_
      refine Hd.seq (fun K14 hK14 => ?_)
      refine Hd.region ?_
      refine Hd.yv (y_assign rfl) ?_
      refine Hd.nil ?_
      refine Hd.slots [(4, _)] ⟨rfl, trivial⟩ ?_
      refine Hd.toK hK14 ?_
      refine Hd.ret ?_
      clear hK1 hK2 hK3 hK4 hK5 hK6 hK7 hK8 hK9 hK11 hK12 hK14
      exact Hd.ret1 rfl () (by unfold cmpZ; rw [if_neg (by omega), if_neg (by omega)]; rfl) (Ent.sep enn)
set_option maxHeartbeats 2000000 in
theorem cmp_ct (L : List SP) (x y : Int) : Ct Try.prog 84 #[.int .i64 x, .int .i64 y] (L) (fun _ : Unit => .int .i64 (cmpZ x y)) (fun _ : Unit => L) := by
  refine Ct.of (vs := [.int .i64 x, .int .i64 y]) Try.func84 rfl rfl [(0, .int .i64 x), (1, .int .i64 y)] (by repeat (first | exact trivial | refine ⟨rfl, ?_⟩)) ?_
  intro E
  show Hd E 20 _ _ _ _
  refine Hd.seq (fun K1 hK1 => ?_)
  refine Hd.region ?_
  refine Hd.yv (y_assign rfl) ?_
  refine Hd.nil ?_
  refine Hd.slots [(0, _), (1, _)] ⟨rfl, rfl, trivial⟩ ?_
  refine Hd.toK hK1 ?_
  refine Hd.seq (fun K2 hK2 => ?_)
  refine Hd.region ?_
  refine Hd.yv (y_move rfl) ?_
  refine Hd.callE rfl fk97 (nan_ct _ _) (Ent.sep enn) ?_
  intro _
  refine Hd.yv (y_assign rfl) ?_
  refine Hd.nil ?_
  refine Hd.slots [(0, _), (1, _), (5, _)] ⟨rfl, rfl, rfl, trivial⟩ ?_
  refine Hd.toK hK2 ?_
  refine Hd.seq (fun K3 hK3 => ?_)
  refine Hd.region ?_
  refine Hd.yv (y_move rfl) ?_
  refine Hd.callE rfl fk97 (nan_ct _ _) (Ent.sep enn) ?_
  intro _
  refine Hd.yv (y_assign rfl) ?_
  refine Hd.nil ?_
  refine Hd.slots [(0, _), (1, _), (5, _), (6, _)] ⟨rfl, rfl, rfl, rfl, trivial⟩ ?_
  refine Hd.toK hK3 ?_
  refine Hd.seq (fun K4 hK4 => ?_)
  refine Hd.seq (fun K5 hK5 => ?_)
  refine Hd.region ?_
  refine Hd.yv (y_move rfl) ?_
  refine Hd.nil ?_
  refine Hd.slots [(0, _), (1, _), (6, _), (11, _)] ⟨rfl, rfl, rfl, rfl, trivial⟩ ?_
  refine Hd.toK hK5 ?_
  refine Hd.condF rfl ?_
  refine Hd.skip ?_
  refine Hd.toK hK4 ?_
  refine Hd.seq (fun K6 hK6 => ?_)
  refine Hd.seq (fun K7 hK7 => ?_)
  refine Hd.region ?_
  refine Hd.yv (y_move rfl) ?_
  refine Hd.nil ?_
  refine Hd.slots [(0, _), (1, _), (13, _)] ⟨rfl, rfl, rfl, trivial⟩ ?_
  refine Hd.toK hK7 ?_
  refine Hd.condF rfl ?_
  refine Hd.skip ?_
  refine Hd.toK hK6 ?_
  refine Hd.seq (fun K8 hK8 => ?_)
  refine Hd.seq (fun K9 hK9 => ?_)
  refine Hd.region ?_
  refine Hd.yv (y_move rfl) ?_
  refine Hd.yv (y_move rfl) ?_
  refine Hd.yv (y_lss rfl rfl) ?_
  refine Hd.nil ?_
  refine Hd.slots [(0, _), (1, _), (16, _)] ⟨rfl, rfl, rfl, trivial⟩ ?_
  refine Hd.toK hK9 ?_
  refine Hd.cond rfl (fun hc3 => ?_) (fun hc3 => ?_)
  ·
    try simp only [decide_eq_true_eq, decide_eq_false_iff_not, Bool.and_eq_true, Bool.or_eq_true, Bool.and_eq_false_iff, Bool.or_eq_false_iff, Bool.not_eq_true', Bool.not_eq_false', Bool.not_eq_true, Bool.not_eq_false, Int.not_lt, Int.not_le, Decidable.not_not, ne_eq] at hc3
    refine Hd.seq (fun K10 hK10 => ?_)
    refine Hd.region ?_
    refine Hd.yv (y_assign rfl) ?_
    refine Hd.nil ?_
    refine Hd.slots [(4, _)] ⟨rfl, trivial⟩ ?_
    refine Hd.toK hK10 ?_
    refine Hd.ret ?_
    refine Hd.thenRet ?_
    clear hK1 hK2 hK3 hK4 hK5 hK6 hK7 hK8 hK9 hK10
    exact Hd.ret1 rfl () (by unfold cmpZ; rw [if_pos hc3]; rfl) (Ent.sep enn)
  ·
    try simp only [decide_eq_true_eq, decide_eq_false_iff_not, Bool.and_eq_true, Bool.or_eq_true, Bool.and_eq_false_iff, Bool.or_eq_false_iff, Bool.not_eq_true', Bool.not_eq_false', Bool.not_eq_true, Bool.not_eq_false, Int.not_lt, Int.not_le, Decidable.not_not, ne_eq] at hc3
    refine Hd.skip ?_
    refine Hd.toK hK8 ?_
    refine Hd.seq (fun K11 hK11 => ?_)
    refine Hd.seq (fun K12 hK12 => ?_)
    refine Hd.region ?_
    refine Hd.yv (y_move rfl) ?_
    refine Hd.yv (y_move rfl) ?_
    refine Hd.yv (y_gtr rfl rfl) ?_
    refine Hd.nil ?_
    refine Hd.slots [(19, _)] ⟨rfl, trivial⟩ ?_
    refine Hd.toK hK12 ?_
    refine Hd.cond rfl (fun hc4 => ?_) (fun hc4 => ?_)
    ·
      try simp only [decide_eq_true_eq, decide_eq_false_iff_not, Bool.and_eq_true, Bool.or_eq_true, Bool.and_eq_false_iff, Bool.or_eq_false_iff, Bool.not_eq_true', Bool.not_eq_false', Bool.not_eq_true, Bool.not_eq_false, Int.not_lt, Int.not_le, Decidable.not_not, ne_eq] at hc4
      refine Hd.seq (fun K13 hK13 => ?_)
      refine Hd.region ?_
      refine Hd.yv (y_assign rfl) ?_
      refine Hd.nil ?_
      refine Hd.slots [(4, _)] ⟨rfl, trivial⟩ ?_
      refine Hd.toK hK13 ?_
      refine Hd.ret ?_
      refine Hd.thenRet ?_
      clear hK1 hK2 hK3 hK4 hK5 hK6 hK7 hK8 hK9 hK11 hK12 hK13
      exact Hd.ret1 rfl () (by unfold cmpZ; rw [if_neg (by omega), if_pos (by omega)]; rfl) (Ent.sep enn)
    ·
      try simp only [decide_eq_true_eq, decide_eq_false_iff_not, Bool.and_eq_true, Bool.or_eq_true, Bool.and_eq_false_iff, Bool.or_eq_false_iff, Bool.not_eq_true', Bool.not_eq_false', Bool.not_eq_true, Bool.not_eq_false, Int.not_lt, Int.not_le, Decidable.not_not, ne_eq] at hc4
      refine Hd.skip ?_
      refine Hd.toK hK11 ?_
      refine Hd.seq (fun K14 hK14 => ?_)
      refine Hd.region ?_
      refine Hd.yv (y_assign rfl) ?_
      refine Hd.nil ?_
      refine Hd.slots [(4, _)] ⟨rfl, trivial⟩ ?_
      refine Hd.toK hK14 ?_
      refine Hd.ret ?_
      clear hK1 hK2 hK3 hK4 hK5 hK6 hK7 hK8 hK9 hK11 hK12 hK14
      exact Hd.ret1 rfl () (by unfold cmpZ; rw [if_neg (by omega), if_neg (by omega)]; rfl) (Ent.sep enn)
set_option maxHeartbeats 2000000 in
theorem or_ct (L : List SP) (b : Nat) (x y z : Int) : Ct Try.prog 71 #[.slice (some ⟨b, 0, none⟩) 3 3] (pt b [.int .i64 x, .int .i64 y, .int .i64 z] 3 :: L) (fun _ : Unit => .int .i64 (if x ≠ 0 then x else if y ≠ 0 then y else z)) (fun _ : Unit => pt b [.int .i64 x, .int .i64 y, .int .i64 z] 3 :: L) := by
  refine Ct.of (vs := [.slice (some ⟨b, 0, none⟩) 3 3]) Try.func71 rfl rfl [(0, .slice (some ⟨b, 0, none⟩) 3 3)] (by repeat (first | exact trivial | refine ⟨rfl, ?_⟩)) ?_
  intro E
  show Hd E 18 _ _ _ _
  refine Hd.seq (fun K1 hK1 => ?_)
  refine Hd.region ?_
  refine Hd.yv (y_assign rfl) ?_
  refine Hd.nil ?_
  refine Hd.slots [(0, _)] ⟨rfl, trivial⟩ ?_
  refine Hd.toK hK1 ?_
  refine Hd.seq (fun K2 hK2 => ?_)
  refine Hd.region ?_
  refine Hd.yv (y_assign rfl) ?_
  refine Hd.nil ?_
  refine Hd.slots [(0, _), (3, _)] ⟨rfl, rfl, trivial⟩ ?_
  refine Hd.toK hK2 ?_
  refine Hd.seq (fun K3 hK3 => ?_)
  refine Hd.seq (fun K4 hK4 => ?_)
  refine Hd.region ?_
  refine Hd.yv (y_move rfl) ?_
  refine Hd.yv (y_len Try.underlying35 rfl) ?_
  refine Hd.yv (y_move rfl) ?_
  refine Hd.nil ?_
  refine Hd.slots [(3, _), (6, _), (7, _), (8, _)] ⟨rfl, rfl, rfl, rfl, trivial⟩ ?_
  refine Hd.toK hK4 ?_
  refine Hd.block ?_
  refine Hd.rounds 4 ?_
  refine Hd.roundS ?_
  refine Hd.seq (fun K5 hK5 => ?_)
  refine Hd.region ?_
  refine Hd.yv (y_lss rfl rfl) ?_
  refine Hd.nil ?_
  refine Hd.slots [(3, _), (6, _), (7, _), (8, _), (9, _)] ⟨rfl, rfl, rfl, rfl, rfl, trivial⟩ ?_
  refine Hd.toK hK5 ?_
  refine Hd.seq (fun K6 hK6 => ?_)
  refine Hd.condT rfl ?_
  refine Hd.skip ?_
  refine Hd.toK hK6 ?_
  refine Hd.seq (fun K7 hK7 => ?_)
  refine Hd.block ?_
  refine Hd.seq (fun K8 hK8 => ?_)
  refine Hd.region ?_
  first | (refine Hd.yv (y_idxS Try.underlying35 sz3 rfl rfl (by first | omega | decide)) ?_) | (refine Hd.yv (y_idxR Try.underlying35 sz3 rfl rfl (by first | omega | decide) (by (first | exact RdS.own pkk))) ?_)
  first | (refine Hd.yv (y_load1 ag3 rfl (Rd.pt1 pkk (by (first | rfl)))) ?_) | (refine Hd.yv (y_load1 ag3 rfl (Rd.seg1 pkk (by (first | rfl)))) ?_) | (refine Hd.yv (y_loadR1 ag3 rfl (by (first | exact RdS.own pkk)) (by (first | rfl))) ?_)
  refine Hd.yv (y_assign rfl) ?_
  refine Hd.nil ?_
  refine Hd.slots [(3, _), (5, _), (6, _), (7, _), (8, _)] ⟨rfl, rfl, rfl, rfl, rfl, trivial⟩ ?_
  refine Hd.toK hK8 ?_
  refine Hd.seq (fun K9 hK9 => ?_)
  refine Hd.region ?_
  refine Hd.yv (y_move rfl) ?_
  refine Hd.yv (y_move rfl) ?_
  refine Hd.yv (y_neq rfl rfl) ?_
  refine Hd.nil ?_
  refine Hd.slots [(3, _), (5, _), (6, _), (7, _), (8, _), (14, _)] ⟨rfl, rfl, rfl, rfl, rfl, rfl, trivial⟩ ?_
  refine Hd.toK hK9 ?_
  refine Hd.cond rfl (fun hc1 => ?_) (fun hc1 => ?_)
  ·
    try simp only [decide_eq_true_eq, decide_eq_false_iff_not, Bool.and_eq_true, Bool.or_eq_true, Bool.and_eq_false_iff, Bool.or_eq_false_iff, Bool.not_eq_true', Bool.not_eq_false', Bool.not_eq_true, Bool.not_eq_false, Int.not_lt, Int.not_le, Decidable.not_not, ne_eq] at hc1
    refine Hd.seq (fun K10 hK10 => ?_)
    refine Hd.region ?_
    refine Hd.yv (y_move rfl) ?_
    refine Hd.yv (y_assign rfl) ?_
    refine Hd.nil ?_
    refine Hd.slots [(2, _)] ⟨rfl, trivial⟩ ?_
    refine Hd.toK hK10 ?_
    refine Hd.ret ?_
    refine Hd.inBret ?_
    refine Hd.thenRet ?_
    refine Hd.thenRet ?_
    refine Hd.inBret ?_
    refine Hd.thenRet ?_
    clear hK1 hK2 hK3 hK4 hK5 hK6 hK7 hK8 hK9 hK10
    exact Hd.ret1 rfl () (show some (Value.int .i64 x) = some (Value.int .i64 (if x ≠ 0 then x else if y ≠ 0 then y else z)) from by simp_all) (Ent.sep enn)
  ·
    try simp only [decide_eq_true_eq, decide_eq_false_iff_not, Bool.and_eq_true, Bool.or_eq_true, Bool.and_eq_false_iff, Bool.or_eq_false_iff, Bool.not_eq_true', Bool.not_eq_false', Bool.not_eq_true, Bool.not_eq_false, Int.not_lt, Int.not_le, Decidable.not_not, ne_eq] at hc1
    refine Hd.skip ?_
    refine Hd.inB ?_
    refine Hd.toK hK7 ?_
    refine Hd.region ?_
    first | (refine Hd.yv (y_addn rfl rfl (by simp only [InK]; omega)) ?_) | (refine Hd.yv (y_add rfl rfl) ?_)
    refine Hd.yv (y_move rfl) ?_
    refine Hd.nil ?_
    refine Hd.slots [(3, _), (6, _), (7, _), (8, _)] ⟨rfl, rfl, rfl, rfl, trivial⟩ ?_
    refine Hd.roundN ?_
    refine Hd.seq (fun K11 hK11 => ?_)
    refine Hd.region ?_
    refine Hd.yv (y_lss rfl rfl) ?_
    refine Hd.nil ?_
    refine Hd.slots [(3, _), (6, _), (7, _), (8, _), (9, _)] ⟨rfl, rfl, rfl, rfl, rfl, trivial⟩ ?_
    refine Hd.toK hK11 ?_
    refine Hd.seq (fun K12 hK12 => ?_)
    refine Hd.condT rfl ?_
    refine Hd.skip ?_
    refine Hd.toK hK12 ?_
    refine Hd.seq (fun K13 hK13 => ?_)
    refine Hd.block ?_
    refine Hd.seq (fun K14 hK14 => ?_)
    refine Hd.region ?_
    first | (refine Hd.yv (y_idxS Try.underlying35 sz3 rfl rfl (by first | omega | decide)) ?_) | (refine Hd.yv (y_idxR Try.underlying35 sz3 rfl rfl (by first | omega | decide) (by (first | exact RdS.own pkk))) ?_)
    first | (refine Hd.yv (y_load1 ag3 rfl (Rd.pt1 pkk (by (first | rfl)))) ?_) | (refine Hd.yv (y_load1 ag3 rfl (Rd.seg1 pkk (by (first | rfl)))) ?_) | (refine Hd.yv (y_loadR1 ag3 rfl (by (first | exact RdS.own pkk)) (by (first | rfl))) ?_)
    refine Hd.yv (y_assign rfl) ?_
    refine Hd.nil ?_
    refine Hd.slots [(3, _), (5, _), (6, _), (7, _), (8, _)] ⟨rfl, rfl, rfl, rfl, rfl, trivial⟩ ?_
    refine Hd.toK hK14 ?_
    refine Hd.seq (fun K15 hK15 => ?_)
    refine Hd.region ?_
    refine Hd.yv (y_move rfl) ?_
    refine Hd.yv (y_move rfl) ?_
    refine Hd.yv (y_neq rfl rfl) ?_
    refine Hd.nil ?_
    refine Hd.slots [(3, _), (5, _), (6, _), (7, _), (8, _), (14, _)] ⟨rfl, rfl, rfl, rfl, rfl, rfl, trivial⟩ ?_
    refine Hd.toK hK15 ?_
    refine Hd.cond rfl (fun hc1 => ?_) (fun hc1 => ?_)
    ·
      try simp only [decide_eq_true_eq, decide_eq_false_iff_not, Bool.and_eq_true, Bool.or_eq_true, Bool.and_eq_false_iff, Bool.or_eq_false_iff, Bool.not_eq_true', Bool.not_eq_false', Bool.not_eq_true, Bool.not_eq_false, Int.not_lt, Int.not_le, Decidable.not_not, ne_eq] at hc1
      refine Hd.seq (fun K16 hK16 => ?_)
      refine Hd.region ?_
      refine Hd.yv (y_move rfl) ?_
      refine Hd.yv (y_assign rfl) ?_
      refine Hd.nil ?_
      refine Hd.slots [(2, _)] ⟨rfl, trivial⟩ ?_
      refine Hd.toK hK16 ?_
      refine Hd.ret ?_
      refine Hd.inBret ?_
      refine Hd.thenRet ?_
      refine Hd.thenRet ?_
      refine Hd.inBret ?_
      refine Hd.thenRet ?_
      clear hK1 hK2 hK3 hK4 hK5 hK6 hK7 hK8 hK9 hK11 hK12 hK13 hK14 hK15 hK16
      exact Hd.ret1 rfl () (show some (Value.int .i64 y) = some (Value.int .i64 (if x ≠ 0 then x else if y ≠ 0 then y else z)) from by simp_all) (Ent.sep enn)
    ·
      try simp only [decide_eq_true_eq, decide_eq_false_iff_not, Bool.and_eq_true, Bool.or_eq_true, Bool.and_eq_false_iff, Bool.or_eq_false_iff, Bool.not_eq_true', Bool.not_eq_false', Bool.not_eq_true, Bool.not_eq_false, Int.not_lt, Int.not_le, Decidable.not_not, ne_eq] at hc1
      refine Hd.skip ?_
      refine Hd.inB ?_
      refine Hd.toK hK13 ?_
      refine Hd.region ?_
      first | (refine Hd.yv (y_addn rfl rfl (by simp only [InK]; omega)) ?_) | (refine Hd.yv (y_add rfl rfl) ?_)
      refine Hd.yv (y_move rfl) ?_
      refine Hd.nil ?_
      refine Hd.slots [(3, _), (6, _), (7, _), (8, _)] ⟨rfl, rfl, rfl, rfl, trivial⟩ ?_
      refine Hd.roundN ?_
      refine Hd.seq (fun K17 hK17 => ?_)
      refine Hd.region ?_
      refine Hd.yv (y_lss rfl rfl) ?_
      refine Hd.nil ?_
      refine Hd.slots [(3, _), (6, _), (7, _), (8, _), (9, _)] ⟨rfl, rfl, rfl, rfl, rfl, trivial⟩ ?_
      refine Hd.toK hK17 ?_
      refine Hd.seq (fun K18 hK18 => ?_)
      refine Hd.condT rfl ?_
      refine Hd.skip ?_
      refine Hd.toK hK18 ?_
      refine Hd.seq (fun K19 hK19 => ?_)
      refine Hd.block ?_
      refine Hd.seq (fun K20 hK20 => ?_)
      refine Hd.region ?_
      first | (refine Hd.yv (y_idxS Try.underlying35 sz3 rfl rfl (by first | omega | decide)) ?_) | (refine Hd.yv (y_idxR Try.underlying35 sz3 rfl rfl (by first | omega | decide) (by (first | exact RdS.own pkk))) ?_)
      first | (refine Hd.yv (y_load1 ag3 rfl (Rd.pt1 pkk (by (first | rfl)))) ?_) | (refine Hd.yv (y_load1 ag3 rfl (Rd.seg1 pkk (by (first | rfl)))) ?_) | (refine Hd.yv (y_loadR1 ag3 rfl (by (first | exact RdS.own pkk)) (by (first | rfl))) ?_)
      refine Hd.yv (y_assign rfl) ?_
      refine Hd.nil ?_
      refine Hd.slots [(3, _), (5, _), (6, _), (7, _), (8, _)] ⟨rfl, rfl, rfl, rfl, rfl, trivial⟩ ?_
      refine Hd.toK hK20 ?_
      refine Hd.seq (fun K21 hK21 => ?_)
      refine Hd.region ?_
      refine Hd.yv (y_move rfl) ?_
      refine Hd.yv (y_move rfl) ?_
      refine Hd.yv (y_neq rfl rfl) ?_
      refine Hd.nil ?_
      refine Hd.slots [(3, _), (5, _), (6, _), (7, _), (8, _), (14, _)] ⟨rfl, rfl, rfl, rfl, rfl, rfl, trivial⟩ ?_
      refine Hd.toK hK21 ?_
      refine Hd.cond rfl (fun hc1 => ?_) (fun hc1 => ?_)
      ·
        try simp only [decide_eq_true_eq, decide_eq_false_iff_not, Bool.and_eq_true, Bool.or_eq_true, Bool.and_eq_false_iff, Bool.or_eq_false_iff, Bool.not_eq_true', Bool.not_eq_false', Bool.not_eq_true, Bool.not_eq_false, Int.not_lt, Int.not_le, Decidable.not_not, ne_eq] at hc1
        refine Hd.seq (fun K22 hK22 => ?_)
        refine Hd.region ?_
        refine Hd.yv (y_move rfl) ?_
        refine Hd.yv (y_assign rfl) ?_
        refine Hd.nil ?_
        refine Hd.slots [(2, _)] ⟨rfl, trivial⟩ ?_
        refine Hd.toK hK22 ?_
        refine Hd.ret ?_
        refine Hd.inBret ?_
        refine Hd.thenRet ?_
        refine Hd.thenRet ?_
        refine Hd.inBret ?_
        refine Hd.thenRet ?_
        clear hK1 hK2 hK3 hK4 hK5 hK6 hK7 hK8 hK9 hK11 hK12 hK13 hK14 hK15 hK17 hK18 hK19 hK20 hK21 hK22
        exact Hd.ret1 rfl () (show some (Value.int .i64 z) = some (Value.int .i64 (if x ≠ 0 then x else if y ≠ 0 then y else z)) from by simp_all) (Ent.sep enn)
      ·
        try simp only [decide_eq_true_eq, decide_eq_false_iff_not, Bool.and_eq_true, Bool.or_eq_true, Bool.and_eq_false_iff, Bool.or_eq_false_iff, Bool.not_eq_true', Bool.not_eq_false', Bool.not_eq_true, Bool.not_eq_false, Int.not_lt, Int.not_le, Decidable.not_not, ne_eq] at hc1
        refine Hd.skip ?_
        refine Hd.inB ?_
        refine Hd.toK hK19 ?_
        refine Hd.region ?_
        first | (refine Hd.yv (y_addn rfl rfl (by simp only [InK]; omega)) ?_) | (refine Hd.yv (y_add rfl rfl) ?_)
        refine Hd.yv (y_move rfl) ?_
        refine Hd.nil ?_
        refine Hd.slots [(3, _), (6, _), (7, _), (8, _)] ⟨rfl, rfl, rfl, rfl, trivial⟩ ?_
        refine Hd.roundN ?_
        refine Hd.seq (fun K23 hK23 => ?_)
        refine Hd.region ?_
        refine Hd.yv (y_lss rfl rfl) ?_
        refine Hd.nil ?_
        refine Hd.slots [(3, _), (6, _), (7, _), (8, _), (9, _)] ⟨rfl, rfl, rfl, rfl, rfl, trivial⟩ ?_
        refine Hd.toK hK23 ?_
        refine Hd.seq (fun K24 hK24 => ?_)
        refine Hd.condF rfl ?_
        refine Hd.exit ?_
        refine Hd.thenExit ?_
        refine Hd.thenExit ?_
        refine Hd.inBexit ?_
        refine Hd.toK hK3 ?_
        refine Hd.seq (fun K25 hK25 => ?_)
        refine Hd.region ?_
        refine Hd.yv (y_move rfl) ?_
        refine Hd.yv (y_assign rfl) ?_
        refine Hd.nil ?_
        refine Hd.slots [(2, _)] ⟨rfl, trivial⟩ ?_
        refine Hd.toK hK25 ?_
        refine Hd.ret ?_
        clear hK1 hK2 hK3 hK4 hK5 hK6 hK7 hK8 hK9 hK11 hK12 hK13 hK14 hK15 hK17 hK18 hK19 hK20 hK21 hK23 hK24 hK25
        exact Hd.ret1 rfl () (show some (Value.int .i64 0) = some (Value.int .i64 (if x ≠ 0 then x else if y ≠ 0 then y else z)) from by simp_all) (Ent.sep enn)
set_option maxHeartbeats 2000000 in
theorem compare_ct (L : List SP) (a b : It) : Ct Try.prog 78 #[aggI a, aggI b] (L) (fun _ : Unit => .int .i64 (cmpI a b)) (fun _ : Unit => L) := by
  refine Ct.of (vs := [aggI a, aggI b]) Try.func78 rfl rfl [(0, aggI a), (1, aggI b)] (by repeat (first | exact trivial | refine ⟨rfl, ?_⟩)) ?_
  intro E
  show Hd E 22 _ _ _ _
  refine Hd.seq (fun K1 hK1 => ?_)
  refine Hd.region ?_
  refine Hd.box rfl rfl (fun b2 => ?_)
  refine Hd.box rfl rfl (fun b3 => ?_)
  refine Hd.yv (y_assign rfl) ?_
  refine Hd.nil ?_
  refine Hd.slots [(2, _), (3, _)] ⟨rfl, rfl, trivial⟩ ?_
  refine Hd.toK hK1 ?_
  refine Hd.seq (fun K2 hK2 => ?_)
  refine Hd.drawsH ([pt b2 (encI a) 69, pt b3 (encI b) 69]) (fun _ => true) mixed ?_
  simp only [List.length, Nat.zero_add, Nat.reduceAdd]
  first | (refine Hd.takeH 0 rfl (by kernel_rfl) (by kernel_rfl) (by kernel_rfl) (by kernel_rfl) (y_field' (q := 1) (ft := 23) Try.underlying69 rfl sz23 rfl rfl) (fun _ _ => rfl) (Ent.sep enn) ?_) | (refine Hd.takeH 0 rfl (by kernel_rfl) (by kernel_rfl) (by kernel_rfl) (by kernel_rfl) (y_fieldR (q := 1) (ft := 23) Try.underlying69 rfl sz23 rfl rfl) (fun _ _ => rfl) (Ent.sep enn) ?_)
  first | (refine Hd.takeH 1 rfl (by kernel_rfl) (by kernel_rfl) (by kernel_rfl) (by kernel_rfl) (y_load1 ag23 rfl (Rd.pt1 pkk (by (first | rfl)))) (fun _ _ => rfl) (Ent.sep enn) ?_) | (refine Hd.takeH 1 rfl (by kernel_rfl) (by kernel_rfl) (by kernel_rfl) (by kernel_rfl) (y_load1 ag23 rfl (Rd.seg1 pkk (by (first | rfl)))) (fun _ _ => rfl) (Ent.sep enn) ?_) | (refine Hd.takeH 1 rfl (by kernel_rfl) (by kernel_rfl) (by kernel_rfl) (by kernel_rfl) (y_loadR1 ag23 rfl (by (first | exact RdS.own pkk)) (by (first | rfl))) (fun _ _ => rfl) (Ent.sep enn) ?_)
  first | (refine Hd.takeH 2 rfl (by kernel_rfl) (by kernel_rfl) (by kernel_rfl) (by kernel_rfl) (y_field' (q := 1) (ft := 23) Try.underlying69 rfl sz23 rfl rfl) (fun _ _ => rfl) (Ent.sep enn) ?_) | (refine Hd.takeH 2 rfl (by kernel_rfl) (by kernel_rfl) (by kernel_rfl) (by kernel_rfl) (y_fieldR (q := 1) (ft := 23) Try.underlying69 rfl sz23 rfl rfl) (fun _ _ => rfl) (Ent.sep enn) ?_)
  first | (refine Hd.takeH 3 rfl (by kernel_rfl) (by kernel_rfl) (by kernel_rfl) (by kernel_rfl) (y_load1 ag23 rfl (Rd.pt1 pkk (by (first | rfl)))) (fun _ _ => rfl) (Ent.sep enn) ?_) | (refine Hd.takeH 3 rfl (by kernel_rfl) (by kernel_rfl) (by kernel_rfl) (by kernel_rfl) (y_load1 ag23 rfl (Rd.seg1 pkk (by (first | rfl)))) (fun _ _ => rfl) (Ent.sep enn) ?_) | (refine Hd.takeH 3 rfl (by kernel_rfl) (by kernel_rfl) (by kernel_rfl) (by kernel_rfl) (y_loadR1 ag23 rfl (by (first | exact RdS.own pkk)) (by (first | rfl))) (fun _ _ => rfl) (Ent.sep enn) ?_)
  first | (refine Hd.takeH 5 rfl (by kernel_rfl) (by kernel_rfl) (by kernel_rfl) (by kernel_rfl) (y_field' (q := 2) (ft := 23) Try.underlying69 rfl sz23 rfl rfl) (fun _ _ => rfl) (Ent.sep enn) ?_) | (refine Hd.takeH 5 rfl (by kernel_rfl) (by kernel_rfl) (by kernel_rfl) (by kernel_rfl) (y_fieldR (q := 2) (ft := 23) Try.underlying69 rfl sz23 rfl rfl) (fun _ _ => rfl) (Ent.sep enn) ?_)
  first | (refine Hd.takeH 6 rfl (by kernel_rfl) (by kernel_rfl) (by kernel_rfl) (by kernel_rfl) (y_load1 ag23 rfl (Rd.pt1 pkk (by (first | rfl)))) (fun _ _ => rfl) (Ent.sep enn) ?_) | (refine Hd.takeH 6 rfl (by kernel_rfl) (by kernel_rfl) (by kernel_rfl) (by kernel_rfl) (y_load1 ag23 rfl (Rd.seg1 pkk (by (first | rfl)))) (fun _ _ => rfl) (Ent.sep enn) ?_) | (refine Hd.takeH 6 rfl (by kernel_rfl) (by kernel_rfl) (by kernel_rfl) (by kernel_rfl) (y_loadR1 ag23 rfl (by (first | exact RdS.own pkk)) (by (first | rfl))) (fun _ _ => rfl) (Ent.sep enn) ?_)
  first | (refine Hd.takeH 7 rfl (by kernel_rfl) (by kernel_rfl) (by kernel_rfl) (by kernel_rfl) (y_field' (q := 2) (ft := 23) Try.underlying69 rfl sz23 rfl rfl) (fun _ _ => rfl) (Ent.sep enn) ?_) | (refine Hd.takeH 7 rfl (by kernel_rfl) (by kernel_rfl) (by kernel_rfl) (by kernel_rfl) (y_fieldR (q := 2) (ft := 23) Try.underlying69 rfl sz23 rfl rfl) (fun _ _ => rfl) (Ent.sep enn) ?_)
  first | (refine Hd.takeH 8 rfl (by kernel_rfl) (by kernel_rfl) (by kernel_rfl) (by kernel_rfl) (y_load1 ag23 rfl (Rd.pt1 pkk (by (first | rfl)))) (fun _ _ => rfl) (Ent.sep enn) ?_) | (refine Hd.takeH 8 rfl (by kernel_rfl) (by kernel_rfl) (by kernel_rfl) (by kernel_rfl) (y_load1 ag23 rfl (Rd.seg1 pkk (by (first | rfl)))) (fun _ _ => rfl) (Ent.sep enn) ?_) | (refine Hd.takeH 8 rfl (by kernel_rfl) (by kernel_rfl) (by kernel_rfl) (by kernel_rfl) (y_loadR1 ag23 rfl (by (first | exact RdS.own pkk)) (by (first | rfl))) (fun _ _ => rfl) (Ent.sep enn) ?_)
  first | (refine Hd.takeH 10 rfl (by kernel_rfl) (by kernel_rfl) (by kernel_rfl) (by kernel_rfl) (y_field' (q := 0) (ft := 3) Try.underlying69 rfl sz3 rfl rfl) (fun _ _ => rfl) (Ent.sep enn) ?_) | (refine Hd.takeH 10 rfl (by kernel_rfl) (by kernel_rfl) (by kernel_rfl) (by kernel_rfl) (y_fieldR (q := 0) (ft := 3) Try.underlying69 rfl sz3 rfl rfl) (fun _ _ => rfl) (Ent.sep enn) ?_)
  first | (refine Hd.takeH 11 rfl (by kernel_rfl) (by kernel_rfl) (by kernel_rfl) (by kernel_rfl) (y_load1 ag3 rfl (Rd.pt1 pkk (by (first | rfl)))) (fun _ _ => rfl) (Ent.sep enn) ?_) | (refine Hd.takeH 11 rfl (by kernel_rfl) (by kernel_rfl) (by kernel_rfl) (by kernel_rfl) (y_load1 ag3 rfl (Rd.seg1 pkk (by (first | rfl)))) (fun _ _ => rfl) (Ent.sep enn) ?_) | (refine Hd.takeH 11 rfl (by kernel_rfl) (by kernel_rfl) (by kernel_rfl) (by kernel_rfl) (y_loadR1 ag3 rfl (by (first | exact RdS.own pkk)) (by (first | rfl))) (fun _ _ => rfl) (Ent.sep enn) ?_)
  first | (refine Hd.takeH 12 rfl (by kernel_rfl) (by kernel_rfl) (by kernel_rfl) (by kernel_rfl) (y_field' (q := 0) (ft := 3) Try.underlying69 rfl sz3 rfl rfl) (fun _ _ => rfl) (Ent.sep enn) ?_) | (refine Hd.takeH 12 rfl (by kernel_rfl) (by kernel_rfl) (by kernel_rfl) (by kernel_rfl) (y_fieldR (q := 0) (ft := 3) Try.underlying69 rfl sz3 rfl rfl) (fun _ _ => rfl) (Ent.sep enn) ?_)
  first | (refine Hd.takeH 13 rfl (by kernel_rfl) (by kernel_rfl) (by kernel_rfl) (by kernel_rfl) (y_load1 ag3 rfl (Rd.pt1 pkk (by (first | rfl)))) (fun _ _ => rfl) (Ent.sep enn) ?_) | (refine Hd.takeH 13 rfl (by kernel_rfl) (by kernel_rfl) (by kernel_rfl) (by kernel_rfl) (y_load1 ag3 rfl (Rd.seg1 pkk (by (first | rfl)))) (fun _ _ => rfl) (Ent.sep enn) ?_) | (refine Hd.takeH 13 rfl (by kernel_rfl) (by kernel_rfl) (by kernel_rfl) (by kernel_rfl) (y_loadR1 ag3 rfl (by (first | exact RdS.own pkk)) (by (first | rfl))) (fun _ _ => rfl) (Ent.sep enn) ?_)
  refine Hd.onlyH 4 rfl (by kernel_rfl) ?_
  refine Hd.callE rfl fk72 (cmp64_ct _ a.at_ b.at_) (Ent.sep enn) ?_
  intro _
  refine Hd.nil ?_
  refine Hd.thenN ?_
  refine Hd.heldK (J := (fun _ => true)) (i := 4) (Ent.sep enn) ?_
  refine Hd.onlyH 9 rfl (by kernel_rfl) ?_
  refine Hd.callE rfl fk72 (cmp64_ct _ a.n b.n) (Ent.sep enn) ?_
  intro _
  refine Hd.nil ?_
  refine Hd.thenN ?_
  refine Hd.heldK (J := (fun _ => true)) (i := 9) (Ent.sep enn) ?_
  refine Hd.onlyH 14 rfl (by kernel_rfl) ?_
  refine Hd.callE rfl fk84 (cmp_ct _ a.id b.id) (Ent.sep enn) ?_
  intro _
  refine Hd.nil ?_
  refine Hd.thenN ?_
  refine Hd.heldK (J := (fun _ => true)) (i := 14) (Ent.sep enn) ?_
  refine Hd.onlyH 15 rfl (by kernel_rfl) ?_
  refine Hd.bslice (vs := [(0, _), (1, _), (2, _)]) rfl (by first | exact bs78_20 .. | kernel_rfl) (fun b20 => ?_)
  refine Hd.nil ?_
  refine Hd.thenN ?_
  refine Hd.heldK (J := (fun _ => true)) (i := 15) (Ent.sep enn) ?_
  refine Hd.onlyH 16 rfl (by kernel_rfl) ?_
  refine Hd.callE rfl fk71 (or_ct _ b20 (cmpZ a.at_ b.at_) (cmpZ a.n b.n) (cmpZ a.id b.id)) (Ent.sep enn) ?_
  intro _
  refine Hd.nil ?_
  refine Hd.thenN ?_
  refine Hd.heldK (J := (fun _ => true)) (i := 16) (Ent.sep enn) ?_
  refine Hd.takeH 17 rfl (by kernel_rfl) (by kernel_rfl) (by kernel_rfl) (by kernel_rfl) (y_assign rfl) (fun _ _ => rfl) (Ent.sep enn) ?_
  refine Hd.endH (by kernel_rfl) ?_
  refine Hd.slots [(4, _)] ⟨rfl, trivial⟩ ?_
  refine Hd.toK hK2 ?_
  refine Hd.ret ?_
  clear hK1 hK2
  exact Hd.ret1 rfl () (by first | rfl | (simp only [*]; done) | (simp [*]; done)) (Ent.sep enn)
end Hp
end Go.Proofs.Ytdjoofidicoimaa
