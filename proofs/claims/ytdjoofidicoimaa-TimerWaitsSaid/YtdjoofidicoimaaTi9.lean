/-
  The law TimerWaits answers true.
-/
import Derived.Test.YtdjoofidicoimaaTi7
namespace Go.Proofs.Ytdjoofidicoimaa
set_option linter.unusedSimpArgs false
set_option linter.unusedVariables false
set_option linter.unnecessarySimpa false
open Go.RX Fx Hp Cm
namespace Tm
set_option maxRecDepth 8000
/-- the items are numbers of the list, each by its timeout -/
def Of (xs : List Int) (s : List It) : Prop := ∀ y ∈ s, 0 ≤ y.id ∧ ∃ v, xs[y.id.toNat]? = some v ∧ y.at_ = v % 4194304
theorem Of.bound {xs : List Int} {s : List It} (h : Of xs s) {y : It} (hy : y ∈ s) : 0 ≤ y.at_ ∧ y.at_ < 4194304 := by
  obtain ⟨_, v, _, e⟩ := h y hy
  rw [e]; exact ⟨Int.emod_nonneg _ (by omega), Int.emod_lt_of_pos _ (by omega)⟩
theorem rest_gt {now : Int} : ∀ {s : List It}, s.Pairwise ltI → ∀ y ∈ restI now s, now < y.at_
  | [], _, y, h => by cases h
  | x :: s, hs, y, h => by
    unfold restI at h
    rw [List.dropWhile_cons] at h
    split at h
    · exact rest_gt (List.pairwise_cons.1 hs).2 y h
    · rename_i hx
      have hx' : now < x.at_ := by simpa using hx
      rcases List.mem_cons.1 h with rfl | h
      · exact hx'
      · have := (List.pairwise_cons.1 hs).1 y h
        unfold ltI at this; omega
theorem dueI_le {now : Int} : ∀ {s : List It} {y : It}, y ∈ dueI now s → y.at_ ≤ now
  | [], y, h => by cases h
  | x :: s, y, h => by
    unfold dueI at h
    rw [List.takeWhile_cons] at h
    split at h
    · rename_i hx
      rcases List.mem_cons.1 h with rfl | h
      · simpa using hx
      · exact dueI_le h
    · cases h
theorem due_len (m : Int) (s : List It) : (dueI m s).length + (restI m s).length = s.length := by
  have := congrArg List.length (List.takeWhile_append_dropWhile (p := fun x : It => decide (x.at_ ≤ m)) (l := s))
  rwa [List.length_append] at this
/-- what a wait comes to -/
structure Stp (xs : List Int) (s : List It) (lim now w : Int) : Prop where
  w0 : 0 ≤ w
  w1 : w ≤ 1048576
  at_ : ∀ y ∈ s, now < y.at_ ∨ now = 0 → w < 1048576 → y.at_ ≤ now + w → y.at_ = now + w ∨ now + w = 0
  due : w < 1048576 → (dueI (now + w) s).length = 0 → lim ≠ NV ∧ lim ≤ now + w
  big : lim = NV → w = 1048576 → ∃ y ∈ s, now + w ≤ y.at_
  some : lim = NV → w < 1048576 → 0 < (dueI (now + w) s).length
theorem stp {xs : List Int} {s : List It} {lim now : Int} (hO : Of xs s) (hs : s.Pairwise ltI) (hn : 0 ≤ now) (hn2 : now ≤ 209715200) (hl : InK .u64 lim) (hf : wl s lim now ≠ NV) : Stp xs s lim now (min (wl s lim now) 1048576) := by
  simp only [InK] at hl
  have hle : ∀ x r, s = x :: r → ∀ y ∈ s, x.at_ ≤ y.at_ := fun x r e y hy => by
    subst e
    rcases List.mem_cons.1 hy with rfl | hy
    · exact Int.le_refl _
    · have := (List.pairwise_cons.1 hs).1 y hy
      unfold ltI at this; omega
  have hlim : 0 ≤ lf now lim ∧ (lf now lim = NV ∨ (lim ≠ NV ∧ lim ≤ now + lf now lim)) ∧ (lf now lim ≠ NV → lim ≠ NV) := by
    unfold lf; split
    · rename_i h; exact ⟨by decide, .inl rfl, fun q => absurd rfl q⟩
    · rename_i h
      split
      · exact ⟨by omega, .inr ⟨h, by omega⟩, fun _ => h⟩
      · exact ⟨by omega, .inr ⟨h, by omega⟩, fun _ => h⟩
  cases hcs : s with
  | nil =>
    have hw : wl [] lim now = lf now lim := rfl
    rw [hcs, hw] at hf
    have hnl := hlim.2.2 hf
    have hll := hlim.2.1
    rw [hw]
    refine ⟨by omega, by omega, fun y hy => (by cases hy), fun h1 _ => ?_, fun h => absurd h hnl, fun h => absurd h hnl⟩
    rcases hll with h | h
    · exact absurd h hf
    · exact ⟨h.1, by omega⟩
  | cons x r =>
    have hx : x ∈ s := by rw [hcs]; exact List.mem_cons_self
    have hxb := hO.bound hx
    have hlx : lf now x.at_ = if x.at_ ≤ now then 0 else x.at_ - now := by unfold lf; rw [if_neg (show ¬ x.at_ = 18446744073709551615 by omega)]
    have hw : wl (x :: r) lim now = min (lf now lim) (lf now x.at_) := rfl
    have hmin := hle x r hcs
    rw [hcs] at hmin
    rw [hw]
    have hl0 := hlim.1
    have hll := hlim.2.1
    have hd0 : (dueI (now + min (min (lf now lim) (lf now x.at_)) 1048576) (x :: r)).length = 0 → ¬ x.at_ ≤ now + min (min (lf now lim) (lf now x.at_)) 1048576 := fun h q => by
      unfold dueI at h
      rw [List.takeWhile_cons, if_pos (by simpa using q)] at h
      simp at h
    refine ⟨by split at hlx <;> omega, by omega, fun y hy h1 h2 h3 => ?_, fun h1 h2 => ?_, fun h1 h2 => ?_, fun h1 h2 => ?_⟩
    · have hxy := hmin y hy
      split at hlx
      · rcases h1 with h1 | h1
        · left; omega
        · subst h1; right; omega
      · left; omega
    · have hnd := hd0 h2
      rcases hll with h | ⟨h3, h4⟩
      · exfalso; rw [show lf now lim = 18446744073709551615 from h] at hnd h1; split at hlx <;> omega
      · refine ⟨h3, ?_⟩
        split at hlx <;> omega
    · refine ⟨x, List.mem_cons_self, ?_⟩
      split at hlx <;> omega
    · refine Decidable.byContradiction fun hn => ?_
      have hnd := hd0 (by omega)
      have h5 : lf now lim = 18446744073709551615 := by unfold lf; rw [if_pos h1]
      rw [h5] at hnd h2
      split at hlx <;> omega
theorem Of.rest {xs : List Int} {s : List It} (h : Of xs s) (m : Int) : Of xs (restI m s) := fun y hy => h y ((List.dropWhile_sublist _).mem hy)
theorem addS_of {xs : List Int} {s : List It} (h : Of xs s) {i : Nat} {v : Int} (hv : xs[i]? = some v) (nx : Int) (hv0 : 0 ≤ v) : Of xs (addS s i 0 (v % 4194304) nx) := fun y hy => by
  unfold addS at hy
  rw [if_neg (by omega)] at hy
  rcases insI_mem.1 hy with rfl | hy
  · refine ⟨by show (0 : Int) ≤ i; omega, v, by simpa using hv, ?_⟩
    have h1 := Int.emod_nonneg v (show (4194304 : Int) ≠ 0 by omega)
    have h2 := Int.emod_lt_of_pos v (show (0 : Int) < 4194304 by omega)
    show dl 0 (v % 4194304) = _
    unfold dl; rw [if_neg (by omega)]; omega
  · exact h y (rem_mem.1 hy).1
theorem findI_no {s : List It} {id : Int} (h : ∀ y ∈ s, y.id < id) : remI id s = s := remI_no fun y hy e => by have := h y hy; omega
theorem wl_nv {xs : List Int} {s : List It} {lim now : Int} (hO : Of xs s) (hn : 0 ≤ now) (hl : InK .u64 lim) (h : wl s lim now = NV) : lim = NV ∧ s = [] := by
  simp only [InK] at hl
  cases hcs : s with
  | nil =>
    rw [hcs] at h
    have h1 : lf now lim = 18446744073709551615 := h
    refine ⟨Decidable.byContradiction fun hne => ?_, rfl⟩
    unfold lf at h1
    rw [if_neg hne] at h1
    have hne' : ¬ lim = 18446744073709551615 := hne
    split at h1 <;> omega
  | cons x r =>
    exfalso
    have hxb := hO.bound (y := x) (by rw [hcs]; exact List.mem_cons_self)
    rw [hcs] at h
    have h1 : min (lf now lim) (lf now x.at_) = 18446744073709551615 := h
    have hlx : lf now x.at_ = if x.at_ ≤ now then 0 else x.at_ - now := by unfold lf; rw [if_neg (show ¬ x.at_ = 18446744073709551615 by omega)]
    split at hlx <;> omega
theorem wv (s : List It) (lim now : Int) : waitV s lim now false = if wl s lim now = NV then (0, true) else (min (wl s lim now) 1048576, false) := rfl
set_option maxHeartbeats 2000000 in
theorem waits_ct (L : List SP) (ad : Option Addr) (c : Nat) (xs : List Int) (hR : RdS L 1 ad xs.length (xs.map fun y => .int .u32 y)) (hx : ∀ x ∈ xs, InK .u32 x) (lim : Int) (hlim : InK .u64 lim) (ad2 : Option Addr) (c2 : Nat) (ys : List Int) (hR2 : RdS L 1 ad2 ys.length (ys.map fun y => .int .u32 y)) (hy : ∀ x ∈ ys, InK .u32 x) : Ct Try.prog 3 #[.slice ad xs.length c, .int .u64 lim, .slice ad2 ys.length c2] (L) (fun _ : Unit => .bool true) (fun _ : Unit => L) := by
  refine Ct.of (vs := [.slice ad xs.length c, .int .u64 lim, .slice ad2 ys.length c2]) Try.func3 rfl rfl [(0, .slice ad xs.length c), (1, .int .u64 lim), (2, .slice ad2 ys.length c2)] (by repeat (first | exact trivial | refine ⟨rfl, ?_⟩)) ?_
  intro E
  show Hd E 169 _ _ _ _
  refine Hd.seq (fun K1 hK1 => ?_)
  refine Hd.region ?_
  refine Hd.yv (y_assign rfl) ?_
  refine Hd.nil ?_
  refine Hd.slots [(0, _), (1, _), (2, _)] ⟨rfl, rfl, rfl, trivial⟩ ?_
  refine Hd.toK hK1 ?_
  refine Hd.seq (fun K2 hK2 => ?_)
  refine Hd.region ?_
  refine Hd.callE rfl fk9 (alive_ct _) (Ent.sep enn) ?_
  intro _
  refine Hd.yv (y_assign rfl) ?_
  refine Hd.nil ?_
  refine Hd.slots [(0, _), (1, _), (2, _), (7, _)] ⟨rfl, rfl, rfl, rfl, trivial⟩ ?_
  refine Hd.toK hK2 ?_
  refine Hd.seq (fun K3 hK3 => ?_)
  refine Hd.seq (fun K4 hK4 => ?_)
  refine Hd.region ?_
  refine Hd.yv (y_move rfl) ?_
  refine Hd.yv (y_len Try.underlying22 rfl) ?_
  refine Hd.yv (y_gtr rfl rfl) ?_
  refine Hd.yv (y_move rfl) ?_
  apply Hd.org 4 22 26 [(0, _), (1, _), (2, _), (7, _)] rfl ⟨rfl, rfl, rfl, rfl, trivial⟩
  · intro hg2_22
    try simp only [decide_eq_true_eq, decide_eq_false_iff_not, Bool.and_eq_true, Bool.or_eq_true, Bool.and_eq_false_iff, Bool.or_eq_false_iff, Bool.not_eq_true', Bool.not_eq_false', Bool.not_eq_true, Bool.not_eq_false, Int.not_lt, Int.not_le, Decidable.not_not, ne_eq] at hg2_22
    simp only [List.take]
    refine Hd.ng rfl rfl rfl ?_
    refine Hd.ng rfl rfl rfl ?_
    refine Hd.ng rfl rfl rfl ?_
    first | (refine Hd.yv (y_pickT rfl rfl) ?_) | (refine Hd.yv (y_pickF rfl rfl) ?_) | (refine Hd.yv (y_pickb rfl rfl rfl) ?_) | (refine Hd.yv (y_pick rfl rfl rfl) ?_)
    refine Hd.nil ?_
    exact Hd.mend (by repeat (first | exact trivial | refine ⟨rfl, ?_⟩)) (Ent.sep enn)
  · intro hg2_22
    try simp only [decide_eq_true_eq, decide_eq_false_iff_not, Bool.and_eq_true, Bool.or_eq_true, Bool.and_eq_false_iff, Bool.or_eq_false_iff, Bool.not_eq_true', Bool.not_eq_false', Bool.not_eq_true, Bool.not_eq_false, Int.not_lt, Int.not_le, Decidable.not_not, ne_eq] at hg2_22
    simp only [List.take]
    refine Hd.yg rfl rfl (y_move rfl) ?_
    refine Hd.yg rfl rfl (y_len Try.underlying22 rfl) ?_
    refine Hd.yg rfl rfl (y_gtr rfl rfl) ?_
    first | (refine Hd.yv (y_pickT rfl rfl) ?_) | (refine Hd.yv (y_pickF rfl rfl) ?_) | (refine Hd.yv (y_pickb rfl rfl rfl) ?_) | (refine Hd.yv (y_pick rfl rfl rfl) ?_)
    refine Hd.nil ?_
    exact Hd.mend (by repeat (first | exact trivial | refine ⟨rfl, ?_⟩)) (Ent.sep enn)
  simp only [List.drop]
  refine Hd.yv (y_move rfl) ?_
  apply Hd.org 3 27 30 [(0, _), (1, _), (2, _), (7, _)] rfl ⟨rfl, rfl, rfl, rfl, trivial⟩
  · intro hg2_27
    try simp only [decide_eq_true_eq, decide_eq_false_iff_not, Bool.and_eq_true, Bool.or_eq_true, Bool.and_eq_false_iff, Bool.or_eq_false_iff, Bool.not_eq_true', Bool.not_eq_false', Bool.not_eq_true, Bool.not_eq_false, Int.not_lt, Int.not_le, Decidable.not_not, ne_eq] at hg2_27
    simp only [List.take]
    refine Hd.ng rfl rfl rfl ?_
    refine Hd.ng rfl rfl rfl ?_
    first | (refine Hd.yv (y_pickT rfl rfl) ?_) | (refine Hd.yv (y_pickF rfl rfl) ?_) | (refine Hd.yv (y_pickb rfl rfl rfl) ?_) | (refine Hd.yv (y_pick rfl rfl rfl) ?_)
    refine Hd.nil ?_
    exact Hd.mend (by repeat (first | exact trivial | refine ⟨rfl, ?_⟩)) (Ent.sep enn)
  · intro hg2_27
    try simp only [decide_eq_true_eq, decide_eq_false_iff_not, Bool.and_eq_true, Bool.or_eq_true, Bool.and_eq_false_iff, Bool.or_eq_false_iff, Bool.not_eq_true', Bool.not_eq_false', Bool.not_eq_true, Bool.not_eq_false, Int.not_lt, Int.not_le, Decidable.not_not, ne_eq] at hg2_27
    simp only [List.take]
    refine Hd.yg rfl rfl (y_move rfl) ?_
    refine Hd.yg rfl rfl (y_not rfl) ?_
    first | (refine Hd.yv (y_pickT rfl rfl) ?_) | (refine Hd.yv (y_pickF rfl rfl) ?_) | (refine Hd.yv (y_pickb rfl rfl rfl) ?_) | (refine Hd.yv (y_pick rfl rfl rfl) ?_)
    refine Hd.nil ?_
    exact Hd.mend (by repeat (first | exact trivial | refine ⟨rfl, ?_⟩)) (Ent.sep enn)
  simp only [List.drop]
  refine Hd.nil ?_
  refine Hd.slots [(0, _), (1, _), (2, _), (7, _), (30, _)] ⟨rfl, rfl, rfl, rfl, rfl, trivial⟩ ?_
  refine Hd.toK hK4 ?_
  refine Hd.cond rfl (fun hc0 => ?_) (fun hc0 => ?_)
  ·
    try simp only [decide_eq_true_eq, decide_eq_false_iff_not, Bool.and_eq_true, Bool.or_eq_true, Bool.and_eq_false_iff, Bool.or_eq_false_iff, Bool.not_eq_true', Bool.not_eq_false', Bool.not_eq_true, Bool.not_eq_false, Int.not_lt, Int.not_le, Decidable.not_not, ne_eq] at hc0
    refine Hd.seq (fun K5 hK5 => ?_)
    refine Hd.region ?_
    refine Hd.yv (y_move rfl) ?_
    refine Hd.yv (y_assign rfl) ?_
    refine Hd.nil ?_
    refine Hd.slots [(6, _)] ⟨rfl, trivial⟩ ?_
    refine Hd.toK hK5 ?_
    refine Hd.ret ?_
    refine Hd.thenRet ?_
    clear hK1 hK2 hK3 hK4 hK5
    exact Hd.ret1 rfl () (by first | rfl | (simp only [*]; done) | (simp [*]; done)) (Ent.sep enn)
  ·
    try simp only [decide_eq_true_eq, decide_eq_false_iff_not, Bool.and_eq_true, Bool.or_eq_true, Bool.and_eq_false_iff, Bool.or_eq_false_iff, Bool.not_eq_true', Bool.not_eq_false', Bool.not_eq_true, Bool.not_eq_false, Int.not_lt, Int.not_le, Decidable.not_not, ne_eq] at hc0
    have hl : xs.length ≤ 40 ∧ ys.length ≤ 10 := by have := hc0; simp at this; omega
    refine Hd.skip ?_
    refine Hd.toK hK3 ?_
    refine Hd.seq (fun K6 hK6 => ?_)
    refine Hd.region ?_
    refine Hd.callE rfl fk10 (tnew_ct _) (Ent.sep enn) ?_
    intro b
    refine Hd.yv (y_assign rfl) ?_
    refine Hd.nil ?_
    refine Hd.slots [(0, _), (1, _), (2, _), (7, _), (8, _)] ⟨rfl, rfl, rfl, rfl, rfl, trivial⟩ ?_
    refine Hd.toK hK6 ?_
    refine Hd.seq (fun K7 hK7 => ?_)
    refine Hd.seq (fun K8 hK8 => ?_)
    refine Hd.region ?_
    refine Hd.yv (y_assign rfl) ?_
    refine Hd.nil ?_
    refine Hd.slots [(0, _), (1, _), (2, _), (7, _), (8, _), (9, _)] ⟨rfl, rfl, rfl, rfl, rfl, rfl, trivial⟩ ?_
    refine Hd.toK hK8 ?_
    refine Hd.block ?_
    refine Hd.loopK (ι := Nat × List Q) [(0, _), (1, _), (2, _), (7, _), (8, _)] (fun q_ => [(9, .int .i64 (q_.1 : Int))]) (fun q_ => pu (q_.1 ≤ ys.length) :: TmA b q_.2 [] 0 (fun _ => none) NV :: L) (fun q_ => ys.length - q_.1) (0, []) (by repeat (first | exact trivial | refine ⟨rfl, ?_⟩)) (by repeat (first | exact trivial | refine ⟨rfl, ?_⟩)) (Ent.sep (.pure (by first | omega | (simp; done) | (simp; omega) | exact ⟨by simp, by simp⟩) enn)) ?_
    rintro ⟨i, qs⟩
    try dsimp only
    refine Hd.pure (fun hp0 => ?_)
    try dsimp only at hp0
    refine Hd.seq (fun K9 hK9 => ?_)
    refine Hd.seq (fun K10 hK10 => ?_)
    refine Hd.region ?_
    refine Hd.yv (y_move rfl) ?_
    refine Hd.yv (y_move rfl) ?_
    refine Hd.yv (y_len Try.underlying22 rfl) ?_
    refine Hd.yv (y_lss rfl rfl) ?_
    refine Hd.nil ?_
    refine Hd.slots [(0, _), (1, _), (2, _), (7, _), (8, _), (9, _), (36, _)] ⟨rfl, rfl, rfl, rfl, rfl, rfl, rfl, trivial⟩ ?_
    refine Hd.toK hK10 ?_
    refine Hd.cond rfl (fun hc1 => ?_) (fun hc1 => ?_)
    ·
      try simp only [decide_eq_true_eq, decide_eq_false_iff_not, Bool.and_eq_true, Bool.or_eq_true, Bool.and_eq_false_iff, Bool.or_eq_false_iff, Bool.not_eq_true', Bool.not_eq_false', Bool.not_eq_true, Bool.not_eq_false, Int.not_lt, Int.not_le, Decidable.not_not, ne_eq] at hc1
      have hi : i < ys.length := by omega
      have hyi : (ys.map fun y => Value.int .u32 y)[i * 1]? = some (.int .u32 ys[i]) := by rw [Nat.mul_one, List.getElem?_map, List.getElem?_eq_getElem hi]; rfl
      have hk := hy ys[i] (List.getElem_mem hi)
      simp only [InK] at hk
      refine Hd.skip ?_
      refine Hd.toK hK9 ?_
      refine Hd.seq (fun K11 hK11 => ?_)
      refine Hd.block ?_
      refine Hd.region ?_
      refine Hd.yv (y_move rfl) ?_
      refine Hd.yv (y_move rfl) ?_
      refine Hd.yv (y_move rfl) ?_
      first | (refine Hd.yv (y_idxS Try.underlying22 sz29 rfl rfl (by first | omega | decide)) ?_) | (refine Hd.yv (y_idxR Try.underlying22 sz29 rfl rfl (by first | omega | decide) (by (first | exact RdS.own pkk | exact RdS.mono hR (Ent.sep enn) | exact RdS.mono hR2 (Ent.sep enn)))) ?_)
      refine Hd.yv (y_loadR1 ag29 rfl (RdS.mono hR2 (Ent.sep enn)) hyi) ?_
      first | (refine Hd.yv (y_convn rfl Try.underlying29 Try.underlying23 (by simp only [InK]; omega)) ?_) | (refine Hd.yv (y_conv rfl Try.underlying29 Try.underlying23) ?_)
      first | (refine Hd.yv (y_to (v' := .int .u64 (ys[i] % 4194304)) (y_remN rfl rfl (by omega)) (by rfl)) ?_) | (refine Hd.yv (y_to (v' := .int .u64 (ys[i] % 4194304)) (y_remn rfl rfl (by omega) (by omega)) (by rfl)) ?_) | (refine Hd.yv (y_to (v' := .int .u64 (ys[i] % 4194304)) (y_rem rfl rfl (by omega)) (by rfl)) ?_)
      refine Hd.callE rfl fk11 (tcommon_ct _ b qs [] 0 (fun _ => none) NV (ys[i] % 4194304)) (Ent.sep enn) ?_
      intro _
      refine Hd.nil ?_
      refine Hd.slots [(0, _), (1, _), (2, _), (7, _), (8, _), (9, _)] ⟨rfl, rfl, rfl, rfl, rfl, rfl, trivial⟩ ?_
      refine Hd.inB ?_
      refine Hd.toK hK11 ?_
      refine Hd.region ?_
      refine Hd.yv (y_move rfl) ?_
      first | (refine Hd.yv (y_addn rfl rfl (by simp only [InK]; omega)) ?_) | (refine Hd.yv (y_add rfl rfl) ?_)
      refine Hd.yv (y_assign rfl) ?_
      refine Hd.nil ?_
      refine Hd.slots [(0, _), (1, _), (2, _), (7, _), (8, _), (9, _)] ⟨rfl, rfl, rfl, rfl, rfl, rfl, trivial⟩ ?_
      clear hK1 hK2 hK3 hK4 hK6 hK7 hK8 hK9 hK10 hK11
      refine Hd.thenN ?_
      exact Hd.again (i + 1, mkS qs (ys[i] % 4194304)) (by first | omega | (simp only; omega) | (simp; omega)) (by repeat (first | exact trivial | refine ⟨rfl, ?_⟩)) (Ent.sep (.pure (by first | omega | (simp; done) | (simp; omega) | (dsimp only; omega)) enn))
    ·
      try simp only [decide_eq_true_eq, decide_eq_false_iff_not, Bool.and_eq_true, Bool.or_eq_true, Bool.and_eq_false_iff, Bool.or_eq_false_iff, Bool.not_eq_true', Bool.not_eq_false', Bool.not_eq_true, Bool.not_eq_false, Int.not_lt, Int.not_le, Decidable.not_not, ne_eq] at hc1
      refine Hd.exit ?_
      refine Hd.thenExit ?_
      refine Hd.thenExit ?_
      refine Hd.inBexit ?_
      refine Hd.toK hK7 ?_
      refine Hd.seq (fun K12 hK12 => ?_)
      refine Hd.region ?_
      refine Hd.yv (y_move rfl) ?_
      refine Hd.yv (y_move rfl) ?_
      refine Hd.callE rfl fk12 (tlimit_ct _ b qs [] 0 (fun _ => none) NV lim hlim) (Ent.sep enn) ?_
      intro _
      refine Hd.nil ?_
      refine Hd.slots [(0, _), (1, _), (7, _), (8, _)] ⟨rfl, rfl, rfl, rfl, trivial⟩ ?_
      refine Hd.toK hK12 ?_
      refine Hd.seq (fun K13 hK13 => ?_)
      refine Hd.seq (fun K14 hK14 => ?_)
      refine Hd.region ?_
      refine Hd.yv (y_assign rfl) ?_
      refine Hd.nil ?_
      refine Hd.slots [(0, _), (1, _), (7, _), (8, _), (10, _)] ⟨rfl, rfl, rfl, rfl, rfl, trivial⟩ ?_
      refine Hd.toK hK14 ?_
      refine Hd.block ?_
      refine Hd.loopK (ι := Nat × List Q × List It × Int × AF) [(0, _), (1, _), (7, _), (8, _)] (fun q_ => [(10, .int .i64 (q_.1 : Int))]) (fun q_ => pu (q_.1 ≤ xs.length ∧ q_.2.2.1.length = q_.1 ∧ q_.2.2.2.1 ≤ q_.1 ∧ Of xs q_.2.2.1 ∧ ∀ y ∈ q_.2.2.1, y.id < q_.1) :: TmA b q_.2.1 q_.2.2.1 q_.2.2.2.1 q_.2.2.2.2 lim :: L) (fun q_ => xs.length - q_.1) (0, qs, [], 0, fun _ => none) (by repeat (first | exact trivial | refine ⟨rfl, ?_⟩)) (by repeat (first | exact trivial | refine ⟨rfl, ?_⟩)) (Ent.sep (.pure ⟨Nat.zero_le _, rfl, Int.le_refl _, fun y h => (by cases h), fun y h => (by cases h)⟩ enn)) ?_
      rintro ⟨i, qt, s, nx, af⟩
      try dsimp only
      refine Hd.pure (fun hp1 => ?_)
      try dsimp only at hp1
      refine Hd.seq (fun K15 hK15 => ?_)
      refine Hd.seq (fun K16 hK16 => ?_)
      refine Hd.region ?_
      refine Hd.yv (y_move rfl) ?_
      refine Hd.yv (y_move rfl) ?_
      refine Hd.yv (y_len Try.underlying22 rfl) ?_
      refine Hd.yv (y_lss rfl rfl) ?_
      refine Hd.nil ?_
      refine Hd.slots [(0, _), (1, _), (7, _), (8, _), (10, _), (53, _)] ⟨rfl, rfl, rfl, rfl, rfl, rfl, trivial⟩ ?_
      refine Hd.toK hK16 ?_
      refine Hd.cond rfl (fun hc2 => ?_) (fun hc2 => ?_)
      ·
        try simp only [decide_eq_true_eq, decide_eq_false_iff_not, Bool.and_eq_true, Bool.or_eq_true, Bool.and_eq_false_iff, Bool.or_eq_false_iff, Bool.not_eq_true', Bool.not_eq_false', Bool.not_eq_true, Bool.not_eq_false, Int.not_lt, Int.not_le, Decidable.not_not, ne_eq] at hc2
        have hi : i < xs.length := by omega
        obtain ⟨_, hsl, hnl, hof, hid⟩ := hp1
        have hxi : (xs.map fun y => Value.int .u32 y)[i * 1]? = some (.int .u32 xs[i]) := by rw [Nat.mul_one, List.getElem?_map, List.getElem?_eq_getElem hi]; rfl
        have hk := hx xs[i] (List.getElem_mem hi)
        simp only [InK] at hk
        have hm0 := Int.emod_nonneg xs[i] (show (4194304 : Int) ≠ 0 by omega)
        have hm1 := Int.emod_lt_of_pos xs[i] (show (0 : Int) < 4194304 by omega)
        have hnew : (addS s i 0 (xs[i] % 4194304) nx).length = i + 1 ∧ ∀ y ∈ addS s i 0 (xs[i] % 4194304) nx, y.id < ((i + 1 : Nat) : Int) := by
          unfold addS; rw [if_neg (by omega), findI_no hid]
          refine ⟨by rw [(insI_perm _ _).length_eq]; simp [hsl], fun y hy => ?_⟩
          rcases insI_mem.1 hy with rfl | hy
          · show (i : Int) < _; omega
          · have := hid y hy; omega
        refine Hd.skip ?_
        refine Hd.toK hK15 ?_
        refine Hd.seq (fun K17 hK17 => ?_)
        refine Hd.block ?_
        refine Hd.region ?_
        refine Hd.yv (y_move rfl) ?_
        refine Hd.yv (y_move rfl) ?_
        refine Hd.yv (y_move rfl) ?_
        refine Hd.yv (y_move rfl) ?_
        first | (refine Hd.yv (y_idxS Try.underlying22 sz29 rfl rfl (by first | omega | decide)) ?_) | (refine Hd.yv (y_idxR Try.underlying22 sz29 rfl rfl (by first | omega | decide) (by (first | exact RdS.own pkk | exact RdS.mono hR (Ent.sep enn) | exact RdS.mono hR2 (Ent.sep enn)))) ?_)
        refine Hd.yv (y_loadR1 ag29 rfl (RdS.mono hR (Ent.sep enn)) hxi) ?_
        first | (refine Hd.yv (y_convn rfl Try.underlying29 Try.underlying23 (by simp only [InK]; omega)) ?_) | (refine Hd.yv (y_conv rfl Try.underlying29 Try.underlying23) ?_)
        first | (refine Hd.yv (y_to (v' := .int .u64 (xs[i] % 4194304)) (y_remN rfl rfl (by omega)) (by rfl)) ?_) | (refine Hd.yv (y_to (v' := .int .u64 (xs[i] % 4194304)) (y_remn rfl rfl (by omega) (by omega)) (by rfl)) ?_) | (refine Hd.yv (y_to (v' := .int .u64 (xs[i] % 4194304)) (y_rem rfl rfl (by omega)) (by rfl)) ?_)
        refine Hd.callE rfl fk13 (tadd_ct _ b qt s nx af lim (by omega) (by omega) i 0 (xs[i] % 4194304) (by simp [InK]) (by simp only [InK]; omega)) (Ent.sep enn) ?_
        intro _
        refine Hd.nil ?_
        refine Hd.slots [(0, _), (1, _), (7, _), (8, _), (10, _)] ⟨rfl, rfl, rfl, rfl, rfl, trivial⟩ ?_
        refine Hd.inB ?_
        refine Hd.toK hK17 ?_
        refine Hd.region ?_
        refine Hd.yv (y_move rfl) ?_
        first | (refine Hd.yv (y_addn rfl rfl (by simp only [InK]; omega)) ?_) | (refine Hd.yv (y_add rfl rfl) ?_)
        refine Hd.yv (y_assign rfl) ?_
        refine Hd.nil ?_
        refine Hd.slots [(0, _), (1, _), (7, _), (8, _), (10, _)] ⟨rfl, rfl, rfl, rfl, rfl, trivial⟩ ?_
        clear hK1 hK2 hK3 hK4 hK6 hK7 hK8 hK9 hK10 hK12 hK13 hK14 hK15 hK16 hK17
        refine Hd.thenN ?_
        exact Hd.again (i + 1, addQ qt i 0 (xs[i] % 4194304) nx, addS s i 0 (xs[i] % 4194304) nx, addN i nx, addF af i (xs[i] % 4194304)) (by first | omega | (simp only; omega) | (simp; omega)) (by repeat (first | exact trivial | refine ⟨rfl, ?_⟩)) (Ent.sep (.pure ⟨hi, hnew.1, by have := addN_le i nx; show addN i nx ≤ ((i + 1 : Nat) : Int); omega, addS_of hof (List.getElem?_eq_getElem hi) nx hk.1, hnew.2⟩ enn))
      ·
        try simp only [decide_eq_true_eq, decide_eq_false_iff_not, Bool.and_eq_true, Bool.or_eq_true, Bool.and_eq_false_iff, Bool.or_eq_false_iff, Bool.not_eq_true', Bool.not_eq_false', Bool.not_eq_true, Bool.not_eq_false, Int.not_lt, Int.not_le, Decidable.not_not, ne_eq] at hc2
        have hi : i = xs.length := by omega
        subst hi
        obtain ⟨_, hsl0, hnl0, hof0, _⟩ := hp1
        have hlim2 := hlim
        simp only [InK] at hlim2
        refine Hd.exit ?_
        refine Hd.thenExit ?_
        refine Hd.thenExit ?_
        refine Hd.inBexit ?_
        refine Hd.toK hK13 ?_
        refine Hd.seq (fun K18 hK18 => ?_)
        refine Hd.region ?_
        refine Hd.yv (y_assign rfl) ?_
        refine Hd.nil ?_
        refine Hd.slots [(0, _), (1, _), (7, _), (8, _), (11, _)] ⟨rfl, rfl, rfl, rfl, rfl, trivial⟩ ?_
        refine Hd.toK hK18 ?_
        refine Hd.seq (fun K19 hK19 => ?_)
        refine Hd.region ?_
        refine Hd.yv (y_to (v' := .int .i64 ((xs.length : Int) - (s.length : Int))) (y_assign rfl) (by (congr 1; omega))) ?_
        refine Hd.nil ?_
        refine Hd.slots [(0, _), (1, _), (7, _), (8, _), (11, _), (12, _)] ⟨rfl, rfl, rfl, rfl, rfl, rfl, trivial⟩ ?_
        refine Hd.toK hK19 ?_
        refine Hd.seq (fun K20 hK20 => ?_)
        refine Hd.seq (fun K21 hK21 => ?_)
        refine Hd.region ?_
        refine Hd.yv (y_assign rfl) ?_
        refine Hd.nil ?_
        refine Hd.slots [(0, _), (1, _), (7, _), (8, _), (11, _), (12, _), (13, _)] ⟨rfl, rfl, rfl, rfl, rfl, rfl, rfl, trivial⟩ ?_
        refine Hd.toK hK21 ?_
        refine Hd.block ?_
        refine Hd.loopK (ι := Nat × List Q × List It × Int × Nat) [(0, _), (1, _), (7, _), (8, _)] (fun q_ => [(11, .int .u64 q_.2.2.2.1), (12, .int .i64 ((xs.length : Int) - q_.2.2.1.length)), (13, .int .i64 (q_.1 : Int))]) (fun q_ => pu (q_.1 ≤ 200 ∧ q_.2.2.1.length ≤ xs.length ∧ Of xs q_.2.2.1 ∧ 0 ≤ q_.2.2.2.1 ∧ q_.2.2.2.1 ≤ 1048576 * q_.1 ∧ (q_.2.2.2.1 = 0 ∨ ∀ y ∈ q_.2.2.1, q_.2.2.2.1 < y.at_) ∧ (lim = NV → (q_.2.2.2.2 : Int) * 1048576 ≤ q_.2.2.2.1 ∧ q_.2.2.2.2 ≤ 4 ∧ q_.1 + q_.2.2.1.length ≤ xs.length + q_.2.2.2.2)) :: TmA b q_.2.1 q_.2.2.1 nx af lim :: L) (fun q_ => 200 - q_.1) (0, qt, s, 0, 0) (by repeat (first | exact trivial | refine ⟨rfl, ?_⟩)) (by repeat (first | exact trivial | refine ⟨rfl, ?_⟩)) (Ent.sep (.pure ⟨by show 0 ≤ 200; omega, by show s.length ≤ xs.length; omega, hof0, by show (0 : Int) ≤ 0; omega, by show (0 : Int) ≤ 1048576 * ((0 : Nat) : Int); omega, .inl rfl, fun _ => ⟨by show ((0 : Nat) : Int) * 1048576 ≤ (0 : Int); omega, by show 0 ≤ 4; omega, by show 0 + s.length ≤ xs.length + 0; omega⟩⟩ enn)) ?_
        rintro ⟨n, qu, s, now, k⟩
        try dsimp only
        refine Hd.pure (fun hp2 => ?_)
        try dsimp only at hp2
        refine Hd.seq (fun K22 hK22 => ?_)
        refine Hd.seq (fun K23 hK23 => ?_)
        refine Hd.region ?_
        refine Hd.yv (y_move rfl) ?_
        refine Hd.yv (y_lss rfl rfl) ?_
        refine Hd.nil ?_
        refine Hd.slots [(0, _), (1, _), (7, _), (8, _), (11, _), (12, _), (13, _), (66, _)] ⟨rfl, rfl, rfl, rfl, rfl, rfl, rfl, rfl, trivial⟩ ?_
        refine Hd.toK hK23 ?_
        refine Hd.cond rfl (fun hc3 => ?_) (fun hc3 => ?_)
        ·
          try simp only [decide_eq_true_eq, decide_eq_false_iff_not, Bool.and_eq_true, Bool.or_eq_true, Bool.and_eq_false_iff, Bool.or_eq_false_iff, Bool.not_eq_true', Bool.not_eq_false', Bool.not_eq_true, Bool.not_eq_false, Int.not_lt, Int.not_le, Decidable.not_not, ne_eq] at hc3
          have hn : n < 200 := by omega
          obtain ⟨_, hsl, hof, hw0, hw1, hgt, hcnt⟩ := hp2
          refine Hd.tmF (b := b) pkk (fun hcf _ => ?_)
          have hsrt := hcf.hF.srt
          have hnow : InK .u64 now := by simp only [InK]; omega
          obtain ⟨w, fv, hwv⟩ : ∃ w fv, waitV s lim now false = (w, fv) := ⟨_, _, rfl⟩
          have hfv : (fv = true ∧ wl s lim now = NV) ∨ (fv = false ∧ wl s lim now ≠ NV ∧ w = min (wl s lim now) 1048576) := by
            rw [wv] at hwv
            split at hwv
            · rename_i h; exact .inl ⟨(congrArg Prod.snd hwv).symm, h⟩
            · rename_i h; exact .inr ⟨(congrArg Prod.snd hwv).symm, h, (congrArg Prod.fst hwv).symm⟩
          refine Hd.skip ?_
          refine Hd.toK hK22 ?_
          refine Hd.seq (fun K24 hK24 => ?_)
          refine Hd.block ?_
          refine Hd.seq (fun K25 hK25 => ?_)
          refine Hd.region ?_
          refine Hd.yv (y_move rfl) ?_
          refine Hd.yv (y_move rfl) ?_
          refine Hd.callE rfl fk14 (twait_ct _ b qu s nx af lim now hnow false) (Ent.sep enn) ?_
          intro _
          rw [hwv]
          refine Hd.yv (y_move rfl) ?_
          refine Hd.yv (y_extract rfl rfl) ?_
          refine Hd.yv (y_extract rfl rfl) ?_
          refine Hd.yv (y_assign rfl) ?_
          refine Hd.yv (y_assign rfl) ?_
          refine Hd.nil ?_
          refine Hd.slots [(0, _), (1, _), (7, _), (8, _), (11, _), (12, _), (13, _), (14, _), (15, _)] ⟨rfl, rfl, rfl, rfl, rfl, rfl, rfl, rfl, rfl, trivial⟩ ?_
          refine Hd.toK hK25 ?_
          refine Hd.seq (fun K26 hK26 => ?_)
          refine Hd.seq (fun K27 hK27 => ?_)
          refine Hd.region ?_
          refine Hd.yv (y_move rfl) ?_
          refine Hd.nil ?_
          refine Hd.slots [(0, _), (1, _), (7, _), (8, _), (11, _), (12, _), (13, _), (14, _), (75, _)] ⟨rfl, rfl, rfl, rfl, rfl, rfl, rfl, rfl, rfl, trivial⟩ ?_
          refine Hd.toK hK27 ?_
          refine Hd.cond rfl (fun hc4 => ?_) (fun hc4 => ?_)
          ·
            try simp only [decide_eq_true_eq, decide_eq_false_iff_not, Bool.and_eq_true, Bool.or_eq_true, Bool.and_eq_false_iff, Bool.or_eq_false_iff, Bool.not_eq_true', Bool.not_eq_false', Bool.not_eq_true, Bool.not_eq_false, Int.not_lt, Int.not_le, Decidable.not_not, ne_eq] at hc4
            have hwl : wl s lim now = NV := by
              rcases hfv with h | h
              · exact h.2
              · rw [h.1] at hc4; cases hc4
            obtain ⟨hln, hs0⟩ := wl_nv hof hw0 hlim hwl
            refine Hd.seq (fun K28 hK28 => ?_)
            refine Hd.region ?_
            refine Hd.yv (y_move rfl) ?_
            refine Hd.yv (y_move rfl) ?_
            refine Hd.yg rfl rfl (y_move rfl) ?_
            refine Hd.unguard rfl rfl ?_
            refine Hd.callE rfl fk15 (tlen_ct _ b qu s nx af lim) (Ent.sep enn) ?_
            intro _
            first | (refine Hd.yg rfl rfl (y_to (y_eqlT rfl rfl) (congrArg Value.bool (decide_eq_true ((by rw [hs0]; rfl))))) ?_) | (refine Hd.yg rfl rfl (y_to (y_eql rfl rfl) (congrArg Value.bool (decide_eq_true ((by rw [hs0]; rfl))))) ?_)
            first | (refine Hd.yv (y_pickT rfl rfl) ?_) | (refine Hd.yv (y_pickF rfl rfl) ?_) | (refine Hd.yv (y_pickb rfl rfl rfl) ?_) | (refine Hd.yv (y_pick rfl rfl rfl) ?_)
            refine Hd.yv (y_move rfl) ?_
            refine Hd.yg rfl rfl (y_move rfl) ?_
            first | (refine Hd.yg rfl rfl (y_to (y_eqlT rfl rfl) (congrArg Value.bool (decide_eq_true (hln)))) ?_) | (refine Hd.yg rfl rfl (y_to (y_eql rfl rfl) (congrArg Value.bool (decide_eq_true (hln)))) ?_)
            first | (refine Hd.yv (y_pickT rfl rfl) ?_) | (refine Hd.yv (y_pickF rfl rfl) ?_) | (refine Hd.yv (y_pickb rfl rfl rfl) ?_) | (refine Hd.yv (y_pick rfl rfl rfl) ?_)
            refine Hd.yv (y_move rfl) ?_
            refine Hd.yg rfl rfl (y_move rfl) ?_
            refine Hd.yg rfl rfl (y_move rfl) ?_
            refine Hd.yg rfl rfl (y_len Try.underlying22 rfl) ?_
            first | (refine Hd.yg rfl rfl (y_to (y_eqlT rfl rfl) (congrArg Value.bool (decide_eq_true ((by rw [hs0]; simp))))) ?_) | (refine Hd.yg rfl rfl (y_to (y_eql rfl rfl) (congrArg Value.bool (decide_eq_true ((by rw [hs0]; simp))))) ?_)
            first | (refine Hd.yv (y_pickT rfl rfl) ?_) | (refine Hd.yv (y_pickF rfl rfl) ?_) | (refine Hd.yv (y_pickb rfl rfl rfl) ?_) | (refine Hd.yv (y_pick rfl rfl rfl) ?_)
            refine Hd.yv (y_assign rfl) ?_
            refine Hd.nil ?_
            refine Hd.slots [(6, _)] ⟨rfl, trivial⟩ ?_
            refine Hd.toK hK28 ?_
            refine Hd.ret ?_
            refine Hd.thenRet ?_
            refine Hd.inBret ?_
            refine Hd.thenRet ?_
            refine Hd.thenRet ?_
            refine Hd.inBret ?_
            refine Hd.thenRet ?_
            clear hK1 hK2 hK3 hK4 hK6 hK7 hK8 hK9 hK10 hK12 hK13 hK14 hK15 hK16 hK18 hK19 hK20 hK21 hK22 hK23 hK24 hK25 hK26 hK27 hK28
            exact Hd.ret1 rfl () (by first | rfl | (simp only [*]; done) | (simp [*]; done)) (Ent.sep enn)
          ·
            try simp only [decide_eq_true_eq, decide_eq_false_iff_not, Bool.and_eq_true, Bool.or_eq_true, Bool.and_eq_false_iff, Bool.or_eq_false_iff, Bool.not_eq_true', Bool.not_eq_false', Bool.not_eq_true, Bool.not_eq_false, Int.not_lt, Int.not_le, Decidable.not_not, ne_eq] at hc4
            have hww : wl s lim now ≠ NV ∧ w = min (wl s lim now) 1048576 := by
              rcases hfv with h | h
              · rw [h.1] at hc4; cases hc4
              · exact h.2
            have hst := stp hof hsrt hw0 (by omega) hlim hww.1
            rw [← hww.2] at hst
            have hst0 := hst.w0
            have hst1 := hst.w1
            obtain ⟨now', hnw⟩ : ∃ t, t = now + w := ⟨_, rfl⟩
            have hni : InK .u64 now' := by simp only [InK]; omega
            have hmin : min now' 18446744073709551614 = now' := by omega
            have hdl := due_len now' s
            have hgt2 := rest_gt (now := now') hsrt
            refine Hd.skip ?_
            refine Hd.toK hK26 ?_
            refine Hd.seq (fun K29 hK29 => ?_)
            refine Hd.region ?_
            refine Hd.yv (y_move rfl) ?_
            refine Hd.yv (y_move rfl) ?_
            first | (refine Hd.yv (y_to (v' := .int .u64 now') (y_addn rfl rfl (by simp only [InK]; omega)) (by rw [hnw])) ?_) | (refine Hd.yv (y_to (v' := .int .u64 now') (y_add rfl rfl) (by rw [hnw])) ?_)
            refine Hd.yv (y_assign rfl) ?_
            refine Hd.nil ?_
            refine Hd.slots [(0, _), (1, _), (7, _), (8, _), (11, _), (12, _), (13, _), (14, _)] ⟨rfl, rfl, rfl, rfl, rfl, rfl, rfl, rfl, trivial⟩ ?_
            refine Hd.toK hK29 ?_
            refine Hd.seq (fun K30 hK30 => ?_)
            refine Hd.region ?_
            refine Hd.yv (y_move rfl) ?_
            refine Hd.yv (y_move rfl) ?_
            refine Hd.callE rfl fk16 (tdue_ct _ b qu s nx af lim (by omega) now') (Ent.sep enn) ?_
            rintro ⟨a16, c16⟩
            dsimp only
            simp only [du]
            rw [hmin]
            refine Hd.yv (y_assign rfl) ?_
            refine Hd.nil ?_
            refine Hd.slots [(0, _), (1, _), (7, _), (8, _), (11, _), (12, _), (13, _), (14, _), (16, _)] ⟨rfl, rfl, rfl, rfl, rfl, rfl, rfl, rfl, rfl, trivial⟩ ?_
            refine Hd.toK hK30 ?_
            refine Hd.seq (fun K31 hK31 => ?_)
            refine Hd.seq (fun K32 hK32 => ?_)
            refine Hd.region ?_
            refine Hd.yv (y_assign rfl) ?_
            refine Hd.nil ?_
            refine Hd.slots [(0, _), (1, _), (7, _), (8, _), (11, _), (12, _), (13, _), (14, _), (16, _), (17, _)] ⟨rfl, rfl, rfl, rfl, rfl, rfl, rfl, rfl, rfl, rfl, trivial⟩ ?_
            refine Hd.toK hK32 ?_
            refine Hd.block ?_
            refine Hd.loopK (ι := Nat) [(0, _), (1, _), (7, _), (8, _), (11, _), (13, _), (14, _), (16, _)] (fun j => [(12, .int .i64 ((xs.length : Int) - ((s.length - j : Nat) : Int))), (17, .int .i64 (j : Int))]) (fun j => pu (j ≤ (dueI now' s).length) :: ownN a16 (dueI now' s).length c16 (dueI now' s) :: TmA b (cutAll (dueI now' s) qu) (restI now' s) nx af lim :: L) (fun j => (dueI now' s).length - j) 0 (by repeat (first | exact trivial | refine ⟨rfl, ?_⟩)) (by repeat (first | exact trivial | refine ⟨rfl, ?_⟩)) (Ent.sep (.pure (by first | omega | (simp; done) | (simp; omega) | exact ⟨by simp, by simp⟩) enn)) ?_
            intro j
            try dsimp only
            refine Hd.pure (fun hp3 => ?_)
            try dsimp only at hp3
            refine Hd.seq (fun K33 hK33 => ?_)
            refine Hd.seq (fun K34 hK34 => ?_)
            refine Hd.region ?_
            refine Hd.yv (y_move rfl) ?_
            refine Hd.yv (y_move rfl) ?_
            refine Hd.yv (y_len Try.underlying35 rfl) ?_
            refine Hd.yv (y_lss rfl rfl) ?_
            refine Hd.nil ?_
            refine Hd.slots [(0, _), (1, _), (7, _), (8, _), (11, _), (12, _), (13, _), (14, _), (16, _), (17, _), (101, _)] ⟨rfl, rfl, rfl, rfl, rfl, rfl, rfl, rfl, rfl, rfl, rfl, trivial⟩ ?_
            refine Hd.toK hK34 ?_
            refine Hd.cond rfl (fun hc5 => ?_) (fun hc5 => ?_)
            ·
              try simp only [decide_eq_true_eq, decide_eq_false_iff_not, Bool.and_eq_true, Bool.or_eq_true, Bool.and_eq_false_iff, Bool.or_eq_false_iff, Bool.not_eq_true', Bool.not_eq_false', Bool.not_eq_true, Bool.not_eq_false, Int.not_lt, Int.not_le, Decidable.not_not, ne_eq] at hc5
              have hj : j < (dueI now' s).length := by omega
              have hgj : (dueI now' s)[j]? = some (g (dueI now' s) j) := g_at hj
              have hgm := g_mem hj
              have hys : g (dueI now' s) j ∈ s := (List.takeWhile_sublist _).mem hgm
              have hyl := dueI_le hgm
              obtain ⟨hy0, v, hv, hyv⟩ := hof _ hys
              have hvl := (List.getElem?_eq_some_iff.1 hv).1
              have hej : (eN (dueI now' s))[j * 1]? = some (.int .i64 (g (dueI now' s) j).id) := by rw [Nat.mul_one, List.getElem?_map, hgj]; rfl
              have hvx : (xs.map fun y => Value.int .u32 y)[(g (dueI now' s) j).id.toNat * 1]? = some (.int .u32 v) := by rw [Nat.mul_one, List.getElem?_map, hv]; rfl
              have hvk := hx v (List.mem_of_getElem? hv)
              simp only [InK] at hvk
              refine Hd.skip ?_
              refine Hd.toK hK33 ?_
              refine Hd.seq (fun K35 hK35 => ?_)
              refine Hd.block ?_
              refine Hd.seq (fun K36 hK36 => ?_)
              refine Hd.seq (fun K37 hK37 => ?_)
              refine Hd.region ?_
              refine Hd.yv (y_move rfl) ?_
              refine Hd.yv (y_move rfl) ?_
              first | (refine Hd.yv (y_idxS Try.underlying35 sz3 rfl rfl (by first | omega | decide)) ?_) | (refine Hd.yv (y_idxR Try.underlying35 sz3 rfl rfl (by first | omega | decide) (by (first | exact RdS.own pkk | exact RdS.mono hR (Ent.sep enn) | exact RdS.mono hR2 (Ent.sep enn)))) ?_)
              first | (refine Hd.yv (y_load1 ag3 rfl (Rd.pt1 pkk (by (first | exact hej | rfl)))) ?_) | (refine Hd.yv (y_load1 ag3 rfl (Rd.seg1 pkk (by (first | exact hej | rfl)))) ?_) | (refine Hd.yv (y_loadR1 ag3 rfl (by (first | exact RdS.own pkk | exact RdS.mono hR (Ent.sep enn) | exact RdS.mono hR2 (Ent.sep enn))) (by (first | exact hej | rfl))) ?_)
              refine Hd.yv (y_to (y_lss rfl rfl) (congrArg Value.bool (decide_eq_false ((by omega))))) ?_
              refine Hd.yv (y_move rfl) ?_
              refine Hd.yg rfl rfl (y_move rfl) ?_
              refine Hd.yg rfl rfl (y_move rfl) ?_
              first | (refine Hd.yg rfl rfl (y_idxS Try.underlying35 sz3 rfl rfl (by first | omega | decide)) ?_) | (refine Hd.yg rfl rfl (y_idxR Try.underlying35 sz3 rfl rfl (by first | omega | decide) (by (first | exact RdS.own pkk | exact RdS.mono hR (Ent.sep enn) | exact RdS.mono hR2 (Ent.sep enn)))) ?_)
              first | (refine Hd.yg rfl rfl (y_load1 ag3 rfl (Rd.pt1 pkk (by (first | exact hej | rfl)))) ?_) | (refine Hd.yg rfl rfl (y_load1 ag3 rfl (Rd.seg1 pkk (by (first | exact hej | rfl)))) ?_) | (refine Hd.yg rfl rfl (y_loadR1 ag3 rfl (by (first | exact RdS.own pkk | exact RdS.mono hR (Ent.sep enn) | exact RdS.mono hR2 (Ent.sep enn))) (by (first | exact hej | rfl))) ?_)
              refine Hd.yg rfl rfl (y_move rfl) ?_
              refine Hd.yg rfl rfl (y_len Try.underlying22 rfl) ?_
              refine Hd.yg rfl rfl (y_to (y_geq rfl rfl) (congrArg Value.bool (decide_eq_false ((by omega))))) ?_
              first | (refine Hd.yv (y_pickT rfl rfl) ?_) | (refine Hd.yv (y_pickF rfl rfl) ?_) | (refine Hd.yv (y_pickb rfl rfl rfl) ?_) | (refine Hd.yv (y_pick rfl rfl rfl) ?_)
              refine Hd.yv (y_move rfl) ?_
              refine Hd.yg rfl rfl (y_move rfl) ?_
              refine Hd.yg rfl rfl (y_move rfl) ?_
              refine Hd.yg rfl rfl (y_move rfl) ?_
              first | (refine Hd.yg rfl rfl (y_idxS Try.underlying35 sz3 rfl rfl (by first | omega | decide)) ?_) | (refine Hd.yg rfl rfl (y_idxR Try.underlying35 sz3 rfl rfl (by first | omega | decide) (by (first | exact RdS.own pkk | exact RdS.mono hR (Ent.sep enn) | exact RdS.mono hR2 (Ent.sep enn)))) ?_)
              first | (refine Hd.yg rfl rfl (y_to (v' := .int .i64 (((g (dueI now' s) j).id.toNat : Nat) : Int)) (y_load1 ag3 rfl (Rd.pt1 pkk (by (first | exact hej | rfl)))) (by (congr 1; omega))) ?_) | (refine Hd.yg rfl rfl (y_to (v' := .int .i64 (((g (dueI now' s) j).id.toNat : Nat) : Int)) (y_load1 ag3 rfl (Rd.seg1 pkk (by (first | exact hej | rfl)))) (by (congr 1; omega))) ?_) | (refine Hd.yg rfl rfl (y_to (v' := .int .i64 (((g (dueI now' s) j).id.toNat : Nat) : Int)) (y_loadR1 ag3 rfl (by (first | exact RdS.own pkk | exact RdS.mono hR (Ent.sep enn) | exact RdS.mono hR2 (Ent.sep enn))) (by (first | exact hej | rfl))) (by (congr 1; omega))) ?_)
              first | (refine Hd.yg rfl rfl (y_idxS Try.underlying22 sz29 rfl rfl (by first | omega | decide)) ?_) | (refine Hd.yg rfl rfl (y_idxR Try.underlying22 sz29 rfl rfl (by first | omega | decide) (by (first | exact RdS.own pkk | exact RdS.mono hR (Ent.sep enn) | exact RdS.mono hR2 (Ent.sep enn)))) ?_)
              refine Hd.yg rfl rfl (y_loadR1 ag29 rfl (RdS.mono hR (Ent.sep enn)) hvx) ?_
              first | (refine Hd.yg rfl rfl (y_convn rfl Try.underlying29 Try.underlying23 (by simp only [InK]; omega)) ?_) | (refine Hd.yg rfl rfl (y_conv rfl Try.underlying29 Try.underlying23) ?_)
              first | (refine Hd.yg rfl rfl (y_to (v' := .int .u64 (v % 4194304)) (y_remN rfl rfl (by omega)) (by rfl)) ?_) | (refine Hd.yg rfl rfl (y_to (v' := .int .u64 (v % 4194304)) (y_remn rfl rfl (by omega) (by omega)) (by rfl)) ?_) | (refine Hd.yg rfl rfl (y_to (v' := .int .u64 (v % 4194304)) (y_rem rfl rfl (by omega)) (by rfl)) ?_)
              refine Hd.yg rfl rfl (y_move rfl) ?_
              refine Hd.yg rfl rfl (y_neq rfl rfl) ?_
              refine Hd.yg rfl rfl (y_move rfl) ?_
              apply Hd.andg 3 130 133 [(0, _), (1, _), (7, _), (8, _), (11, _), (12, _), (13, _), (14, _), (16, _), (17, _), (118, _)] rfl ⟨rfl, rfl, rfl, rfl, rfl, rfl, rfl, rfl, rfl, rfl, rfl, trivial⟩
              · intro hg27_130
                try simp only [decide_eq_true_eq, decide_eq_false_iff_not, Bool.and_eq_true, Bool.or_eq_true, Bool.and_eq_false_iff, Bool.or_eq_false_iff, Bool.not_eq_true', Bool.not_eq_false', Bool.not_eq_true, Bool.not_eq_false, Int.not_lt, Int.not_le, Decidable.not_not, ne_eq] at hg27_130
                simp only [List.take]
                refine Hd.yg rfl rfl (y_move rfl) ?_
                refine Hd.yg rfl rfl (y_lss rfl rfl) ?_
                first | (refine Hd.yg rfl rfl (y_pickT rfl rfl) ?_) | (refine Hd.yg rfl rfl (y_pickF rfl rfl) ?_) | (refine Hd.yg rfl rfl (y_pickb rfl rfl rfl) ?_) | (refine Hd.yg rfl rfl (y_pick rfl rfl rfl) ?_)
                refine Hd.nil ?_
                exact Hd.mend (by repeat (first | exact trivial | refine ⟨rfl, ?_⟩)) (Ent.sep enn)
              · intro hg27_130
                try simp only [decide_eq_true_eq, decide_eq_false_iff_not, Bool.and_eq_true, Bool.or_eq_true, Bool.and_eq_false_iff, Bool.or_eq_false_iff, Bool.not_eq_true', Bool.not_eq_false', Bool.not_eq_true, Bool.not_eq_false, Int.not_lt, Int.not_le, Decidable.not_not, ne_eq] at hg27_130
                simp only [List.take]
                refine Hd.ng rfl rfl rfl ?_
                refine Hd.ng rfl rfl rfl ?_
                first | (refine Hd.yg rfl rfl (y_pickT rfl rfl) ?_) | (refine Hd.yg rfl rfl (y_pickF rfl rfl) ?_) | (refine Hd.yg rfl rfl (y_pickb rfl rfl rfl) ?_) | (refine Hd.yg rfl rfl (y_pick rfl rfl rfl) ?_)
                refine Hd.nil ?_
                exact Hd.mend (by repeat (first | exact trivial | refine ⟨rfl, ?_⟩)) (Ent.sep enn)
              simp only [List.drop]
              refine Hd.yg rfl rfl (y_move rfl) ?_
              apply Hd.andg 4 134 138 [(0, _), (1, _), (7, _), (8, _), (11, _), (12, _), (13, _), (14, _), (16, _), (17, _), (118, _)] rfl ⟨rfl, rfl, rfl, rfl, rfl, rfl, rfl, rfl, rfl, rfl, rfl, trivial⟩
              · intro hg27_134
                try simp only [decide_eq_true_eq, decide_eq_false_iff_not, Bool.and_eq_true, Bool.or_eq_true, Bool.and_eq_false_iff, Bool.or_eq_false_iff, Bool.not_eq_true', Bool.not_eq_false', Bool.not_eq_true, Bool.not_eq_false, Int.not_lt, Int.not_le, Decidable.not_not, ne_eq] at hg27_134
                simp only [List.take]
                refine Hd.yg rfl rfl (y_move rfl) ?_
                first | (refine Hd.yg rfl rfl (y_eqlT rfl rfl) ?_) | (refine Hd.yg rfl rfl (y_eql rfl rfl) ?_)
                refine Hd.yg rfl rfl (y_not rfl) ?_
                first | (refine Hd.yg rfl rfl (y_pickT rfl rfl) ?_) | (refine Hd.yg rfl rfl (y_pickF rfl rfl) ?_) | (refine Hd.yg rfl rfl (y_pickb rfl rfl rfl) ?_) | (refine Hd.yg rfl rfl (y_pick rfl rfl rfl) ?_)
                refine Hd.nil ?_
                exact Hd.mend (by repeat (first | exact trivial | refine ⟨rfl, ?_⟩)) (Ent.sep enn)
              · intro hg27_134
                try simp only [decide_eq_true_eq, decide_eq_false_iff_not, Bool.and_eq_true, Bool.or_eq_true, Bool.and_eq_false_iff, Bool.or_eq_false_iff, Bool.not_eq_true', Bool.not_eq_false', Bool.not_eq_true, Bool.not_eq_false, Int.not_lt, Int.not_le, Decidable.not_not, ne_eq] at hg27_134
                simp only [List.take]
                refine Hd.ng rfl rfl rfl ?_
                refine Hd.ng rfl rfl rfl ?_
                refine Hd.ng rfl rfl rfl ?_
                first | (refine Hd.yg rfl rfl (y_pickT rfl rfl) ?_) | (refine Hd.yg rfl rfl (y_pickF rfl rfl) ?_) | (refine Hd.yg rfl rfl (y_pickb rfl rfl rfl) ?_) | (refine Hd.yg rfl rfl (y_pick rfl rfl rfl) ?_)
                refine Hd.nil ?_
                exact Hd.mend (by repeat (first | exact trivial | refine ⟨rfl, ?_⟩)) (Ent.sep enn)
              simp only [List.drop]
              first | (refine Hd.yv (y_pickT rfl rfl) ?_) | (refine Hd.yv (y_pickF rfl rfl) ?_) | (refine Hd.yv (y_pickb rfl rfl rfl) ?_) | (refine Hd.yv (y_pick rfl rfl rfl) ?_)
              refine Hd.nil ?_
              refine Hd.slots [(0, _), (1, _), (7, _), (8, _), (11, _), (12, _), (13, _), (14, _), (16, _), (17, _), (139, _)] ⟨rfl, rfl, rfl, rfl, rfl, rfl, rfl, rfl, rfl, rfl, rfl, trivial⟩ ?_
              refine Hd.toK hK37 ?_
              refine Hd.cond rfl (fun hc6 => ?_) (fun hc6 => ?_)
              ·
                try simp only [decide_eq_true_eq, decide_eq_false_iff_not, Bool.and_eq_true, Bool.or_eq_true, Bool.and_eq_false_iff, Bool.or_eq_false_iff, Bool.not_eq_true', Bool.not_eq_false', Bool.not_eq_true, Bool.not_eq_false, Int.not_lt, Int.not_le, Decidable.not_not, ne_eq] at hc6
                exfalso
                have h := hst.at_ _ hys (hgt.elim (fun q => .inr q) (fun q => .inl (q _ hys))) hc6.1.2 (by omega)
                obtain ⟨⟨h1, h2⟩, h3⟩ := hc6
                rw [← hnw] at h
                rcases h with h | h
                · exact h1 (by omega)
                · exact h3 h
              ·
                try simp only [decide_eq_true_eq, decide_eq_false_iff_not, Bool.and_eq_true, Bool.or_eq_true, Bool.and_eq_false_iff, Bool.or_eq_false_iff, Bool.not_eq_true', Bool.not_eq_false', Bool.not_eq_true, Bool.not_eq_false, Int.not_lt, Int.not_le, Decidable.not_not, ne_eq] at hc6
                refine Hd.skip ?_
                refine Hd.toK hK36 ?_
                refine Hd.region ?_
                refine Hd.yv (y_move rfl) ?_
                first | (refine Hd.yv (y_to (v' := .int .i64 ((xs.length : Int) - ((s.length - (j + 1) : Nat) : Int))) (y_addn rfl rfl (by simp only [InK]; omega)) (by (congr 1; omega))) ?_) | (refine Hd.yv (y_to (v' := .int .i64 ((xs.length : Int) - ((s.length - (j + 1) : Nat) : Int))) (y_add rfl rfl) (by (congr 1; omega))) ?_)
                refine Hd.yv (y_assign rfl) ?_
                refine Hd.nil ?_
                refine Hd.slots [(0, _), (1, _), (7, _), (8, _), (11, _), (12, _), (13, _), (14, _), (16, _), (17, _)] ⟨rfl, rfl, rfl, rfl, rfl, rfl, rfl, rfl, rfl, rfl, trivial⟩ ?_
                refine Hd.inB ?_
                refine Hd.toK hK35 ?_
                refine Hd.region ?_
                refine Hd.yv (y_move rfl) ?_
                first | (refine Hd.yv (y_addn rfl rfl (by simp only [InK]; omega)) ?_) | (refine Hd.yv (y_add rfl rfl) ?_)
                refine Hd.yv (y_assign rfl) ?_
                refine Hd.nil ?_
                refine Hd.slots [(0, _), (1, _), (7, _), (8, _), (11, _), (12, _), (13, _), (14, _), (16, _), (17, _)] ⟨rfl, rfl, rfl, rfl, rfl, rfl, rfl, rfl, rfl, rfl, trivial⟩ ?_
                clear hK1 hK2 hK3 hK4 hK6 hK7 hK8 hK9 hK10 hK12 hK13 hK14 hK15 hK16 hK18 hK19 hK20 hK21 hK22 hK23 hK24 hK25 hK26 hK27 hK29 hK30 hK31 hK32 hK33 hK34 hK35 hK36 hK37
                refine Hd.thenN ?_
                exact Hd.again (j + 1) (by first | omega | (simp only; omega) | (simp; omega)) (by repeat (first | exact trivial | refine ⟨rfl, ?_⟩)) (Ent.sep (.pure (by first | omega | (simp; done) | (simp; omega) | (dsimp only; omega)) enn))
            ·
              try simp only [decide_eq_true_eq, decide_eq_false_iff_not, Bool.and_eq_true, Bool.or_eq_true, Bool.and_eq_false_iff, Bool.or_eq_false_iff, Bool.not_eq_true', Bool.not_eq_false', Bool.not_eq_true, Bool.not_eq_false, Int.not_lt, Int.not_le, Decidable.not_not, ne_eq] at hc5
              have hj : j = (dueI now' s).length := by omega
              have hrl : s.length - j = (restI now' s).length := by omega
              rw [hrl]
              refine Hd.exit ?_
              refine Hd.thenExit ?_
              refine Hd.thenExit ?_
              refine Hd.inBexit ?_
              refine Hd.toK hK31 ?_
              refine Hd.seq (fun K38 hK38 => ?_)
              refine Hd.seq (fun K39 hK39 => ?_)
              refine Hd.region ?_
              refine Hd.yv (y_move rfl) ?_
              refine Hd.yv (y_lss rfl rfl) ?_
              refine Hd.yv (y_move rfl) ?_
              apply Hd.andg 4 144 148 [(0, _), (1, _), (7, _), (8, _), (11, _), (12, _), (13, _)] rfl ⟨rfl, rfl, rfl, rfl, rfl, rfl, rfl, trivial⟩
              · intro hg30_144
                try simp only [decide_eq_true_eq, decide_eq_false_iff_not, Bool.and_eq_true, Bool.or_eq_true, Bool.and_eq_false_iff, Bool.or_eq_false_iff, Bool.not_eq_true', Bool.not_eq_false', Bool.not_eq_true, Bool.not_eq_false, Int.not_lt, Int.not_le, Decidable.not_not, ne_eq] at hg30_144
                simp only [List.take]
                refine Hd.yg rfl rfl (y_move rfl) ?_
                refine Hd.yg rfl rfl (y_len Try.underlying35 rfl) ?_
                first | (refine Hd.yg rfl rfl (y_eqlT rfl rfl) ?_) | (refine Hd.yg rfl rfl (y_eql rfl rfl) ?_)
                first | (refine Hd.yv (y_pickT rfl rfl) ?_) | (refine Hd.yv (y_pickF rfl rfl) ?_) | (refine Hd.yv (y_pickb rfl rfl rfl) ?_) | (refine Hd.yv (y_pick rfl rfl rfl) ?_)
                refine Hd.nil ?_
                exact Hd.mend (by repeat (first | exact trivial | refine ⟨rfl, ?_⟩)) (Ent.sep enn)
              · intro hg30_144
                try simp only [decide_eq_true_eq, decide_eq_false_iff_not, Bool.and_eq_true, Bool.or_eq_true, Bool.and_eq_false_iff, Bool.or_eq_false_iff, Bool.not_eq_true', Bool.not_eq_false', Bool.not_eq_true, Bool.not_eq_false, Int.not_lt, Int.not_le, Decidable.not_not, ne_eq] at hg30_144
                simp only [List.take]
                refine Hd.ng rfl rfl rfl ?_
                refine Hd.ng rfl rfl rfl ?_
                refine Hd.ng rfl rfl rfl ?_
                first | (refine Hd.yv (y_pickT rfl rfl) ?_) | (refine Hd.yv (y_pickF rfl rfl) ?_) | (refine Hd.yv (y_pickb rfl rfl rfl) ?_) | (refine Hd.yv (y_pick rfl rfl rfl) ?_)
                refine Hd.nil ?_
                exact Hd.mend (by repeat (first | exact trivial | refine ⟨rfl, ?_⟩)) (Ent.sep enn)
              simp only [List.drop]
              refine Hd.yv (y_move rfl) ?_
              apply Hd.andg 5 149 154 [(0, _), (1, _), (7, _), (8, _), (11, _), (12, _), (13, _)] rfl ⟨rfl, rfl, rfl, rfl, rfl, rfl, rfl, trivial⟩
              · intro hg30_149
                try simp only [decide_eq_true_eq, decide_eq_false_iff_not, Bool.and_eq_true, Bool.or_eq_true, Bool.and_eq_false_iff, Bool.or_eq_false_iff, Bool.not_eq_true', Bool.not_eq_false', Bool.not_eq_true, Bool.not_eq_false, Int.not_lt, Int.not_le, Decidable.not_not, ne_eq] at hg30_149
                simp only [List.take]
                refine Hd.yg rfl rfl (y_move rfl) ?_
                refine Hd.yg rfl rfl (y_move rfl) ?_
                refine Hd.unguard rfl rfl ?_
                refine Hd.callE rfl fk17 (tover_ct _ b (cutAll (dueI now' s) qu) (restI now' s) nx af lim now') (Ent.sep enn) ?_
                intro _
                refine Hd.yg rfl rfl (y_not rfl) ?_
                first | (refine Hd.yv (y_pickT rfl rfl) ?_) | (refine Hd.yv (y_pickF rfl rfl) ?_) | (refine Hd.yv (y_pickb rfl rfl rfl) ?_) | (refine Hd.yv (y_pick rfl rfl rfl) ?_)
                refine Hd.nil ?_
                exact Hd.mend (by repeat (first | exact trivial | refine ⟨rfl, ?_⟩)) (Ent.sep enn)
              · intro hg30_149
                try simp only [decide_eq_true_eq, decide_eq_false_iff_not, Bool.and_eq_true, Bool.or_eq_true, Bool.and_eq_false_iff, Bool.or_eq_false_iff, Bool.not_eq_true', Bool.not_eq_false', Bool.not_eq_true, Bool.not_eq_false, Int.not_lt, Int.not_le, Decidable.not_not, ne_eq] at hg30_149
                simp only [List.take]
                refine Hd.ng rfl rfl rfl ?_
                refine Hd.ng rfl rfl rfl ?_
                refine Hd.ng rfl rfl rfl ?_
                refine Hd.ng rfl rfl rfl ?_
                first | (refine Hd.yv (y_pickT rfl rfl) ?_) | (refine Hd.yv (y_pickF rfl rfl) ?_) | (refine Hd.yv (y_pickb rfl rfl rfl) ?_) | (refine Hd.yv (y_pick rfl rfl rfl) ?_)
                refine Hd.nil ?_
                exact Hd.mend (by repeat (first | exact trivial | refine ⟨rfl, ?_⟩)) (Ent.sep enn)
              simp only [List.drop]
              refine Hd.nil ?_
              refine Hd.slots [(0, _), (1, _), (7, _), (8, _), (11, _), (12, _), (13, _), (154, _)] ⟨rfl, rfl, rfl, rfl, rfl, rfl, rfl, rfl, trivial⟩ ?_
              refine Hd.toK hK39 ?_
              refine Hd.cond rfl (fun hc7 => ?_) (fun hc7 => ?_)
              ·
                try simp only [decide_eq_true_eq, decide_eq_false_iff_not, Bool.and_eq_true, Bool.or_eq_true, Bool.and_eq_false_iff, Bool.or_eq_false_iff, Bool.not_eq_true', Bool.not_eq_false', Bool.not_eq_true, Bool.not_eq_false, Int.not_lt, Int.not_le, Decidable.not_not, ne_eq] at hc7
                exfalso
                obtain ⟨⟨h1, h2⟩, h3⟩ := hc7
                have h := hst.due h1 (by rw [← hnw]; omega)
                rw [← hnw] at h
                rcases h3 with h4 | h4
                · exact h.1 h4
                · omega
              ·
                try simp only [decide_eq_true_eq, decide_eq_false_iff_not, Bool.and_eq_true, Bool.or_eq_true, Bool.and_eq_false_iff, Bool.or_eq_false_iff, Bool.not_eq_true', Bool.not_eq_false', Bool.not_eq_true, Bool.not_eq_false, Int.not_lt, Int.not_le, Decidable.not_not, ne_eq] at hc7
                refine Hd.skip ?_
                refine Hd.toK hK38 ?_
                refine Hd.seq (fun K40 hK40 => ?_)
                refine Hd.region ?_
                refine Hd.yv (y_move rfl) ?_
                refine Hd.yv (y_move rfl) ?_
                refine Hd.callE rfl fk17 (tover_ct _ b (cutAll (dueI now' s) qu) (restI now' s) nx af lim now') (Ent.sep enn) ?_
                intro _
                refine Hd.nil ?_
                refine Hd.slots [(0, _), (1, _), (7, _), (8, _), (11, _), (12, _), (13, _), (157, _)] ⟨rfl, rfl, rfl, rfl, rfl, rfl, rfl, rfl, trivial⟩ ?_
                refine Hd.toK hK40 ?_
                refine Hd.cond rfl (fun hc8 => ?_) (fun hc8 => ?_)
                ·
                  try simp only [decide_eq_true_eq, decide_eq_false_iff_not, Bool.and_eq_true, Bool.or_eq_true, Bool.and_eq_false_iff, Bool.or_eq_false_iff, Bool.not_eq_true', Bool.not_eq_false', Bool.not_eq_true, Bool.not_eq_false, Int.not_lt, Int.not_le, Decidable.not_not, ne_eq] at hc8
                  refine Hd.seq (fun K41 hK41 => ?_)
                  refine Hd.region ?_
                  refine Hd.yv (y_move rfl) ?_
                  refine Hd.yv (y_move rfl) ?_
                  refine Hd.yg rfl rfl (y_move rfl) ?_
                  refine Hd.yg rfl rfl (y_move rfl) ?_
                  refine Hd.yg rfl rfl (y_to (y_leq rfl rfl) (congrArg Value.bool (decide_eq_true (hc8.2)))) ?_
                  first | (refine Hd.yv (y_pickT rfl rfl) ?_) | (refine Hd.yv (y_pickF rfl rfl) ?_) | (refine Hd.yv (y_pickb rfl rfl rfl) ?_) | (refine Hd.yv (y_pick rfl rfl rfl) ?_)
                  refine Hd.yv (y_assign rfl) ?_
                  refine Hd.nil ?_
                  refine Hd.slots [(6, _)] ⟨rfl, trivial⟩ ?_
                  refine Hd.toK hK41 ?_
                  refine Hd.ret ?_
                  refine Hd.inBret ?_
                  refine Hd.thenRet ?_
                  refine Hd.thenRet ?_
                  refine Hd.inBret ?_
                  refine Hd.thenRet ?_
                  clear hK1 hK2 hK3 hK4 hK6 hK7 hK8 hK9 hK10 hK12 hK13 hK14 hK15 hK16 hK18 hK19 hK20 hK21 hK22 hK23 hK24 hK25 hK26 hK27 hK29 hK30 hK31 hK32 hK33 hK34 hK38 hK39 hK40 hK41
                  exact Hd.ret1 rfl () (by first | rfl | (simp only [*]; done) | (simp [*]; done)) (Ent.sep enn)
                ·
                  try simp only [decide_eq_true_eq, decide_eq_false_iff_not, Bool.and_eq_true, Bool.or_eq_true, Bool.and_eq_false_iff, Bool.or_eq_false_iff, Bool.not_eq_true', Bool.not_eq_false', Bool.not_eq_true, Bool.not_eq_false, Int.not_lt, Int.not_le, Decidable.not_not, ne_eq] at hc8
                  obtain ⟨k2, hk2⟩ : ∃ k2, k2 = (if w = 1048576 then k + 1 else k) := ⟨_, rfl⟩
                  have hcnt2 : lim = NV → (k2 : Int) * 1048576 ≤ now' ∧ k2 ≤ 4 ∧ n + 1 + (restI now' s).length ≤ xs.length + k2 := fun hln => by
                    obtain ⟨h1, h2, h3⟩ := hcnt hln
                    by_cases hw : w = 1048576
                    · obtain ⟨y, hy, hyb⟩ := hst.big hln hw
                      have hb := hof.bound hy
                      rw [hk2, if_pos hw]
                      refine ⟨by omega, by omega, by omega⟩
                    · have hd := hst.some hln (by omega)
                      rw [← hnw] at hd
                      rw [hk2, if_neg hw]
                      refine ⟨by omega, h2, by omega⟩
                  refine Hd.skip ?_
                  refine Hd.inB ?_
                  refine Hd.toK hK24 ?_
                  refine Hd.region ?_
                  refine Hd.yv (y_move rfl) ?_
                  first | (refine Hd.yv (y_addn rfl rfl (by simp only [InK]; omega)) ?_) | (refine Hd.yv (y_add rfl rfl) ?_)
                  refine Hd.yv (y_assign rfl) ?_
                  refine Hd.nil ?_
                  refine Hd.slots [(0, _), (1, _), (7, _), (8, _), (11, _), (12, _), (13, _)] ⟨rfl, rfl, rfl, rfl, rfl, rfl, rfl, trivial⟩ ?_
                  clear hK1 hK2 hK3 hK4 hK6 hK7 hK8 hK9 hK10 hK12 hK13 hK14 hK15 hK16 hK18 hK19 hK20 hK21 hK22 hK23 hK24 hK25 hK26 hK27 hK29 hK30 hK31 hK32 hK33 hK34 hK38 hK39 hK40
                  refine Hd.thenN ?_
                  exact Hd.again (n + 1, cutAll (dueI now' s) qu, restI now' s, now', k2) (by first | omega | (simp only; omega) | (simp; omega)) (by repeat (first | exact trivial | refine ⟨rfl, ?_⟩)) (Ent.sep (.pure ⟨by show n + 1 ≤ 200; omega, by show (restI now' s).length ≤ xs.length; omega, hof.rest now', hni.1, by show now' ≤ 1048576 * ((n + 1 : Nat) : Int); omega, .inr hgt2, hcnt2⟩ enn))
        ·
          try simp only [decide_eq_true_eq, decide_eq_false_iff_not, Bool.and_eq_true, Bool.or_eq_true, Bool.and_eq_false_iff, Bool.or_eq_false_iff, Bool.not_eq_true', Bool.not_eq_false', Bool.not_eq_true, Bool.not_eq_false, Int.not_lt, Int.not_le, Decidable.not_not, ne_eq] at hc3
          have hn : n = 200 := by omega
          have hne : lim ≠ NV := fun h => by have := (hp2.2.2.2.2.2.2 h); omega
          refine Hd.exit ?_
          refine Hd.thenExit ?_
          refine Hd.thenExit ?_
          refine Hd.inBexit ?_
          refine Hd.toK hK20 ?_
          refine Hd.seq (fun K42 hK42 => ?_)
          refine Hd.region ?_
          refine Hd.yv (y_move rfl) ?_
          refine Hd.yv (y_move rfl) ?_
          refine Hd.yg rfl rfl (y_move rfl) ?_
          refine Hd.yg rfl rfl (y_to (y_neq rfl rfl) (congrArg Value.bool (decide_eq_true (hne)))) ?_
          first | (refine Hd.yv (y_pickT rfl rfl) ?_) | (refine Hd.yv (y_pickF rfl rfl) ?_) | (refine Hd.yv (y_pickb rfl rfl rfl) ?_) | (refine Hd.yv (y_pick rfl rfl rfl) ?_)
          refine Hd.yv (y_assign rfl) ?_
          refine Hd.nil ?_
          refine Hd.slots [(6, _)] ⟨rfl, trivial⟩ ?_
          refine Hd.toK hK42 ?_
          refine Hd.ret ?_
          clear hK1 hK2 hK3 hK4 hK6 hK7 hK8 hK9 hK10 hK12 hK13 hK14 hK15 hK16 hK18 hK19 hK20 hK21 hK22 hK23 hK42
          exact Hd.ret1 rfl () (by first | rfl | (simp only [*]; done) | (simp [*]; done)) (Ent.sep enn)
end Tm
end Go.Proofs.Ytdjoofidicoimaa
