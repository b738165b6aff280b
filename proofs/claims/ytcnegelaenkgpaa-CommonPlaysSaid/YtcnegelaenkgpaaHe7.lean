/-
  Heaps: what is due, one by one, and all.
-/
import Derived.Test.YtcnegelaenkgpaaHe6
import Derived.Test.YtcnegelaenkgpaaRxJ
namespace Go.Proofs.Ytcnegelaenkgpaa
set_option linter.unusedSimpArgs false
set_option linter.unusedVariables false
set_option linter.unnecessarySimpa false
open Go.RX Fx
namespace Hp
set_option maxRecDepth 8000
structure HpF (s : List It) : Prop where
  srt : s.Pairwise ltI
  nd : (s.map It.id).Nodup
  len : s.length ≤ 1000000
theorem Hd.hpF {E : World} {n : Nat} {ds : List Deferred} {st : List (Nat × Value)} {L L' : List SP} {K : Act → World → Prop} {b : Nat} {s : List It} (p : Pick L (HpA b s) L') (h : HpF s → Hd E n ds st L K) : Hd E n ds st L K := fun a w f hs => by
  refine h ?_ a w f hs
  obtain ⟨h1, s1, x⟩ := sep.one p hs.2.2.2
  obtain ⟨q, x⟩ := x
  obtain ⟨k1, k2, _, _, _, y, _⟩ := x
  exact ⟨HpOk.srt y, HpOk.nd y, HpOk.len y⟩
def dueI (now : Int) (s : List It) : List It := s.takeWhile fun x => decide (x.at_ ≤ now)
def restI (now : Int) (s : List It) : List It := s.dropWhile fun x => decide (x.at_ ≤ now)
theorem due_of {now : Int} : ∀ {pre rest : List It}, (∀ x ∈ pre, x.at_ ≤ now) → (∀ x r, rest = x :: r → ¬ x.at_ ≤ now) → dueI now (pre ++ rest) = pre ∧ restI now (pre ++ rest) = rest
  | [], rest, _, h => by
    cases rest with
    | nil => exact ⟨rfl, rfl⟩
    | cons x r => have := h x r rfl; unfold dueI restI; simp [this]
  | p :: pre, rest, h1, h2 => by
    have ih := due_of (now := now) (pre := pre) (rest := rest) (fun x hx => h1 x (List.mem_cons.2 (.inr hx))) h2
    have hp := h1 p (List.mem_cons.2 (.inl rfl))
    unfold dueI restI at *
    simp only [List.cons_append, List.takeWhile_cons, List.dropWhile_cons, hp, decide_true, if_true]
    exact ⟨by rw [ih.1], ih.2⟩
theorem due_rest (now : Int) (s : List It) : s.drop (dueI now s).length = restI now s := by
  have h : s = dueI now s ++ restI now s := (List.takeWhile_append_dropWhile ..).symm
  conv => lhs; arg 2; rw [h]
  rw [List.drop_left]
abbrev encA (x : It) : List Value := [aggI x]
set_option maxHeartbeats 2000000 in
theorem duef_ct (L : List SP) (p : Option Addr) (now : Int) : Ct Try.prog 62 #[.pointer p, .int .u64 now] (L) (fun q_ : Nat × Nat => .func (.func 84) #[] #[.pointer (some ⟨q_.1, 0, none⟩), .pointer (some ⟨q_.2, 0, none⟩)]) (fun q_ : Nat × Nat => pt q_.1 [.pointer p] 24 :: pt q_.2 [.int .u64 now] 29 :: L) := by
  refine Ct.of (vs := [.pointer p, .int .u64 now]) Try.func62 rfl rfl [(0, .pointer p), (1, .int .u64 now)] (by repeat (first | exact trivial | refine ⟨rfl, ?_⟩)) ?_
  intro E
  show Hd E 6 _ _ _ _
  refine Hd.seq (fun K1 hK1 => ?_)
  refine Hd.region ?_
  refine Hd.box rfl rfl (fun b2 => ?_)
  refine Hd.box rfl rfl (fun b3 => ?_)
  refine Hd.yv (y_assign rfl) ?_
  refine Hd.nil ?_
  refine Hd.slots [(2, _), (3, _)] ⟨rfl, rfl, trivial⟩ ?_
  refine Hd.toK hK1 ?_
  refine Hd.seq (fun K2 hK2 => ?_)
  refine Hd.region ?_
  refine Hd.yv (y_mkf (fv := []) (cv := [_, _]) rfl rfl) ?_
  refine Hd.yv (y_assign rfl) ?_
  refine Hd.nil ?_
  refine Hd.slots [(4, _)] ⟨rfl, trivial⟩ ?_
  refine Hd.toK hK2 ?_
  refine Hd.ret ?_
  clear hK1 hK2
  exact Hd.ret1 rfl (b2, b3) rfl (fun k s => Ent.sep (show Ent _ (pt b2 [.pointer p] 24 :: pt b3 [.int .u64 now] 29 :: L) from enn) k s)
theorem due_it (b2 b3 b : Nat) (now : Int) (s : List It) : ItD Try.prog 84 [.pointer (some ⟨b2, 0, none⟩), .pointer (some ⟨b3, 0, none⟩)] encA (fun xs => xs = dueI now s) (fun xs => ∃ r, s = xs ++ r)
    [pt b2 [.pointer (some ⟨b, 0, none⟩)] 24, pt b3 [.int .u64 now] 29, HpA b s] (fun xs => [HpA b (s.drop xs.length)]) := by
  intro l J X hy
  refine Ct.of (vs := [.func (.yield l) #[] #[], .pointer (some ⟨b2, 0, none⟩), .pointer (some ⟨b3, 0, none⟩)]) Try.func84 rfl rfl [(0, .func (.yield l) #[] #[]), (1, .pointer (some ⟨b2, 0, none⟩)), (2, .pointer (some ⟨b3, 0, none⟩))] ⟨rfl, rfl, rfl, trivial⟩ ?_
  intro E
  show Hd E 25 _ _ _ _
  refine Hd.heap (pt b2 [.pointer (some ⟨b, 0, none⟩)] 24 :: pt b3 [.int .u64 now] 29 :: HpA b s :: J []) (fun k h => by have := sep_app h; exact this) ?_
  refine Hd.block ?_
  refine Hd.loopK (ι := List It × List It) [(0, _), (1, _), (2, _)] (fun q_ => []) (fun q_ => pu (s = q_.1 ++ q_.2 ∧ ∀ x ∈ q_.1, x.at_ ≤ now) :: pt b2 [.pointer (some ⟨b, 0, none⟩)] 24 :: pt b3 [.int .u64 now] 29 :: HpA b q_.2 :: J q_.1) (fun q_ => q_.2.length) ([], s) (by repeat (first | exact trivial | refine ⟨rfl, ?_⟩)) (by repeat (first | exact trivial | refine ⟨rfl, ?_⟩)) (Ent.sep (.pure ⟨rfl, fun x hx => by cases hx⟩ enn)) ?_
  rintro ⟨pre, rest⟩
  try dsimp only
  refine Hd.pure (fun hp0 => ?_)
  try dsimp only at hp0
  refine Hd.block ?_
  refine Hd.seq (fun K1 hK1 => ?_)
  refine Hd.region ?_
  first | (refine Hd.yv (y_load1 ag24 rfl (Rd.pt1 pkk (by (first | rfl)))) ?_) | (refine Hd.yv (y_load1 ag24 rfl (Rd.seg1 pkk (by (first | rfl)))) ?_) | (refine Hd.yv (y_loadR1 ag24 rfl (by (first | exact RdS.own pkk)) (by (first | rfl))) ?_)
  refine Hd.callE rfl fk34 (top_ct _ b rest) (Ent.sep enn) ?_
  intro _
  refine Hd.yv (y_move rfl) ?_
  refine Hd.yv (y_extract rfl rfl) ?_
  refine Hd.yv (y_extract rfl rfl) ?_
  refine Hd.alloc zr31 (fun b4 => ?_)
  refine Hd.storeA (us := encI (topI rest).1) sz31 rfl rfl rfl (encI_one _) pkk (by exact rfl) ?_
  refine Hd.yv (y_assign rfl) ?_
  refine Hd.nil ?_
  refine Hd.slots [(0, _), (1, _), (2, _), (4, _), (5, _)] ⟨rfl, rfl, rfl, rfl, rfl, trivial⟩ ?_
  refine Hd.toK hK1 ?_
  refine Hd.seq (fun K2 hK2 => ?_)
  refine Hd.seq (fun K3 hK3 => ?_)
  refine Hd.region ?_
  refine Hd.yv (y_move rfl) ?_
  refine Hd.yv (y_not rfl) ?_
  refine Hd.yv (y_move rfl) ?_
  apply Hd.org 5 13 18 [(0, _), (1, _), (2, _), (4, _)] rfl ⟨rfl, rfl, rfl, rfl, trivial⟩
  · intro hg1_13
    try simp only [decide_eq_true_eq, decide_eq_false_iff_not, Bool.and_eq_true, Bool.or_eq_true, Bool.and_eq_false_iff, Bool.or_eq_false_iff, Bool.not_eq_true', Bool.not_eq_false', Bool.not_eq_true, Bool.not_eq_false, Int.not_lt, Int.not_le, Decidable.not_not, ne_eq] at hg1_13
    simp only [List.take]
    refine Hd.ng rfl rfl rfl ?_
    refine Hd.ng rfl rfl rfl ?_
    refine Hd.ng rfl rfl rfl ?_
    refine Hd.ng rfl rfl rfl ?_
    first | (refine Hd.yv (y_pickT rfl rfl) ?_) | (refine Hd.yv (y_pickF rfl rfl) ?_) | (refine Hd.yv (y_pickb rfl rfl rfl) ?_) | (refine Hd.yv (y_pick rfl rfl rfl) ?_)
    refine Hd.nil ?_
    exact Hd.mend (by repeat (first | exact trivial | refine ⟨rfl, ?_⟩)) (Ent.sep enn)
  · intro hg1_13
    try simp only [decide_eq_true_eq, decide_eq_false_iff_not, Bool.and_eq_true, Bool.or_eq_true, Bool.and_eq_false_iff, Bool.or_eq_false_iff, Bool.not_eq_true', Bool.not_eq_false', Bool.not_eq_true, Bool.not_eq_false, Int.not_lt, Int.not_le, Decidable.not_not, ne_eq] at hg1_13
    simp only [List.take]
    first | (refine Hd.yg rfl rfl (y_field' (q := 1) (ft := 29) Try.underlying31 rfl sz29 rfl rfl) ?_) | (refine Hd.yg rfl rfl (y_fieldR (q := 1) (ft := 29) Try.underlying31 rfl sz29 rfl rfl) ?_)
    first | (refine Hd.yg rfl rfl (y_load1 ag29 rfl (Rd.pt1 pkk (by (first | rfl)))) ?_) | (refine Hd.yg rfl rfl (y_load1 ag29 rfl (Rd.seg1 pkk (by (first | rfl)))) ?_) | (refine Hd.yg rfl rfl (y_loadR1 ag29 rfl (by (first | exact RdS.own pkk)) (by (first | rfl))) ?_)
    first | (refine Hd.yg rfl rfl (y_load1 ag29 rfl (Rd.pt1 pkk (by (first | rfl)))) ?_) | (refine Hd.yg rfl rfl (y_load1 ag29 rfl (Rd.seg1 pkk (by (first | rfl)))) ?_) | (refine Hd.yg rfl rfl (y_loadR1 ag29 rfl (by (first | exact RdS.own pkk)) (by (first | rfl))) ?_)
    refine Hd.yg rfl rfl (y_gtr rfl rfl) ?_
    first | (refine Hd.yv (y_pickT rfl rfl) ?_) | (refine Hd.yv (y_pickF rfl rfl) ?_) | (refine Hd.yv (y_pickb rfl rfl rfl) ?_) | (refine Hd.yv (y_pick rfl rfl rfl) ?_)
    refine Hd.nil ?_
    exact Hd.mend (by repeat (first | exact trivial | refine ⟨rfl, ?_⟩)) (Ent.sep enn)
  simp only [List.drop]
  refine Hd.nil ?_
  refine Hd.slots [(0, _), (1, _), (2, _), (4, _), (18, _)] ⟨rfl, rfl, rfl, rfl, rfl, trivial⟩ ?_
  refine Hd.toK hK3 ?_
  refine Hd.cond rfl (fun hc0 => ?_) (fun hc0 => ?_)
  ·
    try simp only [decide_eq_true_eq, decide_eq_false_iff_not, Bool.and_eq_true, Bool.or_eq_true, Bool.and_eq_false_iff, Bool.or_eq_false_iff, Bool.not_eq_true', Bool.not_eq_false', Bool.not_eq_true, Bool.not_eq_false, Int.not_lt, Int.not_le, Decidable.not_not, ne_eq] at hc0
    refine Hd.ret ?_
    refine Hd.thenRet ?_
    refine Hd.inBret ?_
    refine Hd.thenRet ?_
    refine Hd.inBret ?_
    clear hK1 hK2 hK3
    have hst : ∀ x r, rest = x :: r → ¬ x.at_ ≤ now := fun x r e => by
      subst e
      rcases hc0 with h | h
      · exact absurd h (by simp [topI])
      · simp only [topI] at h; omega
    have hd := due_of hp0.2 hst
    rw [← hp0.1] at hd
    refine Hd.ret0 rfl (pre, true) rfl (fun k' h => ?_)
    have e2 : s.drop pre.length = rest := by rw [hp0.1, List.drop_left]
    have h2 : sep (HpA b rest :: J pre) k' := Ent.sep (show Ent _ (HpA b rest :: J pre) from enn) k' h
    refine Ent.sep (.pure hd.1.symm .same) k' ?_
    show sep (J pre ++ [HpA b (s.drop pre.length)]) k'
    rw [e2]
    exact sep_one' (M := J pre) (N := []) (by rw [List.append_nil]; exact h2)
  ·
    try simp only [decide_eq_true_eq, decide_eq_false_iff_not, Bool.and_eq_true, Bool.or_eq_true, Bool.and_eq_false_iff, Bool.or_eq_false_iff, Bool.not_eq_true', Bool.not_eq_false', Bool.not_eq_true, Bool.not_eq_false, Int.not_lt, Int.not_le, Decidable.not_not, ne_eq] at hc0
    obtain ⟨x, r, rfl⟩ : ∃ x r, rest = x :: r := by
      cases rest with
      | nil => exact absurd hc0.1 (by simp [topI])
      | cons x r => exact ⟨x, r, rfl⟩
    refine Hd.hpF (b := b) pkk (fun hF => ?_)
    have hnd := hF.nd
    have hx : x.at_ ≤ now := by have := hc0.2; simp only [topI] at this; omega
    refine Hd.skip ?_
    refine Hd.toK hK2 ?_
    refine Hd.seq (fun K4 hK4 => ?_)
    refine Hd.region ?_
    first | (refine Hd.yv (y_load1 ag24 rfl (Rd.pt1 pkk (by (first | rfl)))) ?_) | (refine Hd.yv (y_load1 ag24 rfl (Rd.seg1 pkk (by (first | rfl)))) ?_) | (refine Hd.yv (y_loadR1 ag24 rfl (by (first | exact RdS.own pkk)) (by (first | rfl))) ?_)
    refine Hd.callE rfl fk20 (pop_ct _ b (x :: r) hnd) (Ent.sep enn) ?_
    intro _
    simp only [List.tail_cons]
    refine Hd.nil ?_
    refine Hd.slots [(0, _), (1, _), (2, _), (4, _)] ⟨rfl, rfl, rfl, rfl, trivial⟩ ?_
    refine Hd.toK hK4 ?_
    refine Hd.seq (fun K5 hK5 => ?_)
    refine Hd.region ?_
    refine Hd.yv (y_move rfl) ?_
    refine Hd.yv (y_loadn (us := encI x) ag31 rfl (Rd.pt pkk (fun j v e => by rw [Nat.zero_add]; exact e)) (by exact sz31)) ?_
    refine Hd.yield (pre := pre) (c := x) (M := [pt b2 [.pointer (some ⟨b, 0, none⟩)] 24, pt b3 [.int .u64 now] 29, HpA b r]) hy rfl rfl ⟨r, by simp [hp0.1]⟩ (fun k' h => sep_app (show sep ([pt b2 [.pointer (some ⟨b, 0, none⟩)] 24, pt b3 [.int .u64 now] 29, HpA b r] ++ J pre) k' from Ent.sep (show Ent _ (pt b2 [.pointer (some ⟨b, 0, none⟩)] 24 :: pt b3 [.int .u64 now] 29 :: HpA b r :: J pre) from enn) k' h)) ?_
    intro yb
    refine Hd.yv (y_not rfl) ?_
    refine Hd.nil ?_
    refine Hd.slots [(0, _), (1, _), (2, _), (24, _)] ⟨rfl, rfl, rfl, rfl, trivial⟩ ?_
    refine Hd.toK hK5 ?_
    refine Hd.cond rfl (fun hc1 => ?_) (fun hc1 => ?_)
    ·
      try simp only [decide_eq_true_eq, decide_eq_false_iff_not, Bool.and_eq_true, Bool.or_eq_true, Bool.and_eq_false_iff, Bool.or_eq_false_iff, Bool.not_eq_true', Bool.not_eq_false', Bool.not_eq_true, Bool.not_eq_false, Int.not_lt, Int.not_le, Decidable.not_not, ne_eq] at hc1
      subst hc1
      simp only [cond_false]
      refine Hd.ret ?_
      refine Hd.inBret ?_
      refine Hd.thenRet ?_
      refine Hd.inBret ?_
      clear hK1 hK2 hK3 hK4 hK5
      refine Hd.ret0 rfl (pre ++ [x], false) rfl (fun k' h => Ent.sep (.pure ⟨r, by simp [hp0.1]⟩ .same) k' ?_)
      show sep (X (pre ++ [x]) ++ [HpA b (s.drop (pre ++ [x]).length)]) k'
      have e2 : s.drop (pre ++ [x]).length = r := by rw [hp0.1, show pre ++ x :: r = (pre ++ [x]) ++ r by simp, List.drop_left]
      rw [e2]
      exact sep_right (fun k s => Ent.sep (show Ent [pt b2 [.pointer (some ⟨b, 0, none⟩)] 24, pt b3 [.int .u64 now] 29, HpA b r] [HpA b r] from enn) k s) h
    ·
      try simp only [decide_eq_true_eq, decide_eq_false_iff_not, Bool.and_eq_true, Bool.or_eq_true, Bool.and_eq_false_iff, Bool.or_eq_false_iff, Bool.not_eq_true', Bool.not_eq_false', Bool.not_eq_true, Bool.not_eq_false, Int.not_lt, Int.not_le, Decidable.not_not, ne_eq] at hc1
      subst hc1
      simp only [cond_true]
      refine Hd.heap (pt b2 [.pointer (some ⟨b, 0, none⟩)] 24 :: pt b3 [.int .u64 now] 29 :: HpA b r :: J (pre ++ [x])) (fun k' h => sep_app h) ?_
      refine Hd.skip ?_
      refine Hd.inB ?_
      clear hK1 hK2 hK3 hK4 hK5
      refine Hd.thenN ?_
      have hall : ∀ y ∈ pre ++ [x], y.at_ ≤ now := by
        intro y hy
        rcases List.mem_append.1 hy with h | h
        · exact hp0.2 y h
        · obtain rfl : y = x := by simpa using h
          exact hx
      exact Hd.again (pre ++ [x], r) (by simp) (by repeat (first | exact trivial | refine ⟨rfl, ?_⟩)) (Ent.sep (.pure ⟨by simp [hp0.1], hall⟩ enn))
/-- the items one behind the other in a slice, held in a block -/
abbrev OutI (b : Nat) (xs : List It) : SP := RX.ex fun i : Option Addr × Nat => [pt b [.slice i.1 xs.length i.2] 22, OwI i.1 xs.length i.2 xs]
set_option maxHeartbeats 2000000 in
theorem due_ct (L : List SP) (b : Nat) (s : List It) (now : Int) : Ct Try.prog 27 #[.pointer (some ⟨b, 0, none⟩), .int .u64 now] (HpA b s :: L) (fun q_ : Option Addr × Nat => .slice q_.1 (dueI now s).length q_.2) (fun q_ : Option Addr × Nat => OwI q_.1 (dueI now s).length q_.2 (dueI now s) :: HpA b (restI now s) :: L) := by
  refine Ct.ofM (vs := [.pointer (some ⟨b, 0, none⟩), .int .u64 now]) Try.func27 rfl rfl [(0, .pointer (some ⟨b, 0, none⟩)), (1, .int .u64 now)] (by repeat (first | exact trivial | refine ⟨rfl, ?_⟩)) ?_
  intro E
  show Hd E 16 _ _ _ _
  refine Hd.hpF (b := b) .here (fun hF => ?_)
  refine Hd.seq (fun K1 hK1 => ?_)
  refine Hd.region ?_
  refine Hd.yv (y_assign rfl) ?_
  refine Hd.nil ?_
  refine Hd.slots [(0, _), (1, _)] ⟨rfl, rfl, trivial⟩ ?_
  refine Hd.toK hK1 ?_
  refine Hd.seq (fun K2 hK2 => ?_)
  refine Hd.region ?_
  refine Hd.alloc zr22 (fun b5 => ?_)
  refine Hd.nil ?_
  refine Hd.slots [(0, _), (1, _), (5, _)] ⟨rfl, rfl, rfl, trivial⟩ ?_
  refine Hd.toK hK2 ?_
  refine Hd.seq (fun K3 hK3 => ?_)
  refine Hd.seq (fun K4 hK4 => ?_)
  refine Hd.region ?_
  refine Hd.yv (y_move rfl) ?_
  refine Hd.yv (y_move rfl) ?_
  refine Hd.callE rfl fk62 (duef_ct _ (some ⟨b, 0, none⟩) now) (Ent.sep enn) ?_
  rintro ⟨b2, b3⟩
  dsimp only
  refine Hd.nil ?_
  refine Hd.slots [(5, _), (9, _)] ⟨rfl, rfl, trivial⟩ ?_
  refine Hd.toK hK4 ?_
  refine Hd.block ?_
  refine Hd.rangeD (enc := encA) (S := fun xs => xs = dueI now s) (Sp := fun xs => ∃ r, s = xs ++ r)
    (fun pre => OutI b5 pre :: L) (fun _ _ => [pu False])
    rfl (by kernel_rfl) (fun _ => rfl) rfl (due_it b2 b3 b now s) (Ent.sep (.ex (none, 0) (.eq pkk (pt_eq (by rfl)) (.ownNil Ent.three)))) ?_ ?_ ?_
  ·
    intro E l' R pre c N hR hG
    have hpl : pre.length + 1 ≤ 1000000 := by obtain ⟨r, e⟩ := hG; have h1 := hF.len; rw [e] at h1; simp at h1; omega
    unfold Rnd
    simp only [List.cons_append, List.nil_append, pz, encA]
    refine Hd.region ?_
    refine Hd.alloc zr31 (fun b6 => ?_)
    refine Hd.storeA (us := encI c) sz31 rfl rfl rfl (encI_one _) pkk (by exact rfl) ?_
    refine Hd.nil ?_
    refine Hd.slots [(5, _), (6, _)] ⟨rfl, rfl, trivial⟩ ?_
    refine Hd.thenN ?_
    refine Hd.begin hR pkk ?_
    refine Hd.block ?_
    refine Hd.exs pkk ?_
    rintro ⟨ad, cap⟩
    simp only [List.cons_append, List.nil_append]
    refine Hd.region ?_
    first | (refine Hd.yv (y_load1 ag22 rfl (Rd.pt1 pkk (by (first | rfl)))) ?_) | (refine Hd.yv (y_load1 ag22 rfl (Rd.seg1 pkk (by (first | rfl)))) ?_) | (refine Hd.yv (y_loadR1 ag22 rfl (by (first | exact RdS.own pkk)) (by (first | rfl))) ?_)
    refine Hd.yv (y_loadn (us := encI c) ag31 rfl (Rd.pt pkk (fun j v e => by rw [Nat.zero_add]; exact e)) (by exact sz31)) ?_
    refine Hd.bslice (vs := [(0, _)]) rfl (by first | exact bs27_13 .. | kernel_rfl) (fun b13 => ?_)
    refine Hd.append Try.underlying22 ty31 rfl rfl rfl pkk (by first | exact RdS.rd (Rd.pt pkk (fun j v e => by simpa using e)) rfl | (first | exact RdS.own pkk)) (by first | (simp [Value.oneCell']; done) | assumption) (by first | (simp only [maxLen]; omega) | assumption) (by omega) (fun ad14 cap14 => ?_)
    first | (refine Hd.store1 sz22 rfl rfl rfl pkk (by first | decide | (simp; done) | (simp; omega)) ?_) | (refine Hd.storeG1 sz22 rfl rfl rfl pkk (by first | decide | (simp; done) | (simp; omega)) ?_) | (refine Hd.storeO1 sz22 rfl rfl rfl pkk (by first | omega | (simp; done) | (simp; omega)) ?_)
    try simp only [List.set_cons_zero, List.set_cons_succ]
    refine Hd.nil ?_
    skip
    refine Hd.slots [(5, _)] ⟨rfl, trivial⟩ ?_
    refine Hd.inB ?_
    clear hK1 hK2 hK3 hK4
    refine Hd.reN ?_
    simp only [List.cons_append, List.nil_append]
    exact Ent.sep (.pick pkk (.ex (ad14, cap14) (.eq pkk (pt_eq (by simp)) (.eq pkk (own_eq (by simp) (by simp)) enn))))
  ·
    intro r0 xs hxs
    have hxs' : xs = dueI now s := hxs
    simp only [List.cons_append, List.nil_append]
    refine Hd.inB ?_
    refine Hd.toK hK3 ?_
    refine Hd.seq (fun K5 hK5 => ?_)
    refine Hd.exs pkk ?_
    rintro ⟨ad, cap⟩
    simp only [List.cons_append, List.nil_append]
    refine Hd.region ?_
    first | (refine Hd.yv (y_load1 ag22 rfl (Rd.pt1 pkk (by (first | rfl)))) ?_) | (refine Hd.yv (y_load1 ag22 rfl (Rd.seg1 pkk (by (first | rfl)))) ?_) | (refine Hd.yv (y_loadR1 ag22 rfl (by (first | exact RdS.own pkk)) (by (first | rfl))) ?_)
    refine Hd.yv (y_assign rfl) ?_
    refine Hd.nil ?_
    refine Hd.slots [(4, _)] ⟨rfl, trivial⟩ ?_
    refine Hd.toK hK5 ?_
    refine Hd.ret ?_
    clear hK1 hK2 hK3 hK4 hK5
    rw [hxs']
    exact Hd.retM (fun a fr => Lv.mark pkk (Lv.end1 fr rfl (ad, cap) rfl (Ent.sep (.pick pkk (.eq pkk (HpA_eq (due_rest now s)) enn)))))
  ·
    rintro r0_0 (_ | id0) pre0 hG0
    ·
      exact Hd.absurd (by first | exact id | simp)
    ·
      exact Hd.absurd (by first | exact id | simp)
end Hp
end Go.Proofs.Ytcnegelaenkgpaa
