/-
  Sets of deadlines: Len; what is due, one by one, and all.
-/
import Derived.Test.YtdjoofidicoimaaCo8
namespace Go.Proofs.Ytdjoofidicoimaa
set_option linter.unusedSimpArgs false
set_option linter.unusedVariables false
set_option linter.unnecessarySimpa false
open Go.RX Fx Hp
namespace Cm
set_option maxRecDepth 8000
set_option maxHeartbeats 2000000 in
theorem clen_ct (L : List SP) (o : Nat) (qs : List Q) (s : List It) (nx : Int) : Ct Try.prog 41 #[.pointer (some ⟨o, 0, none⟩)] (CoA o qs s nx :: L) (fun _ : Unit => .int .i64 (s.length : Int)) (fun _ : Unit => CoA o qs s nx :: L) := by
  refine Ct.of (vs := [.pointer (some ⟨o, 0, none⟩)]) Try.func41 rfl rfl [(0, .pointer (some ⟨o, 0, none⟩))] (by repeat (first | exact trivial | refine ⟨rfl, ?_⟩)) ?_
  intro E
  show Hd E 6 _ _ _ _
  refine Hd.seq (fun K1 hK1 => ?_)
  refine Hd.region ?_
  refine Hd.yv (y_assign rfl) ?_
  refine Hd.nil ?_
  refine Hd.slots [(0, _)] ⟨rfl, trivial⟩ ?_
  refine Hd.toK hK1 ?_
  refine Hd.seq (fun K2 hK2 => ?_)
  refine Hd.region ?_
  refine Hd.yv (y_move rfl) ?_
  refine Hd.callE rfl fk58 (call_ct L o qs s nx) (Ent.sep enn) ?_
  rintro ⟨a2, c2⟩
  dsimp only
  refine Hd.yv (y_len Try.underlying77 rfl) ?_
  refine Hd.yv (y_assign rfl) ?_
  refine Hd.nil ?_
  refine Hd.slots [(2, _)] ⟨rfl, trivial⟩ ?_
  refine Hd.toK hK2 ?_
  refine Hd.ret ?_
  clear hK1 hK2
  exact Hd.ret1 rfl () (by first | rfl | (simp only [*]; done) | (simp [*]; done)) (Ent.sep enn)
/-- what is known of a set's items and queues -/
def CoF (qs : List Q) (s : List It) (nx : Int) : Prop := ∃ hs f, Ok qs s nx hs f
theorem Hd.coF {E : World} {n : Nat} {ds : List Deferred} {st : List (Nat × Value)} {L L' : List SP} {K : Act → World → Prop} {o : Nat} {qs : List Q} {s : List It} {nx : Int} (p : Pick L (CoA o qs s nx) L') (h : CoF qs s nx → Hd E n ds st L K) : Hd E n ds st L K := fun a w f hs => by
  refine h ?_ a w f hs
  obtain ⟨h1, s1, x⟩ := sep.one p hs.2.2.2
  obtain ⟨c, x⟩ := x
  obtain ⟨k1, k2, _, _, _, y, _⟩ := x
  exact ⟨_, _, y.1⟩
theorem CoF.hF {qs : List Q} {s : List It} {nx : Int} (h : CoF qs s nx) : HpF s := by obtain ⟨_, _, h⟩ := h; exact h.hF
theorem rem_head {x : It} {r : List It} (hF : HpF (x :: r)) : remI x.id (x :: r) = r := by
  have hnd := hF.nd
  rw [List.map_cons, List.nodup_cons] at hnd
  unfold remI
  rw [List.filter_cons, if_neg (by simp)]
  exact remI_no fun y hy e => hnd.1 (List.mem_map.2 ⟨y, hy, e⟩)
theorem hpf_tail {x : It} {r : List It} (hF : HpF (x :: r)) : HpF r := ⟨(List.pairwise_cons.1 hF.srt).2, by have := hF.nd; rw [List.map_cons, List.nodup_cons] at this; exact this.2, by have := hF.len; simp at this; omega⟩
/-- the queues behind what was cut, the first one first -/
def cutAll (l : List It) (qs : List Q) : List Q := l.foldl (fun a x => cutQ x.id a) qs
theorem cutAll_snoc (l : List It) (x : It) (qs : List Q) : cutAll (l ++ [x]) qs = cutQ x.id (cutAll l qs) := by unfold cutAll; rw [List.foldl_append]; rfl
theorem cutAll_cons (l : List It) (x : It) (qs : List Q) : cutAll (x :: l) qs = cutAll l (cutQ x.id qs) := rfl
abbrev encB (x : It) : List Value := [aggI x]
set_option maxHeartbeats 2000000 in
theorem duef_ct (L : List SP) (p : Option Addr) (now : Int) : Ct Try.prog 60 #[.pointer p, .int .u64 now] (L) (fun q_ : Nat × Nat => .func (.func 73) #[] #[.pointer (some ⟨q_.1, 0, none⟩), .pointer (some ⟨q_.2, 0, none⟩)]) (fun q_ : Nat × Nat => pt q_.1 [.pointer p] 62 :: pt q_.2 [.int .u64 now] 23 :: L) := by
  refine Ct.of (vs := [.pointer p, .int .u64 now]) Try.func60 rfl rfl [(0, .pointer p), (1, .int .u64 now)] (by repeat (first | exact trivial | refine ⟨rfl, ?_⟩)) ?_
  intro E
  show Hd E 6 _ _ _ _
  refine Hd.seq (fun K1 hK1 => ?_)
  refine Hd.region ?_
  refine Hd.box rfl rfl (fun b2 => ?_)
  refine Hd.box rfl rfl (fun b3 => ?_)
  refine Hd.yv (y_assign rfl) ?_
  refine Hd.nil ?_
  refine Hd.slots [(2, _), (3, _)] ⟨rfl, rfl, trivial⟩ ?_
  refine Hd.toK hK1 ?_
  refine Hd.seq (fun K2 hK2 => ?_)
  refine Hd.region ?_
  refine Hd.yv (y_mkf (fv := []) (cv := [_, _]) rfl rfl) ?_
  refine Hd.yv (y_assign rfl) ?_
  refine Hd.nil ?_
  refine Hd.slots [(4, _)] ⟨rfl, trivial⟩ ?_
  refine Hd.toK hK2 ?_
  refine Hd.ret ?_
  clear hK1 hK2
  exact Hd.ret1 rfl (b2, b3) rfl (fun k s => Ent.sep (show Ent _ (pt b2 [.pointer p] 62 :: pt b3 [.int .u64 now] 23 :: L) from enn) k s)
theorem due_it (b2 b3 o : Nat) (now : Int) (qs : List Q) (s : List It) (nx : Int) (hlen : s.length < 999900) : ItD Try.prog 73 [.pointer (some ⟨b2, 0, none⟩), .pointer (some ⟨b3, 0, none⟩)] encB (fun xs => xs = dueI now s) (fun xs => ∃ r, s = xs ++ r)
    [pt b2 [.pointer (some ⟨o, 0, none⟩)] 62, pt b3 [.int .u64 now] 23, CoA o qs s nx] (fun xs => [CoA o (cutAll xs qs) (s.drop xs.length) nx]) := by
  intro l J X hy
  refine Ct.of (vs := [.func (.yield l) #[] #[], .pointer (some ⟨b2, 0, none⟩), .pointer (some ⟨b3, 0, none⟩)]) Try.func73 rfl rfl [(0, .func (.yield l) #[] #[]), (1, .pointer (some ⟨b2, 0, none⟩)), (2, .pointer (some ⟨b3, 0, none⟩))] ⟨rfl, rfl, rfl, trivial⟩ ?_
  intro E
  show Hd E 27 _ _ _ _
  refine Hd.heap (pt b2 [.pointer (some ⟨o, 0, none⟩)] 62 :: pt b3 [.int .u64 now] 23 :: CoA o qs s nx :: J []) (fun k h => by have := sep_app h; exact this) ?_
  refine Hd.scope ?_
  refine Hd.seq (fun K1 hK1 => ?_)
  refine Hd.label ?_
  refine Hd.toK hK1 ?_
  refine Hd.block ?_
  refine Hd.loopK (ι := List It × List It) [(0, _), (1, _), (2, _)] (fun q_ => []) (fun q_ => pu (s = q_.1 ++ q_.2 ∧ ∀ x ∈ q_.1, x.at_ ≤ now) :: pt b2 [.pointer (some ⟨o, 0, none⟩)] 62 :: pt b3 [.int .u64 now] 23 :: CoA o (cutAll q_.1 qs) q_.2 nx :: J q_.1) (fun q_ => q_.2.length) ([], s) (by repeat (first | exact trivial | refine ⟨rfl, ?_⟩)) (by repeat (first | exact trivial | refine ⟨rfl, ?_⟩)) (Ent.sep (.pure ⟨rfl, fun x hx => by cases hx⟩ enn)) ?_
  rintro ⟨pre, rest⟩
  try dsimp only
  refine Hd.pure (fun hp0 => ?_)
  try dsimp only at hp0
  refine Hd.block ?_
  refine Hd.seq (fun K2 hK2 => ?_)
  refine Hd.region ?_
  first | (refine Hd.yv (y_load1 ag62 rfl (Rd.pt1 pkk (by (first | rfl)))) ?_) | (refine Hd.yv (y_load1 ag62 rfl (Rd.seg1 pkk (by (first | rfl)))) ?_) | (refine Hd.yv (y_loadR1 ag62 rfl (by (first | exact RdS.own pkk)) (by (first | rfl))) ?_)
  refine Hd.callE rfl fk38 (ctop_ct _ o (cutAll pre qs) rest nx) (Ent.sep enn) ?_
  intro _
  refine Hd.yv (y_move rfl) ?_
  refine Hd.yv (y_extract rfl rfl) ?_
  refine Hd.yv (y_extract rfl rfl) ?_
  refine Hd.alloc zr69 (fun b4 => ?_)
  refine Hd.storeA (us := Hp.encI (topI rest).1) sz69 rfl rfl rfl (encI_one _) pkk (by exact rfl) ?_
  refine Hd.yv (y_assign rfl) ?_
  refine Hd.nil ?_
  refine Hd.slots [(0, _), (1, _), (2, _), (4, _), (5, _)] ⟨rfl, rfl, rfl, rfl, rfl, trivial⟩ ?_
  refine Hd.toK hK2 ?_
  refine Hd.seq (fun K3 hK3 => ?_)
  refine Hd.seq (fun K4 hK4 => ?_)
  refine Hd.region ?_
  refine Hd.yv (y_move rfl) ?_
  refine Hd.yv (y_not rfl) ?_
  refine Hd.yv (y_move rfl) ?_
  apply Hd.org 5 13 18 [(0, _), (1, _), (2, _), (4, _)] rfl ⟨rfl, rfl, rfl, rfl, trivial⟩
  · intro hg1_13
    try simp only [decide_eq_true_eq, decide_eq_false_iff_not, Bool.and_eq_true, Bool.or_eq_true, Bool.and_eq_false_iff, Bool.or_eq_false_iff, Bool.not_eq_true', Bool.not_eq_false', Bool.not_eq_true, Bool.not_eq_false, Int.not_lt, Int.not_le, Decidable.not_not, ne_eq] at hg1_13
    simp only [List.take]
    refine Hd.ng rfl rfl rfl ?_
    refine Hd.ng rfl rfl rfl ?_
    refine Hd.ng rfl rfl rfl ?_
    refine Hd.ng rfl rfl rfl ?_
    first | (refine Hd.yv (y_pickT rfl rfl) ?_) | (refine Hd.yv (y_pickF rfl rfl) ?_) | (refine Hd.yv (y_pickb rfl rfl rfl) ?_) | (refine Hd.yv (y_pick rfl rfl rfl) ?_)
    refine Hd.nil ?_
    exact Hd.mend (by repeat (first | exact trivial | refine ⟨rfl, ?_⟩)) (Ent.sep enn)
  · intro hg1_13
    try simp only [decide_eq_true_eq, decide_eq_false_iff_not, Bool.and_eq_true, Bool.or_eq_true, Bool.and_eq_false_iff, Bool.or_eq_false_iff, Bool.not_eq_true', Bool.not_eq_false', Bool.not_eq_true, Bool.not_eq_false, Int.not_lt, Int.not_le, Decidable.not_not, ne_eq] at hg1_13
    simp only [List.take]
    first | (refine Hd.yg rfl rfl (y_field' (q := 1) (ft := 23) Try.underlying69 rfl sz23 rfl rfl) ?_) | (refine Hd.yg rfl rfl (y_fieldR (q := 1) (ft := 23) Try.underlying69 rfl sz23 rfl rfl) ?_)
    first | (refine Hd.yg rfl rfl (y_load1 ag23 rfl (Rd.pt1 pkk (by (first | rfl)))) ?_) | (refine Hd.yg rfl rfl (y_load1 ag23 rfl (Rd.seg1 pkk (by (first | rfl)))) ?_) | (refine Hd.yg rfl rfl (y_loadR1 ag23 rfl (by (first | exact RdS.own pkk)) (by (first | rfl))) ?_)
    first | (refine Hd.yg rfl rfl (y_load1 ag23 rfl (Rd.pt1 pkk (by (first | rfl)))) ?_) | (refine Hd.yg rfl rfl (y_load1 ag23 rfl (Rd.seg1 pkk (by (first | rfl)))) ?_) | (refine Hd.yg rfl rfl (y_loadR1 ag23 rfl (by (first | exact RdS.own pkk)) (by (first | rfl))) ?_)
    refine Hd.yg rfl rfl (y_gtr rfl rfl) ?_
    first | (refine Hd.yv (y_pickT rfl rfl) ?_) | (refine Hd.yv (y_pickF rfl rfl) ?_) | (refine Hd.yv (y_pickb rfl rfl rfl) ?_) | (refine Hd.yv (y_pick rfl rfl rfl) ?_)
    refine Hd.nil ?_
    exact Hd.mend (by repeat (first | exact trivial | refine ⟨rfl, ?_⟩)) (Ent.sep enn)
  simp only [List.drop]
  refine Hd.nil ?_
  refine Hd.slots [(0, _), (1, _), (2, _), (4, _), (18, _)] ⟨rfl, rfl, rfl, rfl, rfl, trivial⟩ ?_
  refine Hd.toK hK4 ?_
  refine Hd.cond rfl (fun hc0 => ?_) (fun hc0 => ?_)
  ·
    try simp only [decide_eq_true_eq, decide_eq_false_iff_not, Bool.and_eq_true, Bool.or_eq_true, Bool.and_eq_false_iff, Bool.or_eq_false_iff, Bool.not_eq_true', Bool.not_eq_false', Bool.not_eq_true, Bool.not_eq_false, Int.not_lt, Int.not_le, Decidable.not_not, ne_eq] at hc0
    refine Hd.exit ?_
    refine Hd.thenExit ?_
    refine Hd.inBexit' rfl ?_
    refine Hd.thenExit ?_
    refine Hd.inBexit ?_
    refine Hd.scNorm ?_
    clear hK1 hK2 hK3 hK4
    have hst : ∀ x r, rest = x :: r → ¬ x.at_ ≤ now := fun x r e => by
      subst e
      rcases hc0 with h | h
      · exact absurd h (by simp [topI])
      · simp only [topI] at h; omega
    have hd := due_of hp0.2 hst
    rw [← hp0.1] at hd
    refine Hd.end0 rfl (pre, true) rfl (fun k' h => ?_)
    have e2 : s.drop pre.length = rest := by rw [hp0.1, List.drop_left]
    have h2 : sep (CoA o (cutAll pre qs) rest nx :: J pre) k' := Ent.sep (show Ent _ (CoA o (cutAll pre qs) rest nx :: J pre) from enn) k' h
    refine Ent.sep (.pure hd.1.symm .same) k' ?_
    show sep (J pre ++ [CoA o (cutAll pre qs) (s.drop pre.length) nx]) k'
    rw [e2]
    exact sep_one' (M := J pre) (N := []) (by rw [List.append_nil]; exact h2)
  ·
    try simp only [decide_eq_true_eq, decide_eq_false_iff_not, Bool.and_eq_true, Bool.or_eq_true, Bool.and_eq_false_iff, Bool.or_eq_false_iff, Bool.not_eq_true', Bool.not_eq_false', Bool.not_eq_true, Bool.not_eq_false, Int.not_lt, Int.not_le, Decidable.not_not, ne_eq] at hc0
    obtain ⟨x, r, rfl⟩ : ∃ x r, rest = x :: r := by
      cases rest with
      | nil => exact absurd hc0.1 (by simp [topI])
      | cons x r => exact ⟨x, r, rfl⟩
    refine Hd.coF (o := o) pkk (fun hcf => ?_)
    have hF := hcf.hF
    have hx : x.at_ ≤ now := by have := hc0.2; simp only [topI] at this; omega
    have hrl : (x :: r).length ≤ s.length := by rw [hp0.1, List.length_append]; omega
    refine Hd.skip ?_
    refine Hd.toK hK3 ?_
    refine Hd.seq (fun K5 hK5 => ?_)
    refine Hd.region ?_
    first | (refine Hd.yv (y_load1 ag62 rfl (Rd.pt1 pkk (by (first | rfl)))) ?_) | (refine Hd.yv (y_load1 ag62 rfl (Rd.seg1 pkk (by (first | rfl)))) ?_) | (refine Hd.yv (y_loadR1 ag62 rfl (by (first | exact RdS.own pkk)) (by (first | rfl))) ?_)
    first | (refine Hd.yv (y_field' (q := 0) (ft := 3) Try.underlying69 rfl sz3 rfl rfl) ?_) | (refine Hd.yv (y_fieldR (q := 0) (ft := 3) Try.underlying69 rfl sz3 rfl rfl) ?_)
    first | (refine Hd.yv (y_load1 ag3 rfl (Rd.pt1 pkk (by (first | rfl)))) ?_) | (refine Hd.yv (y_load1 ag3 rfl (Rd.seg1 pkk (by (first | rfl)))) ?_) | (refine Hd.yv (y_loadR1 ag3 rfl (by (first | exact RdS.own pkk)) (by (first | rfl))) ?_)
    refine Hd.callE rfl fk45 (cut_ct _ o (cutAll pre qs) (x :: r) nx (by omega) x.id) (Ent.sep enn) ?_
    intro _
    rw [rem_head hF, ← cutAll_snoc]
    refine Hd.nil ?_
    refine Hd.slots [(0, _), (1, _), (2, _), (4, _)] ⟨rfl, rfl, rfl, rfl, trivial⟩ ?_
    refine Hd.toK hK5 ?_
    refine Hd.seq (fun K6 hK6 => ?_)
    refine Hd.region ?_
    refine Hd.yv (y_move rfl) ?_
    refine Hd.yv (y_loadn (us := Hp.encI x) ag69 rfl (Rd.pt pkk (fun j v e => by rw [Nat.zero_add]; exact e)) (by exact sz69)) ?_
    refine Hd.yield (pre := pre) (c := x) (M := [pt b2 [.pointer (some ⟨o, 0, none⟩)] 62, pt b3 [.int .u64 now] 23, CoA o (cutAll (pre ++ [x]) qs) r nx]) hy rfl rfl ⟨r, by simp [hp0.1]⟩ (fun k' h => sep_app (show sep ([pt b2 [.pointer (some ⟨o, 0, none⟩)] 62, pt b3 [.int .u64 now] 23, CoA o (cutAll (pre ++ [x]) qs) r nx] ++ J pre) k' from Ent.sep (show Ent _ (pt b2 [.pointer (some ⟨o, 0, none⟩)] 62 :: pt b3 [.int .u64 now] 23 :: CoA o (cutAll (pre ++ [x]) qs) r nx :: J pre) from enn) k' h)) ?_
    intro yb
    refine Hd.yv (y_not rfl) ?_
    refine Hd.nil ?_
    refine Hd.slots [(0, _), (1, _), (2, _), (26, _)] ⟨rfl, rfl, rfl, rfl, trivial⟩ ?_
    refine Hd.toK hK6 ?_
    refine Hd.cond rfl (fun hc1 => ?_) (fun hc1 => ?_)
    ·
      try simp only [decide_eq_true_eq, decide_eq_false_iff_not, Bool.and_eq_true, Bool.or_eq_true, Bool.and_eq_false_iff, Bool.or_eq_false_iff, Bool.not_eq_true', Bool.not_eq_false', Bool.not_eq_true, Bool.not_eq_false, Int.not_lt, Int.not_le, Decidable.not_not, ne_eq] at hc1
      subst hc1
      simp only [cond_false]
      refine Hd.ret ?_
      refine Hd.inBret ?_
      refine Hd.thenRet ?_
      refine Hd.inBret ?_
      refine Hd.scRet ?_
      clear hK1 hK2 hK3 hK4 hK5 hK6
      refine Hd.ret0 rfl (pre ++ [x], false) rfl (fun k' h => Ent.sep (.pure ⟨r, by simp [hp0.1]⟩ .same) k' ?_)
      show sep (X (pre ++ [x]) ++ [CoA o (cutAll (pre ++ [x]) qs) (s.drop (pre ++ [x]).length) nx]) k'
      have e2 : s.drop (pre ++ [x]).length = r := by rw [hp0.1, show pre ++ x :: r = (pre ++ [x]) ++ r by simp, List.drop_left]
      rw [e2]
      exact sep_right (fun k s => Ent.sep (show Ent [pt b2 [.pointer (some ⟨o, 0, none⟩)] 62, pt b3 [.int .u64 now] 23, CoA o (cutAll (pre ++ [x]) qs) r nx] [CoA o (cutAll (pre ++ [x]) qs) r nx] from enn) k s) h
    ·
      try simp only [decide_eq_true_eq, decide_eq_false_iff_not, Bool.and_eq_true, Bool.or_eq_true, Bool.and_eq_false_iff, Bool.or_eq_false_iff, Bool.not_eq_true', Bool.not_eq_false', Bool.not_eq_true, Bool.not_eq_false, Int.not_lt, Int.not_le, Decidable.not_not, ne_eq] at hc1
      subst hc1
      simp only [cond_true]
      refine Hd.heap (pt b2 [.pointer (some ⟨o, 0, none⟩)] 62 :: pt b3 [.int .u64 now] 23 :: CoA o (cutAll (pre ++ [x]) qs) r nx :: J (pre ++ [x])) (fun k' h => sep_app h) ?_
      refine Hd.skip ?_
      refine Hd.inB ?_
      clear hK1 hK2 hK3 hK4 hK5 hK6
      refine Hd.thenN ?_
      have hall : ∀ y ∈ pre ++ [x], y.at_ ≤ now := by
        intro y hy
        rcases List.mem_append.1 hy with h | h
        · exact hp0.2 y h
        · obtain rfl : y = x := by simpa using h
          exact hx
      exact Hd.again (pre ++ [x], r) (by simp) (by repeat (first | exact trivial | refine ⟨rfl, ?_⟩)) (Ent.sep (.pure ⟨by simp [hp0.1], hall⟩ enn))
theorem CoA_eq {o : Nat} {qs qs' : List Q} {s s' : List It} {nx : Int} (h1 : qs = qs') (h2 : s = s') : CoA o qs s nx = CoA o qs' s' nx := by rw [h1, h2]
set_option maxHeartbeats 2000000 in
theorem cdue_ct (L : List SP) (o : Nat) (qs : List Q) (s : List It) (nx : Int) (hlen : s.length < 999900) (now : Int) : Ct Try.prog 43 #[.pointer (some ⟨o, 0, none⟩), .int .u64 now] (CoA o qs s nx :: L) (fun q_ : Option Addr × Nat => .slice q_.1 (dueI now s).length q_.2) (fun q_ : Option Addr × Nat => OwI q_.1 (dueI now s).length q_.2 (dueI now s) :: CoA o (cutAll (dueI now s) qs) (restI now s) nx :: L) := by
  refine Ct.ofM (vs := [.pointer (some ⟨o, 0, none⟩), .int .u64 now]) Try.func43 rfl rfl [(0, .pointer (some ⟨o, 0, none⟩)), (1, .int .u64 now)] (by repeat (first | exact trivial | refine ⟨rfl, ?_⟩)) ?_
  intro E
  show Hd E 16 _ _ _ _
  refine Hd.seq (fun K1 hK1 => ?_)
  refine Hd.region ?_
  refine Hd.yv (y_assign rfl) ?_
  refine Hd.nil ?_
  refine Hd.slots [(0, _), (1, _)] ⟨rfl, rfl, trivial⟩ ?_
  refine Hd.toK hK1 ?_
  refine Hd.seq (fun K2 hK2 => ?_)
  refine Hd.region ?_
  refine Hd.alloc zr77 (fun b5 => ?_)
  refine Hd.nil ?_
  refine Hd.slots [(0, _), (1, _), (5, _)] ⟨rfl, rfl, rfl, trivial⟩ ?_
  refine Hd.toK hK2 ?_
  refine Hd.seq (fun K3 hK3 => ?_)
  refine Hd.seq (fun K4 hK4 => ?_)
  refine Hd.region ?_
  refine Hd.yv (y_move rfl) ?_
  refine Hd.yv (y_move rfl) ?_
  refine Hd.callE rfl fk60 (duef_ct _ (some ⟨o, 0, none⟩) now) (Ent.sep enn) ?_
  rintro ⟨b2, b3⟩
  dsimp only
  refine Hd.nil ?_
  refine Hd.slots [(5, _), (9, _)] ⟨rfl, rfl, trivial⟩ ?_
  refine Hd.toK hK4 ?_
  refine Hd.block ?_
  refine Hd.rangeD (enc := encB) (S := fun xs => xs = dueI now s) (Sp := fun xs => ∃ r, s = xs ++ r)
    (fun pre => OutI b5 pre :: L) (fun _ _ => [pu False])
    rfl (by kernel_rfl) (fun _ => rfl) rfl (due_it b2 b3 o now qs s nx hlen) (Ent.sep (.ex (none, 0) (.eq pkk (pt_eq (by rfl)) (.ownNil Ent.three)))) ?_ ?_ ?_
  ·
    intro E l' R pre c N hR hG
    have hpl : pre.length + 1 ≤ 1000000 := by obtain ⟨r, e⟩ := hG; rw [e] at hlen; simp at hlen; omega
    unfold Rnd
    simp only [List.cons_append, List.nil_append, pz, encB]
    refine Hd.region ?_
    refine Hd.alloc zr69 (fun b6 => ?_)
    refine Hd.storeA (us := Hp.encI c) sz69 rfl rfl rfl (encI_one _) pkk (by exact rfl) ?_
    refine Hd.nil ?_
    refine Hd.slots [(5, _), (6, _)] ⟨rfl, rfl, trivial⟩ ?_
    refine Hd.thenN ?_
    refine Hd.begin hR pkk ?_
    refine Hd.block ?_
    refine Hd.exs pkk ?_
    rintro ⟨ad, cap⟩
    simp only [List.cons_append, List.nil_append]
    refine Hd.region ?_
    first | (refine Hd.yv (y_load1 ag77 rfl (Rd.pt1 pkk (by (first | rfl)))) ?_) | (refine Hd.yv (y_load1 ag77 rfl (Rd.seg1 pkk (by (first | rfl)))) ?_) | (refine Hd.yv (y_loadR1 ag77 rfl (by (first | exact RdS.own pkk)) (by (first | rfl))) ?_)
    refine Hd.yv (y_loadn (us := Hp.encI c) ag69 rfl (Rd.pt pkk (fun j v e => by rw [Nat.zero_add]; exact e)) (by exact sz69)) ?_
    refine Hd.bslice (vs := [(0, _)]) rfl (by first | exact bs43_13 .. | kernel_rfl) (fun b13 => ?_)
    refine Hd.append Try.underlying77 ty69 rfl rfl rfl pkk (by first | exact RdS.rd (Rd.pt pkk (fun j v e => by simpa using e)) rfl | (first | exact RdS.own pkk)) (by first | (simp [Value.oneCell']; done) | assumption) (by first | (simp only [maxLen]; omega) | assumption) (by omega) (fun ad14 cap14 => ?_)
    first | (refine Hd.store1 sz77 rfl rfl rfl pkk (by first | decide | (simp; done) | (simp; omega)) ?_) | (refine Hd.storeG1 sz77 rfl rfl rfl pkk (by first | decide | (simp; done) | (simp; omega)) ?_) | (refine Hd.storeO1 sz77 rfl rfl rfl pkk (by first | omega | (simp; done) | (simp; omega)) ?_)
    try simp only [List.set_cons_zero, List.set_cons_succ]
    refine Hd.nil ?_
    skip
    refine Hd.slots [(5, _)] ⟨rfl, trivial⟩ ?_
    refine Hd.inB ?_
    clear hK1 hK2 hK3 hK4
    refine Hd.reN ?_
    simp only [List.cons_append, List.nil_append]
    exact Ent.sep (.pick pkk (.ex (ad14, cap14) (.eq pkk (pt_eq (by simp)) (.eq pkk (own_eq (by simp) (by simp)) enn))))
  ·
    intro r0 xs hxs
    have hxs' : xs = dueI now s := hxs
    simp only [List.cons_append, List.nil_append]
    refine Hd.inB ?_
    refine Hd.toK hK3 ?_
    refine Hd.seq (fun K5 hK5 => ?_)
    refine Hd.exs pkk ?_
    rintro ⟨ad, cap⟩
    simp only [List.cons_append, List.nil_append]
    refine Hd.region ?_
    first | (refine Hd.yv (y_load1 ag77 rfl (Rd.pt1 pkk (by (first | rfl)))) ?_) | (refine Hd.yv (y_load1 ag77 rfl (Rd.seg1 pkk (by (first | rfl)))) ?_) | (refine Hd.yv (y_loadR1 ag77 rfl (by (first | exact RdS.own pkk)) (by (first | rfl))) ?_)
    refine Hd.yv (y_assign rfl) ?_
    refine Hd.nil ?_
    refine Hd.slots [(4, _)] ⟨rfl, trivial⟩ ?_
    refine Hd.toK hK5 ?_
    refine Hd.ret ?_
    clear hK1 hK2 hK3 hK4 hK5
    rw [hxs']
    exact Hd.retM (fun a fr => Lv.mark pkk (Lv.end1 fr rfl (ad, cap) rfl (Ent.sep (.pick pkk (.eq pkk (CoA_eq rfl (due_rest now s)) enn)))))
  ·
    rintro r0_0 (_ | id0) pre0 hG0
    ·
      exact Hd.absurd (by first | exact id | simp)
    ·
      exact Hd.absurd (by first | exact id | simp)
end Cm
end Go.Proofs.Ytdjoofidicoimaa
