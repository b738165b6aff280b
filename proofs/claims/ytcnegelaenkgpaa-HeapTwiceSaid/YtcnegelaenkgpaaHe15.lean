/-
  The law HeapTwice answers true.
-/
import Derived.Test.YtcnegelaenkgpaaHe14
namespace Go.Proofs.Ytcnegelaenkgpaa
set_option linter.unusedSimpArgs false
set_option linter.unusedVariables false
set_option linter.unnecessarySimpa false
open Go.RX Fx
namespace Hp
set_option maxRecDepth 8000
theorem due_twice {p q : Int} (h : p ≤ q) : ∀ (s : List It), dueI p s ++ dueI q (restI p s) = dueI q s ∧ restI q (restI p s) = restI q s
  | [] => ⟨rfl, rfl⟩
  | x :: r => by
    have ih := due_twice h r
    unfold dueI restI at ih ⊢
    by_cases hx : x.at_ ≤ p
    · have hx2 : x.at_ ≤ q := by omega
      simp only [List.takeWhile_cons, List.dropWhile_cons, hx, hx2, decide_true, if_true, List.cons_append]
      exact ⟨by rw [ih.1], ih.2⟩
    · simp [List.takeWhile_cons, List.dropWhile_cons, hx]
set_option maxHeartbeats 2000000 in
theorem lawTwice_ct (L : List SP) (ad : Option Addr) (c : Nat) (xs : List It) (hR : RdS L 3 ad xs.length (xs.flatMap encI)) (ta tb : Int) : Ct Try.prog 7 #[.slice ad xs.length c, .int .u64 ta, .int .u64 tb] (L) (fun _ : Unit => .bool true) (fun _ : Unit => L) := by
  refine Ct.of (vs := [.slice ad xs.length c, .int .u64 ta, .int .u64 tb]) Try.func7 rfl rfl [(0, .slice ad xs.length c), (1, .int .u64 ta), (2, .int .u64 tb)] (by repeat (first | exact trivial | refine ⟨rfl, ?_⟩)) ?_
  intro E
  show Hd E 75 _ _ _ _
  refine Hd.seq (fun K1 hK1 => ?_)
  refine Hd.region ?_
  refine Hd.yv (y_assign rfl) ?_
  refine Hd.nil ?_
  refine Hd.slots [(0, _), (1, _), (2, _)] ⟨rfl, rfl, rfl, trivial⟩ ?_
  refine Hd.toK hK1 ?_
  refine Hd.seq (fun K2 hK2 => ?_)
  refine Hd.region ?_
  refine Hd.callE rfl fk16 (alive_ct _) (Ent.sep enn) ?_
  intro _
  refine Hd.yv (y_assign rfl) ?_
  refine Hd.nil ?_
  refine Hd.slots [(0, _), (1, _), (2, _), (7, _)] ⟨rfl, rfl, rfl, rfl, trivial⟩ ?_
  refine Hd.toK hK2 ?_
  refine Hd.seq (fun K3 hK3 => ?_)
  refine Hd.seq (fun K4 hK4 => ?_)
  refine Hd.region ?_
  refine Hd.yv (y_move rfl) ?_
  refine Hd.yv (y_len Try.underlying22 rfl) ?_
  refine Hd.yv (y_gtr rfl rfl) ?_
  refine Hd.yv (y_move rfl) ?_
  apply Hd.org 3 18 21 [(0, _), (1, _), (2, _), (7, _)] rfl ⟨rfl, rfl, rfl, rfl, trivial⟩
  · intro hg2_18
    try simp only [decide_eq_true_eq, decide_eq_false_iff_not, Bool.and_eq_true, Bool.or_eq_true, Bool.and_eq_false_iff, Bool.or_eq_false_iff, Bool.not_eq_true', Bool.not_eq_false', Bool.not_eq_true, Bool.not_eq_false, Int.not_lt, Int.not_le, Decidable.not_not, ne_eq] at hg2_18
    simp only [List.take]
    refine Hd.ng rfl rfl rfl ?_
    refine Hd.ng rfl rfl rfl ?_
    first | (refine Hd.yv (y_pickT rfl rfl) ?_) | (refine Hd.yv (y_pickF rfl rfl) ?_) | (refine Hd.yv (y_pickb rfl rfl rfl) ?_) | (refine Hd.yv (y_pick rfl rfl rfl) ?_)
    refine Hd.nil ?_
    exact Hd.mend (by repeat (first | exact trivial | refine ⟨rfl, ?_⟩)) (Ent.sep enn)
  · intro hg2_18
    try simp only [decide_eq_true_eq, decide_eq_false_iff_not, Bool.and_eq_true, Bool.or_eq_true, Bool.and_eq_false_iff, Bool.or_eq_false_iff, Bool.not_eq_true', Bool.not_eq_false', Bool.not_eq_true, Bool.not_eq_false, Int.not_lt, Int.not_le, Decidable.not_not, ne_eq] at hg2_18
    simp only [List.take]
    refine Hd.yg rfl rfl (y_move rfl) ?_
    refine Hd.yg rfl rfl (y_not rfl) ?_
    first | (refine Hd.yv (y_pickT rfl rfl) ?_) | (refine Hd.yv (y_pickF rfl rfl) ?_) | (refine Hd.yv (y_pickb rfl rfl rfl) ?_) | (refine Hd.yv (y_pick rfl rfl rfl) ?_)
    refine Hd.nil ?_
    exact Hd.mend (by repeat (first | exact trivial | refine ⟨rfl, ?_⟩)) (Ent.sep enn)
  simp only [List.drop]
  refine Hd.nil ?_
  refine Hd.slots [(0, _), (1, _), (2, _), (7, _), (21, _)] ⟨rfl, rfl, rfl, rfl, rfl, trivial⟩ ?_
  refine Hd.toK hK4 ?_
  refine Hd.cond rfl (fun hc0 => ?_) (fun hc0 => ?_)
  ·
    try simp only [decide_eq_true_eq, decide_eq_false_iff_not, Bool.and_eq_true, Bool.or_eq_true, Bool.and_eq_false_iff, Bool.or_eq_false_iff, Bool.not_eq_true', Bool.not_eq_false', Bool.not_eq_true, Bool.not_eq_false, Int.not_lt, Int.not_le, Decidable.not_not, ne_eq] at hc0
    refine Hd.seq (fun K5 hK5 => ?_)
    refine Hd.region ?_
    refine Hd.yv (y_move rfl) ?_
    refine Hd.yv (y_assign rfl) ?_
    refine Hd.nil ?_
    refine Hd.slots [(6, _)] ⟨rfl, trivial⟩ ?_
    refine Hd.toK hK5 ?_
    refine Hd.ret ?_
    refine Hd.thenRet ?_
    clear hK1 hK2 hK3 hK4 hK5
    exact Hd.ret1 rfl () (by first | rfl | (simp only [*]; done) | (simp [*]; done)) (Ent.sep enn)
  ·
    try simp only [decide_eq_true_eq, decide_eq_false_iff_not, Bool.and_eq_true, Bool.or_eq_true, Bool.and_eq_false_iff, Bool.or_eq_false_iff, Bool.not_eq_true', Bool.not_eq_false', Bool.not_eq_true, Bool.not_eq_false, Int.not_lt, Int.not_le, Decidable.not_not, ne_eq] at hc0
    have hx : xs.length ≤ 200 := by have := hc0; simp at this; omega
    refine Hd.skip ?_
    refine Hd.toK hK3 ?_
    refine Hd.seq (fun K6 hK6 => ?_)
    refine Hd.region ?_
    refine Hd.callE rfl fk17 (new_ct _) (Ent.sep enn) ?_
    intro b1
    refine Hd.callE rfl fk17 (new_ct _) (Ent.sep enn) ?_
    intro b2
    refine Hd.yv (y_assign rfl) ?_
    refine Hd.yv (y_assign rfl) ?_
    refine Hd.nil ?_
    refine Hd.slots [(0, _), (1, _), (2, _), (7, _), (8, _), (9, _)] ⟨rfl, rfl, rfl, rfl, rfl, rfl, trivial⟩ ?_
    refine Hd.toK hK6 ?_
    refine Hd.seq (fun K7 hK7 => ?_)
    refine Hd.seq (fun K8 hK8 => ?_)
    refine Hd.region ?_
    refine Hd.yv (y_move rfl) ?_
    refine Hd.yv (y_len Try.underlying22 rfl) ?_
    refine Hd.yv (y_move rfl) ?_
    refine Hd.nil ?_
    refine Hd.slots [(0, _), (1, _), (2, _), (7, _), (8, _), (9, _), (26, _), (27, _)] ⟨rfl, rfl, rfl, rfl, rfl, rfl, rfl, rfl, trivial⟩ ?_
    refine Hd.toK hK8 ?_
    refine Hd.block ?_
    refine Hd.loopK (ι := Nat × List It) [(0, _), (1, _), (2, _), (7, _), (8, _), (9, _), (26, _)] (fun q_ => [(27, .int .i64 (q_.1 : Int))]) (fun q_ => pu (q_.1 ≤ xs.length ∧ q_.2.length ≤ q_.1) :: HpA b1 q_.2 :: HpA b2 q_.2 :: L) (fun q_ => xs.length - q_.1) (0, []) (by repeat (first | exact trivial | refine ⟨rfl, ?_⟩)) (by repeat (first | exact trivial | refine ⟨rfl, ?_⟩)) (Ent.sep (.pure ⟨Nat.zero_le _, Nat.zero_le _⟩ (show Ent _ (HpA b1 [] :: HpA b2 [] :: L) from enn))) ?_
    rintro ⟨i, s⟩
    try dsimp only
    refine Hd.pure (fun hp0 => ?_)
    try dsimp only at hp0
    refine Hd.seq (fun K9 hK9 => ?_)
    refine Hd.region ?_
    refine Hd.yv (y_lss rfl rfl) ?_
    refine Hd.nil ?_
    refine Hd.slots [(0, _), (1, _), (2, _), (7, _), (8, _), (9, _), (26, _), (27, _), (28, _)] ⟨rfl, rfl, rfl, rfl, rfl, rfl, rfl, rfl, rfl, trivial⟩ ?_
    refine Hd.toK hK9 ?_
    refine Hd.seq (fun K10 hK10 => ?_)
    refine Hd.cond rfl (fun hc1 => ?_) (fun hc1 => ?_)
    ·
      try simp only [decide_eq_true_eq, decide_eq_false_iff_not, Bool.and_eq_true, Bool.or_eq_true, Bool.and_eq_false_iff, Bool.or_eq_false_iff, Bool.not_eq_true', Bool.not_eq_false', Bool.not_eq_true, Bool.not_eq_false, Int.not_lt, Int.not_le, Decidable.not_not, ne_eq] at hc1
      have hi : i < xs.length := by omega
      have hsl := hp0.2
      have hgi : xs[i]? = some (g xs i) := g_at hi
      refine Hd.skip ?_
      refine Hd.toK hK10 ?_
      refine Hd.seq (fun K11 hK11 => ?_)
      refine Hd.block ?_
      refine Hd.seq (fun K12 hK12 => ?_)
      refine Hd.region ?_
      refine Hd.yv (y_move rfl) ?_
      refine Hd.yv (y_assign rfl) ?_
      refine Hd.nil ?_
      refine Hd.slots [(0, _), (1, _), (2, _), (7, _), (8, _), (9, _), (10, _), (26, _), (27, _)] ⟨rfl, rfl, rfl, rfl, rfl, rfl, rfl, rfl, rfl, trivial⟩ ?_
      refine Hd.toK hK12 ?_
      refine Hd.seq (fun K13 hK13 => ?_)
      refine Hd.region ?_
      refine Hd.yv (y_move rfl) ?_
      refine Hd.yv (y_move rfl) ?_
      refine Hd.yv (y_move rfl) ?_
      first | (refine Hd.yv (y_idxS Try.underlying22 sz31 rfl rfl (by first | omega | decide)) ?_) | (refine Hd.yv (y_idxR Try.underlying22 sz31 rfl rfl (by first | omega | decide) (by (first | exact RdS.own pkk | exact RdS.mono hR (Ent.sep enn)))) ?_)
      refine Hd.yv (y_loadRn (vs := [_, _, _]) ag31 rfl (RdS.mono hR (Ent.sep enn)) (flat_cells encI 3 (fun _ => rfl) hgi) (by exact sz31) (by simp)) ?_
      refine Hd.callE rfl fk18 (push_ct _ b1 s (by omega) (g xs i)) (Ent.sep enn) ?_
      intro _
      refine Hd.nil ?_
      refine Hd.slots [(0, _), (1, _), (2, _), (7, _), (8, _), (9, _), (10, _), (26, _), (27, _)] ⟨rfl, rfl, rfl, rfl, rfl, rfl, rfl, rfl, rfl, trivial⟩ ?_
      refine Hd.toK hK13 ?_
      refine Hd.region ?_
      refine Hd.yv (y_move rfl) ?_
      refine Hd.yv (y_move rfl) ?_
      refine Hd.yv (y_move rfl) ?_
      first | (refine Hd.yv (y_idxS Try.underlying22 sz31 rfl rfl (by first | omega | decide)) ?_) | (refine Hd.yv (y_idxR Try.underlying22 sz31 rfl rfl (by first | omega | decide) (by (first | exact RdS.own pkk | exact RdS.mono hR (Ent.sep enn)))) ?_)
      refine Hd.yv (y_loadRn (vs := [_, _, _]) ag31 rfl (RdS.mono hR (Ent.sep enn)) (flat_cells encI 3 (fun _ => rfl) hgi) (by exact sz31) (by simp)) ?_
      refine Hd.callE rfl fk18 (push_ct _ b2 s (by omega) (g xs i)) (Ent.sep enn) ?_
      intro _
      refine Hd.nil ?_
      refine Hd.slots [(0, _), (1, _), (2, _), (7, _), (8, _), (9, _), (26, _), (27, _)] ⟨rfl, rfl, rfl, rfl, rfl, rfl, rfl, rfl, trivial⟩ ?_
      refine Hd.inB ?_
      refine Hd.toK hK11 ?_
      refine Hd.region ?_
      first | (refine Hd.yv (y_addn rfl rfl (by simp only [InK]; omega)) ?_) | (refine Hd.yv (y_add rfl rfl) ?_)
      refine Hd.yv (y_move rfl) ?_
      refine Hd.nil ?_
      refine Hd.slots [(0, _), (1, _), (2, _), (7, _), (8, _), (9, _), (26, _), (27, _)] ⟨rfl, rfl, rfl, rfl, rfl, rfl, rfl, rfl, trivial⟩ ?_
      clear hK1 hK2 hK3 hK4 hK6 hK7 hK8 hK9 hK10 hK11 hK12 hK13
      refine Hd.thenN ?_
      exact Hd.again (i + 1, pushS s (g xs i)) (by first | omega | (simp only; omega) | (simp; omega)) (by repeat (first | exact trivial | refine ⟨rfl, ?_⟩)) (Ent.sep (.pure ⟨hi, by have := pushS_len s (g xs i); show (pushS s (g xs i)).length ≤ i + 1; omega⟩ enn))
    ·
      try simp only [decide_eq_true_eq, decide_eq_false_iff_not, Bool.and_eq_true, Bool.or_eq_true, Bool.and_eq_false_iff, Bool.or_eq_false_iff, Bool.not_eq_true', Bool.not_eq_false', Bool.not_eq_true, Bool.not_eq_false, Int.not_lt, Int.not_le, Decidable.not_not, ne_eq] at hc1
      refine Hd.hpF (b := b1) .here (fun hF => ?_)
      have hl := hF.len
      obtain ⟨p, hp⟩ : ∃ p, p = min ta tb := ⟨_, rfl⟩
      obtain ⟨q, hq⟩ : ∃ q, q = max ta tb := ⟨_, rfl⟩
      have hpq : p ≤ q := by omega
      have htw := due_twice hpq s
      have hdl : (dueI p s).length + (dueI q (restI p s)).length = (dueI q s).length := by rw [← List.length_append, htw.1]
      have hdq : (dueI q s).length ≤ s.length := (List.takeWhile_prefix (l := s) (fun y : It => decide (y.at_ ≤ q))).length_le
      refine Hd.exit ?_
      refine Hd.thenExit ?_
      refine Hd.thenExit ?_
      refine Hd.inBexit ?_
      refine Hd.toK hK7 ?_
      refine Hd.seq (fun K14 hK14 => ?_)
      refine Hd.region ?_
      refine Hd.yv (y_move rfl) ?_
      refine Hd.yv (y_move rfl) ?_
      refine Hd.yv (y_move rfl) ?_
      refine Hd.yv (y_to (v' := .int .u64 p) (y_min rfl rfl) (by rw [hp])) ?_
      refine Hd.callE rfl fk27 (due_ct _ b1 s p) (Ent.sep enn) ?_
      rintro ⟨a11, c11⟩
      dsimp only
      refine Hd.yv (y_assign rfl) ?_
      refine Hd.nil ?_
      refine Hd.slots [(1, _), (2, _), (7, _), (8, _), (9, _), (11, _)] ⟨rfl, rfl, rfl, rfl, rfl, rfl, trivial⟩ ?_
      refine Hd.toK hK14 ?_
      refine Hd.seq (fun K15 hK15 => ?_)
      refine Hd.region ?_
      refine Hd.yv (y_move rfl) ?_
      refine Hd.yv (y_move rfl) ?_
      refine Hd.yv (y_move rfl) ?_
      refine Hd.yv (y_to (v' := .int .u64 q) (y_max rfl rfl) (by rw [hq])) ?_
      refine Hd.callE rfl fk27 (due_ct _ b1 (restI p s) q) (Ent.sep enn) ?_
      rintro ⟨a12, c12⟩
      dsimp only
      refine Hd.yv (y_assign rfl) ?_
      refine Hd.nil ?_
      refine Hd.slots [(1, _), (2, _), (7, _), (8, _), (9, _), (11, _), (12, _)] ⟨rfl, rfl, rfl, rfl, rfl, rfl, rfl, trivial⟩ ?_
      refine Hd.toK hK15 ?_
      refine Hd.seq (fun K16 hK16 => ?_)
      refine Hd.region ?_
      refine Hd.yv (y_assign rfl) ?_
      refine Hd.nil ?_
      refine Hd.slots [(1, _), (2, _), (7, _), (8, _), (9, _), (11, _), (12, _), (13, _)] ⟨rfl, rfl, rfl, rfl, rfl, rfl, rfl, rfl, trivial⟩ ?_
      refine Hd.toK hK16 ?_
      refine Hd.seq (fun K17 hK17 => ?_)
      refine Hd.region ?_
      refine Hd.yv (y_move rfl) ?_
      refine Hd.yv (y_move rfl) ?_
      refine Hd.ownNil 31 3 none ?_
      refine Hd.append Try.underlying22 ty31 rfl rfl rfl pkk (by first | exact RdS.rd (Rd.pt pkk (fun j v e => by simpa using e)) rfl | (first | exact RdS.own pkk | exact RdS.mono hR (Ent.sep enn))) (by first | (simp [Value.oneCell']; done) | assumption | (intro u hu; obtain ⟨y, _, hy⟩ := List.mem_flatMap.1 hu; exact encI_one y u hy)) (by first | (simp only [maxLen]; omega) | assumption) (by omega) (fun ad55 cap55 => ?_)
      refine Hd.yv (y_move rfl) ?_
      refine Hd.append Try.underlying22 ty31 rfl rfl rfl pkk (by first | exact RdS.rd (Rd.pt pkk (fun j v e => by simpa using e)) rfl | (first | exact RdS.own pkk | exact RdS.mono hR (Ent.sep enn))) (by first | (simp [Value.oneCell']; done) | assumption | (intro u hu; obtain ⟨y, _, hy⟩ := List.mem_flatMap.1 hu; exact encI_one y u hy)) (by first | (simp only [maxLen]; omega) | assumption) (by omega) (fun ad57 cap57 => ?_)
      refine Hd.yv (y_assign rfl) ?_
      refine Hd.nil ?_
      rw [show 0 + (dueI p s).length + (dueI q (restI p s)).length = (dueI q s).length by omega, htw.2]
      refine Hd.heap (OwI ad57 (dueI q s).length cap57 (dueI q s) :: HpA b1 (restI q s) :: HpA b2 s :: L) (fun k h => Ent.sep (.eq pkk (own_eq3 rfl rfl (by rw [List.nil_append, ← List.flatMap_append, htw.1])) enn) k h) ?_
      refine Hd.slots [(1, _), (2, _), (7, _), (8, _), (9, _), (13, _)] ⟨rfl, rfl, rfl, rfl, rfl, rfl, trivial⟩ ?_
      refine Hd.toK hK17 ?_
      refine Hd.seq (fun K18 hK18 => ?_)
      refine Hd.region ?_
      refine Hd.yv (y_move rfl) ?_
      refine Hd.yv (y_move rfl) ?_
      refine Hd.yg rfl rfl (y_move rfl) ?_
      refine Hd.yg rfl rfl (y_move rfl) ?_
      refine Hd.yg rfl rfl (y_move rfl) ?_
      refine Hd.yg rfl rfl (y_move rfl) ?_
      refine Hd.yg rfl rfl (y_to (v' := .int .u64 q) (y_max rfl rfl) (by rw [hq])) ?_
      refine Hd.unguard rfl rfl ?_
      refine Hd.callE rfl fk27 (due_ct _ b2 s q) (Ent.sep enn) ?_
      rintro ⟨a65, c65⟩
      dsimp only
      refine Hd.unguard rfl rfl ?_
      refine Hd.callE rfl fk24 (same_ct _ ad57 (dueI q s).length cap57 (dueI q s) rfl (by omega) ?h1 a65 (dueI q s).length c65 (dueI q s) rfl ?h2) (Ent.sep enn) ?_
      case h1 => exact RdS.own (ad := ad57) pkk
      case h2 => exact RdS.own (ad := a65) pkk
      intro bb
      refine Hd.pure (fun hbb => ?_)
      obtain rfl : bb = true := by rw [hbb]; simp
      first | (refine Hd.yv (y_pickT rfl rfl) ?_) | (refine Hd.yv (y_pickF rfl rfl) ?_) | (refine Hd.yv (y_pickb rfl rfl rfl) ?_) | (refine Hd.yv (y_pick rfl rfl rfl) ?_)
      refine Hd.yv (y_move rfl) ?_
      refine Hd.yg rfl rfl (y_move rfl) ?_
      refine Hd.unguard rfl rfl ?_
      refine Hd.callE rfl fk19 (all_ct _ b1 (restI q s)) (Ent.sep enn) ?_
      rintro ⟨a70, c70⟩
      dsimp only
      refine Hd.yg rfl rfl (y_move rfl) ?_
      refine Hd.unguard rfl rfl ?_
      refine Hd.callE rfl fk19 (all_ct _ b2 (restI q s)) (Ent.sep enn) ?_
      rintro ⟨a72, c72⟩
      dsimp only
      have hrl : (restI q s).length ≤ 1000000 := by have h1 := congrArg List.length (due_app q s); rw [List.length_append] at h1; omega
      refine Hd.unguard rfl rfl ?_
      refine Hd.callE rfl fk24 (same_ct _ a70 (restI q s).length c70 (restI q s) rfl hrl ?h1 a72 (restI q s).length c72 (restI q s) rfl ?h2) (Ent.sep enn) ?_
      case h1 => exact RdS.own (ad := a70) pkk
      case h2 => exact RdS.own (ad := a72) pkk
      intro bb2
      refine Hd.pure (fun hbb2 => ?_)
      obtain rfl : bb2 = true := by rw [hbb2]; simp
      first | (refine Hd.yv (y_pickT rfl rfl) ?_) | (refine Hd.yv (y_pickF rfl rfl) ?_) | (refine Hd.yv (y_pickb rfl rfl rfl) ?_) | (refine Hd.yv (y_pick rfl rfl rfl) ?_)
      refine Hd.yv (y_assign rfl) ?_
      refine Hd.nil ?_
      refine Hd.slots [(6, _)] ⟨rfl, trivial⟩ ?_
      refine Hd.toK hK18 ?_
      refine Hd.ret ?_
      clear hK1 hK2 hK3 hK4 hK6 hK7 hK8 hK9 hK10 hK14 hK15 hK16 hK17 hK18
      exact Hd.ret1 rfl () (by first | rfl | (simp only [*]; done) | (simp [*]; done)) (Ent.sep enn)
end Hp
end Go.Proofs.Ytcnegelaenkgpaa
