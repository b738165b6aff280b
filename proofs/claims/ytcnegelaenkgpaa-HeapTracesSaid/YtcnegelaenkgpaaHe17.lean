/-
  The law HeapTraces answers true.
-/
import Derived.Test.YtcnegelaenkgpaaHe16
namespace Go.Proofs.Ytcnegelaenkgpaa
set_option linter.unusedSimpArgs false
set_option linter.unusedVariables false
set_option linter.unnecessarySimpa false
open Go.RX Fx
namespace Hp
set_option maxRecDepth 8000
theorem rem_ins {s : List It} (hF : HpF s) (y : It) : findI y.id (insI y (remI y.id s)) = some y ∧ remI y.id (insI y (remI y.id s)) = remI y.id s := by
  have hn : ∀ z ∈ remI y.id s, z.id ≠ y.id := fun z hz => by
    have := (List.mem_filter.1 hz).2; simpa using this
  have hnd : ((insI y (remI y.id s)).map It.id).Nodup := by
    rw [((insI_perm y _).map It.id).nodup_iff, List.map_cons, List.nodup_cons]
    refine ⟨fun q => ?_, hF.nd.sublist (List.Sublist.map _ List.filter_sublist)⟩
    obtain ⟨z, hz, e⟩ := List.mem_map.1 q
    exact hn z hz e
  have hsr := insI_srt (remI_srt hF.srt y.id) (fun z hz e => hn z hz (by rw [e]))
  have h1 := findI_some hnd (insI_mem.2 (.inl rfl)) rfl
  refine ⟨h1.1, srt_eq (remI_srt hsr _) (remI_srt hF.srt _) ?_⟩
  exact (List.perm_cons y).1 (h1.2.symm.trans (insI_perm y _))
theorem move_twice {s : List It} (hF : HpF s) {x : It} (h : findI x.id s = some x) (ta : Int) : moveV s x.id = 0 ∧ findI x.id (moveS s ⟨x.id, ta, x.n⟩) = some ⟨x.id, ta, x.n⟩ ∧ moveV (moveS s ⟨x.id, ta, x.n⟩) x.id = 0 ∧ moveS (moveS s ⟨x.id, ta, x.n⟩) x = s := by
  have h1 := rem_ins hF ⟨x.id, ta, x.n⟩
  have e1 : moveS s ⟨x.id, ta, x.n⟩ = insI ⟨x.id, ta, x.n⟩ (remI x.id s) := by unfold moveS; rw [show (⟨x.id, ta, x.n⟩ : It).id = x.id from rfl, h]; rfl
  rw [e1]
  have h2 : findI x.id (insI ⟨x.id, ta, x.n⟩ (remI x.id s)) = some ⟨x.id, ta, x.n⟩ := h1.1
  refine ⟨by unfold moveV; rw [h]; rfl, h2, by unfold moveV; rw [h2]; rfl, ?_⟩
  unfold moveS; rw [h2]
  show insI x (remI x.id (insI ⟨x.id, ta, x.n⟩ (remI x.id s))) = s
  rw [show remI x.id (insI ⟨x.id, ta, x.n⟩ (remI x.id s)) = remI x.id s from h1.2]
  exact ins_rem hF (findI_id h).2
set_option maxHeartbeats 2000000 in
theorem lawTraces_ct (L : List SP) (ad : Option Addr) (c : Nat) (xs : List It) (hR : RdS L 3 ad xs.length (xs.flatMap encI)) (id ta : Int) : Ct Try.prog 4 #[.slice ad xs.length c, .int .i64 id, .int .u64 ta] (L) (fun _ : Unit => .bool true) (fun _ : Unit => L) := by
  refine Ct.of (vs := [.slice ad xs.length c, .int .i64 id, .int .u64 ta]) Try.func4 rfl rfl [(0, .slice ad xs.length c), (1, .int .i64 id), (2, .int .u64 ta)] (by repeat (first | exact trivial | refine ⟨rfl, ?_⟩)) ?_
  intro E
  show Hd E 136 _ _ _ _
  refine Hd.seq (fun K1 hK1 => ?_)
  refine Hd.region ?_
  refine Hd.yv (y_assign rfl) ?_
  refine Hd.nil ?_
  refine Hd.slots [(0, _), (1, _), (2, _)] ⟨rfl, rfl, rfl, trivial⟩ ?_
  refine Hd.toK hK1 ?_
  refine Hd.seq (fun K2 hK2 => ?_)
  refine Hd.region ?_
  refine Hd.callE rfl fk16 (alive_ct _) (Ent.sep enn) ?_
  intro _
  refine Hd.yv (y_assign rfl) ?_
  refine Hd.nil ?_
  refine Hd.slots [(0, _), (1, _), (2, _), (7, _)] ⟨rfl, rfl, rfl, rfl, trivial⟩ ?_
  refine Hd.toK hK2 ?_
  refine Hd.seq (fun K3 hK3 => ?_)
  refine Hd.seq (fun K4 hK4 => ?_)
  refine Hd.region ?_
  refine Hd.yv (y_move rfl) ?_
  refine Hd.yv (y_len Try.underlying22 rfl) ?_
  refine Hd.yv (y_gtr rfl rfl) ?_
  refine Hd.yv (y_move rfl) ?_
  apply Hd.org 3 25 28 [(0, _), (1, _), (2, _), (7, _)] rfl ⟨rfl, rfl, rfl, rfl, trivial⟩
  · intro hg2_25
    try simp only [decide_eq_true_eq, decide_eq_false_iff_not, Bool.and_eq_true, Bool.or_eq_true, Bool.and_eq_false_iff, Bool.or_eq_false_iff, Bool.not_eq_true', Bool.not_eq_false', Bool.not_eq_true, Bool.not_eq_false, Int.not_lt, Int.not_le, Decidable.not_not, ne_eq] at hg2_25
    simp only [List.take]
    refine Hd.ng rfl rfl rfl ?_
    refine Hd.ng rfl rfl rfl ?_
    first | (refine Hd.yv (y_pickT rfl rfl) ?_) | (refine Hd.yv (y_pickF rfl rfl) ?_) | (refine Hd.yv (y_pickb rfl rfl rfl) ?_) | (refine Hd.yv (y_pick rfl rfl rfl) ?_)
    refine Hd.nil ?_
    exact Hd.mend (by repeat (first | exact trivial | refine ⟨rfl, ?_⟩)) (Ent.sep enn)
  · intro hg2_25
    try simp only [decide_eq_true_eq, decide_eq_false_iff_not, Bool.and_eq_true, Bool.or_eq_true, Bool.and_eq_false_iff, Bool.or_eq_false_iff, Bool.not_eq_true', Bool.not_eq_false', Bool.not_eq_true, Bool.not_eq_false, Int.not_lt, Int.not_le, Decidable.not_not, ne_eq] at hg2_25
    simp only [List.take]
    refine Hd.yg rfl rfl (y_move rfl) ?_
    refine Hd.yg rfl rfl (y_not rfl) ?_
    first | (refine Hd.yv (y_pickT rfl rfl) ?_) | (refine Hd.yv (y_pickF rfl rfl) ?_) | (refine Hd.yv (y_pickb rfl rfl rfl) ?_) | (refine Hd.yv (y_pick rfl rfl rfl) ?_)
    refine Hd.nil ?_
    exact Hd.mend (by repeat (first | exact trivial | refine ⟨rfl, ?_⟩)) (Ent.sep enn)
  simp only [List.drop]
  refine Hd.nil ?_
  refine Hd.slots [(0, _), (1, _), (2, _), (7, _), (28, _)] ⟨rfl, rfl, rfl, rfl, rfl, trivial⟩ ?_
  refine Hd.toK hK4 ?_
  refine Hd.cond rfl (fun hc0 => ?_) (fun hc0 => ?_)
  ·
    try simp only [decide_eq_true_eq, decide_eq_false_iff_not, Bool.and_eq_true, Bool.or_eq_true, Bool.and_eq_false_iff, Bool.or_eq_false_iff, Bool.not_eq_true', Bool.not_eq_false', Bool.not_eq_true, Bool.not_eq_false, Int.not_lt, Int.not_le, Decidable.not_not, ne_eq] at hc0
    refine Hd.seq (fun K5 hK5 => ?_)
    refine Hd.region ?_
    refine Hd.yv (y_move rfl) ?_
    refine Hd.yv (y_assign rfl) ?_
    refine Hd.nil ?_
    refine Hd.slots [(6, _)] ⟨rfl, trivial⟩ ?_
    refine Hd.toK hK5 ?_
    refine Hd.ret ?_
    refine Hd.thenRet ?_
    clear hK1 hK2 hK3 hK4 hK5
    exact Hd.ret1 rfl () (by first | rfl | (simp only [*]; done) | (simp [*]; done)) (Ent.sep enn)
  ·
    try simp only [decide_eq_true_eq, decide_eq_false_iff_not, Bool.and_eq_true, Bool.or_eq_true, Bool.and_eq_false_iff, Bool.or_eq_false_iff, Bool.not_eq_true', Bool.not_eq_false', Bool.not_eq_true, Bool.not_eq_false, Int.not_lt, Int.not_le, Decidable.not_not, ne_eq] at hc0
    have hx : xs.length ≤ 200 := by have := hc0; simp at this; omega
    refine Hd.skip ?_
    refine Hd.toK hK3 ?_
    refine Hd.seq (fun K6 hK6 => ?_)
    refine Hd.region ?_
    refine Hd.callE rfl fk17 (new_ct _) (Ent.sep enn) ?_
    intro b
    refine Hd.yv (y_assign rfl) ?_
    refine Hd.nil ?_
    refine Hd.slots [(0, _), (1, _), (2, _), (7, _), (8, _)] ⟨rfl, rfl, rfl, rfl, rfl, trivial⟩ ?_
    refine Hd.toK hK6 ?_
    refine Hd.seq (fun K7 hK7 => ?_)
    refine Hd.seq (fun K8 hK8 => ?_)
    refine Hd.region ?_
    refine Hd.yv (y_move rfl) ?_
    refine Hd.yv (y_len Try.underlying22 rfl) ?_
    refine Hd.yv (y_move rfl) ?_
    refine Hd.nil ?_
    refine Hd.slots [(0, _), (1, _), (2, _), (7, _), (8, _), (32, _), (33, _)] ⟨rfl, rfl, rfl, rfl, rfl, rfl, rfl, trivial⟩ ?_
    refine Hd.toK hK8 ?_
    refine Hd.block ?_
    refine Hd.loopK (ι := Nat × List It) [(0, _), (1, _), (2, _), (7, _), (8, _), (32, _)] (fun q_ => [(33, .int .i64 (q_.1 : Int))]) (fun q_ => pu (q_.1 ≤ xs.length ∧ q_.2.length ≤ q_.1) :: HpA b q_.2 :: L) (fun q_ => xs.length - q_.1) (0, []) (by repeat (first | exact trivial | refine ⟨rfl, ?_⟩)) (by repeat (first | exact trivial | refine ⟨rfl, ?_⟩)) (Ent.sep (.pure ⟨Nat.zero_le _, Nat.zero_le _⟩ (show Ent _ (HpA b [] :: L) from enn))) ?_
    rintro ⟨i, s⟩
    try dsimp only
    refine Hd.pure (fun hp0 => ?_)
    try dsimp only at hp0
    refine Hd.seq (fun K9 hK9 => ?_)
    refine Hd.region ?_
    refine Hd.yv (y_lss rfl rfl) ?_
    refine Hd.nil ?_
    refine Hd.slots [(0, _), (1, _), (2, _), (7, _), (8, _), (32, _), (33, _), (34, _)] ⟨rfl, rfl, rfl, rfl, rfl, rfl, rfl, rfl, trivial⟩ ?_
    refine Hd.toK hK9 ?_
    refine Hd.seq (fun K10 hK10 => ?_)
    refine Hd.cond rfl (fun hc1 => ?_) (fun hc1 => ?_)
    ·
      try simp only [decide_eq_true_eq, decide_eq_false_iff_not, Bool.and_eq_true, Bool.or_eq_true, Bool.and_eq_false_iff, Bool.or_eq_false_iff, Bool.not_eq_true', Bool.not_eq_false', Bool.not_eq_true, Bool.not_eq_false, Int.not_lt, Int.not_le, Decidable.not_not, ne_eq] at hc1
      have hi : i < xs.length := by omega
      have hsl := hp0.2
      have hgi : xs[i]? = some (g xs i) := g_at hi
      refine Hd.skip ?_
      refine Hd.toK hK10 ?_
      refine Hd.seq (fun K11 hK11 => ?_)
      refine Hd.block ?_
      refine Hd.seq (fun K12 hK12 => ?_)
      refine Hd.region ?_
      refine Hd.yv (y_move rfl) ?_
      refine Hd.yv (y_assign rfl) ?_
      refine Hd.nil ?_
      refine Hd.slots [(0, _), (1, _), (2, _), (7, _), (8, _), (9, _), (32, _), (33, _)] ⟨rfl, rfl, rfl, rfl, rfl, rfl, rfl, rfl, trivial⟩ ?_
      refine Hd.toK hK12 ?_
      refine Hd.region ?_
      refine Hd.yv (y_move rfl) ?_
      refine Hd.yv (y_move rfl) ?_
      refine Hd.yv (y_move rfl) ?_
      first | (refine Hd.yv (y_idxS Try.underlying22 sz31 rfl rfl (by first | omega | decide)) ?_) | (refine Hd.yv (y_idxR Try.underlying22 sz31 rfl rfl (by first | omega | decide) (by (first | exact RdS.own pkk | exact RdS.mono hR (Ent.sep enn)))) ?_)
      refine Hd.yv (y_loadRn (vs := [_, _, _]) ag31 rfl (RdS.mono hR (Ent.sep enn)) (flat_cells encI 3 (fun _ => rfl) hgi) (by exact sz31) (by simp)) ?_
      refine Hd.callE rfl fk18 (push_ct _ b s (by omega) (g xs i)) (Ent.sep enn) ?_
      intro _
      refine Hd.nil ?_
      refine Hd.slots [(0, _), (1, _), (2, _), (7, _), (8, _), (32, _), (33, _)] ⟨rfl, rfl, rfl, rfl, rfl, rfl, rfl, trivial⟩ ?_
      refine Hd.inB ?_
      refine Hd.toK hK11 ?_
      refine Hd.region ?_
      first | (refine Hd.yv (y_addn rfl rfl (by simp only [InK]; omega)) ?_) | (refine Hd.yv (y_add rfl rfl) ?_)
      refine Hd.yv (y_move rfl) ?_
      refine Hd.nil ?_
      refine Hd.slots [(0, _), (1, _), (2, _), (7, _), (8, _), (32, _), (33, _)] ⟨rfl, rfl, rfl, rfl, rfl, rfl, rfl, trivial⟩ ?_
      clear hK1 hK2 hK3 hK4 hK6 hK7 hK8 hK9 hK10 hK11 hK12
      refine Hd.thenN ?_
      exact Hd.again (i + 1, pushS s (g xs i)) (by first | omega | (simp only; omega) | (simp; omega)) (by repeat (first | exact trivial | refine ⟨rfl, ?_⟩)) (Ent.sep (.pure ⟨hi, by have := pushS_len s (g xs i); show (pushS s (g xs i)).length ≤ i + 1; omega⟩ enn))
    ·
      try simp only [decide_eq_true_eq, decide_eq_false_iff_not, Bool.and_eq_true, Bool.or_eq_true, Bool.and_eq_false_iff, Bool.or_eq_false_iff, Bool.not_eq_true', Bool.not_eq_false', Bool.not_eq_true, Bool.not_eq_false, Int.not_lt, Int.not_le, Decidable.not_not, ne_eq] at hc1
      have hs := hp0.2
      have hi0 := hp0.1
      refine Hd.hpF (b := b) .here (fun hF => ?_)
      have hl := hF.len
      refine Hd.exit ?_
      refine Hd.thenExit ?_
      refine Hd.thenExit ?_
      refine Hd.inBexit ?_
      refine Hd.toK hK7 ?_
      refine Hd.seq (fun K13 hK13 => ?_)
      refine Hd.region ?_
      refine Hd.yv (y_move rfl) ?_
      refine Hd.callE rfl fk19 (all_ct _ b s) (Ent.sep enn) ?_
      rintro ⟨a8, c8⟩
      dsimp only
      refine Hd.yv (y_assign rfl) ?_
      refine Hd.nil ?_
      refine Hd.slots [(1, _), (2, _), (7, _), (8, _), (10, _)] ⟨rfl, rfl, rfl, rfl, rfl, trivial⟩ ?_
      refine Hd.toK hK13 ?_
      refine Hd.seq (fun K14 hK14 => ?_)
      refine Hd.region ?_
      refine Hd.yv (y_move rfl) ?_
      refine Hd.yv (y_move rfl) ?_
      refine Hd.callE rfl fk23 (take_ct _ b s id) (Ent.sep enn) ?_
      intro _
      refine Hd.yv (y_move rfl) ?_
      refine Hd.yv (y_extract rfl rfl) ?_
      refine Hd.yv (y_extract rfl rfl) ?_
      refine Hd.alloc zr31 (fun b11 => ?_)
      refine Hd.storeA (us := encI (findV (findI id s)).1) sz31 rfl rfl rfl (encI_one _) pkk (by exact rfl) ?_
      refine Hd.yv (y_assign rfl) ?_
      refine Hd.nil ?_
      refine Hd.slots [(1, _), (2, _), (7, _), (8, _), (10, _), (11, _), (12, _)] ⟨rfl, rfl, rfl, rfl, rfl, rfl, rfl, trivial⟩ ?_
      refine Hd.toK hK14 ?_
      refine Hd.seq (fun K15 hK15 => ?_)
      refine Hd.seq (fun K16 hK16 => ?_)
      refine Hd.region ?_
      refine Hd.yv (y_move rfl) ?_
      refine Hd.yv (y_not rfl) ?_
      refine Hd.nil ?_
      refine Hd.slots [(1, _), (2, _), (7, _), (8, _), (10, _), (11, _), (52, _)] ⟨rfl, rfl, rfl, rfl, rfl, rfl, rfl, trivial⟩ ?_
      refine Hd.toK hK16 ?_
      refine Hd.cond rfl (fun hc2 => ?_) (fun hc2 => ?_)
      ·
        try simp only [decide_eq_true_eq, decide_eq_false_iff_not, Bool.and_eq_true, Bool.or_eq_true, Bool.and_eq_false_iff, Bool.or_eq_false_iff, Bool.not_eq_true', Bool.not_eq_false', Bool.not_eq_true, Bool.not_eq_false, Int.not_lt, Int.not_le, Decidable.not_not, ne_eq] at hc2
        have hfi : findI id s = none := by
          cases h : findI id s with
          | none => rfl
          | some x => rw [h] at hc2; simp [findV] at hc2
        have hre : remI id s = s := by
          refine (findI_none fun x hx e => ?_).2
          rw [(findI_some hF.nd hx e).1] at hfi; cases hfi
        have hmv : moveV s id = 30 := by unfold moveV; rw [hfi]; rfl
        rw [hre]
        refine Hd.seq (fun K17 hK17 => ?_)
        refine Hd.region ?_
        refine Hd.yv (y_move rfl) ?_
        refine Hd.yv (y_move rfl) ?_
        refine Hd.yg rfl rfl (y_move rfl) ?_
        refine Hd.unguard rfl rfl ?_
        refine Hd.callE rfl fk19 (all_ct _ b s) (Ent.sep enn) ?_
        rintro ⟨a9, c9⟩
        dsimp only
        refine Hd.yg rfl rfl (y_move rfl) ?_
        refine Hd.unguard rfl rfl ?_
        refine Hd.callE rfl fk24 (same_ct _ a9 s.length c9 s rfl hl ?h1 a8 s.length c8 s rfl ?h2) (Ent.sep enn) ?_
        case h1 => exact RdS.own (ad := a9) pkk
        case h2 => exact RdS.own (ad := a8) pkk
        intro bb
        refine Hd.pure (fun hbb => ?_)
        obtain rfl : bb = true := by rw [hbb]; simp
        first | (refine Hd.yv (y_pickT rfl rfl) ?_) | (refine Hd.yv (y_pickF rfl rfl) ?_) | (refine Hd.yv (y_pickb rfl rfl rfl) ?_) | (refine Hd.yv (y_pick rfl rfl rfl) ?_)
        refine Hd.yv (y_move rfl) ?_
        refine Hd.yg rfl rfl (y_move rfl) ?_
        refine Hd.yg rfl rfl (y_move rfl) ?_
        refine Hd.yg rfl rfl (y_move rfl) ?_
        refine Hd.unguard rfl rfl ?_
        refine Hd.callE rfl fk25 (move_ct _ b s ⟨id, ta, 0⟩) (Ent.sep enn) ?_
        intro _
        rw [show (⟨id, ta, 0⟩ : It).id = id from rfl, hmv]
        first | (refine Hd.yg rfl rfl (y_to (y_eqlT rfl rfl) (congrArg Value.bool (decide_eq_true (rfl)))) ?_) | (refine Hd.yg rfl rfl (y_to (y_eql rfl rfl) (congrArg Value.bool (decide_eq_true (rfl)))) ?_)
        first | (refine Hd.yv (y_pickT rfl rfl) ?_) | (refine Hd.yv (y_pickF rfl rfl) ?_) | (refine Hd.yv (y_pickb rfl rfl rfl) ?_) | (refine Hd.yv (y_pick rfl rfl rfl) ?_)
        refine Hd.yv (y_assign rfl) ?_
        refine Hd.nil ?_
        refine Hd.slots [(6, _)] ⟨rfl, trivial⟩ ?_
        refine Hd.toK hK17 ?_
        refine Hd.ret ?_
        refine Hd.thenRet ?_
        clear hK1 hK2 hK3 hK4 hK6 hK7 hK8 hK9 hK10 hK13 hK14 hK15 hK16 hK17
        exact Hd.ret1 rfl () (by first | rfl | (simp only [*]; done) | (simp [*]; done)) (Ent.sep enn)
      ·
        try simp only [decide_eq_true_eq, decide_eq_false_iff_not, Bool.and_eq_true, Bool.or_eq_true, Bool.and_eq_false_iff, Bool.or_eq_false_iff, Bool.not_eq_true', Bool.not_eq_false', Bool.not_eq_true, Bool.not_eq_false, Int.not_lt, Int.not_le, Decidable.not_not, ne_eq] at hc2
        obtain ⟨x, hfx⟩ : ∃ x, findI id s = some x := by
          cases h : findI id s with
          | none => rw [h] at hc2; simp [findV] at hc2
          | some x => exact ⟨x, rfl⟩
        have hid := (findI_id hfx).1
        have hrl := remI_len_of hF hfx
        have hpb := push_back hF hfx
        subst hid
        have hmt := move_twice hF hfx ta
        have hx0 : (findV (findI x.id s)).1 = x := by rw [hfx]; rfl
        have hfr := findI_rem s x.id
        rw [hx0]
        refine Hd.skip ?_
        refine Hd.toK hK15 ?_
        refine Hd.seq (fun K18 hK18 => ?_)
        refine Hd.region ?_
        refine Hd.yv (y_move rfl) ?_
        refine Hd.yv (y_move rfl) ?_
        refine Hd.callE rfl fk26 (find_ct _ b (remI x.id s) x.id) (Ent.sep enn) ?_
        intro _
        rw [hfr]
        refine Hd.yv (y_move rfl) ?_
        refine Hd.yv (y_extract rfl rfl) ?_
        refine Hd.yv (y_extract rfl rfl) ?_
        refine Hd.alloc zr31 (fun b13 => ?_)
        refine Hd.storeA (us := encI (findV none).1) sz31 rfl rfl rfl (encI_one _) pkk (by exact rfl) ?_
        refine Hd.yv (y_assign rfl) ?_
        refine Hd.nil ?_
        refine Hd.slots [(1, _), (2, _), (7, _), (8, _), (10, _), (11, _), (14, _)] ⟨rfl, rfl, rfl, rfl, rfl, rfl, rfl, trivial⟩ ?_
        refine Hd.toK hK18 ?_
        refine Hd.seq (fun K19 hK19 => ?_)
        refine Hd.region ?_
        refine Hd.yv (y_move rfl) ?_
        refine Hd.callE rfl fk22 (len_ct _ b (remI x.id s)) (Ent.sep enn) ?_
        intro _
        refine Hd.yv (y_assign rfl) ?_
        refine Hd.nil ?_
        refine Hd.slots [(1, _), (2, _), (7, _), (8, _), (10, _), (11, _), (14, _), (15, _)] ⟨rfl, rfl, rfl, rfl, rfl, rfl, rfl, rfl, trivial⟩ ?_
        refine Hd.toK hK19 ?_
        refine Hd.seq (fun K20 hK20 => ?_)
        refine Hd.region ?_
        refine Hd.yv (y_move rfl) ?_
        refine Hd.yv (y_loadn (us := encI x) ag31 rfl (Rd.pt pkk (fun j v e => by rw [Nat.zero_add]; exact e)) (by exact sz31)) ?_
        refine Hd.callE rfl fk18 (push_ct _ b (remI x.id s) (by omega) x) (Ent.sep enn) ?_
        intro _
        rw [hpb.1, hpb.2]
        refine Hd.yv (y_assign rfl) ?_
        refine Hd.nil ?_
        refine Hd.slots [(1, _), (2, _), (7, _), (8, _), (10, _), (11, _), (14, _), (15, _), (16, _)] ⟨rfl, rfl, rfl, rfl, rfl, rfl, rfl, rfl, rfl, trivial⟩ ?_
        refine Hd.toK hK20 ?_
        refine Hd.seq (fun K21 hK21 => ?_)
        refine Hd.region ?_
        refine Hd.yv (y_move rfl) ?_
        refine Hd.yv (y_move rfl) ?_
        refine Hd.yv (y_move rfl) ?_
        first | (refine Hd.yv (y_field' (q := 2) (ft := 29) Try.underlying31 rfl sz29 rfl rfl) ?_) | (refine Hd.yv (y_fieldR (q := 2) (ft := 29) Try.underlying31 rfl sz29 rfl rfl) ?_)
        first | (refine Hd.yv (y_load1 ag29 rfl (Rd.pt1 pkk (by (first | rfl)))) ?_) | (refine Hd.yv (y_load1 ag29 rfl (Rd.seg1 pkk (by (first | rfl)))) ?_) | (refine Hd.yv (y_loadR1 ag29 rfl (by (first | exact RdS.own pkk | exact RdS.mono hR (Ent.sep enn))) (by (first | rfl))) ?_)
        refine Hd.callE rfl fk25 (move_ct _ b s ⟨x.id, ta, x.n⟩) (Ent.sep enn) ?_
        intro _
        rw [show (⟨x.id, ta, x.n⟩ : It).id = x.id from rfl, hmt.1]
        refine Hd.yv (y_assign rfl) ?_
        refine Hd.nil ?_
        refine Hd.slots [(1, _), (2, _), (7, _), (8, _), (10, _), (11, _), (14, _), (15, _), (16, _), (17, _)] ⟨rfl, rfl, rfl, rfl, rfl, rfl, rfl, rfl, rfl, rfl, trivial⟩ ?_
        refine Hd.toK hK21 ?_
        refine Hd.seq (fun K22 hK22 => ?_)
        refine Hd.region ?_
        refine Hd.yv (y_move rfl) ?_
        refine Hd.yv (y_move rfl) ?_
        refine Hd.callE rfl fk26 (find_ct _ b (moveS s ⟨x.id, ta, x.n⟩) x.id) (Ent.sep enn) ?_
        intro _
        rw [hmt.2.1]
        refine Hd.yv (y_move rfl) ?_
        refine Hd.yv (y_extract rfl rfl) ?_
        refine Hd.yv (y_extract rfl rfl) ?_
        refine Hd.alloc zr31 (fun b18 => ?_)
        refine Hd.storeA (us := encI (findV (some ⟨x.id, ta, x.n⟩)).1) sz31 rfl rfl rfl (encI_one _) pkk (by exact rfl) ?_
        refine Hd.yv (y_assign rfl) ?_
        refine Hd.nil ?_
        refine Hd.slots [(1, _), (2, _), (7, _), (8, _), (10, _), (11, _), (14, _), (15, _), (16, _), (17, _), (18, _), (19, _)] ⟨rfl, rfl, rfl, rfl, rfl, rfl, rfl, rfl, rfl, rfl, rfl, rfl, trivial⟩ ?_
        refine Hd.toK hK22 ?_
        refine Hd.seq (fun K23 hK23 => ?_)
        refine Hd.region ?_
        refine Hd.yv (y_move rfl) ?_
        refine Hd.yv (y_move rfl) ?_
        first | (refine Hd.yv (y_field' (q := 1) (ft := 29) Try.underlying31 rfl sz29 rfl rfl) ?_) | (refine Hd.yv (y_fieldR (q := 1) (ft := 29) Try.underlying31 rfl sz29 rfl rfl) ?_)
        first | (refine Hd.yv (y_load1 ag29 rfl (Rd.pt1 pkk (by (first | rfl)))) ?_) | (refine Hd.yv (y_load1 ag29 rfl (Rd.seg1 pkk (by (first | rfl)))) ?_) | (refine Hd.yv (y_loadR1 ag29 rfl (by (first | exact RdS.own pkk | exact RdS.mono hR (Ent.sep enn))) (by (first | rfl))) ?_)
        first | (refine Hd.yv (y_field' (q := 2) (ft := 29) Try.underlying31 rfl sz29 rfl rfl) ?_) | (refine Hd.yv (y_fieldR (q := 2) (ft := 29) Try.underlying31 rfl sz29 rfl rfl) ?_)
        first | (refine Hd.yv (y_load1 ag29 rfl (Rd.pt1 pkk (by (first | rfl)))) ?_) | (refine Hd.yv (y_load1 ag29 rfl (Rd.seg1 pkk (by (first | rfl)))) ?_) | (refine Hd.yv (y_loadR1 ag29 rfl (by (first | exact RdS.own pkk | exact RdS.mono hR (Ent.sep enn))) (by (first | rfl))) ?_)
        refine Hd.callE rfl fk25 (move_ct _ b (moveS s ⟨x.id, ta, x.n⟩) x) (Ent.sep enn) ?_
        intro _
        rw [hmt.2.2.1, hmt.2.2.2]
        refine Hd.yv (y_assign rfl) ?_
        refine Hd.nil ?_
        refine Hd.slots [(2, _), (7, _), (8, _), (10, _), (14, _), (15, _), (16, _), (17, _), (18, _), (19, _), (20, _)] ⟨rfl, rfl, rfl, rfl, rfl, rfl, rfl, rfl, rfl, rfl, rfl, trivial⟩ ?_
        refine Hd.toK hK23 ?_
        refine Hd.seq (fun K24 hK24 => ?_)
        refine Hd.region ?_
        refine Hd.yv (y_move rfl) ?_
        refine Hd.yv (y_move rfl) ?_
        refine Hd.yg rfl rfl (y_move rfl) ?_
        refine Hd.yg rfl rfl (y_not rfl) ?_
        first | (refine Hd.yv (y_pickT rfl rfl) ?_) | (refine Hd.yv (y_pickF rfl rfl) ?_) | (refine Hd.yv (y_pickb rfl rfl rfl) ?_) | (refine Hd.yv (y_pick rfl rfl rfl) ?_)
        refine Hd.yv (y_move rfl) ?_
        refine Hd.yg rfl rfl (y_move rfl) ?_
        refine Hd.yg rfl rfl (y_move rfl) ?_
        refine Hd.yg rfl rfl (y_len Try.underlying22 rfl) ?_
        first | (refine Hd.yg rfl rfl (y_subn rfl rfl (by simp only [InK]; omega)) ?_) | (refine Hd.yg rfl rfl (y_sub rfl rfl) ?_)
        first | (refine Hd.yg rfl rfl (y_to (y_eqlT rfl rfl) (congrArg Value.bool (decide_eq_true ((by omega))))) ?_) | (refine Hd.yg rfl rfl (y_to (y_eql rfl rfl) (congrArg Value.bool (decide_eq_true ((by omega))))) ?_)
        first | (refine Hd.yv (y_pickT rfl rfl) ?_) | (refine Hd.yv (y_pickF rfl rfl) ?_) | (refine Hd.yv (y_pickb rfl rfl rfl) ?_) | (refine Hd.yv (y_pick rfl rfl rfl) ?_)
        refine Hd.yv (y_move rfl) ?_
        refine Hd.yg rfl rfl (y_move rfl) ?_
        first | (refine Hd.yg rfl rfl (y_to (y_eqlT rfl rfl) (congrArg Value.bool (decide_eq_true ((by rfl))))) ?_) | (refine Hd.yg rfl rfl (y_to (y_eql rfl rfl) (congrArg Value.bool (decide_eq_true ((by rfl))))) ?_)
        first | (refine Hd.yv (y_pickT rfl rfl) ?_) | (refine Hd.yv (y_pickF rfl rfl) ?_) | (refine Hd.yv (y_pickb rfl rfl rfl) ?_) | (refine Hd.yv (y_pick rfl rfl rfl) ?_)
        refine Hd.yv (y_move rfl) ?_
        refine Hd.yg rfl rfl (y_move rfl) ?_
        first | (refine Hd.yg rfl rfl (y_to (y_eqlT rfl rfl) (congrArg Value.bool (decide_eq_true ((by rfl))))) ?_) | (refine Hd.yg rfl rfl (y_to (y_eql rfl rfl) (congrArg Value.bool (decide_eq_true ((by rfl))))) ?_)
        first | (refine Hd.yv (y_pickT rfl rfl) ?_) | (refine Hd.yv (y_pickF rfl rfl) ?_) | (refine Hd.yv (y_pickb rfl rfl rfl) ?_) | (refine Hd.yv (y_pick rfl rfl rfl) ?_)
        refine Hd.yv (y_move rfl) ?_
        refine Hd.yg rfl rfl (y_move rfl) ?_
        first | (refine Hd.yv (y_pickT rfl rfl) ?_) | (refine Hd.yv (y_pickF rfl rfl) ?_) | (refine Hd.yv (y_pickb rfl rfl rfl) ?_) | (refine Hd.yv (y_pick rfl rfl rfl) ?_)
        refine Hd.yv (y_move rfl) ?_
        first | (refine Hd.yg rfl rfl (y_field' (q := 1) (ft := 29) Try.underlying31 rfl sz29 rfl rfl) ?_) | (refine Hd.yg rfl rfl (y_fieldR (q := 1) (ft := 29) Try.underlying31 rfl sz29 rfl rfl) ?_)
        first | (refine Hd.yg rfl rfl (y_load1 ag29 rfl (Rd.pt1 pkk (by (first | rfl)))) ?_) | (refine Hd.yg rfl rfl (y_load1 ag29 rfl (Rd.seg1 pkk (by (first | rfl)))) ?_) | (refine Hd.yg rfl rfl (y_loadR1 ag29 rfl (by (first | exact RdS.own pkk | exact RdS.mono hR (Ent.sep enn))) (by (first | rfl))) ?_)
        refine Hd.yg rfl rfl (y_move rfl) ?_
        first | (refine Hd.yg rfl rfl (y_to (y_eqlT rfl rfl) (congrArg Value.bool (decide_eq_true ((by rfl))))) ?_) | (refine Hd.yg rfl rfl (y_to (y_eql rfl rfl) (congrArg Value.bool (decide_eq_true ((by rfl))))) ?_)
        first | (refine Hd.yv (y_pickT rfl rfl) ?_) | (refine Hd.yv (y_pickF rfl rfl) ?_) | (refine Hd.yv (y_pickb rfl rfl rfl) ?_) | (refine Hd.yv (y_pick rfl rfl rfl) ?_)
        refine Hd.yv (y_move rfl) ?_
        refine Hd.yg rfl rfl (y_move rfl) ?_
        first | (refine Hd.yg rfl rfl (y_to (y_eqlT rfl rfl) (congrArg Value.bool (decide_eq_true ((by rfl))))) ?_) | (refine Hd.yg rfl rfl (y_to (y_eql rfl rfl) (congrArg Value.bool (decide_eq_true ((by rfl))))) ?_)
        first | (refine Hd.yv (y_pickT rfl rfl) ?_) | (refine Hd.yv (y_pickF rfl rfl) ?_) | (refine Hd.yv (y_pickb rfl rfl rfl) ?_) | (refine Hd.yv (y_pick rfl rfl rfl) ?_)
        refine Hd.yv (y_move rfl) ?_
        refine Hd.yg rfl rfl (y_move rfl) ?_
        refine Hd.unguard rfl rfl ?_
        refine Hd.callE rfl fk19 (all_ct _ b s) (Ent.sep enn) ?_
        rintro ⟨a9, c9⟩
        dsimp only
        refine Hd.yg rfl rfl (y_move rfl) ?_
        refine Hd.unguard rfl rfl ?_
        refine Hd.callE rfl fk24 (same_ct _ a9 s.length c9 s rfl hl ?h1 a8 s.length c8 s rfl ?h2) (Ent.sep enn) ?_
        case h1 => exact RdS.own (ad := a9) pkk
        case h2 => exact RdS.own (ad := a8) pkk
        intro bb
        refine Hd.pure (fun hbb => ?_)
        obtain rfl : bb = true := by rw [hbb]; simp
        first | (refine Hd.yv (y_pickT rfl rfl) ?_) | (refine Hd.yv (y_pickF rfl rfl) ?_) | (refine Hd.yv (y_pickb rfl rfl rfl) ?_) | (refine Hd.yv (y_pick rfl rfl rfl) ?_)
        refine Hd.yv (y_assign rfl) ?_
        refine Hd.nil ?_
        refine Hd.slots [(6, _)] ⟨rfl, trivial⟩ ?_
        refine Hd.toK hK24 ?_
        refine Hd.ret ?_
        clear hK1 hK2 hK3 hK4 hK6 hK7 hK8 hK9 hK10 hK13 hK14 hK15 hK16 hK18 hK19 hK20 hK21 hK22 hK23 hK24
        exact Hd.ret1 rfl () (by first | rfl | (simp only [*]; done) | (simp [*]; done)) (Ent.sep enn)
end Hp
end Go.Proofs.Ytcnegelaenkgpaa
