/-
  The law HeapBack answers true.
-/
import Derived.Test.YtcnegelaenkgpaaHe14
namespace Go.Proofs.Ytcnegelaenkgpaa
set_option linter.unusedSimpArgs false
set_option linter.unusedVariables false
set_option linter.unnecessarySimpa false
open Go.RX Fx
namespace Hp
set_option maxRecDepth 8000
theorem findI_id {s : List It} {id : Int} {x : It} (h : findI id s = some x) : x.id = id ∧ x ∈ s := by
  unfold findI at h
  have h1 := List.find?_some h
  exact ⟨by simpa using h1, List.mem_of_find?_eq_some h⟩
theorem findI_rem (s : List It) (id : Int) : findI id (remI id s) = none := by
  refine (findI_none fun x hx => ?_).1
  have := (List.mem_filter.1 hx).2
  simpa using this
theorem remI_len_of {s : List It} (hF : HpF s) {id : Int} {x : It} (h : findI id s = some x) : (remI id s).length + 1 = s.length := by
  have h1 := findI_id h
  have h2 := (findI_some hF.nd h1.2 h1.1).2.length_eq
  simp at h2; omega
/-- taken out and put in again -/
theorem ins_rem {s : List It} (hF : HpF s) {x : It} (h : x ∈ s) : insI x (remI x.id s) = s := by
  have h1 := (findI_some hF.nd h rfl).2
  refine srt_eq (insI_srt (remI_srt hF.srt _) (fun y hy e => ?_)) hF.srt ((insI_perm _ _).trans h1.symm)
  have := (List.mem_filter.1 hy).2
  rw [e] at this; simp at this
theorem push_back {s : List It} (hF : HpF s) {id : Int} {x : It} (h : findI id s = some x) : pushV (remI id s) x = 0 ∧ pushS (remI id s) x = s := by
  have h1 := findI_id h
  have h2 : findI x.id (remI id s) = none := by rw [h1.1]; exact findI_rem s id
  refine ⟨by unfold pushV; rw [h2]; rfl, ?_⟩
  unfold pushS; rw [h2]
  show insI x (remI id s) = s
  rw [← h1.1]; exact ins_rem hF h1.2
theorem move_back {s : List It} (hF : HpF s) {id : Int} {x : It} (h : findI id s = some x) : moveV s x.id = 0 ∧ moveS s x = s := by
  have h1 := findI_id h
  rw [← h1.1] at h
  refine ⟨by unfold moveV; rw [h]; rfl, ?_⟩
  unfold moveS; rw [h]
  exact ins_rem hF h1.2
set_option maxHeartbeats 2000000 in
theorem lawBack_ct (L : List SP) (ad : Option Addr) (c : Nat) (xs : List It) (hR : RdS L 3 ad xs.length (xs.flatMap encI)) (id : Int) : Ct Try.prog 5 #[.slice ad xs.length c, .int .i64 id] (L) (fun _ : Unit => .bool true) (fun _ : Unit => L) := by
  refine Ct.of (vs := [.slice ad xs.length c, .int .i64 id]) Try.func5 rfl rfl [(0, .slice ad xs.length c), (1, .int .i64 id)] (by repeat (first | exact trivial | refine ⟨rfl, ?_⟩)) ?_
  intro E
  show Hd E 97 _ _ _ _
  refine Hd.seq (fun K1 hK1 => ?_)
  refine Hd.region ?_
  refine Hd.yv (y_assign rfl) ?_
  refine Hd.nil ?_
  refine Hd.slots [(0, _), (1, _)] ⟨rfl, rfl, trivial⟩ ?_
  refine Hd.toK hK1 ?_
  refine Hd.seq (fun K2 hK2 => ?_)
  refine Hd.region ?_
  refine Hd.callE rfl fk16 (alive_ct _) (Ent.sep enn) ?_
  intro _
  refine Hd.yv (y_assign rfl) ?_
  refine Hd.nil ?_
  refine Hd.slots [(0, _), (1, _), (5, _)] ⟨rfl, rfl, rfl, trivial⟩ ?_
  refine Hd.toK hK2 ?_
  refine Hd.seq (fun K3 hK3 => ?_)
  refine Hd.seq (fun K4 hK4 => ?_)
  refine Hd.region ?_
  refine Hd.yv (y_move rfl) ?_
  refine Hd.yv (y_len Try.underlying22 rfl) ?_
  refine Hd.yv (y_gtr rfl rfl) ?_
  refine Hd.yv (y_move rfl) ?_
  apply Hd.org 3 17 20 [(0, _), (1, _), (5, _)] rfl ⟨rfl, rfl, rfl, trivial⟩
  · intro hg2_17
    try simp only [decide_eq_true_eq, decide_eq_false_iff_not, Bool.and_eq_true, Bool.or_eq_true, Bool.and_eq_false_iff, Bool.or_eq_false_iff, Bool.not_eq_true', Bool.not_eq_false', Bool.not_eq_true, Bool.not_eq_false, Int.not_lt, Int.not_le, Decidable.not_not, ne_eq] at hg2_17
    simp only [List.take]
    refine Hd.ng rfl rfl rfl ?_
    refine Hd.ng rfl rfl rfl ?_
    first | (refine Hd.yv (y_pickT rfl rfl) ?_) | (refine Hd.yv (y_pickF rfl rfl) ?_) | (refine Hd.yv (y_pickb rfl rfl rfl) ?_) | (refine Hd.yv (y_pick rfl rfl rfl) ?_)
    refine Hd.nil ?_
    exact Hd.mend (by repeat (first | exact trivial | refine ⟨rfl, ?_⟩)) (Ent.sep enn)
  · intro hg2_17
    try simp only [decide_eq_true_eq, decide_eq_false_iff_not, Bool.and_eq_true, Bool.or_eq_true, Bool.and_eq_false_iff, Bool.or_eq_false_iff, Bool.not_eq_true', Bool.not_eq_false', Bool.not_eq_true, Bool.not_eq_false, Int.not_lt, Int.not_le, Decidable.not_not, ne_eq] at hg2_17
    simp only [List.take]
    refine Hd.yg rfl rfl (y_move rfl) ?_
    refine Hd.yg rfl rfl (y_not rfl) ?_
    first | (refine Hd.yv (y_pickT rfl rfl) ?_) | (refine Hd.yv (y_pickF rfl rfl) ?_) | (refine Hd.yv (y_pickb rfl rfl rfl) ?_) | (refine Hd.yv (y_pick rfl rfl rfl) ?_)
    refine Hd.nil ?_
    exact Hd.mend (by repeat (first | exact trivial | refine ⟨rfl, ?_⟩)) (Ent.sep enn)
  simp only [List.drop]
  refine Hd.nil ?_
  refine Hd.slots [(0, _), (1, _), (5, _), (20, _)] ⟨rfl, rfl, rfl, rfl, trivial⟩ ?_
  refine Hd.toK hK4 ?_
  refine Hd.cond rfl (fun hc0 => ?_) (fun hc0 => ?_)
  ·
    try simp only [decide_eq_true_eq, decide_eq_false_iff_not, Bool.and_eq_true, Bool.or_eq_true, Bool.and_eq_false_iff, Bool.or_eq_false_iff, Bool.not_eq_true', Bool.not_eq_false', Bool.not_eq_true, Bool.not_eq_false, Int.not_lt, Int.not_le, Decidable.not_not, ne_eq] at hc0
    refine Hd.seq (fun K5 hK5 => ?_)
    refine Hd.region ?_
    refine Hd.yv (y_move rfl) ?_
    refine Hd.yv (y_assign rfl) ?_
    refine Hd.nil ?_
    refine Hd.slots [(4, _)] ⟨rfl, trivial⟩ ?_
    refine Hd.toK hK5 ?_
    refine Hd.ret ?_
    refine Hd.thenRet ?_
    clear hK1 hK2 hK3 hK4 hK5
    exact Hd.ret1 rfl () (by first | rfl | (simp only [*]; done) | (simp [*]; done)) (Ent.sep enn)
  ·
    try simp only [decide_eq_true_eq, decide_eq_false_iff_not, Bool.and_eq_true, Bool.or_eq_true, Bool.and_eq_false_iff, Bool.or_eq_false_iff, Bool.not_eq_true', Bool.not_eq_false', Bool.not_eq_true, Bool.not_eq_false, Int.not_lt, Int.not_le, Decidable.not_not, ne_eq] at hc0
    have hx : xs.length ≤ 200 := by have := hc0; simp at this; omega
    refine Hd.skip ?_
    refine Hd.toK hK3 ?_
    refine Hd.seq (fun K6 hK6 => ?_)
    refine Hd.region ?_
    refine Hd.callE rfl fk17 (new_ct _) (Ent.sep enn) ?_
    intro b
    refine Hd.yv (y_assign rfl) ?_
    refine Hd.nil ?_
    refine Hd.slots [(0, _), (1, _), (5, _), (6, _)] ⟨rfl, rfl, rfl, rfl, trivial⟩ ?_
    refine Hd.toK hK6 ?_
    refine Hd.seq (fun K7 hK7 => ?_)
    refine Hd.seq (fun K8 hK8 => ?_)
    refine Hd.region ?_
    refine Hd.yv (y_move rfl) ?_
    refine Hd.yv (y_len Try.underlying22 rfl) ?_
    refine Hd.yv (y_move rfl) ?_
    refine Hd.nil ?_
    refine Hd.slots [(0, _), (1, _), (5, _), (6, _), (24, _), (25, _)] ⟨rfl, rfl, rfl, rfl, rfl, rfl, trivial⟩ ?_
    refine Hd.toK hK8 ?_
    refine Hd.block ?_
    refine Hd.loopK (ι := Nat × List It) [(0, _), (1, _), (5, _), (6, _), (24, _)] (fun q_ => [(25, .int .i64 (q_.1 : Int))]) (fun q_ => pu (q_.1 ≤ xs.length ∧ q_.2.length ≤ q_.1) :: HpA b q_.2 :: L) (fun q_ => xs.length - q_.1) (0, []) (by repeat (first | exact trivial | refine ⟨rfl, ?_⟩)) (by repeat (first | exact trivial | refine ⟨rfl, ?_⟩)) (Ent.sep (.pure ⟨Nat.zero_le _, Nat.zero_le _⟩ (show Ent _ (HpA b [] :: L) from enn))) ?_
    rintro ⟨i, s⟩
    try dsimp only
    refine Hd.pure (fun hp0 => ?_)
    try dsimp only at hp0
    refine Hd.seq (fun K9 hK9 => ?_)
    refine Hd.region ?_
    refine Hd.yv (y_lss rfl rfl) ?_
    refine Hd.nil ?_
    refine Hd.slots [(0, _), (1, _), (5, _), (6, _), (24, _), (25, _), (26, _)] ⟨rfl, rfl, rfl, rfl, rfl, rfl, rfl, trivial⟩ ?_
    refine Hd.toK hK9 ?_
    refine Hd.seq (fun K10 hK10 => ?_)
    refine Hd.cond rfl (fun hc1 => ?_) (fun hc1 => ?_)
    ·
      try simp only [decide_eq_true_eq, decide_eq_false_iff_not, Bool.and_eq_true, Bool.or_eq_true, Bool.and_eq_false_iff, Bool.or_eq_false_iff, Bool.not_eq_true', Bool.not_eq_false', Bool.not_eq_true, Bool.not_eq_false, Int.not_lt, Int.not_le, Decidable.not_not, ne_eq] at hc1
      have hi : i < xs.length := by omega
      have hsl := hp0.2
      have hgi : xs[i]? = some (g xs i) := g_at hi
      refine Hd.skip ?_
      refine Hd.toK hK10 ?_
      refine Hd.seq (fun K11 hK11 => ?_)
      refine Hd.block ?_
      refine Hd.seq (fun K12 hK12 => ?_)
      refine Hd.region ?_
      refine Hd.yv (y_move rfl) ?_
      refine Hd.yv (y_assign rfl) ?_
      refine Hd.nil ?_
      refine Hd.slots [(0, _), (1, _), (5, _), (6, _), (7, _), (24, _), (25, _)] ⟨rfl, rfl, rfl, rfl, rfl, rfl, rfl, trivial⟩ ?_
      refine Hd.toK hK12 ?_
      refine Hd.region ?_
      refine Hd.yv (y_move rfl) ?_
      refine Hd.yv (y_move rfl) ?_
      refine Hd.yv (y_move rfl) ?_
      first | (refine Hd.yv (y_idxS Try.underlying22 sz31 rfl rfl (by first | omega | decide)) ?_) | (refine Hd.yv (y_idxR Try.underlying22 sz31 rfl rfl (by first | omega | decide) (by (first | exact RdS.own pkk | exact RdS.mono hR (Ent.sep enn)))) ?_)
      refine Hd.yv (y_loadRn (vs := [_, _, _]) ag31 rfl (RdS.mono hR (Ent.sep enn)) (flat_cells encI 3 (fun _ => rfl) hgi) (by exact sz31) (by simp)) ?_
      refine Hd.callE rfl fk18 (push_ct _ b s (by omega) (g xs i)) (Ent.sep enn) ?_
      intro _
      refine Hd.nil ?_
      refine Hd.slots [(0, _), (1, _), (5, _), (6, _), (24, _), (25, _)] ⟨rfl, rfl, rfl, rfl, rfl, rfl, trivial⟩ ?_
      refine Hd.inB ?_
      refine Hd.toK hK11 ?_
      refine Hd.region ?_
      first | (refine Hd.yv (y_addn rfl rfl (by simp only [InK]; omega)) ?_) | (refine Hd.yv (y_add rfl rfl) ?_)
      refine Hd.yv (y_move rfl) ?_
      refine Hd.nil ?_
      refine Hd.slots [(0, _), (1, _), (5, _), (6, _), (24, _), (25, _)] ⟨rfl, rfl, rfl, rfl, rfl, rfl, trivial⟩ ?_
      clear hK1 hK2 hK3 hK4 hK6 hK7 hK8 hK9 hK10 hK11 hK12
      refine Hd.thenN ?_
      exact Hd.again (i + 1, pushS s (g xs i)) (by first | omega | (simp only; omega) | (simp; omega)) (by repeat (first | exact trivial | refine ⟨rfl, ?_⟩)) (Ent.sep (.pure ⟨hi, by have := pushS_len s (g xs i); show (pushS s (g xs i)).length ≤ i + 1; omega⟩ enn))
    ·
      try simp only [decide_eq_true_eq, decide_eq_false_iff_not, Bool.and_eq_true, Bool.or_eq_true, Bool.and_eq_false_iff, Bool.or_eq_false_iff, Bool.not_eq_true', Bool.not_eq_false', Bool.not_eq_true, Bool.not_eq_false, Int.not_lt, Int.not_le, Decidable.not_not, ne_eq] at hc1
      have hs := hp0.2
      have hi0 := hp0.1
      refine Hd.hpF (b := b) .here (fun hF => ?_)
      have hl := hF.len
      refine Hd.exit ?_
      refine Hd.thenExit ?_
      refine Hd.thenExit ?_
      refine Hd.inBexit ?_
      refine Hd.toK hK7 ?_
      refine Hd.seq (fun K13 hK13 => ?_)
      refine Hd.region ?_
      refine Hd.yv (y_move rfl) ?_
      refine Hd.callE rfl fk19 (all_ct _ b s) (Ent.sep enn) ?_
      rintro ⟨a8, c8⟩
      dsimp only
      refine Hd.yv (y_assign rfl) ?_
      refine Hd.nil ?_
      refine Hd.slots [(1, _), (5, _), (6, _), (8, _)] ⟨rfl, rfl, rfl, rfl, trivial⟩ ?_
      refine Hd.toK hK13 ?_
      refine Hd.seq (fun K14 hK14 => ?_)
      refine Hd.region ?_
      refine Hd.yv (y_move rfl) ?_
      refine Hd.yv (y_move rfl) ?_
      refine Hd.callE rfl fk23 (take_ct _ b s id) (Ent.sep enn) ?_
      intro _
      refine Hd.yv (y_move rfl) ?_
      refine Hd.yv (y_extract rfl rfl) ?_
      refine Hd.yv (y_extract rfl rfl) ?_
      refine Hd.alloc zr31 (fun b9 => ?_)
      refine Hd.storeA (us := encI (findV (findI id s)).1) sz31 rfl rfl rfl (encI_one _) pkk (by exact rfl) ?_
      refine Hd.yv (y_assign rfl) ?_
      refine Hd.nil ?_
      refine Hd.slots [(1, _), (5, _), (6, _), (8, _), (9, _), (10, _)] ⟨rfl, rfl, rfl, rfl, rfl, rfl, trivial⟩ ?_
      refine Hd.toK hK14 ?_
      refine Hd.cutK (ι := Unit) [(5, _), (6, _), (8, _)] (fun _ => []) (fun _ => OwI a8 s.length c8 s :: HpA b s :: L) ?_ ?_ ⟨rfl, rfl, rfl, trivial⟩
      ·
        refine Hd.seq (fun K15 hK15 => ?_)
        refine Hd.region ?_
        refine Hd.yv (y_move rfl) ?_
        refine Hd.yv (y_move rfl) ?_
        refine Hd.part (gd := 44) rfl (fun hg12_44 => ?_) (fun hg12_44 => ?_)
        ·
          try simp only [decide_eq_true_eq, decide_eq_false_iff_not, Bool.and_eq_true, Bool.or_eq_true, Bool.and_eq_false_iff, Bool.or_eq_false_iff, Bool.not_eq_true', Bool.not_eq_false', Bool.not_eq_true, Bool.not_eq_false, Int.not_lt, Int.not_le, Decidable.not_not, ne_eq] at hg12_44
          obtain ⟨x, hfx⟩ : ∃ x, findI id s = some x := by
            cases h : findI id s with
            | none => rw [h] at hg12_44; simp [findV] at hg12_44
            | some x => exact ⟨x, rfl⟩
          have hid := (findI_id hfx).1
          have hrl := remI_len_of hF hfx
          have hpb := push_back hF hfx
          have hmb := move_back hF hfx
          subst hid
          have hx0 : (findV (findI x.id s)).1 = x := by rw [hfx]; rfl
          rw [hx0]
          first | (refine Hd.yg rfl rfl (y_field' (q := 0) (ft := 3) Try.underlying31 rfl sz3 rfl rfl) ?_) | (refine Hd.yg rfl rfl (y_fieldR (q := 0) (ft := 3) Try.underlying31 rfl sz3 rfl rfl) ?_)
          first | (refine Hd.yg rfl rfl (y_load1 ag3 rfl (Rd.pt1 pkk (by (first | rfl)))) ?_) | (refine Hd.yg rfl rfl (y_load1 ag3 rfl (Rd.seg1 pkk (by (first | rfl)))) ?_) | (refine Hd.yg rfl rfl (y_loadR1 ag3 rfl (by (first | exact RdS.own pkk | exact RdS.mono hR (Ent.sep enn))) (by (first | rfl))) ?_)
          refine Hd.yg rfl rfl (y_move rfl) ?_
          refine Hd.yg rfl rfl (y_to (y_neq rfl rfl) (congrArg Value.bool (decide_eq_false ((fun h => h rfl))))) ?_
          refine Hd.yg rfl rfl (y_move rfl) ?_
          refine Hd.yg rfl rfl (y_move rfl) ?_
          refine Hd.unguard rfl rfl ?_
          refine Hd.callE rfl fk22 (len_ct _ b (remI x.id s)) (Ent.sep enn) ?_
          intro _
          refine Hd.yg rfl rfl (y_move rfl) ?_
          refine Hd.yg rfl rfl (y_len Try.underlying22 rfl) ?_
          first | (refine Hd.yg rfl rfl (y_subn rfl rfl (by simp only [InK]; omega)) ?_) | (refine Hd.yg rfl rfl (y_sub rfl rfl) ?_)
          refine Hd.yg rfl rfl (y_to (y_neq rfl rfl) (congrArg Value.bool (decide_eq_false ((fun h => h (by omega)))))) ?_
          first | (refine Hd.yg rfl rfl (y_pickT rfl rfl) ?_) | (refine Hd.yg rfl rfl (y_pickF rfl rfl) ?_) | (refine Hd.yg rfl rfl (y_pickb rfl rfl rfl) ?_) | (refine Hd.yg rfl rfl (y_pick rfl rfl rfl) ?_)
          refine Hd.yg rfl rfl (y_move rfl) ?_
          refine Hd.yg rfl rfl (y_move rfl) ?_
          refine Hd.yg rfl rfl (y_loadn (us := encI x) ag31 rfl (Rd.pt pkk (fun j v e => by rw [Nat.zero_add]; exact e)) (by exact sz31)) ?_
          refine Hd.unguard rfl rfl ?_
          refine Hd.callE rfl fk18 (push_ct _ b (remI x.id s) (by omega) x) (Ent.sep enn) ?_
          intro _
          rw [hpb.1, hpb.2]
          refine Hd.yg rfl rfl (y_to (y_neq rfl rfl) (congrArg Value.bool (decide_eq_false ((fun h => h rfl))))) ?_
          first | (refine Hd.yg rfl rfl (y_pickT rfl rfl) ?_) | (refine Hd.yg rfl rfl (y_pickF rfl rfl) ?_) | (refine Hd.yg rfl rfl (y_pickb rfl rfl rfl) ?_) | (refine Hd.yg rfl rfl (y_pick rfl rfl rfl) ?_)
          refine Hd.yg rfl rfl (y_move rfl) ?_
          refine Hd.yg rfl rfl (y_move rfl) ?_
          refine Hd.yg rfl rfl (y_move rfl) ?_
          first | (refine Hd.yg rfl rfl (y_field' (q := 1) (ft := 29) Try.underlying31 rfl sz29 rfl rfl) ?_) | (refine Hd.yg rfl rfl (y_fieldR (q := 1) (ft := 29) Try.underlying31 rfl sz29 rfl rfl) ?_)
          first | (refine Hd.yg rfl rfl (y_load1 ag29 rfl (Rd.pt1 pkk (by (first | rfl)))) ?_) | (refine Hd.yg rfl rfl (y_load1 ag29 rfl (Rd.seg1 pkk (by (first | rfl)))) ?_) | (refine Hd.yg rfl rfl (y_loadR1 ag29 rfl (by (first | exact RdS.own pkk | exact RdS.mono hR (Ent.sep enn))) (by (first | rfl))) ?_)
          first | (refine Hd.yg rfl rfl (y_field' (q := 2) (ft := 29) Try.underlying31 rfl sz29 rfl rfl) ?_) | (refine Hd.yg rfl rfl (y_fieldR (q := 2) (ft := 29) Try.underlying31 rfl sz29 rfl rfl) ?_)
          first | (refine Hd.yg rfl rfl (y_load1 ag29 rfl (Rd.pt1 pkk (by (first | rfl)))) ?_) | (refine Hd.yg rfl rfl (y_load1 ag29 rfl (Rd.seg1 pkk (by (first | rfl)))) ?_) | (refine Hd.yg rfl rfl (y_loadR1 ag29 rfl (by (first | exact RdS.own pkk | exact RdS.mono hR (Ent.sep enn))) (by (first | rfl))) ?_)
          refine Hd.unguard rfl rfl ?_
          refine Hd.callE rfl fk25 (move_ct _ b s x) (Ent.sep enn) ?_
          intro _
          rw [hmb.1, hmb.2]
          refine Hd.yg rfl rfl (y_to (y_neq rfl rfl) (congrArg Value.bool (decide_eq_false ((fun h => h rfl))))) ?_
          first | (refine Hd.yg rfl rfl (y_pickT rfl rfl) ?_) | (refine Hd.yg rfl rfl (y_pickF rfl rfl) ?_) | (refine Hd.yg rfl rfl (y_pickb rfl rfl rfl) ?_) | (refine Hd.yg rfl rfl (y_pick rfl rfl rfl) ?_)
          first | (refine Hd.yv (y_pickT rfl rfl) ?_) | (refine Hd.yv (y_pickF rfl rfl) ?_) | (refine Hd.yv (y_pickb rfl rfl rfl) ?_) | (refine Hd.yv (y_pick rfl rfl rfl) ?_)
          refine Hd.nil ?_
          refine Hd.slots [(5, _), (6, _), (8, _), (73, _)] ⟨rfl, rfl, rfl, rfl, trivial⟩ ?_
          refine Hd.toK hK15 ?_
          refine Hd.condF rfl ?_
          refine Hd.skip ?_
          clear hK1 hK2 hK3 hK4 hK6 hK7 hK8 hK9 hK10 hK13 hK14 hK15
          refine Hd.thenN ?_
          exact Hd.meet () (by repeat (first | exact trivial | refine ⟨rfl, ?_⟩)) (Ent.sep enn)
        ·
          try simp only [decide_eq_true_eq, decide_eq_false_iff_not, Bool.and_eq_true, Bool.or_eq_true, Bool.and_eq_false_iff, Bool.or_eq_false_iff, Bool.not_eq_true', Bool.not_eq_false', Bool.not_eq_true, Bool.not_eq_false, Int.not_lt, Int.not_le, Decidable.not_not, ne_eq] at hg12_44
          have hre : remI id s = s := by
            refine (findI_none fun x hx e => ?_).2
            rw [(findI_some hF.nd hx e).1] at hg12_44; simp [findV] at hg12_44
          rw [hre]
          refine Hd.ng rfl rfl rfl ?_
          refine Hd.ng rfl rfl rfl ?_
          refine Hd.ng rfl rfl rfl ?_
          refine Hd.ng rfl rfl rfl ?_
          refine Hd.ng rfl rfl rfl ?_
          refine Hd.ng rfl rfl rfl ?_
          refine Hd.ng rfl rfl rfl ?_
          refine Hd.ng rfl rfl rfl ?_
          refine Hd.ng rfl rfl rfl ?_
          refine Hd.ng rfl rfl rfl ?_
          refine Hd.ng rfl rfl rfl ?_
          refine Hd.ng rfl rfl rfl ?_
          refine Hd.ng rfl rfl rfl ?_
          refine Hd.ng rfl rfl rfl ?_
          refine Hd.ng rfl rfl rfl ?_
          refine Hd.ng rfl rfl rfl ?_
          refine Hd.ng rfl rfl rfl ?_
          refine Hd.ng rfl rfl rfl ?_
          refine Hd.ng rfl rfl rfl ?_
          refine Hd.ng rfl rfl rfl ?_
          refine Hd.ng rfl rfl rfl ?_
          refine Hd.ng rfl rfl rfl ?_
          refine Hd.ng rfl rfl rfl ?_
          refine Hd.ng rfl rfl rfl ?_
          refine Hd.ng rfl rfl rfl ?_
          refine Hd.ng rfl rfl rfl ?_
          refine Hd.ng rfl rfl rfl ?_
          refine Hd.ng rfl rfl rfl ?_
          first | (refine Hd.yv (y_pickT rfl rfl) ?_) | (refine Hd.yv (y_pickF rfl rfl) ?_) | (refine Hd.yv (y_pickb rfl rfl rfl) ?_) | (refine Hd.yv (y_pick rfl rfl rfl) ?_)
          refine Hd.nil ?_
          refine Hd.slots [(5, _), (6, _), (8, _), (73, _)] ⟨rfl, rfl, rfl, rfl, trivial⟩ ?_
          refine Hd.toK hK15 ?_
          refine Hd.condF rfl ?_
          refine Hd.skip ?_
          clear hK1 hK2 hK3 hK4 hK6 hK7 hK8 hK9 hK10 hK13 hK14 hK15
          refine Hd.thenN ?_
          exact Hd.meet () (by repeat (first | exact trivial | refine ⟨rfl, ?_⟩)) (Ent.sep enn)
      ·
        intro _
        refine Hd.seq (fun K16 hK16 => ?_)
        refine Hd.region ?_
        refine Hd.yv (y_move rfl) ?_
        refine Hd.callE rfl fk19 (all_ct _ b s) (Ent.sep enn) ?_
        rintro ⟨a11, c11⟩
        dsimp only
        refine Hd.yv (y_assign rfl) ?_
        refine Hd.nil ?_
        refine Hd.slots [(5, _), (8, _), (11, _)] ⟨rfl, rfl, rfl, trivial⟩ ?_
        refine Hd.toK hK16 ?_
        refine Hd.seq (fun K17 hK17 => ?_)
        refine Hd.seq (fun K18 hK18 => ?_)
        refine Hd.region ?_
        refine Hd.yv (y_move rfl) ?_
        refine Hd.yv (y_len Try.underlying22 rfl) ?_
        refine Hd.yv (y_move rfl) ?_
        refine Hd.yv (y_len Try.underlying22 rfl) ?_
        refine Hd.yv (y_to (y_neq rfl rfl) (congrArg Value.bool (decide_eq_false ((fun h => h rfl))))) ?_
        refine Hd.nil ?_
        refine Hd.slots [(5, _), (8, _), (11, _), (80, _)] ⟨rfl, rfl, rfl, rfl, trivial⟩ ?_
        refine Hd.toK hK18 ?_
        refine Hd.condF rfl ?_
        refine Hd.skip ?_
        refine Hd.toK hK17 ?_
        refine Hd.seq (fun K19 hK19 => ?_)
        refine Hd.seq (fun K20 hK20 => ?_)
        refine Hd.region ?_
        refine Hd.yv (y_move rfl) ?_
        refine Hd.yv (y_len Try.underlying22 rfl) ?_
        refine Hd.yv (y_move rfl) ?_
        refine Hd.nil ?_
        refine Hd.slots [(5, _), (8, _), (11, _), (82, _), (83, _)] ⟨rfl, rfl, rfl, rfl, rfl, trivial⟩ ?_
        refine Hd.toK hK20 ?_
        refine Hd.block ?_
        refine Hd.loopK (ι := Nat) [(5, _), (8, _), (11, _), (82, _)] (fun k => [(83, .int .i64 (k : Int))]) (fun k => pu (k ≤ s.length) :: OwI a11 s.length c11 s :: OwI a8 s.length c8 s :: HpA b s :: L) (fun k => s.length - k) 0 (by repeat (first | exact trivial | refine ⟨rfl, ?_⟩)) (by repeat (first | exact trivial | refine ⟨rfl, ?_⟩)) (Ent.sep (.pure (by first | omega | (simp; done) | (simp; omega) | exact ⟨by simp, by simp⟩) enn)) ?_
        intro k
        try dsimp only
        refine Hd.pure (fun hp1 => ?_)
        try dsimp only at hp1
        refine Hd.seq (fun K21 hK21 => ?_)
        refine Hd.region ?_
        refine Hd.yv (y_lss rfl rfl) ?_
        refine Hd.nil ?_
        refine Hd.slots [(5, _), (8, _), (11, _), (82, _), (83, _), (84, _)] ⟨rfl, rfl, rfl, rfl, rfl, rfl, trivial⟩ ?_
        refine Hd.toK hK21 ?_
        refine Hd.seq (fun K22 hK22 => ?_)
        refine Hd.cond rfl (fun hc4 => ?_) (fun hc4 => ?_)
        ·
          try simp only [decide_eq_true_eq, decide_eq_false_iff_not, Bool.and_eq_true, Bool.or_eq_true, Bool.and_eq_false_iff, Bool.or_eq_false_iff, Bool.not_eq_true', Bool.not_eq_false', Bool.not_eq_true, Bool.not_eq_false, Int.not_lt, Int.not_le, Decidable.not_not, ne_eq] at hc4
          have hk : k < s.length := by omega
          refine Hd.skip ?_
          refine Hd.toK hK22 ?_
          refine Hd.seq (fun K23 hK23 => ?_)
          refine Hd.block ?_
          refine Hd.seq (fun K24 hK24 => ?_)
          refine Hd.region ?_
          refine Hd.yv (y_move rfl) ?_
          refine Hd.yv (y_assign rfl) ?_
          refine Hd.nil ?_
          refine Hd.slots [(5, _), (8, _), (11, _), (12, _), (82, _), (83, _)] ⟨rfl, rfl, rfl, rfl, rfl, rfl, trivial⟩ ?_
          refine Hd.toK hK24 ?_
          refine Hd.seq (fun K25 hK25 => ?_)
          refine Hd.quiet mixed (by kernel_rfl) ?_
          refine Hq.yv (y_move rfl) ?_
          refine Hq.yv (y_move rfl) ?_
          first | (refine Hq.yv (y_idxS Try.underlying22 sz31 rfl rfl (by first | omega | decide)) ?_) | (refine Hq.yv (y_idxR Try.underlying22 sz31 rfl rfl (by first | omega | decide) (by (first | exact RdS.own pkk | exact RdS.mono hR (Ent.sep enn)))) ?_)
          refine Hq.yv (y_loadRn (vs := [_, _, _]) ag31 rfl (RdS.own (ad := a11) (us := s.flatMap encI) pkk) (flat_cells encI 3 (fun _ => rfl) (g_at hk)) (by exact sz31) (by simp)) ?_
          refine Hq.yv (y_move rfl) ?_
          refine Hq.yv (y_move rfl) ?_
          first | (refine Hq.yv (y_idxS Try.underlying22 sz31 rfl rfl (by first | omega | decide)) ?_) | (refine Hq.yv (y_idxR Try.underlying22 sz31 rfl rfl (by first | omega | decide) (by (first | exact RdS.own pkk | exact RdS.mono hR (Ent.sep enn)))) ?_)
          refine Hq.yv (y_loadRn (vs := [_, _, _]) ag31 rfl (RdS.own (ad := a8) (us := s.flatMap encI) pkk) (flat_cells encI 3 (fun _ => rfl) (g_at hk)) (by exact sz31) (by simp)) ?_
          refine Hq.yv (y_to (v' := .bool false) (y_neq_agg rfl rfl eqt31 rfl ⟨rfl, rfl⟩) (by (rw [allEq_encI]; simp))) ?_
          refine Hq.nil ?_
          refine Hd.slots [(5, _), (8, _), (11, _), (82, _), (83, _), (94, _)] ⟨rfl, rfl, rfl, rfl, rfl, rfl, trivial⟩ ?_
          refine Hd.toK hK25 ?_
          refine Hd.condF rfl ?_
          refine Hd.skip ?_
          refine Hd.inB ?_
          refine Hd.toK hK23 ?_
          refine Hd.region ?_
          first | (refine Hd.yv (y_addn rfl rfl (by simp only [InK]; omega)) ?_) | (refine Hd.yv (y_add rfl rfl) ?_)
          refine Hd.yv (y_move rfl) ?_
          refine Hd.nil ?_
          refine Hd.slots [(5, _), (8, _), (11, _), (82, _), (83, _)] ⟨rfl, rfl, rfl, rfl, rfl, trivial⟩ ?_
          clear hK1 hK2 hK3 hK4 hK6 hK7 hK8 hK9 hK10 hK13 hK14 hK16 hK17 hK18 hK19 hK20 hK21 hK22 hK23 hK24 hK25
          refine Hd.thenN ?_
          exact Hd.again (k + 1) (by first | omega | (simp only; omega) | (simp; omega)) (by repeat (first | exact trivial | refine ⟨rfl, ?_⟩)) (Ent.sep (.pure (by first | omega | (simp; done) | (simp; omega) | (dsimp only; omega)) enn))
        ·
          try simp only [decide_eq_true_eq, decide_eq_false_iff_not, Bool.and_eq_true, Bool.or_eq_true, Bool.and_eq_false_iff, Bool.or_eq_false_iff, Bool.not_eq_true', Bool.not_eq_false', Bool.not_eq_true, Bool.not_eq_false, Int.not_lt, Int.not_le, Decidable.not_not, ne_eq] at hc4
          refine Hd.exit ?_
          refine Hd.thenExit ?_
          refine Hd.thenExit ?_
          refine Hd.inBexit ?_
          refine Hd.toK hK19 ?_
          refine Hd.seq (fun K26 hK26 => ?_)
          refine Hd.region ?_
          refine Hd.yv (y_move rfl) ?_
          refine Hd.yv (y_assign rfl) ?_
          refine Hd.nil ?_
          refine Hd.slots [(4, _)] ⟨rfl, trivial⟩ ?_
          refine Hd.toK hK26 ?_
          refine Hd.ret ?_
          clear hK1 hK2 hK3 hK4 hK6 hK7 hK8 hK9 hK10 hK13 hK14 hK16 hK17 hK18 hK19 hK20 hK21 hK22 hK26
          exact Hd.ret1 rfl () (by first | rfl | (simp only [*]; done) | (simp [*]; done)) (Ent.sep enn)
end Hp
end Go.Proofs.Ytcnegelaenkgpaa
