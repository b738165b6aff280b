/-
  The law HeapSorts answers true.
-/
import Derived.Test.YtcnegelaenkgpaaHe16
namespace Go.Proofs.Ytcnegelaenkgpaa
set_option linter.unusedSimpArgs false
set_option linter.unusedVariables false
set_option linter.unnecessarySimpa false
open Go.RX Fx
namespace Hp
set_option maxRecDepth 8000
def cntI (l : List It) (k : Int) : Nat := l.countP fun y => y.id == k
def mtI (l : List It) : Int → Option Value := fun k => if cntI l k = 0 then none else some (.int .i64 (cntI l k : Nat))
theorem mtI_get (l : List It) (k : Int) : (mtI l k).getD (.int .i64 0) = .int .i64 (cntI l k : Nat) := by
  unfold mtI; split
  · rename_i h; rw [h]; rfl
  · rfl
theorem mtI_some (l : List It) (k : Int) : (mtI l k).isSome = decide (cntI l k ≠ 0) := by
  unfold mtI; split
  · rename_i h; simp [h]
  · rename_i h; simp [h]
theorem cnt_le (l : List It) (k : Int) : cntI l k ≤ l.length := List.countP_le_length
theorem cnt_take {xs : List It} {i : Nat} (h : i < xs.length) (k : Int) : cntI (xs.take (i + 1)) k = cntI (xs.take i) k + if (g xs i).id = k then 1 else 0 := by
  unfold cntI
  rw [List.take_add_one, g_at h, List.countP_append]
  simp [List.countP_cons]
theorem mtI_put {xs : List It} {i : Nat} (h : i < xs.length) : mtI (xs.take (i + 1)) = fun c => if c = (g xs i).id then some (.int .i64 ((cntI (xs.take i) (g xs i).id : Nat) + 1 : Int)) else mtI (xs.take i) c := by
  funext c
  unfold mtI
  rw [cnt_take h]
  by_cases e : c = (g xs i).id
  · subst e; simp
  · have n : ¬ (g xs i).id = c := fun q => e q.symm
    rw [if_neg n, if_neg e, Nat.add_zero]
def Met (s l : List It) : Prop := ∀ k, (findI k s).isSome = true ↔ cntI l k ≠ 0
theorem find_isSome (k : Int) (s : List It) : (findI k s).isSome = true ↔ ∃ y ∈ s, y.id = k := by
  unfold findI; rw [List.find?_isSome]; simp
theorem Met.push {s xs : List It} {i : Nat} (hM : Met s (xs.take i)) (h : i < xs.length) : Met (pushS s (g xs i)) (xs.take (i + 1)) ∧ (pushV s (g xs i) = 0 ↔ cntI (xs.take i) (g xs i).id = 0)
    ∧ (pushS s (g xs i)).length = (if (mtI (xs.take i) (g xs i).id).isSome then s.length else s.length + 1) := by
  have hx := hM (g xs i).id
  by_cases hf : (findI (g xs i).id s).isSome = true
  · have hc := hx.1 hf
    have e1 : pushS s (g xs i) = s := by unfold pushS; rw [if_pos hf]
    have e2 : pushV s (g xs i) = 30 := by unfold pushV; rw [if_pos hf]
    rw [e1, e2, mtI_some]
    refine ⟨fun k => ?_, by simp [hc], by simp [hc]⟩
    rw [hM k, cnt_take h]
    split
    · rename_i e; subst e; simp [hc]
    · simp
  · have hc : cntI (xs.take i) (g xs i).id = 0 := Decidable.byContradiction fun q => hf (hx.2 q)
    have e1 : pushS s (g xs i) = insI (g xs i) s := by unfold pushS; rw [if_neg hf]
    have e2 : pushV s (g xs i) = 0 := by unfold pushV; rw [if_neg hf]
    rw [e1, e2, mtI_some]
    refine ⟨fun k => ?_, by simp [hc], by rw [(insI_perm _ s).length_eq]; simp [hc]⟩
    rw [cnt_take h, find_isSome]
    split
    · rename_i e
      exact ⟨fun _ => by omega, fun _ => ⟨_, insI_mem.2 (.inl rfl), e⟩⟩
    · rename_i e
      rw [Nat.add_zero, ← hM k, find_isSome]
      constructor
      · rintro ⟨y, hy, q⟩
        rcases insI_mem.1 hy with rfl | hy
        · exact absurd q e
        · exact ⟨y, hy, q⟩
      · rintro ⟨y, hy, q⟩; exact ⟨y, insI_mem.2 (.inr hy), q⟩
theorem HpF.drop {s : List It} (hF : HpF s) (k : Nat) : HpF (s.drop k) :=
  ⟨hF.srt.sublist (List.drop_sublist k s), hF.nd.sublist (List.Sublist.map _ (List.drop_sublist k s)), by rw [List.length_drop]; have := hF.len; omega⟩
theorem drop_g {s : List It} {k : Nat} (h : k < s.length) : s.drop k = g s k :: s.drop (k + 1) := by
  rw [List.drop_eq_getElem_cons h]
  congr 1
  have := g_at h
  rw [List.getElem?_eq_getElem h] at this
  exact Option.some.inj this
theorem push_drop {s : List It} (hF : HpF s) {k : Nat} (h : k < s.length) : pushV (s.drop (k + 1)) (g s k) = 0 ∧ pushS (s.drop (k + 1)) (g s k) = s.drop k := by
  have hd := hF.drop k
  have e := drop_g h
  have hn : (g s k).id ∉ (s.drop (k + 1)).map It.id := by
    have := hd.nd; rw [e, List.map_cons, List.nodup_cons] at this; exact this.1
  have hr : remI (g s k).id (s.drop k) = s.drop (k + 1) := by
    rw [e]
    unfold remI
    rw [List.filter_cons_of_neg (by simp)]
    exact (findI_none (id := (g s k).id) fun x hx q => hn (List.mem_map.2 ⟨x, hx, q⟩)).2
  have := push_back hd (id := (g s k).id) (x := g s k) (findI_some hd.nd (by rw [e]; exact List.mem_cons_self) rfl).1
  rwa [hr] at this
theorem top_drop {s : List It} {k : Nat} (h : k < s.length) : topI (s.drop k) = (g s k, true) := by rw [drop_g h]; rfl
theorem tail_drop (s : List It) (k : Nat) : (s.drop k).tail = s.drop (k + 1) := List.tail_drop
theorem lt_pred {s : List It} (hF : HpF s) {k : Nat} (h : k < s.length) (h0 : 0 < k) : ltI (g s (k - 1)) (g s k) := by
  have h1 := List.pairwise_iff_getElem.1 hF.srt (k - 1) k (by omega) h (by omega)
  have e1 : s[k - 1]'(by omega) = g s (k - 1) := by
    have := g_at (V := s) (j := k - 1) (by omega)
    rw [List.getElem?_eq_getElem (by omega)] at this; exact Option.some.inj this
  have e2 : s[k] = g s k := by
    have := g_at (V := s) (j := k) h
    rw [List.getElem?_eq_getElem h] at this; exact Option.some.inj this
  rwa [e1, e2] at h1
set_option maxHeartbeats 2000000 in
theorem lawSorts_ct (L : List SP) (ad : Option Addr) (c : Nat) (xs : List It) (hR : RdS L 3 ad xs.length (xs.flatMap encI)) : Ct Try.prog 3 #[.slice ad xs.length c] (L) (fun _ : Unit => .bool true) (fun _ : Unit => L) := by
  refine Ct.of (vs := [.slice ad xs.length c]) Try.func3 rfl rfl [(0, .slice ad xs.length c)] (by repeat (first | exact trivial | refine ⟨rfl, ?_⟩)) ?_
  intro E
  show Hd E 145 _ _ _ _
  refine Hd.seq (fun K1 hK1 => ?_)
  refine Hd.region ?_
  refine Hd.yv (y_assign rfl) ?_
  refine Hd.nil ?_
  refine Hd.slots [(0, _)] ⟨rfl, trivial⟩ ?_
  refine Hd.toK hK1 ?_
  refine Hd.seq (fun K2 hK2 => ?_)
  refine Hd.region ?_
  refine Hd.callE rfl fk16 (alive_ct _) (Ent.sep enn) ?_
  intro _
  refine Hd.yv (y_assign rfl) ?_
  refine Hd.nil ?_
  refine Hd.slots [(0, _), (3, _)] ⟨rfl, rfl, trivial⟩ ?_
  refine Hd.toK hK2 ?_
  refine Hd.seq (fun K3 hK3 => ?_)
  refine Hd.seq (fun K4 hK4 => ?_)
  refine Hd.region ?_
  refine Hd.yv (y_move rfl) ?_
  refine Hd.yv (y_len Try.underlying22 rfl) ?_
  refine Hd.yv (y_gtr rfl rfl) ?_
  refine Hd.yv (y_move rfl) ?_
  apply Hd.org 3 21 24 [(0, _), (3, _)] rfl ⟨rfl, rfl, trivial⟩
  · intro hg2_21
    try simp only [decide_eq_true_eq, decide_eq_false_iff_not, Bool.and_eq_true, Bool.or_eq_true, Bool.and_eq_false_iff, Bool.or_eq_false_iff, Bool.not_eq_true', Bool.not_eq_false', Bool.not_eq_true, Bool.not_eq_false, Int.not_lt, Int.not_le, Decidable.not_not, ne_eq] at hg2_21
    simp only [List.take]
    refine Hd.ng rfl rfl rfl ?_
    refine Hd.ng rfl rfl rfl ?_
    first | (refine Hd.yv (y_pickT rfl rfl) ?_) | (refine Hd.yv (y_pickF rfl rfl) ?_) | (refine Hd.yv (y_pickb rfl rfl rfl) ?_) | (refine Hd.yv (y_pick rfl rfl rfl) ?_)
    refine Hd.nil ?_
    exact Hd.mend (by repeat (first | exact trivial | refine ⟨rfl, ?_⟩)) (Ent.sep enn)
  · intro hg2_21
    try simp only [decide_eq_true_eq, decide_eq_false_iff_not, Bool.and_eq_true, Bool.or_eq_true, Bool.and_eq_false_iff, Bool.or_eq_false_iff, Bool.not_eq_true', Bool.not_eq_false', Bool.not_eq_true, Bool.not_eq_false, Int.not_lt, Int.not_le, Decidable.not_not, ne_eq] at hg2_21
    simp only [List.take]
    refine Hd.yg rfl rfl (y_move rfl) ?_
    refine Hd.yg rfl rfl (y_not rfl) ?_
    first | (refine Hd.yv (y_pickT rfl rfl) ?_) | (refine Hd.yv (y_pickF rfl rfl) ?_) | (refine Hd.yv (y_pickb rfl rfl rfl) ?_) | (refine Hd.yv (y_pick rfl rfl rfl) ?_)
    refine Hd.nil ?_
    exact Hd.mend (by repeat (first | exact trivial | refine ⟨rfl, ?_⟩)) (Ent.sep enn)
  simp only [List.drop]
  refine Hd.nil ?_
  refine Hd.slots [(0, _), (3, _), (24, _)] ⟨rfl, rfl, rfl, trivial⟩ ?_
  refine Hd.toK hK4 ?_
  refine Hd.cond rfl (fun hc0 => ?_) (fun hc0 => ?_)
  ·
    try simp only [decide_eq_true_eq, decide_eq_false_iff_not, Bool.and_eq_true, Bool.or_eq_true, Bool.and_eq_false_iff, Bool.or_eq_false_iff, Bool.not_eq_true', Bool.not_eq_false', Bool.not_eq_true, Bool.not_eq_false, Int.not_lt, Int.not_le, Decidable.not_not, ne_eq] at hc0
    refine Hd.seq (fun K5 hK5 => ?_)
    refine Hd.region ?_
    refine Hd.yv (y_move rfl) ?_
    refine Hd.yv (y_assign rfl) ?_
    refine Hd.nil ?_
    refine Hd.slots [(2, _)] ⟨rfl, trivial⟩ ?_
    refine Hd.toK hK5 ?_
    refine Hd.ret ?_
    refine Hd.thenRet ?_
    clear hK1 hK2 hK3 hK4 hK5
    exact Hd.ret1 rfl () (by first | rfl | (simp only [*]; done) | (simp [*]; done)) (Ent.sep enn)
  ·
    try simp only [decide_eq_true_eq, decide_eq_false_iff_not, Bool.and_eq_true, Bool.or_eq_true, Bool.and_eq_false_iff, Bool.or_eq_false_iff, Bool.not_eq_true', Bool.not_eq_false', Bool.not_eq_true, Bool.not_eq_false, Int.not_lt, Int.not_le, Decidable.not_not, ne_eq] at hc0
    have hx : xs.length ≤ 200 := by have := hc0; simp at this; omega
    refine Hd.skip ?_
    refine Hd.toK hK3 ?_
    refine Hd.seq (fun K6 hK6 => ?_)
    refine Hd.region ?_
    refine Hd.callE rfl fk17 (new_ct _) (Ent.sep enn) ?_
    intro b
    refine Hd.callE rfl fk17 (new_ct _) (Ent.sep enn) ?_
    intro d
    refine Hd.yv (y_assign rfl) ?_
    refine Hd.yv (y_assign rfl) ?_
    refine Hd.nil ?_
    refine Hd.slots [(0, _), (3, _), (4, _), (5, _)] ⟨rfl, rfl, rfl, rfl, trivial⟩ ?_
    refine Hd.toK hK6 ?_
    refine Hd.seq (fun K7 hK7 => ?_)
    refine Hd.region ?_
    refine Hd.makeMap .i64 (fun b28 => ?_)
    refine Hd.yv (y_assign rfl) ?_
    refine Hd.nil ?_
    refine Hd.slots [(0, _), (3, _), (4, _), (5, _), (6, _)] ⟨rfl, rfl, rfl, rfl, rfl, trivial⟩ ?_
    refine Hd.toK hK7 ?_
    refine Hd.seq (fun K8 hK8 => ?_)
    refine Hd.seq (fun K9 hK9 => ?_)
    refine Hd.region ?_
    refine Hd.yv (y_move rfl) ?_
    refine Hd.yv (y_len Try.underlying22 rfl) ?_
    refine Hd.yv (y_move rfl) ?_
    refine Hd.nil ?_
    refine Hd.slots [(0, _), (3, _), (4, _), (5, _), (6, _), (30, _), (31, _)] ⟨rfl, rfl, rfl, rfl, rfl, rfl, rfl, trivial⟩ ?_
    refine Hd.toK hK9 ?_
    refine Hd.block ?_
    refine Hd.heap (mp b28 .i64 (mtI (xs.take 0)) 0 :: HpA b [] :: HpA d [] :: L) (Ent.sep (show Ent _ (mp b28 .i64 (fun _ => none) 0 :: HpA b [] :: HpA d [] :: L) from enn)) ?_
    refine Hd.loopK (ι := Nat × List It) [(0, _), (3, _), (4, _), (5, _), (6, _), (30, _)] (fun q_ => [(31, .int .i64 (q_.1 : Int))]) (fun q_ => pu (q_.1 ≤ xs.length ∧ q_.2.length ≤ q_.1 ∧ Met q_.2 (xs.take q_.1)) :: mp b28 .i64 (mtI (xs.take q_.1)) q_.2.length :: HpA b q_.2 :: HpA d [] :: L) (fun q_ => xs.length - q_.1) (0, []) (by repeat (first | exact trivial | refine ⟨rfl, ?_⟩)) (by repeat (first | exact trivial | refine ⟨rfl, ?_⟩)) (Ent.sep (.pure ⟨Nat.zero_le _, Nat.zero_le _, fun k => by simp [findI, cntI]⟩ enn)) ?_
    rintro ⟨i, s⟩
    try dsimp only
    refine Hd.pure (fun hp0 => ?_)
    try dsimp only at hp0
    refine Hd.seq (fun K10 hK10 => ?_)
    refine Hd.region ?_
    refine Hd.yv (y_lss rfl rfl) ?_
    refine Hd.nil ?_
    refine Hd.slots [(0, _), (3, _), (4, _), (5, _), (6, _), (30, _), (31, _), (32, _)] ⟨rfl, rfl, rfl, rfl, rfl, rfl, rfl, rfl, trivial⟩ ?_
    refine Hd.toK hK10 ?_
    refine Hd.seq (fun K11 hK11 => ?_)
    refine Hd.cond rfl (fun hc1 => ?_) (fun hc1 => ?_)
    ·
      try simp only [decide_eq_true_eq, decide_eq_false_iff_not, Bool.and_eq_true, Bool.or_eq_true, Bool.and_eq_false_iff, Bool.or_eq_false_iff, Bool.not_eq_true', Bool.not_eq_false', Bool.not_eq_true, Bool.not_eq_false, Int.not_lt, Int.not_le, Decidable.not_not, ne_eq] at hc1
      have hi : i < xs.length := by omega
      obtain ⟨_, hsl, hM⟩ := hp0
      have hgi : xs[i]? = some (g xs i) := g_at hi
      have hmp := hM.push hi
      have hcl := cnt_le (xs.take i) (g xs i).id
      rw [List.length_take] at hcl
      refine Hd.skip ?_
      refine Hd.toK hK11 ?_
      refine Hd.seq (fun K12 hK12 => ?_)
      refine Hd.block ?_
      refine Hd.seq (fun K13 hK13 => ?_)
      refine Hd.region ?_
      refine Hd.yv (y_move rfl) ?_
      refine Hd.yv (y_assign rfl) ?_
      refine Hd.nil ?_
      refine Hd.slots [(0, _), (3, _), (4, _), (5, _), (6, _), (7, _), (30, _), (31, _)] ⟨rfl, rfl, rfl, rfl, rfl, rfl, rfl, rfl, trivial⟩ ?_
      refine Hd.toK hK13 ?_
      refine Hd.seq (fun K14 hK14 => ?_)
      refine Hd.region ?_
      refine Hd.yv (y_move rfl) ?_
      refine Hd.yv (y_move rfl) ?_
      refine Hd.yv (y_move rfl) ?_
      first | (refine Hd.yv (y_idxS Try.underlying22 sz31 rfl rfl (by first | omega | decide)) ?_) | (refine Hd.yv (y_idxR Try.underlying22 sz31 rfl rfl (by first | omega | decide) (by (first | exact RdS.own pkk | exact RdS.mono hR (Ent.sep enn)))) ?_)
      refine Hd.yv (y_loadRn (vs := [_, _, _]) ag31 rfl (RdS.mono hR (Ent.sep enn)) (flat_cells encI 3 (fun _ => rfl) hgi) (by exact sz31) (by simp)) ?_
      refine Hd.callE rfl fk18 (push_ct _ b s (by omega) (g xs i)) (Ent.sep enn) ?_
      intro _
      refine Hd.yv (y_assign rfl) ?_
      refine Hd.nil ?_
      refine Hd.slots [(0, _), (3, _), (4, _), (5, _), (6, _), (7, _), (8, _), (30, _), (31, _)] ⟨rfl, rfl, rfl, rfl, rfl, rfl, rfl, rfl, rfl, trivial⟩ ?_
      refine Hd.toK hK14 ?_
      refine Hd.seq (fun K15 hK15 => ?_)
      refine Hd.region ?_
      refine Hd.yv (y_move rfl) ?_
      refine Hd.yv (y_move rfl) ?_
      refine Hd.yv (y_move rfl) ?_
      first | (refine Hd.yv (y_idxS Try.underlying22 sz31 rfl rfl (by first | omega | decide)) ?_) | (refine Hd.yv (y_idxR Try.underlying22 sz31 rfl rfl (by first | omega | decide) (by (first | exact RdS.own pkk | exact RdS.mono hR (Ent.sep enn)))) ?_)
      first | (refine Hd.yv (y_field' (q := 0) (ft := 3) Try.underlying31 rfl sz3 rfl rfl) ?_) | (refine Hd.yv (y_fieldR (q := 0) (ft := 3) Try.underlying31 rfl sz3 rfl rfl) ?_)
      first | (refine Hd.yv (y_load1 ag3 rfl (Rd.pt1 pkk (by (first | exact flat_cells encI 3 (fun _ => rfl) hgi 0 _ rfl | rfl)))) ?_) | (refine Hd.yv (y_load1 ag3 rfl (Rd.seg1 pkk (by (first | exact flat_cells encI 3 (fun _ => rfl) hgi 0 _ rfl | rfl)))) ?_) | (refine Hd.yv (y_loadR1 ag3 rfl (by (first | exact RdS.own pkk | exact RdS.mono hR (Ent.sep enn))) (by (first | exact flat_cells encI 3 (fun _ => rfl) hgi 0 _ rfl | rfl))) ?_)
      refine Hd.yv (y_to (v' := .int .i64 (cntI (xs.take i) (g xs i).id : Nat)) (y_lookup mapt26 rfl rfl pkk) (by exact mtI_get _ _)) ?_
      first | (refine Hd.yv (y_addn rfl rfl (by simp only [InK]; omega)) ?_) | (refine Hd.yv (y_add rfl rfl) ?_)
      refine Hd.mapUpdate mapt26 rfl rfl rfl pkk ?_
      refine Hd.nil ?_
      refine Hd.heap (mp b28 .i64 (mtI (xs.take (i + 1))) (pushS s (g xs i)).length :: HpA b (pushS s (g xs i)) :: HpA d [] :: L) (Ent.sep (by rw [mtI_put hi, hmp.2.2]; exact enn)) ?_
      refine Hd.slots [(0, _), (3, _), (4, _), (5, _), (6, _), (7, _), (8, _), (30, _), (31, _)] ⟨rfl, rfl, rfl, rfl, rfl, rfl, rfl, rfl, rfl, trivial⟩ ?_
      refine Hd.toK hK15 ?_
      refine Hd.seq (fun K16 hK16 => ?_)
      refine Hd.region ?_
      refine Hd.yv (y_move rfl) ?_
      first | (refine Hd.yv (y_eqlT rfl rfl) ?_) | (refine Hd.yv (y_eql rfl rfl) ?_)
      refine Hd.yv (y_move rfl) ?_
      refine Hd.yv (y_move rfl) ?_
      refine Hd.yv (y_move rfl) ?_
      first | (refine Hd.yv (y_idxS Try.underlying22 sz31 rfl rfl (by first | omega | decide)) ?_) | (refine Hd.yv (y_idxR Try.underlying22 sz31 rfl rfl (by first | omega | decide) (by (first | exact RdS.own pkk | exact RdS.mono hR (Ent.sep enn)))) ?_)
      first | (refine Hd.yv (y_field' (q := 0) (ft := 3) Try.underlying31 rfl sz3 rfl rfl) ?_) | (refine Hd.yv (y_fieldR (q := 0) (ft := 3) Try.underlying31 rfl sz3 rfl rfl) ?_)
      first | (refine Hd.yv (y_load1 ag3 rfl (Rd.pt1 pkk (by (first | exact flat_cells encI 3 (fun _ => rfl) hgi 0 _ rfl | rfl)))) ?_) | (refine Hd.yv (y_load1 ag3 rfl (Rd.seg1 pkk (by (first | exact flat_cells encI 3 (fun _ => rfl) hgi 0 _ rfl | rfl)))) ?_) | (refine Hd.yv (y_loadR1 ag3 rfl (by (first | exact RdS.own pkk | exact RdS.mono hR (Ent.sep enn))) (by (first | exact flat_cells encI 3 (fun _ => rfl) hgi 0 _ rfl | rfl))) ?_)
      refine Hd.yv (y_to (v' := .int .i64 (cntI (xs.take (i + 1)) (g xs i).id : Nat)) (y_lookup mapt26 rfl rfl pkk) (by exact mtI_get _ _)) ?_
      first | (refine Hd.yv (y_eqlT rfl rfl) ?_) | (refine Hd.yv (y_eql rfl rfl) ?_)
      refine Hd.yv (y_to (v' := .bool false) (y_neqb Try.underlying4 rfl rfl) (by (have e := hmp.2.1; have e2 := cnt_take hi (g xs i).id; rw [if_pos rfl] at e2; rw [e2]; by_cases q : pushV s (g xs i) = 0 <;> simp [q] <;> omega))) ?_
      refine Hd.nil ?_
      refine Hd.slots [(0, _), (3, _), (4, _), (5, _), (6, _), (30, _), (31, _), (58, _)] ⟨rfl, rfl, rfl, rfl, rfl, rfl, rfl, rfl, trivial⟩ ?_
      refine Hd.toK hK16 ?_
      refine Hd.condF rfl ?_
      refine Hd.skip ?_
      refine Hd.inB ?_
      refine Hd.toK hK12 ?_
      refine Hd.region ?_
      first | (refine Hd.yv (y_addn rfl rfl (by simp only [InK]; omega)) ?_) | (refine Hd.yv (y_add rfl rfl) ?_)
      refine Hd.yv (y_move rfl) ?_
      refine Hd.nil ?_
      refine Hd.slots [(0, _), (3, _), (4, _), (5, _), (6, _), (30, _), (31, _)] ⟨rfl, rfl, rfl, rfl, rfl, rfl, rfl, trivial⟩ ?_
      clear hK1 hK2 hK3 hK4 hK6 hK7 hK8 hK9 hK10 hK11 hK12 hK13 hK14 hK15 hK16
      refine Hd.thenN ?_
      exact Hd.again (i + 1, pushS s (g xs i)) (by first | omega | (simp only; omega) | (simp; omega)) (by repeat (first | exact trivial | refine ⟨rfl, ?_⟩)) (Ent.sep (.pure ⟨hi, by have := pushS_len s (g xs i); show (pushS s (g xs i)).length ≤ i + 1; omega, hmp.1⟩ enn))
    ·
      try simp only [decide_eq_true_eq, decide_eq_false_iff_not, Bool.and_eq_true, Bool.or_eq_true, Bool.and_eq_false_iff, Bool.or_eq_false_iff, Bool.not_eq_true', Bool.not_eq_false', Bool.not_eq_true, Bool.not_eq_false, Int.not_lt, Int.not_le, Decidable.not_not, ne_eq] at hc1
      have hs := hp0.2.1
      have hi0 := hp0.1
      refine Hd.hpF (b := b) (s := s) pkk (fun hF => ?_)
      have hl := hF.len
      refine Hd.exit ?_
      refine Hd.thenExit ?_
      refine Hd.thenExit ?_
      refine Hd.inBexit ?_
      refine Hd.toK hK8 ?_
      refine Hd.seq (fun K17 hK17 => ?_)
      refine Hd.region ?_
      refine Hd.yv (y_move rfl) ?_
      refine Hd.callE rfl fk19 (all_ct _ b s) (Ent.sep enn) ?_
      rintro ⟨a9, c9⟩
      dsimp only
      refine Hd.yv (y_assign rfl) ?_
      refine Hd.nil ?_
      refine Hd.slots [(3, _), (4, _), (5, _), (6, _), (9, _)] ⟨rfl, rfl, rfl, rfl, rfl, trivial⟩ ?_
      refine Hd.toK hK17 ?_
      refine Hd.seq (fun K18 hK18 => ?_)
      refine Hd.seq (fun K19 hK19 => ?_)
      refine Hd.region ?_
      refine Hd.yv (y_move rfl) ?_
      refine Hd.yv (y_len Try.underlying22 rfl) ?_
      first | (refine Hd.yv (y_subn rfl rfl (by simp only [InK]; omega)) ?_) | (refine Hd.yv (y_sub rfl rfl) ?_)
      refine Hd.yv (y_assign rfl) ?_
      refine Hd.nil ?_
      refine Hd.slots [(3, _), (4, _), (5, _), (6, _), (9, _), (10, _)] ⟨rfl, rfl, rfl, rfl, rfl, rfl, trivial⟩ ?_
      refine Hd.toK hK19 ?_
      refine Hd.block ?_
      refine Hd.loopK (ι := Nat) [(3, _), (4, _), (5, _), (6, _), (9, _)] (fun k => [(10, .int .i64 ((k : Int) - 1))]) (fun k => pu (k ≤ s.length) :: OwI a9 s.length c9 s :: HpA b s :: HpA d (s.drop k) :: mp b28 .i64 (mtI (xs.take i)) s.length :: L) (fun k => k) (s.length) (by repeat (first | exact trivial | refine ⟨rfl, ?_⟩)) (by repeat (first | exact trivial | refine ⟨rfl, ?_⟩)) (Ent.sep (.pure (Nat.le_refl _) (by rw [List.drop_length]; exact enn))) ?_
      intro k
      try dsimp only
      refine Hd.pure (fun hp1 => ?_)
      try dsimp only at hp1
      refine Hd.seq (fun K20 hK20 => ?_)
      refine Hd.seq (fun K21 hK21 => ?_)
      refine Hd.region ?_
      refine Hd.yv (y_move rfl) ?_
      refine Hd.yv (y_geq rfl rfl) ?_
      refine Hd.nil ?_
      refine Hd.slots [(3, _), (4, _), (5, _), (6, _), (9, _), (10, _), (66, _)] ⟨rfl, rfl, rfl, rfl, rfl, rfl, rfl, trivial⟩ ?_
      refine Hd.toK hK21 ?_
      refine Hd.cond rfl (fun hc3 => ?_) (fun hc3 => ?_)
      ·
        try simp only [decide_eq_true_eq, decide_eq_false_iff_not, Bool.and_eq_true, Bool.or_eq_true, Bool.and_eq_false_iff, Bool.or_eq_false_iff, Bool.not_eq_true', Bool.not_eq_false', Bool.not_eq_true, Bool.not_eq_false, Int.not_lt, Int.not_le, Decidable.not_not, ne_eq] at hc3
        have hk : k - 1 < s.length := by omega
        have hkk : k - 1 + 1 = k := by omega
        have hpd := push_drop hF hk
        rw [hkk] at hpd
        refine Hd.skip ?_
        refine Hd.toK hK20 ?_
        refine Hd.seq (fun K22 hK22 => ?_)
        refine Hd.block ?_
        refine Hd.seq (fun K23 hK23 => ?_)
        refine Hd.region ?_
        refine Hd.yv (y_move rfl) ?_
        refine Hd.yv (y_move rfl) ?_
        refine Hd.yv (y_to (v' := .int .i64 ((k - 1 : Nat) : Int)) (y_move rfl) (by (congr 1; omega))) ?_
        first | (refine Hd.yv (y_idxS Try.underlying22 sz31 rfl rfl (by first | omega | decide)) ?_) | (refine Hd.yv (y_idxR Try.underlying22 sz31 rfl rfl (by first | omega | decide) (by (first | exact RdS.own pkk | exact RdS.mono hR (Ent.sep enn)))) ?_)
        refine Hd.yv (y_loadRn (vs := [_, _, _]) ag31 rfl (RdS.own (ad := a9) (us := s.flatMap encI) pkk) (flat_cells encI 3 (fun _ => rfl) (g_at hk)) (by exact sz31) (by simp)) ?_
        refine Hd.callE rfl fk18 (push_ct _ d (s.drop k) (by rw [List.length_drop]; omega) (g s (k - 1))) (Ent.sep enn) ?_
        intro _
        rw [hpd.1, hpd.2]
        refine Hd.yv (y_assign rfl) ?_
        refine Hd.nil ?_
        refine Hd.slots [(3, _), (4, _), (5, _), (6, _), (9, _), (10, _), (11, _)] ⟨rfl, rfl, rfl, rfl, rfl, rfl, rfl, trivial⟩ ?_
        refine Hd.toK hK23 ?_
        refine Hd.seq (fun K24 hK24 => ?_)
        refine Hd.region ?_
        refine Hd.yv (y_move rfl) ?_
        refine Hd.yv (y_to (y_neq rfl rfl) (congrArg Value.bool (decide_eq_false ((fun h => h rfl))))) ?_
        refine Hd.nil ?_
        refine Hd.slots [(3, _), (4, _), (5, _), (6, _), (9, _), (10, _), (76, _)] ⟨rfl, rfl, rfl, rfl, rfl, rfl, rfl, trivial⟩ ?_
        refine Hd.toK hK24 ?_
        refine Hd.condF rfl ?_
        refine Hd.skip ?_
        refine Hd.inB ?_
        refine Hd.toK hK22 ?_
        refine Hd.region ?_
        refine Hd.yv (y_move rfl) ?_
        first | (refine Hd.yv (y_to (v' := .int .i64 (((k - 1 : Nat) : Int) - 1)) (y_subn rfl rfl (by simp only [InK]; omega)) (by (congr 1; omega))) ?_) | (refine Hd.yv (y_to (v' := .int .i64 (((k - 1 : Nat) : Int) - 1)) (y_sub rfl rfl) (by (congr 1; omega))) ?_)
        refine Hd.yv (y_assign rfl) ?_
        refine Hd.nil ?_
        refine Hd.slots [(3, _), (4, _), (5, _), (6, _), (9, _), (10, _)] ⟨rfl, rfl, rfl, rfl, rfl, rfl, trivial⟩ ?_
        clear hK1 hK2 hK3 hK4 hK6 hK7 hK8 hK9 hK10 hK11 hK17 hK18 hK19 hK20 hK21 hK22 hK23 hK24
        refine Hd.thenN ?_
        exact Hd.again (k - 1) (by first | omega | (simp only; omega) | (simp; omega)) (by repeat (first | exact trivial | refine ⟨rfl, ?_⟩)) (Ent.sep (.pure (by first | omega | (simp; done) | (simp; omega) | (dsimp only; omega)) enn))
      ·
        try simp only [decide_eq_true_eq, decide_eq_false_iff_not, Bool.and_eq_true, Bool.or_eq_true, Bool.and_eq_false_iff, Bool.or_eq_false_iff, Bool.not_eq_true', Bool.not_eq_false', Bool.not_eq_true, Bool.not_eq_false, Int.not_lt, Int.not_le, Decidable.not_not, ne_eq] at hc3
        have hk0 : k = 0 := by omega
        subst hk0
        rw [List.drop_zero]
        refine Hd.exit ?_
        refine Hd.thenExit ?_
        refine Hd.thenExit ?_
        refine Hd.inBexit ?_
        refine Hd.toK hK18 ?_
        refine Hd.seq (fun K25 hK25 => ?_)
        refine Hd.seq (fun K26 hK26 => ?_)
        refine Hd.region ?_
        refine Hd.yv (y_move rfl) ?_
        refine Hd.yv (y_len Try.underlying22 rfl) ?_
        refine Hd.yv (y_move rfl) ?_
        refine Hd.yv (y_lenM Try.underlying26 rfl pkk) ?_
        refine Hd.yv (y_to (y_neq rfl rfl) (congrArg Value.bool (decide_eq_false ((fun h => h rfl))))) ?_
        refine Hd.nil ?_
        refine Hd.slots [(3, _), (4, _), (5, _), (9, _), (81, _)] ⟨rfl, rfl, rfl, rfl, rfl, trivial⟩ ?_
        refine Hd.toK hK26 ?_
        refine Hd.condF rfl ?_
        refine Hd.skip ?_
        refine Hd.toK hK25 ?_
        refine Hd.seq (fun K27 hK27 => ?_)
        refine Hd.seq (fun K28 hK28 => ?_)
        refine Hd.region ?_
        refine Hd.yv (y_move rfl) ?_
        refine Hd.yv (y_len Try.underlying22 rfl) ?_
        refine Hd.yv (y_move rfl) ?_
        refine Hd.nil ?_
        refine Hd.slots [(3, _), (4, _), (5, _), (9, _), (83, _), (84, _)] ⟨rfl, rfl, rfl, rfl, rfl, rfl, trivial⟩ ?_
        refine Hd.toK hK28 ?_
        refine Hd.block ?_
        refine Hd.loopK (ι := Nat) [(3, _), (4, _), (5, _), (9, _), (83, _)] (fun k => [(84, .int .i64 (k : Int))]) (fun k => pu (k ≤ s.length) :: OwI a9 s.length c9 s :: HpA b (s.drop k) :: HpA d (s.drop k) :: mp b28 .i64 (mtI (xs.take i)) s.length :: L) (fun k => s.length - k) 0 (by repeat (first | exact trivial | refine ⟨rfl, ?_⟩)) (by repeat (first | exact trivial | refine ⟨rfl, ?_⟩)) (Ent.sep (.pure (by first | omega | (simp; done) | (simp; omega) | exact ⟨by simp, by simp⟩) enn)) ?_
        intro k
        try dsimp only
        refine Hd.pure (fun hp2 => ?_)
        try dsimp only at hp2
        refine Hd.seq (fun K29 hK29 => ?_)
        refine Hd.region ?_
        refine Hd.yv (y_lss rfl rfl) ?_
        refine Hd.nil ?_
        refine Hd.slots [(3, _), (4, _), (5, _), (9, _), (83, _), (84, _), (85, _)] ⟨rfl, rfl, rfl, rfl, rfl, rfl, rfl, trivial⟩ ?_
        refine Hd.toK hK29 ?_
        refine Hd.seq (fun K30 hK30 => ?_)
        refine Hd.cond rfl (fun hc6 => ?_) (fun hc6 => ?_)
        ·
          try simp only [decide_eq_true_eq, decide_eq_false_iff_not, Bool.and_eq_true, Bool.or_eq_true, Bool.and_eq_false_iff, Bool.or_eq_false_iff, Bool.not_eq_true', Bool.not_eq_false', Bool.not_eq_true, Bool.not_eq_false, Int.not_lt, Int.not_le, Decidable.not_not, ne_eq] at hc6
          have hk : k < s.length := by omega
          have htd := top_drop hk
          refine Hd.skip ?_
          refine Hd.toK hK30 ?_
          refine Hd.seq (fun K31 hK31 => ?_)
          refine Hd.block ?_
          refine Hd.seq (fun K32 hK32 => ?_)
          refine Hd.region ?_
          refine Hd.yv (y_move rfl) ?_
          refine Hd.yv (y_assign rfl) ?_
          refine Hd.nil ?_
          refine Hd.slots [(3, _), (4, _), (5, _), (9, _), (12, _), (83, _), (84, _)] ⟨rfl, rfl, rfl, rfl, rfl, rfl, rfl, trivial⟩ ?_
          refine Hd.toK hK32 ?_
          refine Hd.seq (fun K33 hK33 => ?_)
          refine Hd.region ?_
          refine Hd.yv (y_move rfl) ?_
          refine Hd.callE rfl fk20 (pop_ct _ b (s.drop k) (hF.drop k).nd) (Ent.sep enn) ?_
          intro _
          rw [htd, tail_drop]
          refine Hd.yv (y_move rfl) ?_
          refine Hd.yv (y_extract rfl rfl) ?_
          refine Hd.yv (y_extract rfl rfl) ?_
          refine Hd.alloc zr31 (fun b13 => ?_)
          refine Hd.storeA (us := encI (g s k)) sz31 rfl rfl rfl (encI_one _) pkk (by exact rfl) ?_
          refine Hd.yv (y_assign rfl) ?_
          refine Hd.nil ?_
          refine Hd.slots [(3, _), (4, _), (5, _), (9, _), (12, _), (13, _), (14, _), (83, _), (84, _)] ⟨rfl, rfl, rfl, rfl, rfl, rfl, rfl, rfl, rfl, trivial⟩ ?_
          refine Hd.toK hK33 ?_
          refine Hd.seq (fun K34 hK34 => ?_)
          refine Hd.region ?_
          refine Hd.yv (y_move rfl) ?_
          refine Hd.callE rfl fk20 (pop_ct _ d (s.drop k) (hF.drop k).nd) (Ent.sep enn) ?_
          intro _
          rw [htd, tail_drop]
          refine Hd.yv (y_move rfl) ?_
          refine Hd.yv (y_extract rfl rfl) ?_
          refine Hd.yv (y_extract rfl rfl) ?_
          refine Hd.alloc zr31 (fun b15 => ?_)
          refine Hd.storeA (us := encI (g s k)) sz31 rfl rfl rfl (encI_one _) pkk (by exact rfl) ?_
          refine Hd.yv (y_assign rfl) ?_
          refine Hd.nil ?_
          refine Hd.slots [(3, _), (4, _), (5, _), (9, _), (12, _), (13, _), (14, _), (15, _), (16, _), (83, _), (84, _)] ⟨rfl, rfl, rfl, rfl, rfl, rfl, rfl, rfl, rfl, rfl, rfl, trivial⟩ ?_
          refine Hd.toK hK34 ?_
          refine Hd.seq (fun K35 hK35 => ?_)
          refine Hd.quiet mixed (by kernel_rfl) ?_
          refine Hq.yv (y_move rfl) ?_
          refine Hq.yv (y_not rfl) ?_
          refine Hq.yv (y_move rfl) ?_
          refine Hq.yg rfl rfl (y_move rfl) ?_
          refine Hq.yg rfl rfl (y_not rfl) ?_
          first | (refine Hq.yv (y_pickT rfl rfl) ?_) | (refine Hq.yv (y_pickF rfl rfl) ?_) | (refine Hq.yv (y_pickb rfl rfl rfl) ?_) | (refine Hq.yv (y_pick rfl rfl rfl) ?_)
          refine Hq.yv (y_move rfl) ?_
          first | (refine Hq.yg rfl rfl (y_loadn (us := [_, _, _]) ag31 rfl (Rd.pt pkk (by (first | (intro j v e; rcases j with _|_|_|_|_|_|_|_|_|_|_|_|j <;> first | exact e | exact absurd e (by simp))))) (by exact sz31)) ?_) | (refine Hq.yg rfl rfl (y_loadn (us := [_, _, _]) ag31 rfl (Rd.seg pkk (by (first | (intro j v e; rcases j with _|_|_|_|_|_|_|_|_|_|_|_|j <;> first | exact e | exact absurd e (by simp))))) (by exact sz31)) ?_) | (refine Hq.yg rfl rfl (y_loadRn ag31 rfl (by (first | exact RdS.own pkk | exact RdS.mono hR (Ent.sep enn))) (by (first | (intro j v e; rcases j with _|_|_|_|_|_|_|_|_|_|_|_|j <;> first | exact e | exact absurd e (by simp)))) (by exact sz31) (by simp)) ?_)
          refine Hq.yg rfl rfl (y_move rfl) ?_
          refine Hq.yg rfl rfl (y_move rfl) ?_
          first | (refine Hq.yg rfl rfl (y_idxS Try.underlying22 sz31 rfl rfl (by first | omega | decide)) ?_) | (refine Hq.yg rfl rfl (y_idxR Try.underlying22 sz31 rfl rfl (by first | omega | decide) (by (first | exact RdS.own pkk | exact RdS.mono hR (Ent.sep enn)))) ?_)
          refine Hq.yg rfl rfl (y_loadRn (vs := [_, _, _]) ag31 rfl (RdS.own (ad := a9) (us := s.flatMap encI) pkk) (flat_cells encI 3 (fun _ => rfl) (g_at hk)) (by exact sz31) (by simp)) ?_
          refine Hq.yg rfl rfl (y_to (v' := .bool false) (y_neq_agg rfl rfl eqt31 rfl ⟨rfl, rfl⟩) (by (rw [allEq_encI]; simp))) ?_
          first | (refine Hq.yv (y_pickT rfl rfl) ?_) | (refine Hq.yv (y_pickF rfl rfl) ?_) | (refine Hq.yv (y_pickb rfl rfl rfl) ?_) | (refine Hq.yv (y_pick rfl rfl rfl) ?_)
          refine Hq.yv (y_move rfl) ?_
          first | (refine Hq.yg rfl rfl (y_loadn (us := [_, _, _]) ag31 rfl (Rd.pt pkk (by (first | (intro j v e; rcases j with _|_|_|_|_|_|_|_|_|_|_|_|j <;> first | exact e | exact absurd e (by simp))))) (by exact sz31)) ?_) | (refine Hq.yg rfl rfl (y_loadn (us := [_, _, _]) ag31 rfl (Rd.seg pkk (by (first | (intro j v e; rcases j with _|_|_|_|_|_|_|_|_|_|_|_|j <;> first | exact e | exact absurd e (by simp))))) (by exact sz31)) ?_) | (refine Hq.yg rfl rfl (y_loadRn ag31 rfl (by (first | exact RdS.own pkk | exact RdS.mono hR (Ent.sep enn))) (by (first | (intro j v e; rcases j with _|_|_|_|_|_|_|_|_|_|_|_|j <;> first | exact e | exact absurd e (by simp)))) (by exact sz31) (by simp)) ?_)
          refine Hq.yg rfl rfl (y_move rfl) ?_
          refine Hq.yg rfl rfl (y_move rfl) ?_
          first | (refine Hq.yg rfl rfl (y_idxS Try.underlying22 sz31 rfl rfl (by first | omega | decide)) ?_) | (refine Hq.yg rfl rfl (y_idxR Try.underlying22 sz31 rfl rfl (by first | omega | decide) (by (first | exact RdS.own pkk | exact RdS.mono hR (Ent.sep enn)))) ?_)
          refine Hq.yg rfl rfl (y_loadRn (vs := [_, _, _]) ag31 rfl (RdS.own (ad := a9) (us := s.flatMap encI) pkk) (flat_cells encI 3 (fun _ => rfl) (g_at hk)) (by exact sz31) (by simp)) ?_
          refine Hq.yg rfl rfl (y_to (v' := .bool false) (y_neq_agg rfl rfl eqt31 rfl ⟨rfl, rfl⟩) (by (rw [allEq_encI]; simp))) ?_
          first | (refine Hq.yv (y_pickT rfl rfl) ?_) | (refine Hq.yv (y_pickF rfl rfl) ?_) | (refine Hq.yv (y_pickb rfl rfl rfl) ?_) | (refine Hq.yv (y_pick rfl rfl rfl) ?_)
          refine Hq.yv (y_move rfl) ?_
          refine Hq.yg rfl rfl (y_move rfl) ?_
          refine Hq.yg rfl rfl (y_gtr rfl rfl) ?_
          refine Hq.yg rfl rfl (y_move rfl) ?_
          refine Hq.part (gd := 122) rfl (fun hg28_122 => ?_) (fun hg28_122 => ?_)
          ·
            try simp only [decide_eq_true_eq, decide_eq_false_iff_not, Bool.and_eq_true, Bool.or_eq_true, Bool.and_eq_false_iff, Bool.or_eq_false_iff, Bool.not_eq_true', Bool.not_eq_false', Bool.not_eq_true, Bool.not_eq_false, Int.not_lt, Int.not_le, Decidable.not_not, ne_eq] at hg28_122
            have hk0 : 0 < k := by omega
            have hlt := lt_pred hF hk hk0
            refine Hq.yg rfl rfl (y_move rfl) ?_
            refine Hq.yg rfl rfl (y_move rfl) ?_
            first | (refine Hq.yg rfl rfl (y_to (v' := .int .i64 ((k - 1 : Nat) : Int)) (y_subn rfl rfl (by simp only [InK]; omega)) (by (congr 1; omega))) ?_) | (refine Hq.yg rfl rfl (y_to (v' := .int .i64 ((k - 1 : Nat) : Int)) (y_sub rfl rfl) (by (congr 1; omega))) ?_)
            first | (refine Hq.yg rfl rfl (y_idxS Try.underlying22 sz31 rfl rfl (by first | omega | decide)) ?_) | (refine Hq.yg rfl rfl (y_idxR Try.underlying22 sz31 rfl rfl (by first | omega | decide) (by (first | exact RdS.own pkk | exact RdS.mono hR (Ent.sep enn)))) ?_)
            refine Hq.yg rfl rfl (y_loadRn (vs := [_, _, _]) ag31 rfl (RdS.own (ad := a9) (us := s.flatMap encI) pkk) (flat_cells encI 3 (fun _ => rfl) (g_at (show k - 1 < s.length by omega))) (by exact sz31) (by simp)) ?_
            first | (refine Hq.yg rfl rfl (y_loadn (us := [_, _, _]) ag31 rfl (Rd.pt pkk (by (first | (intro j v e; rcases j with _|_|_|_|_|_|_|_|_|_|_|_|j <;> first | exact e | exact absurd e (by simp))))) (by exact sz31)) ?_) | (refine Hq.yg rfl rfl (y_loadn (us := [_, _, _]) ag31 rfl (Rd.seg pkk (by (first | (intro j v e; rcases j with _|_|_|_|_|_|_|_|_|_|_|_|j <;> first | exact e | exact absurd e (by simp))))) (by exact sz31)) ?_) | (refine Hq.yg rfl rfl (y_loadRn ag31 rfl (by (first | exact RdS.own pkk | exact RdS.mono hR (Ent.sep enn))) (by (first | (intro j v e; rcases j with _|_|_|_|_|_|_|_|_|_|_|_|j <;> first | exact e | exact absurd e (by simp)))) (by exact sz31) (by simp)) ?_)
            refine Hq.unguard rfl rfl ?_
            refine Hq.call rfl fk21 (ahead_ct _ (g s (k - 1)) (g s k)) ?_
            refine Hq.yg rfl rfl (y_to (v' := .bool false) (y_not rfl) (by (simp [hlt]))) ?_
            first | (refine Hq.yg rfl rfl (y_pickT rfl rfl) ?_) | (refine Hq.yg rfl rfl (y_pickF rfl rfl) ?_) | (refine Hq.yg rfl rfl (y_pickb rfl rfl rfl) ?_) | (refine Hq.yg rfl rfl (y_pick rfl rfl rfl) ?_)
            first | (refine Hq.yv (y_pickT rfl rfl) ?_) | (refine Hq.yv (y_pickF rfl rfl) ?_) | (refine Hq.yv (y_pickb rfl rfl rfl) ?_) | (refine Hq.yv (y_pick rfl rfl rfl) ?_)
            refine Hq.nil ?_
            refine Hd.slots [(3, _), (4, _), (5, _), (9, _), (83, _), (84, _), (132, _)] ⟨rfl, rfl, rfl, rfl, rfl, rfl, rfl, trivial⟩ ?_
            refine Hd.toK hK35 ?_
            refine Hd.condF rfl ?_
            refine Hd.skip ?_
            refine Hd.inB ?_
            refine Hd.toK hK31 ?_
            refine Hd.region ?_
            first | (refine Hd.yv (y_addn rfl rfl (by simp only [InK]; omega)) ?_) | (refine Hd.yv (y_add rfl rfl) ?_)
            refine Hd.yv (y_move rfl) ?_
            refine Hd.nil ?_
            refine Hd.slots [(3, _), (4, _), (5, _), (9, _), (83, _), (84, _)] ⟨rfl, rfl, rfl, rfl, rfl, rfl, trivial⟩ ?_
            clear hK1 hK2 hK3 hK4 hK6 hK7 hK8 hK9 hK10 hK11 hK17 hK18 hK19 hK20 hK21 hK25 hK26 hK27 hK28 hK29 hK30 hK31 hK32 hK33 hK34 hK35
            refine Hd.thenN ?_
            exact Hd.again (k + 1) (by first | omega | (simp only; omega) | (simp; omega)) (by repeat (first | exact trivial | refine ⟨rfl, ?_⟩)) (Ent.sep (.pure (by first | omega | (simp; done) | (simp; omega) | (dsimp only; omega)) enn))
          ·
            try simp only [decide_eq_true_eq, decide_eq_false_iff_not, Bool.and_eq_true, Bool.or_eq_true, Bool.and_eq_false_iff, Bool.or_eq_false_iff, Bool.not_eq_true', Bool.not_eq_false', Bool.not_eq_true, Bool.not_eq_false, Int.not_lt, Int.not_le, Decidable.not_not, ne_eq] at hg28_122
            refine Hq.ng rfl rfl rfl ?_
            refine Hq.ng rfl rfl rfl ?_
            refine Hq.ng rfl rfl rfl ?_
            refine Hq.ng rfl rfl rfl ?_
            refine Hq.ng rfl rfl rfl ?_
            refine Hq.ng rfl rfl rfl ?_
            refine Hq.ng rfl rfl rfl ?_
            refine Hq.ng rfl rfl rfl ?_
            first | (refine Hq.yg rfl rfl (y_pickT rfl rfl) ?_) | (refine Hq.yg rfl rfl (y_pickF rfl rfl) ?_) | (refine Hq.yg rfl rfl (y_pickb rfl rfl rfl) ?_) | (refine Hq.yg rfl rfl (y_pick rfl rfl rfl) ?_)
            first | (refine Hq.yv (y_pickT rfl rfl) ?_) | (refine Hq.yv (y_pickF rfl rfl) ?_) | (refine Hq.yv (y_pickb rfl rfl rfl) ?_) | (refine Hq.yv (y_pick rfl rfl rfl) ?_)
            refine Hq.nil ?_
            refine Hd.slots [(3, _), (4, _), (5, _), (9, _), (83, _), (84, _), (132, _)] ⟨rfl, rfl, rfl, rfl, rfl, rfl, rfl, trivial⟩ ?_
            refine Hd.toK hK35 ?_
            refine Hd.condF rfl ?_
            refine Hd.skip ?_
            refine Hd.inB ?_
            refine Hd.toK hK31 ?_
            refine Hd.region ?_
            first | (refine Hd.yv (y_addn rfl rfl (by simp only [InK]; omega)) ?_) | (refine Hd.yv (y_add rfl rfl) ?_)
            refine Hd.yv (y_move rfl) ?_
            refine Hd.nil ?_
            refine Hd.slots [(3, _), (4, _), (5, _), (9, _), (83, _), (84, _)] ⟨rfl, rfl, rfl, rfl, rfl, rfl, trivial⟩ ?_
            clear hK1 hK2 hK3 hK4 hK6 hK7 hK8 hK9 hK10 hK11 hK17 hK18 hK19 hK20 hK21 hK25 hK26 hK27 hK28 hK29 hK30 hK31 hK32 hK33 hK34 hK35
            refine Hd.thenN ?_
            exact Hd.again (k + 1) (by first | omega | (simp only; omega) | (simp; omega)) (by repeat (first | exact trivial | refine ⟨rfl, ?_⟩)) (Ent.sep (.pure (by first | omega | (simp; done) | (simp; omega) | (dsimp only; omega)) enn))
        ·
          try simp only [decide_eq_true_eq, decide_eq_false_iff_not, Bool.and_eq_true, Bool.or_eq_true, Bool.and_eq_false_iff, Bool.or_eq_false_iff, Bool.not_eq_true', Bool.not_eq_false', Bool.not_eq_true, Bool.not_eq_false, Int.not_lt, Int.not_le, Decidable.not_not, ne_eq] at hc6
          have hz : (s.drop k).length = 0 := by rw [List.length_drop]; omega
          refine Hd.exit ?_
          refine Hd.thenExit ?_
          refine Hd.thenExit ?_
          refine Hd.inBexit ?_
          refine Hd.toK hK27 ?_
          refine Hd.seq (fun K36 hK36 => ?_)
          refine Hd.region ?_
          refine Hd.yv (y_move rfl) ?_
          refine Hd.yv (y_move rfl) ?_
          refine Hd.yg rfl rfl (y_move rfl) ?_
          refine Hd.unguard rfl rfl ?_
          refine Hd.callE rfl fk22 (len_ct _ b (s.drop k)) (Ent.sep enn) ?_
          intro _
          first | (refine Hd.yg rfl rfl (y_to (y_eqlT rfl rfl) (congrArg Value.bool (decide_eq_true ((by omega))))) ?_) | (refine Hd.yg rfl rfl (y_to (y_eql rfl rfl) (congrArg Value.bool (decide_eq_true ((by omega))))) ?_)
          first | (refine Hd.yv (y_pickT rfl rfl) ?_) | (refine Hd.yv (y_pickF rfl rfl) ?_) | (refine Hd.yv (y_pickb rfl rfl rfl) ?_) | (refine Hd.yv (y_pick rfl rfl rfl) ?_)
          refine Hd.yv (y_move rfl) ?_
          refine Hd.yg rfl rfl (y_move rfl) ?_
          refine Hd.unguard rfl rfl ?_
          refine Hd.callE rfl fk22 (len_ct _ d (s.drop k)) (Ent.sep enn) ?_
          intro _
          first | (refine Hd.yg rfl rfl (y_to (y_eqlT rfl rfl) (congrArg Value.bool (decide_eq_true ((by omega))))) ?_) | (refine Hd.yg rfl rfl (y_to (y_eql rfl rfl) (congrArg Value.bool (decide_eq_true ((by omega))))) ?_)
          first | (refine Hd.yv (y_pickT rfl rfl) ?_) | (refine Hd.yv (y_pickF rfl rfl) ?_) | (refine Hd.yv (y_pickb rfl rfl rfl) ?_) | (refine Hd.yv (y_pick rfl rfl rfl) ?_)
          refine Hd.yv (y_assign rfl) ?_
          refine Hd.nil ?_
          refine Hd.slots [(2, _)] ⟨rfl, trivial⟩ ?_
          refine Hd.toK hK36 ?_
          refine Hd.ret ?_
          clear hK1 hK2 hK3 hK4 hK6 hK7 hK8 hK9 hK10 hK11 hK17 hK18 hK19 hK20 hK21 hK25 hK26 hK27 hK28 hK29 hK30 hK36
          exact Hd.ret1 rfl () (by first | rfl | (simp only [*]; done) | (simp [*]; done)) (Ent.sep enn)
end Hp
end Go.Proofs.Ytcnegelaenkgpaa
