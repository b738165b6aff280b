/-
  The law CommonLeaves answers true.
-/
import Derived.Test.YtcnegelaenkgpaaCo11
namespace Go.Proofs.Ytcnegelaenkgpaa
set_option linter.unusedSimpArgs false
set_option linter.unusedVariables false
set_option linter.unnecessarySimpa false
open Go.RX Fx Hp
namespace Cm
set_option maxRecDepth 8000
theorem findI_no {s : List It} {id : Int} (h : findI id s = none) : ∀ x ∈ s, x.id ≠ id := fun x hx e => by
  have := List.find?_eq_none.1 h x hx
  simp [e] at this
theorem ins_out {s : List It} (hF : HpF s) {y : It} (hn : ∀ z ∈ s, z.id ≠ y.id) : findI y.id (insI y s) = some y ∧ remI y.id (insI y s) = s := by
  have hnd : ((insI y s).map It.id).Nodup := by
    rw [((insI_perm y _).map It.id).nodup_iff, List.map_cons, List.nodup_cons]
    refine ⟨fun q => ?_, hF.nd⟩
    obtain ⟨z, hz, e⟩ := List.mem_map.1 q
    exact hn z hz e
  have hsr := insI_srt hF.srt (fun z hz e => hn z hz (by rw [e]))
  have h1 := findI_some hnd (insI_mem.2 (.inl rfl)) rfl
  refine ⟨h1.1, srt_eq (remI_srt hsr _) hF.srt ?_⟩
  exact (List.perm_cons y).1 (h1.2.symm.trans (insI_perm y _))
theorem add_leaves {s : List It} (hF : HpF s) {id : Int} (hno : findI id s = none) (now af nx : Int) : remI id (addS s id now af nx) = s ∧ (findV (findI id (addS s id now af nx))).2 = decide (addV id = 0) ∧ ((findV (findI id (addS s id now af nx))).2 && decide ((findV (findI id (addS s id now af nx))).1.id ≠ id)) = false := by
  have hn := findI_no hno
  have hr := remI_no hn
  unfold addS addV
  by_cases h : id < 0
  · rw [if_pos h, if_pos h, hr, hno]; exact ⟨rfl, rfl, rfl⟩
  · rw [if_neg h, if_neg h, hr]
    have := ins_out hF (y := addX id now af nx) hn
    rw [show (addX id now af nx).id = id from rfl] at this
    rw [this.1]
    exact ⟨this.2, rfl, by simp [findV]⟩
theorem findV_some (o : Option It) : o.isSome = (findV o).2 := by cases o <;> rfl
theorem topI_len (s : List It) : (topI s).2 = decide ((s.length : Int) > 0) := by
  cases s with
  | nil => rfl
  | cons x r => simp [topI]
set_option maxHeartbeats 2000000 in
theorem leaves_ct (L : List SP) (ad : Option Addr) (c : Nat) (xs : List Int) (hR : RdS L 1 ad xs.length (xs.map fun y => .int .u16 y)) (hx : ∀ x ∈ xs, InK .u16 x) (ad2 : Option Addr) (c2 : Nat) (ys : List Int) (hR2 : RdS L 1 ad2 ys.length (ys.map fun y => .int .u16 y)) (hy : ∀ x ∈ ys, InK .u16 x) (id now af : Int) (hnw : InK .u64 now) (haf : InK .u64 af) : Ct Try.prog 15 #[.slice ad xs.length c, .slice ad2 ys.length c2, .int .i64 id, .int .u64 now, .int .u64 af] (L) (fun _ : Unit => .bool true) (fun _ : Unit => L) := by
  refine Ct.of (vs := [.slice ad xs.length c, .slice ad2 ys.length c2, .int .i64 id, .int .u64 now, .int .u64 af]) Try.func15 rfl rfl [(0, .slice ad xs.length c), (1, .slice ad2 ys.length c2), (2, .int .i64 id), (3, .int .u64 now), (4, .int .u64 af)] (by repeat (first | exact trivial | refine ⟨rfl, ?_⟩)) ?_
  intro E
  show Hd E 169 _ _ _ _
  refine Hd.seq (fun K1 hK1 => ?_)
  refine Hd.region ?_
  refine Hd.yv (y_assign rfl) ?_
  refine Hd.nil ?_
  refine Hd.slots [(0, _), (1, _), (2, _), (3, _), (4, _)] ⟨rfl, rfl, rfl, rfl, rfl, trivial⟩ ?_
  refine Hd.toK hK1 ?_
  refine Hd.seq (fun K2 hK2 => ?_)
  refine Hd.region ?_
  refine Hd.callE rfl fk36 (alive_ct _) (Ent.sep enn) ?_
  intro _
  refine Hd.yv (y_assign rfl) ?_
  refine Hd.nil ?_
  refine Hd.slots [(0, _), (1, _), (2, _), (3, _), (4, _), (11, _)] ⟨rfl, rfl, rfl, rfl, rfl, rfl, trivial⟩ ?_
  refine Hd.toK hK2 ?_
  refine Hd.seq (fun K3 hK3 => ?_)
  refine Hd.seq (fun K4 hK4 => ?_)
  refine Hd.region ?_
  refine Hd.yv (y_move rfl) ?_
  refine Hd.yv (y_len Try.underlying72 rfl) ?_
  refine Hd.yv (y_gtr rfl rfl) ?_
  refine Hd.yv (y_move rfl) ?_
  apply Hd.org 6 29 35 [(0, _), (1, _), (2, _), (3, _), (4, _), (11, _)] rfl ⟨rfl, rfl, rfl, rfl, rfl, rfl, trivial⟩
  · intro hg2_29
    try simp only [decide_eq_true_eq, decide_eq_false_iff_not, Bool.and_eq_true, Bool.or_eq_true, Bool.and_eq_false_iff, Bool.or_eq_false_iff, Bool.not_eq_true', Bool.not_eq_false', Bool.not_eq_true, Bool.not_eq_false, Int.not_lt, Int.not_le, Decidable.not_not, ne_eq] at hg2_29
    simp only [List.take]
    refine Hd.ng rfl rfl rfl ?_
    refine Hd.ng rfl rfl rfl ?_
    refine Hd.ng rfl rfl rfl ?_
    refine Hd.ng rfl rfl rfl ?_
    refine Hd.ng rfl rfl rfl ?_
    first | (refine Hd.yv (y_pickT rfl rfl) ?_) | (refine Hd.yv (y_pickF rfl rfl) ?_) | (refine Hd.yv (y_pickb rfl rfl rfl) ?_) | (refine Hd.yv (y_pick rfl rfl rfl) ?_)
    refine Hd.nil ?_
    exact Hd.mend (by repeat (first | exact trivial | refine ⟨rfl, ?_⟩)) (Ent.sep enn)
  · intro hg2_29
    try simp only [decide_eq_true_eq, decide_eq_false_iff_not, Bool.and_eq_true, Bool.or_eq_true, Bool.and_eq_false_iff, Bool.or_eq_false_iff, Bool.not_eq_true', Bool.not_eq_false', Bool.not_eq_true, Bool.not_eq_false, Int.not_lt, Int.not_le, Decidable.not_not, ne_eq] at hg2_29
    simp only [List.take]
    refine Hd.yg rfl rfl (y_move rfl) ?_
    refine Hd.yg rfl rfl (y_len Try.underlying72 rfl) ?_
    refine Hd.yg rfl rfl (y_move rfl) ?_
    refine Hd.yg rfl rfl (y_len Try.underlying72 rfl) ?_
    refine Hd.yg rfl rfl (y_lss rfl rfl) ?_
    first | (refine Hd.yv (y_pickT rfl rfl) ?_) | (refine Hd.yv (y_pickF rfl rfl) ?_) | (refine Hd.yv (y_pickb rfl rfl rfl) ?_) | (refine Hd.yv (y_pick rfl rfl rfl) ?_)
    refine Hd.nil ?_
    exact Hd.mend (by repeat (first | exact trivial | refine ⟨rfl, ?_⟩)) (Ent.sep enn)
  simp only [List.drop]
  refine Hd.yv (y_move rfl) ?_
  apply Hd.org 3 36 39 [(0, _), (1, _), (2, _), (3, _), (4, _), (11, _)] rfl ⟨rfl, rfl, rfl, rfl, rfl, rfl, trivial⟩
  · intro hg2_36
    try simp only [decide_eq_true_eq, decide_eq_false_iff_not, Bool.and_eq_true, Bool.or_eq_true, Bool.and_eq_false_iff, Bool.or_eq_false_iff, Bool.not_eq_true', Bool.not_eq_false', Bool.not_eq_true, Bool.not_eq_false, Int.not_lt, Int.not_le, Decidable.not_not, ne_eq] at hg2_36
    simp only [List.take]
    refine Hd.ng rfl rfl rfl ?_
    refine Hd.ng rfl rfl rfl ?_
    first | (refine Hd.yv (y_pickT rfl rfl) ?_) | (refine Hd.yv (y_pickF rfl rfl) ?_) | (refine Hd.yv (y_pickb rfl rfl rfl) ?_) | (refine Hd.yv (y_pick rfl rfl rfl) ?_)
    refine Hd.nil ?_
    exact Hd.mend (by repeat (first | exact trivial | refine ⟨rfl, ?_⟩)) (Ent.sep enn)
  · intro hg2_36
    try simp only [decide_eq_true_eq, decide_eq_false_iff_not, Bool.and_eq_true, Bool.or_eq_true, Bool.and_eq_false_iff, Bool.or_eq_false_iff, Bool.not_eq_true', Bool.not_eq_false', Bool.not_eq_true, Bool.not_eq_false, Int.not_lt, Int.not_le, Decidable.not_not, ne_eq] at hg2_36
    simp only [List.take]
    refine Hd.yg rfl rfl (y_move rfl) ?_
    refine Hd.yg rfl rfl (y_not rfl) ?_
    first | (refine Hd.yv (y_pickT rfl rfl) ?_) | (refine Hd.yv (y_pickF rfl rfl) ?_) | (refine Hd.yv (y_pickb rfl rfl rfl) ?_) | (refine Hd.yv (y_pick rfl rfl rfl) ?_)
    refine Hd.nil ?_
    exact Hd.mend (by repeat (first | exact trivial | refine ⟨rfl, ?_⟩)) (Ent.sep enn)
  simp only [List.drop]
  refine Hd.nil ?_
  refine Hd.slots [(0, _), (1, _), (2, _), (3, _), (4, _), (11, _), (39, _)] ⟨rfl, rfl, rfl, rfl, rfl, rfl, rfl, trivial⟩ ?_
  refine Hd.toK hK4 ?_
  refine Hd.cond rfl (fun hc0 => ?_) (fun hc0 => ?_)
  ·
    try simp only [decide_eq_true_eq, decide_eq_false_iff_not, Bool.and_eq_true, Bool.or_eq_true, Bool.and_eq_false_iff, Bool.or_eq_false_iff, Bool.not_eq_true', Bool.not_eq_false', Bool.not_eq_true, Bool.not_eq_false, Int.not_lt, Int.not_le, Decidable.not_not, ne_eq] at hc0
    refine Hd.seq (fun K5 hK5 => ?_)
    refine Hd.region ?_
    refine Hd.yv (y_move rfl) ?_
    refine Hd.yv (y_assign rfl) ?_
    refine Hd.nil ?_
    refine Hd.slots [(10, _)] ⟨rfl, trivial⟩ ?_
    refine Hd.toK hK5 ?_
    refine Hd.ret ?_
    refine Hd.thenRet ?_
    clear hK1 hK2 hK3 hK4 hK5
    exact Hd.ret1 rfl () (by first | rfl | (simp only [*]; done) | (simp [*]; done)) (Ent.sep enn)
  ·
    try simp only [decide_eq_true_eq, decide_eq_false_iff_not, Bool.and_eq_true, Bool.or_eq_true, Bool.and_eq_false_iff, Bool.or_eq_false_iff, Bool.not_eq_true', Bool.not_eq_false', Bool.not_eq_true, Bool.not_eq_false, Int.not_lt, Int.not_le, Decidable.not_not, ne_eq] at hc0
    have hl : xs.length ≤ 60 ∧ xs.length ≤ ys.length := by have := hc0; simp at this; omega
    refine Hd.skip ?_
    refine Hd.toK hK3 ?_
    refine Hd.seq (fun K6 hK6 => ?_)
    refine Hd.region ?_
    refine Hd.callE rfl fk37 (new_ct _) (Ent.sep enn) ?_
    intro o
    refine Hd.yv (y_assign rfl) ?_
    refine Hd.nil ?_
    refine Hd.slots [(0, _), (1, _), (2, _), (3, _), (4, _), (11, _), (12, _)] ⟨rfl, rfl, rfl, rfl, rfl, rfl, rfl, trivial⟩ ?_
    refine Hd.toK hK6 ?_
    refine Hd.seq (fun K7 hK7 => ?_)
    refine Hd.seq (fun K8 hK8 => ?_)
    refine Hd.region ?_
    refine Hd.yv (y_move rfl) ?_
    first | (refine Hd.yv (y_eql_pointer Try.underlying59 rfl rfl) ?_) | (refine Hd.yv (y_eql_one Try.underlying59 sz88 rfl rfl rfl) ?_)
    refine Hd.nil ?_
    refine Hd.slots [(0, _), (1, _), (2, _), (3, _), (4, _), (11, _), (12, _), (43, _)] ⟨rfl, rfl, rfl, rfl, rfl, rfl, rfl, rfl, trivial⟩ ?_
    refine Hd.toK hK8 ?_
    refine Hd.condF rfl ?_
    refine Hd.skip ?_
    refine Hd.toK hK7 ?_
    refine Hd.cutK (ι := List Q) [(0, _), (1, _), (2, _), (3, _), (4, _), (11, _), (12, _)] (fun _ => []) (fun q => CoA o q [] 0 :: L) ?_ ?_ ⟨rfl, rfl, rfl, rfl, rfl, rfl, rfl, trivial⟩
    ·
      refine Hd.seq (fun K9 hK9 => ?_)
      refine Hd.region ?_
      refine Hd.yv (y_move rfl) ?_
      refine Hd.yv (y_len Try.underlying72 rfl) ?_
      refine Hd.yv (y_gtr rfl rfl) ?_
      refine Hd.nil ?_
      refine Hd.slots [(0, _), (1, _), (2, _), (3, _), (4, _), (11, _), (12, _), (46, _)] ⟨rfl, rfl, rfl, rfl, rfl, rfl, rfl, rfl, trivial⟩ ?_
      refine Hd.toK hK9 ?_
      refine Hd.cond rfl (fun hc2 => ?_) (fun hc2 => ?_)
      ·
        try simp only [decide_eq_true_eq, decide_eq_false_iff_not, Bool.and_eq_true, Bool.or_eq_true, Bool.and_eq_false_iff, Bool.or_eq_false_iff, Bool.not_eq_true', Bool.not_eq_false', Bool.not_eq_true, Bool.not_eq_false, Int.not_lt, Int.not_le, Decidable.not_not, ne_eq] at hc2
        have h0 : 0 < ys.length := by omega
        have hy0 : (ys.map fun y => Value.int .u16 y)[0]? = some (.int .u16 ys[0]) := by rw [List.getElem?_map, List.getElem?_eq_getElem h0]; rfl
        have hk0 := hy ys[0] (List.getElem_mem h0)
        simp only [InK] at hk0
        refine Hd.region ?_
        refine Hd.yv (y_move rfl) ?_
        refine Hd.yv (y_move rfl) ?_
        first | (refine Hd.yv (y_idxS Try.underlying72 sz73 rfl rfl (by first | exact (show (0 : Nat) < _ by omega) | omega | decide)) ?_) | (refine Hd.yv (y_idxR Try.underlying72 sz73 rfl rfl (by first | exact (show (0 : Nat) < _ by omega) | omega | decide) (by (first | exact RdS.own pkk | exact RdS.mono hR (Ent.sep enn) | exact RdS.mono hR2 (Ent.sep enn)))) ?_)
        refine Hd.yv (y_loadR1 ag73 rfl (RdS.mono hR2 (Ent.sep enn)) (by rw [Nat.zero_mul]; exact hy0)) ?_
        first | (refine Hd.yv (y_convn rfl Try.underlying73 Try.underlying29 (by simp only [InK]; omega)) ?_) | (refine Hd.yv (y_conv rfl Try.underlying73 Try.underlying29) ?_)
        refine Hd.callE rfl fk38 (common_ct _ o [] [] 0 ys[0]) (Ent.sep enn) ?_
        intro _
        refine Hd.nil ?_
        refine Hd.slots [(0, _), (1, _), (2, _), (3, _), (4, _), (11, _), (12, _)] ⟨rfl, rfl, rfl, rfl, rfl, rfl, rfl, trivial⟩ ?_
        clear hK1 hK2 hK3 hK4 hK6 hK7 hK8 hK9
        refine Hd.thenN ?_
        exact Hd.meet (mkS [] ys[0]) (by repeat (first | exact trivial | refine ⟨rfl, ?_⟩)) (Ent.sep enn)
      ·
        try simp only [decide_eq_true_eq, decide_eq_false_iff_not, Bool.and_eq_true, Bool.or_eq_true, Bool.and_eq_false_iff, Bool.or_eq_false_iff, Bool.not_eq_true', Bool.not_eq_false', Bool.not_eq_true, Bool.not_eq_false, Int.not_lt, Int.not_le, Decidable.not_not, ne_eq] at hc2
        refine Hd.skip ?_
        clear hK1 hK2 hK3 hK4 hK6 hK7 hK8 hK9
        refine Hd.thenN ?_
        exact Hd.meet [] (by repeat (first | exact trivial | refine ⟨rfl, ?_⟩)) (Ent.sep enn)
    ·
      intro q0
      refine Hd.seq (fun K10 hK10 => ?_)
      refine Hd.seq (fun K11 hK11 => ?_)
      refine Hd.region ?_
      refine Hd.yv (y_assign rfl) ?_
      refine Hd.nil ?_
      refine Hd.slots [(0, _), (1, _), (2, _), (3, _), (4, _), (11, _), (12, _), (13, _)] ⟨rfl, rfl, rfl, rfl, rfl, rfl, rfl, rfl, trivial⟩ ?_
      refine Hd.toK hK11 ?_
      refine Hd.block ?_
      refine Hd.loopK (ι := Nat × List Q × List It × Int) [(0, _), (1, _), (2, _), (3, _), (4, _), (11, _), (12, _)] (fun q_ => [(13, .int .i64 (q_.1 : Int))]) (fun q_ => pu (q_.1 ≤ xs.length ∧ q_.2.2.1.length ≤ q_.1 ∧ q_.2.2.2 ≤ q_.1) :: CoA o q_.2.1 q_.2.2.1 q_.2.2.2 :: L) (fun q_ => xs.length - q_.1) (0, q0, [], 0) (by repeat (first | exact trivial | refine ⟨rfl, ?_⟩)) (by repeat (first | exact trivial | refine ⟨rfl, ?_⟩)) (Ent.sep (.pure ⟨Nat.zero_le _, Nat.zero_le _, Int.le_refl _⟩ enn)) ?_
      rintro ⟨i, qs, s, nx⟩
      try dsimp only
      refine Hd.pure (fun hp0 => ?_)
      try dsimp only at hp0
      refine Hd.seq (fun K12 hK12 => ?_)
      refine Hd.seq (fun K13 hK13 => ?_)
      refine Hd.region ?_
      refine Hd.yv (y_move rfl) ?_
      refine Hd.yv (y_move rfl) ?_
      refine Hd.yv (y_len Try.underlying72 rfl) ?_
      refine Hd.yv (y_lss rfl rfl) ?_
      refine Hd.nil ?_
      refine Hd.slots [(0, _), (1, _), (2, _), (3, _), (4, _), (11, _), (12, _), (13, _), (56, _)] ⟨rfl, rfl, rfl, rfl, rfl, rfl, rfl, rfl, rfl, trivial⟩ ?_
      refine Hd.toK hK13 ?_
      refine Hd.cond rfl (fun hc3 => ?_) (fun hc3 => ?_)
      ·
        try simp only [decide_eq_true_eq, decide_eq_false_iff_not, Bool.and_eq_true, Bool.or_eq_true, Bool.and_eq_false_iff, Bool.or_eq_false_iff, Bool.not_eq_true', Bool.not_eq_false', Bool.not_eq_true, Bool.not_eq_false, Int.not_lt, Int.not_le, Decidable.not_not, ne_eq] at hc3
        have hi : i < xs.length := by omega
        have hi2 : i < ys.length := by omega
        have hxi : (xs.map fun y => Value.int .u16 y)[i * 1]? = some (.int .u16 xs[i]) := by rw [Nat.mul_one, List.getElem?_map, List.getElem?_eq_getElem hi]; rfl
        have hyi : (ys.map fun y => Value.int .u16 y)[i * 1]? = some (.int .u16 ys[i]) := by rw [Nat.mul_one, List.getElem?_map, List.getElem?_eq_getElem hi2]; rfl
        have hk1 := hx xs[i] (List.getElem_mem hi)
        have hk2 := hy ys[i] (List.getElem_mem hi2)
        simp only [InK] at hk1 hk2
        refine Hd.skip ?_
        refine Hd.toK hK12 ?_
        refine Hd.seq (fun K14 hK14 => ?_)
        refine Hd.block ?_
        refine Hd.drawsH (L) (fun _ => true) mixed ?_
        simp only [List.length, Nat.zero_add, Nat.reduceAdd]
        refine Hd.takeH 0 rfl (by kernel_rfl) (by kernel_rfl) (by kernel_rfl) (by kernel_rfl) (y_move rfl) (fun _ _ => rfl) (Ent.sep enn) ?_
        refine Hd.takeH 1 rfl (by kernel_rfl) (by kernel_rfl) (by kernel_rfl) (by kernel_rfl) (y_move rfl) (fun _ _ => rfl) (Ent.sep enn) ?_
        refine Hd.takeH 2 rfl (by kernel_rfl) (by kernel_rfl) (by kernel_rfl) (by kernel_rfl) (y_move rfl) (fun _ _ => rfl) (Ent.sep enn) ?_
        refine Hd.takeH 3 rfl (by kernel_rfl) (by kernel_rfl) (by kernel_rfl) (by kernel_rfl) (y_move rfl) (fun _ _ => rfl) (Ent.sep enn) ?_
        first | (refine Hd.takeH 4 rfl (by kernel_rfl) (by kernel_rfl) (by kernel_rfl) (by kernel_rfl) (y_idxS Try.underlying72 sz73 rfl rfl (by first | omega | decide)) (fun _ _ => rfl) (Ent.sep enn) ?_) | (refine Hd.takeH 4 rfl (by kernel_rfl) (by kernel_rfl) (by kernel_rfl) (by kernel_rfl) (y_idxR Try.underlying72 sz73 rfl rfl (by first | omega | decide) (by (first | exact RdS.own pkk | exact RdS.mono hR (Ent.sep enn) | exact RdS.mono hR2 (Ent.sep enn)))) (fun _ _ => rfl) (Ent.sep enn) ?_)
        refine Hd.takeH 7 rfl (by kernel_rfl) (by kernel_rfl) (by kernel_rfl) (by kernel_rfl) (y_move rfl) (fun _ _ => rfl) (Ent.sep enn) ?_
        refine Hd.takeH 8 rfl (by kernel_rfl) (by kernel_rfl) (by kernel_rfl) (by kernel_rfl) (y_move rfl) (fun _ _ => rfl) (Ent.sep enn) ?_
        first | (refine Hd.takeH 9 rfl (by kernel_rfl) (by kernel_rfl) (by kernel_rfl) (by kernel_rfl) (y_idxS Try.underlying72 sz73 rfl rfl (by first | omega | decide)) (fun _ _ => rfl) (Ent.sep enn) ?_) | (refine Hd.takeH 9 rfl (by kernel_rfl) (by kernel_rfl) (by kernel_rfl) (by kernel_rfl) (y_idxR Try.underlying72 sz73 rfl rfl (by first | omega | decide) (by (first | exact RdS.own pkk | exact RdS.mono hR (Ent.sep enn) | exact RdS.mono hR2 (Ent.sep enn)))) (fun _ _ => rfl) (Ent.sep enn) ?_)
        refine Hd.eitherH 5 10 rfl rfl (by kernel_rfl) ?_ ?_
        ·
          refine Hd.yv (y_loadR1 ag73 rfl (RdS.mono hR (Ent.sep enn)) hxi) ?_
          refine Hd.nil ?_
          refine Hd.thenN ?_
          refine Hd.heldK (J := (fun _ => true)) (i := 5) (Ent.sep enn) ?_
          first | (refine Hd.takeH 6 rfl (by kernel_rfl) (by kernel_rfl) (by kernel_rfl) (by kernel_rfl) (y_convn rfl Try.underlying73 Try.underlying29 (by simp only [InK]; omega)) (fun _ _ => rfl) (Ent.sep enn) ?_) | (refine Hd.takeH 6 rfl (by kernel_rfl) (by kernel_rfl) (by kernel_rfl) (by kernel_rfl) (y_conv rfl Try.underlying73 Try.underlying29) (fun _ _ => rfl) (Ent.sep enn) ?_)
          refine Hd.onlyH 10 rfl (by kernel_rfl) ?_
          refine Hd.yv (y_loadR1 ag73 rfl (RdS.mono hR2 (Ent.sep enn)) hyi) ?_
          refine Hd.nil ?_
          refine Hd.thenN ?_
          refine Hd.heldK (J := (fun _ => true)) (i := 10) (Ent.sep enn) ?_
          first | (refine Hd.takeH 11 rfl (by kernel_rfl) (by kernel_rfl) (by kernel_rfl) (by kernel_rfl) (y_convn rfl Try.underlying73 Try.underlying29 (by simp only [InK]; omega)) (fun _ _ => rfl) (Ent.sep enn) ?_) | (refine Hd.takeH 11 rfl (by kernel_rfl) (by kernel_rfl) (by kernel_rfl) (by kernel_rfl) (y_conv rfl Try.underlying73 Try.underlying29) (fun _ _ => rfl) (Ent.sep enn) ?_)
          refine Hd.onlyH 12 rfl (by kernel_rfl) ?_
          refine Hd.callE rfl fk39 (add_ct _ o qs s nx (by omega) (by omega) i xs[i] ys[i] (by simp only [InK]; omega) (by simp only [InK]; omega)) (Ent.sep enn) ?_
          intro _
          refine Hd.nil ?_
          refine Hd.thenN ?_
          refine Hd.heldK (J := (fun _ => true)) (i := 12) (Ent.sep enn) ?_
          refine Hd.endH (by kernel_rfl) ?_
          refine Hd.slots [(0, _), (1, _), (2, _), (3, _), (4, _), (11, _), (12, _), (13, _)] ⟨rfl, rfl, rfl, rfl, rfl, rfl, rfl, rfl, trivial⟩ ?_
          refine Hd.inB ?_
          refine Hd.toK hK14 ?_
          refine Hd.region ?_
          refine Hd.yv (y_move rfl) ?_
          first | (refine Hd.yv (y_addn rfl rfl (by simp only [InK]; omega)) ?_) | (refine Hd.yv (y_add rfl rfl) ?_)
          refine Hd.yv (y_assign rfl) ?_
          refine Hd.nil ?_
          refine Hd.slots [(0, _), (1, _), (2, _), (3, _), (4, _), (11, _), (12, _), (13, _)] ⟨rfl, rfl, rfl, rfl, rfl, rfl, rfl, rfl, trivial⟩ ?_
          clear hK1 hK2 hK3 hK4 hK6 hK7 hK8 hK10 hK11 hK12 hK13 hK14
          refine Hd.thenN ?_
          exact Hd.again (i + 1, addQ qs i xs[i] ys[i] nx, addS s i xs[i] ys[i] nx, addN i nx) (by first | omega | (simp only; omega) | (simp; omega)) (by repeat (first | exact trivial | refine ⟨rfl, ?_⟩)) (Ent.sep (.pure ⟨hi, by have := addS_len s i xs[i] ys[i] nx; show (addS s i xs[i] ys[i] nx).length ≤ i + 1; omega, by have := addN_le i nx; show addN i nx ≤ ((i + 1 : Nat) : Int); omega⟩ enn))
        ·
          refine Hd.yv (y_loadR1 ag73 rfl (RdS.mono hR2 (Ent.sep enn)) hyi) ?_
          refine Hd.nil ?_
          refine Hd.thenN ?_
          refine Hd.heldK (J := (fun _ => true)) (i := 10) (Ent.sep enn) ?_
          first | (refine Hd.takeH 11 rfl (by kernel_rfl) (by kernel_rfl) (by kernel_rfl) (by kernel_rfl) (y_convn rfl Try.underlying73 Try.underlying29 (by simp only [InK]; omega)) (fun _ _ => rfl) (Ent.sep enn) ?_) | (refine Hd.takeH 11 rfl (by kernel_rfl) (by kernel_rfl) (by kernel_rfl) (by kernel_rfl) (y_conv rfl Try.underlying73 Try.underlying29) (fun _ _ => rfl) (Ent.sep enn) ?_)
          refine Hd.onlyH 5 rfl (by kernel_rfl) ?_
          refine Hd.yv (y_loadR1 ag73 rfl (RdS.mono hR (Ent.sep enn)) hxi) ?_
          refine Hd.nil ?_
          refine Hd.thenN ?_
          refine Hd.heldK (J := (fun _ => true)) (i := 5) (Ent.sep enn) ?_
          first | (refine Hd.takeH 6 rfl (by kernel_rfl) (by kernel_rfl) (by kernel_rfl) (by kernel_rfl) (y_convn rfl Try.underlying73 Try.underlying29 (by simp only [InK]; omega)) (fun _ _ => rfl) (Ent.sep enn) ?_) | (refine Hd.takeH 6 rfl (by kernel_rfl) (by kernel_rfl) (by kernel_rfl) (by kernel_rfl) (y_conv rfl Try.underlying73 Try.underlying29) (fun _ _ => rfl) (Ent.sep enn) ?_)
          refine Hd.onlyH 12 rfl (by kernel_rfl) ?_
          refine Hd.callE rfl fk39 (add_ct _ o qs s nx (by omega) (by omega) i xs[i] ys[i] (by simp only [InK]; omega) (by simp only [InK]; omega)) (Ent.sep enn) ?_
          intro _
          refine Hd.nil ?_
          refine Hd.thenN ?_
          refine Hd.heldK (J := (fun _ => true)) (i := 12) (Ent.sep enn) ?_
          refine Hd.endH (by kernel_rfl) ?_
          refine Hd.slots [(0, _), (1, _), (2, _), (3, _), (4, _), (11, _), (12, _), (13, _)] ⟨rfl, rfl, rfl, rfl, rfl, rfl, rfl, rfl, trivial⟩ ?_
          refine Hd.inB ?_
          refine Hd.toK hK14 ?_
          refine Hd.region ?_
          refine Hd.yv (y_move rfl) ?_
          first | (refine Hd.yv (y_addn rfl rfl (by simp only [InK]; omega)) ?_) | (refine Hd.yv (y_add rfl rfl) ?_)
          refine Hd.yv (y_assign rfl) ?_
          refine Hd.nil ?_
          refine Hd.slots [(0, _), (1, _), (2, _), (3, _), (4, _), (11, _), (12, _), (13, _)] ⟨rfl, rfl, rfl, rfl, rfl, rfl, rfl, rfl, trivial⟩ ?_
          clear hK1 hK2 hK3 hK4 hK6 hK7 hK8 hK10 hK11 hK12 hK13 hK14
          refine Hd.thenN ?_
          exact Hd.again (i + 1, addQ qs i xs[i] ys[i] nx, addS s i xs[i] ys[i] nx, addN i nx) (by first | omega | (simp only; omega) | (simp; omega)) (by repeat (first | exact trivial | refine ⟨rfl, ?_⟩)) (Ent.sep (.pure ⟨hi, by have := addS_len s i xs[i] ys[i] nx; show (addS s i xs[i] ys[i] nx).length ≤ i + 1; omega, by have := addN_le i nx; show addN i nx ≤ ((i + 1 : Nat) : Int); omega⟩ enn))
      ·
        try simp only [decide_eq_true_eq, decide_eq_false_iff_not, Bool.and_eq_true, Bool.or_eq_true, Bool.and_eq_false_iff, Bool.or_eq_false_iff, Bool.not_eq_true', Bool.not_eq_false', Bool.not_eq_true, Bool.not_eq_false, Int.not_lt, Int.not_le, Decidable.not_not, ne_eq] at hc3
        refine Hd.exit ?_
        refine Hd.thenExit ?_
        refine Hd.thenExit ?_
        refine Hd.inBexit ?_
        refine Hd.toK hK10 ?_
        refine Hd.seq (fun K15 hK15 => ?_)
        refine Hd.region ?_
        refine Hd.yv (y_move rfl) ?_
        refine Hd.yv (y_move rfl) ?_
        refine Hd.callE rfl fk52 (cfind_ct _ o qs s nx id) (Ent.sep enn) ?_
        intro _
        refine Hd.yv (y_move rfl) ?_
        refine Hd.yv (y_extract rfl rfl) ?_
        refine Hd.yv (y_extract rfl rfl) ?_
        refine Hd.alloc zr31 (fun b14 => ?_)
        refine Hd.storeA (us := Hp.encI (findV (findI id s)).1) sz31 rfl rfl rfl (encI_one _) pkk (by exact rfl) ?_
        refine Hd.yv (y_assign rfl) ?_
        refine Hd.nil ?_
        refine Hd.slots [(2, _), (3, _), (4, _), (11, _), (12, _), (15, _)] ⟨rfl, rfl, rfl, rfl, rfl, rfl, trivial⟩ ?_
        refine Hd.toK hK15 ?_
        refine Hd.seq (fun K16 hK16 => ?_)
        refine Hd.seq (fun K17 hK17 => ?_)
        refine Hd.region ?_
        refine Hd.yv (y_move rfl) ?_
        refine Hd.nil ?_
        refine Hd.slots [(2, _), (3, _), (4, _), (11, _), (12, _), (78, _)] ⟨rfl, rfl, rfl, rfl, rfl, rfl, trivial⟩ ?_
        refine Hd.toK hK17 ?_
        refine Hd.cond rfl (fun hc4 => ?_) (fun hc4 => ?_)
        ·
          try simp only [decide_eq_true_eq, decide_eq_false_iff_not, Bool.and_eq_true, Bool.or_eq_true, Bool.and_eq_false_iff, Bool.or_eq_false_iff, Bool.not_eq_true', Bool.not_eq_false', Bool.not_eq_true, Bool.not_eq_false, Int.not_lt, Int.not_le, Decidable.not_not, ne_eq] at hc4
          refine Hd.seq (fun K18 hK18 => ?_)
          refine Hd.region ?_
          refine Hd.yv (y_move rfl) ?_
          refine Hd.yv (y_assign rfl) ?_
          refine Hd.nil ?_
          refine Hd.slots [(10, _)] ⟨rfl, trivial⟩ ?_
          refine Hd.toK hK18 ?_
          refine Hd.ret ?_
          refine Hd.thenRet ?_
          clear hK1 hK2 hK3 hK4 hK6 hK7 hK8 hK10 hK11 hK12 hK13 hK15 hK16 hK17 hK18
          exact Hd.ret1 rfl () (by first | rfl | (simp only [*]; done) | (simp [*]; done)) (Ent.sep enn)
        ·
          try simp only [decide_eq_true_eq, decide_eq_false_iff_not, Bool.and_eq_true, Bool.or_eq_true, Bool.and_eq_false_iff, Bool.or_eq_false_iff, Bool.not_eq_true', Bool.not_eq_false', Bool.not_eq_true, Bool.not_eq_false, Int.not_lt, Int.not_le, Decidable.not_not, ne_eq] at hc4
          have hsl := hp0.2
          have hno : findI id s = none := by
            cases h : findI id s with
            | none => rfl
            | some x => rw [h] at hc4; simp [findV] at hc4
          refine Hd.coF (o := o) pkk (fun hcf => ?_)
          have hlv := add_leaves hcf.hF hno now af nx
          have hal := addS_len s id now af nx
          have htl := topI_len s
          refine Hd.skip ?_
          refine Hd.toK hK16 ?_
          refine Hd.seq (fun K19 hK19 => ?_)
          refine Hd.region ?_
          refine Hd.yv (y_move rfl) ?_
          refine Hd.callE rfl fk44 (call_ct _ o qs s nx) (Ent.sep enn) ?_
          rintro ⟨a16, c16⟩
          dsimp only
          refine Hd.yv (y_assign rfl) ?_
          refine Hd.nil ?_
          refine Hd.slots [(2, _), (3, _), (4, _), (11, _), (12, _), (16, _)] ⟨rfl, rfl, rfl, rfl, rfl, rfl, trivial⟩ ?_
          refine Hd.toK hK19 ?_
          refine Hd.seq (fun K20 hK20 => ?_)
          refine Hd.region ?_
          refine Hd.yv (y_move rfl) ?_
          refine Hd.yv (y_move rfl) ?_
          refine Hd.yv (y_move rfl) ?_
          refine Hd.yv (y_move rfl) ?_
          refine Hd.callE rfl fk39 (add_ct _ o qs s nx (by omega) (by omega) id now af hnw haf) (Ent.sep enn) ?_
          intro _
          refine Hd.yv (y_assign rfl) ?_
          refine Hd.nil ?_
          refine Hd.slots [(2, _), (11, _), (12, _), (16, _), (17, _)] ⟨rfl, rfl, rfl, rfl, rfl, trivial⟩ ?_
          refine Hd.toK hK20 ?_
          refine Hd.seq (fun K21 hK21 => ?_)
          refine Hd.region ?_
          refine Hd.yv (y_move rfl) ?_
          refine Hd.yv (y_move rfl) ?_
          refine Hd.callE rfl fk52 (cfind_ct _ o (addQ qs id now af nx) (addS s id now af nx) (addN id nx) id) (Ent.sep enn) ?_
          intro _
          refine Hd.yv (y_move rfl) ?_
          refine Hd.yv (y_extract rfl rfl) ?_
          refine Hd.yv (y_extract rfl rfl) ?_
          refine Hd.alloc zr31 (fun b18 => ?_)
          refine Hd.storeA (us := Hp.encI (findV (findI id (addS s id now af nx))).1) sz31 rfl rfl rfl (encI_one _) pkk (by exact rfl) ?_
          refine Hd.yv (y_assign rfl) ?_
          refine Hd.nil ?_
          refine Hd.slots [(2, _), (11, _), (12, _), (16, _), (17, _), (18, _), (19, _)] ⟨rfl, rfl, rfl, rfl, rfl, rfl, rfl, trivial⟩ ?_
          refine Hd.toK hK21 ?_
          refine Hd.seq (fun K22 hK22 => ?_)
          refine Hd.region ?_
          refine Hd.yv (y_move rfl) ?_
          refine Hd.yv (y_move rfl) ?_
          refine Hd.callE rfl fk40 (cut_ct _ o (addQ qs id now af nx) (addS s id now af nx) (addN id nx) (by omega) id) (Ent.sep enn) ?_
          intro _
          rw [hlv.1]
          refine Hd.yv (y_assign rfl) ?_
          refine Hd.nil ?_
          refine Hd.slots [(2, _), (11, _), (12, _), (16, _), (17, _), (18, _), (19, _), (20, _)] ⟨rfl, rfl, rfl, rfl, rfl, rfl, rfl, rfl, trivial⟩ ?_
          refine Hd.toK hK22 ?_
          refine Hd.seq (fun K23 hK23 => ?_)
          refine Hd.region ?_
          refine Hd.yv (y_move rfl) ?_
          refine Hd.callE rfl fk44 (call_ct _ o (cutQ id (addQ qs id now af nx)) s (addN id nx)) (Ent.sep enn) ?_
          rintro ⟨a21, c21⟩
          dsimp only
          refine Hd.yv (y_assign rfl) ?_
          refine Hd.nil ?_
          refine Hd.slots [(2, _), (11, _), (12, _), (16, _), (17, _), (18, _), (19, _), (20, _), (21, _)] ⟨rfl, rfl, rfl, rfl, rfl, rfl, rfl, rfl, rfl, trivial⟩ ?_
          refine Hd.toK hK23 ?_
          refine Hd.seq (fun K24 hK24 => ?_)
          refine Hd.seq (fun K25 hK25 => ?_)
          refine Hd.region ?_
          refine Hd.yv (y_move rfl) ?_
          refine Hd.yv (y_move rfl) ?_
          first | (refine Hd.yv (y_eqlT rfl rfl) ?_) | (refine Hd.yv (y_eql rfl rfl) ?_)
          refine Hd.yv (y_to (v' := .bool false) (y_neqb Try.underlying4 rfl rfl) (by (rw [hlv.2.1]; simp))) ?_
          refine Hd.yv (y_move rfl) ?_
          refine Hd.yg rfl rfl (y_move rfl) ?_
          refine Hd.yg rfl rfl (y_move rfl) ?_
          refine Hd.yg rfl rfl (y_to (v' := .bool false) (y_neqb Try.underlying4 rfl rfl) (by (rw [findV_some]; simp))) ?_
          first | (refine Hd.yv (y_pickT rfl rfl) ?_) | (refine Hd.yv (y_pickF rfl rfl) ?_) | (refine Hd.yv (y_pickb rfl rfl rfl) ?_) | (refine Hd.yv (y_pick rfl rfl rfl) ?_)
          refine Hd.yv (y_move rfl) ?_
          refine Hd.yg rfl rfl (y_move rfl) ?_
          refine Hd.yg rfl rfl (y_move rfl) ?_
          apply Hd.andg 5 109 114 [(11, _), (12, _), (16, _), (21, _), (107, _)] rfl ⟨rfl, rfl, rfl, rfl, rfl, trivial⟩
          · intro hg21_109
            try simp only [decide_eq_true_eq, decide_eq_false_iff_not, Bool.and_eq_true, Bool.or_eq_true, Bool.and_eq_false_iff, Bool.or_eq_false_iff, Bool.not_eq_true', Bool.not_eq_false', Bool.not_eq_true, Bool.not_eq_false, Int.not_lt, Int.not_le, Decidable.not_not, ne_eq] at hg21_109
            simp only [List.take]
            first | (refine Hd.yg rfl rfl (y_field' (q := 0) (ft := 3) Try.underlying31 rfl sz3 rfl rfl) ?_) | (refine Hd.yg rfl rfl (y_fieldR (q := 0) (ft := 3) Try.underlying31 rfl sz3 rfl rfl) ?_)
            first | (refine Hd.yg rfl rfl (y_load1 ag3 rfl (Rd.pt1 pkk (by (first | rfl)))) ?_) | (refine Hd.yg rfl rfl (y_load1 ag3 rfl (Rd.seg1 pkk (by (first | rfl)))) ?_) | (refine Hd.yg rfl rfl (y_loadR1 ag3 rfl (by (first | exact RdS.own pkk | exact RdS.mono hR (Ent.sep enn) | exact RdS.mono hR2 (Ent.sep enn))) (by (first | rfl))) ?_)
            refine Hd.yg rfl rfl (y_move rfl) ?_
            refine Hd.yg rfl rfl (y_neq rfl rfl) ?_
            first | (refine Hd.yg rfl rfl (y_pickT rfl rfl) ?_) | (refine Hd.yg rfl rfl (y_pickF rfl rfl) ?_) | (refine Hd.yg rfl rfl (y_pickb rfl rfl rfl) ?_) | (refine Hd.yg rfl rfl (y_pick rfl rfl rfl) ?_)
            refine Hd.nil ?_
            exact Hd.mend (by repeat (first | exact trivial | refine ⟨rfl, ?_⟩)) (Ent.sep enn)
          · intro hg21_109
            try simp only [decide_eq_true_eq, decide_eq_false_iff_not, Bool.and_eq_true, Bool.or_eq_true, Bool.and_eq_false_iff, Bool.or_eq_false_iff, Bool.not_eq_true', Bool.not_eq_false', Bool.not_eq_true, Bool.not_eq_false, Int.not_lt, Int.not_le, Decidable.not_not, ne_eq] at hg21_109
            simp only [List.take]
            refine Hd.ng rfl rfl rfl ?_
            refine Hd.ng rfl rfl rfl ?_
            refine Hd.ng rfl rfl rfl ?_
            refine Hd.ng rfl rfl rfl ?_
            first | (refine Hd.yg rfl rfl (y_pickT rfl rfl) ?_) | (refine Hd.yg rfl rfl (y_pickF rfl rfl) ?_) | (refine Hd.yg rfl rfl (y_pickb rfl rfl rfl) ?_) | (refine Hd.yg rfl rfl (y_pick rfl rfl rfl) ?_)
            refine Hd.nil ?_
            exact Hd.mend (by repeat (first | exact trivial | refine ⟨rfl, ?_⟩)) (Ent.sep enn)
          simp only [List.drop]
          first | (refine Hd.yv (y_pickT rfl rfl) ?_) | (refine Hd.yv (y_pickF rfl rfl) ?_) | (refine Hd.yv (y_pickb rfl rfl rfl) ?_) | (refine Hd.yv (y_pick rfl rfl rfl) ?_)
          refine Hd.yv (y_to (v' := .bool false) (y_move rfl) (by exact congrArg Value.bool hlv.2.2)) ?_
          refine Hd.yg rfl rfl (y_move rfl) ?_
          refine Hd.yg rfl rfl (y_len Try.underlying22 rfl) ?_
          refine Hd.yg rfl rfl (y_move rfl) ?_
          refine Hd.yg rfl rfl (y_len Try.underlying22 rfl) ?_
          refine Hd.yg rfl rfl (y_to (y_neq rfl rfl) (congrArg Value.bool (decide_eq_false ((fun h => h rfl))))) ?_
          first | (refine Hd.yv (y_pickT rfl rfl) ?_) | (refine Hd.yv (y_pickF rfl rfl) ?_) | (refine Hd.yv (y_pickb rfl rfl rfl) ?_) | (refine Hd.yv (y_pick rfl rfl rfl) ?_)
          refine Hd.yv (y_move rfl) ?_
          refine Hd.yg rfl rfl (y_move rfl) ?_
          refine Hd.unguard rfl rfl ?_
          refine Hd.callE rfl fk45 (clen_ct _ o (cutQ id (addQ qs id now af nx)) s (addN id nx)) (Ent.sep enn) ?_
          intro _
          refine Hd.yg rfl rfl (y_move rfl) ?_
          refine Hd.yg rfl rfl (y_len Try.underlying22 rfl) ?_
          refine Hd.yg rfl rfl (y_to (y_neq rfl rfl) (congrArg Value.bool (decide_eq_false ((fun h => h rfl))))) ?_
          first | (refine Hd.yv (y_pickT rfl rfl) ?_) | (refine Hd.yv (y_pickF rfl rfl) ?_) | (refine Hd.yv (y_pickb rfl rfl rfl) ?_) | (refine Hd.yv (y_pick rfl rfl rfl) ?_)
          refine Hd.nil ?_
          refine Hd.slots [(11, _), (12, _), (16, _), (21, _), (129, _)] ⟨rfl, rfl, rfl, rfl, rfl, trivial⟩ ?_
          refine Hd.toK hK25 ?_
          refine Hd.condF rfl ?_
          refine Hd.skip ?_
          refine Hd.toK hK24 ?_
          refine Hd.seq (fun K26 hK26 => ?_)
          refine Hd.seq (fun K27 hK27 => ?_)
          refine Hd.region ?_
          refine Hd.yv (y_assign rfl) ?_
          refine Hd.nil ?_
          refine Hd.slots [(11, _), (12, _), (16, _), (21, _), (22, _)] ⟨rfl, rfl, rfl, rfl, rfl, trivial⟩ ?_
          refine Hd.toK hK27 ?_
          refine Hd.block ?_
          refine Hd.loopK (ι := Nat) [(11, _), (12, _), (16, _), (21, _)] (fun k => [(22, .int .i64 (k : Int))]) (fun k => pu (k ≤ s.length) :: OwI a16 s.length c16 s :: OwI a21 s.length c21 s :: CoA o (cutQ id (addQ qs id now af nx)) s (addN id nx) :: L) (fun k => s.length - k) 0 (by repeat (first | exact trivial | refine ⟨rfl, ?_⟩)) (by repeat (first | exact trivial | refine ⟨rfl, ?_⟩)) (Ent.sep (.pure (by first | omega | (simp; done) | (simp; omega) | exact ⟨by simp, by simp⟩) enn)) ?_
          intro k
          try dsimp only
          refine Hd.pure (fun hp1 => ?_)
          try dsimp only at hp1
          refine Hd.seq (fun K28 hK28 => ?_)
          refine Hd.seq (fun K29 hK29 => ?_)
          refine Hd.region ?_
          refine Hd.yv (y_move rfl) ?_
          refine Hd.yv (y_move rfl) ?_
          refine Hd.yv (y_len Try.underlying22 rfl) ?_
          refine Hd.yv (y_lss rfl rfl) ?_
          refine Hd.nil ?_
          refine Hd.slots [(11, _), (12, _), (16, _), (21, _), (22, _), (133, _)] ⟨rfl, rfl, rfl, rfl, rfl, rfl, trivial⟩ ?_
          refine Hd.toK hK29 ?_
          refine Hd.cond rfl (fun hc6 => ?_) (fun hc6 => ?_)
          ·
            try simp only [decide_eq_true_eq, decide_eq_false_iff_not, Bool.and_eq_true, Bool.or_eq_true, Bool.and_eq_false_iff, Bool.or_eq_false_iff, Bool.not_eq_true', Bool.not_eq_false', Bool.not_eq_true, Bool.not_eq_false, Int.not_lt, Int.not_le, Decidable.not_not, ne_eq] at hc6
            have hk : k < s.length := by omega
            have hgk : s[k]? = some (g s k) := g_at hk
            refine Hd.skip ?_
            refine Hd.toK hK28 ?_
            refine Hd.seq (fun K30 hK30 => ?_)
            refine Hd.block ?_
            refine Hd.seq (fun K31 hK31 => ?_)
            refine Hd.quiet mixed (by kernel_rfl) ?_
            refine Hq.yv (y_move rfl) ?_
            refine Hq.yv (y_move rfl) ?_
            first | (refine Hq.yv (y_idxS Try.underlying22 sz31 rfl rfl (by first | omega | decide)) ?_) | (refine Hq.yv (y_idxR Try.underlying22 sz31 rfl rfl (by first | omega | decide) (by (first | exact RdS.own pkk | exact RdS.mono hR (Ent.sep enn) | exact RdS.mono hR2 (Ent.sep enn)))) ?_)
            refine Hq.yv (y_loadRn (vs := [_, _, _]) ag31 rfl (RdS.own (ad := a21) (us := s.flatMap Hp.encI) pkk) (flat_cells Hp.encI 3 (fun _ => rfl) hgk) (by exact sz31) (by simp)) ?_
            refine Hq.yv (y_move rfl) ?_
            refine Hq.yv (y_move rfl) ?_
            first | (refine Hq.yv (y_idxS Try.underlying22 sz31 rfl rfl (by first | omega | decide)) ?_) | (refine Hq.yv (y_idxR Try.underlying22 sz31 rfl rfl (by first | omega | decide) (by (first | exact RdS.own pkk | exact RdS.mono hR (Ent.sep enn) | exact RdS.mono hR2 (Ent.sep enn)))) ?_)
            refine Hq.yv (y_loadRn (vs := [_, _, _]) ag31 rfl (RdS.own (ad := a16) (us := s.flatMap Hp.encI) pkk) (flat_cells Hp.encI 3 (fun _ => rfl) hgk) (by exact sz31) (by simp)) ?_
            refine Hq.yv (y_to (v' := .bool false) (y_neq_agg rfl rfl eqt31 rfl ⟨rfl, rfl⟩) (by (rw [allEq_encI]; simp))) ?_
            refine Hq.nil ?_
            refine Hd.slots [(11, _), (12, _), (16, _), (21, _), (22, _), (144, _)] ⟨rfl, rfl, rfl, rfl, rfl, rfl, trivial⟩ ?_
            refine Hd.toK hK31 ?_
            refine Hd.condF rfl ?_
            refine Hd.skip ?_
            refine Hd.inB ?_
            refine Hd.toK hK30 ?_
            refine Hd.region ?_
            refine Hd.yv (y_move rfl) ?_
            first | (refine Hd.yv (y_addn rfl rfl (by simp only [InK]; omega)) ?_) | (refine Hd.yv (y_add rfl rfl) ?_)
            refine Hd.yv (y_assign rfl) ?_
            refine Hd.nil ?_
            refine Hd.slots [(11, _), (12, _), (16, _), (21, _), (22, _)] ⟨rfl, rfl, rfl, rfl, rfl, trivial⟩ ?_
            clear hK1 hK2 hK3 hK4 hK6 hK7 hK8 hK10 hK11 hK12 hK13 hK15 hK16 hK17 hK19 hK20 hK21 hK22 hK23 hK24 hK25 hK26 hK27 hK28 hK29 hK30 hK31
            refine Hd.thenN ?_
            exact Hd.again (k + 1) (by first | omega | (simp only; omega) | (simp; omega)) (by repeat (first | exact trivial | refine ⟨rfl, ?_⟩)) (Ent.sep (.pure (by first | omega | (simp; done) | (simp; omega) | (dsimp only; omega)) enn))
          ·
            try simp only [decide_eq_true_eq, decide_eq_false_iff_not, Bool.and_eq_true, Bool.or_eq_true, Bool.and_eq_false_iff, Bool.or_eq_false_iff, Bool.not_eq_true', Bool.not_eq_false', Bool.not_eq_true, Bool.not_eq_false, Int.not_lt, Int.not_le, Decidable.not_not, ne_eq] at hc6
            refine Hd.exit ?_
            refine Hd.thenExit ?_
            refine Hd.thenExit ?_
            refine Hd.inBexit ?_
            refine Hd.toK hK26 ?_
            refine Hd.seq (fun K32 hK32 => ?_)
            refine Hd.region ?_
            refine Hd.yv (y_move rfl) ?_
            refine Hd.callE rfl fk43 (ctop_ct _ o (cutQ id (addQ qs id now af nx)) s (addN id nx)) (Ent.sep enn) ?_
            intro _
            refine Hd.yv (y_move rfl) ?_
            refine Hd.yv (y_extract rfl rfl) ?_
            refine Hd.yv (y_extract rfl rfl) ?_
            refine Hd.alloc zr31 (fun b23 => ?_)
            refine Hd.storeA (us := Hp.encI (topI s).1) sz31 rfl rfl rfl (encI_one _) pkk (by exact rfl) ?_
            refine Hd.yv (y_assign rfl) ?_
            refine Hd.nil ?_
            refine Hd.slots [(11, _), (21, _), (23, _), (24, _)] ⟨rfl, rfl, rfl, rfl, trivial⟩ ?_
            refine Hd.toK hK32 ?_
            refine Hd.seq (fun K33 hK33 => ?_)
            refine Hd.quiet mixed (by kernel_rfl) ?_
            refine Hq.yv (y_move rfl) ?_
            refine Hq.yv (y_move rfl) ?_
            refine Hq.yg rfl rfl (y_move rfl) ?_
            refine Hq.yg rfl rfl (y_move rfl) ?_
            refine Hq.yg rfl rfl (y_len Try.underlying22 rfl) ?_
            refine Hq.yg rfl rfl (y_gtr rfl rfl) ?_
            refine Hq.yg rfl rfl (y_to (v' := .bool true) (y_eqlb Try.underlying4 rfl rfl) (by (rw [htl]; simp))) ?_
            first | (refine Hq.yv (y_pickT rfl rfl) ?_) | (refine Hq.yv (y_pickF rfl rfl) ?_) | (refine Hq.yv (y_pickb rfl rfl rfl) ?_) | (refine Hq.yv (y_pick rfl rfl rfl) ?_)
            refine Hq.yv (y_move rfl) ?_
            refine Hq.yg rfl rfl (y_move rfl) ?_
            refine Hq.yg rfl rfl (y_not rfl) ?_
            refine Hq.yg rfl rfl (y_move rfl) ?_
            refine Hq.part (gd := 161) rfl (fun hg29_161 => ?_) (fun hg29_161 => ?_)
            ·
              try simp only [decide_eq_true_eq, decide_eq_false_iff_not, Bool.and_eq_true, Bool.or_eq_true, Bool.and_eq_false_iff, Bool.or_eq_false_iff, Bool.not_eq_true', Bool.not_eq_false', Bool.not_eq_true, Bool.not_eq_false, Int.not_lt, Int.not_le, Decidable.not_not, ne_eq] at hg29_161
              refine Hq.ng rfl rfl rfl ?_
              refine Hq.ng rfl rfl rfl ?_
              refine Hq.ng rfl rfl rfl ?_
              refine Hq.ng rfl rfl rfl ?_
              refine Hq.ng rfl rfl rfl ?_
              first | (refine Hq.yg rfl rfl (y_pickT rfl rfl) ?_) | (refine Hq.yg rfl rfl (y_pickF rfl rfl) ?_) | (refine Hq.yg rfl rfl (y_pickb rfl rfl rfl) ?_) | (refine Hq.yg rfl rfl (y_pick rfl rfl rfl) ?_)
              first | (refine Hq.yv (y_pickT rfl rfl) ?_) | (refine Hq.yv (y_pickF rfl rfl) ?_) | (refine Hq.yv (y_pickb rfl rfl rfl) ?_) | (refine Hq.yv (y_pick rfl rfl rfl) ?_)
              refine Hq.yv (y_assign rfl) ?_
              refine Hq.nil ?_
              refine Hd.slots [(10, _)] ⟨rfl, trivial⟩ ?_
              refine Hd.toK hK33 ?_
              refine Hd.ret ?_
              clear hK1 hK2 hK3 hK4 hK6 hK7 hK8 hK10 hK11 hK12 hK13 hK15 hK16 hK17 hK19 hK20 hK21 hK22 hK23 hK24 hK25 hK26 hK27 hK28 hK29 hK32 hK33
              exact Hd.ret1 rfl () (by first | rfl | (simp only [*]; done) | (simp [*]; done)) (Ent.sep enn)
            ·
              try simp only [decide_eq_true_eq, decide_eq_false_iff_not, Bool.and_eq_true, Bool.or_eq_true, Bool.and_eq_false_iff, Bool.or_eq_false_iff, Bool.not_eq_true', Bool.not_eq_false', Bool.not_eq_true, Bool.not_eq_false, Int.not_lt, Int.not_le, Decidable.not_not, ne_eq] at hg29_161
              have h0 : 0 < s.length := by
                cases hs : s with
                | nil => rw [hs] at hg29_161; simp [topI] at hg29_161
                | cons x r => simp
              have hg0 : s[0]? = some (g s 0) := g_at h0
              have ht1 : (topI s).1 = g s 0 := by cases hs : s with | nil => rw [hs] at h0; simp at h0 | cons x r => rfl
              first | (refine Hq.yg rfl rfl (y_loadn (us := [_, _, _]) ag31 rfl (Rd.pt pkk (by (first | (intro j v e; rcases j with _|_|_|_|_|_|_|_|_|_|_|_|j <;> first | exact e | exact absurd e (by simp))))) (by exact sz31)) ?_) | (refine Hq.yg rfl rfl (y_loadn (us := [_, _, _]) ag31 rfl (Rd.seg pkk (by (first | (intro j v e; rcases j with _|_|_|_|_|_|_|_|_|_|_|_|j <;> first | exact e | exact absurd e (by simp))))) (by exact sz31)) ?_) | (refine Hq.yg rfl rfl (y_loadRn ag31 rfl (by (first | exact RdS.own pkk | exact RdS.mono hR (Ent.sep enn) | exact RdS.mono hR2 (Ent.sep enn))) (by (first | (intro j v e; rcases j with _|_|_|_|_|_|_|_|_|_|_|_|j <;> first | exact e | exact absurd e (by simp)))) (by exact sz31) (by simp)) ?_)
              refine Hq.yg rfl rfl (y_move rfl) ?_
              first | (refine Hq.yg rfl rfl (y_idxS Try.underlying22 sz31 rfl rfl (by first | exact (show (0 : Nat) < _ by omega) | omega | decide)) ?_) | (refine Hq.yg rfl rfl (y_idxR Try.underlying22 sz31 rfl rfl (by first | exact (show (0 : Nat) < _ by omega) | omega | decide) (by (first | exact RdS.own pkk | exact RdS.mono hR (Ent.sep enn) | exact RdS.mono hR2 (Ent.sep enn)))) ?_)
              refine Hq.yg rfl rfl (y_loadRn (vs := [_, _, _]) ag31 rfl (RdS.own (ad := a21) (us := s.flatMap Hp.encI) pkk) (by have h := flat_cells Hp.encI 3 (fun _ => rfl) hg0; rwa [Nat.zero_mul] at h ⊢) (by exact sz31) (by simp)) ?_
              refine Hq.yg rfl rfl (y_to (v' := .bool true) (y_eql_agg rfl rfl eqt31 rfl ⟨rfl, rfl⟩) (by (exact congrArg Value.bool ((congrArg (fun z => allEq (Hp.encI z) (Hp.encI (g s 0))) ht1).trans ((allEq_encI _ _).trans (by simp)))))) ?_
              first | (refine Hq.yg rfl rfl (y_pickT rfl rfl) ?_) | (refine Hq.yg rfl rfl (y_pickF rfl rfl) ?_) | (refine Hq.yg rfl rfl (y_pickb rfl rfl rfl) ?_) | (refine Hq.yg rfl rfl (y_pick rfl rfl rfl) ?_)
              first | (refine Hq.yv (y_pickT rfl rfl) ?_) | (refine Hq.yv (y_pickF rfl rfl) ?_) | (refine Hq.yv (y_pickb rfl rfl rfl) ?_) | (refine Hq.yv (y_pick rfl rfl rfl) ?_)
              refine Hq.yv (y_assign rfl) ?_
              refine Hq.nil ?_
              refine Hd.slots [(10, _)] ⟨rfl, trivial⟩ ?_
              refine Hd.toK hK33 ?_
              refine Hd.ret ?_
              clear hK1 hK2 hK3 hK4 hK6 hK7 hK8 hK10 hK11 hK12 hK13 hK15 hK16 hK17 hK19 hK20 hK21 hK22 hK23 hK24 hK25 hK26 hK27 hK28 hK29 hK32 hK33
              exact Hd.ret1 rfl () (by first | rfl | (simp only [*]; done) | (simp [*]; done)) (Ent.sep enn)
end Cm
end Go.Proofs.Ytcnegelaenkgpaa
