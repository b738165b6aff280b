/-
  The law CommonDue answers true.
-/
import Derived.Test.YtcnegelaenkgpaaCo11
namespace Go.Proofs.Ytcnegelaenkgpaa
set_option linter.unusedSimpArgs false
set_option linter.unusedVariables false
set_option linter.unnecessarySimpa false
open Go.RX Fx Hp
namespace Cm
set_option maxRecDepth 8000
theorem restI_top (now : Int) : ∀ s : List It, ((topI (restI now s)).2 && decide ((topI (restI now s)).1.at_ ≤ now)) = false
  | [] => rfl
  | y :: s => by
    unfold restI
    rw [List.dropWhile_cons]
    split
    · exact restI_top now s
    · rename_i h
      have h' : ¬ y.at_ ≤ now := by simpa using h
      show (true && decide (y.at_ ≤ now)) = false
      rw [decide_eq_false h']; rfl
theorem dueI_le {now : Int} : ∀ {s : List It} {y : It}, y ∈ dueI now s → y.at_ ≤ now
  | [], y, h => by cases h
  | x :: s, y, h => by
    unfold dueI at h
    rw [List.takeWhile_cons] at h
    split at h
    · rename_i hx
      rcases List.mem_cons.1 h with rfl | h
      · simpa using hx
      · exact dueI_le h
    · cases h
theorem due_app (now : Int) (s : List It) : dueI now s ++ restI now s = s := List.takeWhile_append_dropWhile
theorem due_gone {now : Int} {s : List It} (hF : HpF s) {y : It} (h : y ∈ dueI now s) : findI y.id (restI now s) = none := by
  refine (findI_none fun z hz e => ?_).1
  have hnd := hF.nd
  rw [← due_app now s, List.map_append, List.nodup_append] at hnd
  exact hnd.2.2 y.id (List.mem_map.2 ⟨y, h, rfl⟩) z.id (List.mem_map.2 ⟨z, hz, rfl⟩) e.symm
theorem due_ahead {qs : List Q} {now : Int} {s : List It} {nx : Int} (hc : CoF qs s nx) {k : Nat} (h0 : 0 < k) (hk : k < (dueI now s).length) : ltC (g (dueI now s) (k - 1)) (g (dueI now s) k) := by
  obtain ⟨hs, f, hok⟩ := hc
  have hsub : (dueI now s).Sublist s := by unfold dueI; exact (List.takeWhile_prefix _).sublist
  have hsrt := hok.hF.srt.sublist hsub
  have h1 := List.pairwise_iff_getElem.1 hsrt (k - 1) k (by omega) hk (by omega)
  have e1 : (dueI now s)[k - 1]'(by omega) = g (dueI now s) (k - 1) := by
    have := g_at (V := dueI now s) (j := k - 1) (by omega)
    rw [List.getElem?_eq_getElem (by omega)] at this; exact Option.some.inj this
  have e2 : (dueI now s)[k] = g (dueI now s) k := by
    have := g_at (V := dueI now s) (j := k) hk
    rw [List.getElem?_eq_getElem hk] at this; exact Option.some.inj this
  rw [e1, e2] at h1
  exact (ltC_I (hok.nin _ (hsub.mem (g_mem (by omega))) _ (hsub.mem (g_mem hk)))).2 h1
set_option maxHeartbeats 2000000 in
theorem due_ct (L : List SP) (ad : Option Addr) (c : Nat) (xs : List Opc) (hR : RdS L 4 ad xs.length (xs.flatMap encO)) (hO : ∀ o ∈ xs, OpOk o) : Ct Try.prog 14 #[.slice ad xs.length c] (L) (fun _ : Unit => .bool true) (fun _ : Unit => L) := by
  refine Ct.of (vs := [.slice ad xs.length c]) Try.func14 rfl rfl [(0, .slice ad xs.length c)] (by repeat (first | exact trivial | refine ⟨rfl, ?_⟩)) ?_
  intro E
  show Hd E 135 _ _ _ _
  refine Hd.seq (fun K1 hK1 => ?_)
  refine Hd.region ?_
  refine Hd.yv (y_assign rfl) ?_
  refine Hd.nil ?_
  refine Hd.slots [(0, _)] ⟨rfl, trivial⟩ ?_
  refine Hd.toK hK1 ?_
  refine Hd.seq (fun K2 hK2 => ?_)
  refine Hd.region ?_
  refine Hd.callE rfl fk36 (alive_ct _) (Ent.sep enn) ?_
  intro _
  refine Hd.yv (y_assign rfl) ?_
  refine Hd.nil ?_
  refine Hd.slots [(0, _), (3, _)] ⟨rfl, rfl, trivial⟩ ?_
  refine Hd.toK hK2 ?_
  refine Hd.seq (fun K3 hK3 => ?_)
  refine Hd.seq (fun K4 hK4 => ?_)
  refine Hd.region ?_
  refine Hd.yv (y_move rfl) ?_
  refine Hd.yv (y_len Try.underlying57 rfl) ?_
  refine Hd.yv (y_gtr rfl rfl) ?_
  refine Hd.yv (y_move rfl) ?_
  apply Hd.org 3 19 22 [(0, _), (3, _)] rfl ⟨rfl, rfl, trivial⟩
  · intro hg2_19
    try simp only [decide_eq_true_eq, decide_eq_false_iff_not, Bool.and_eq_true, Bool.or_eq_true, Bool.and_eq_false_iff, Bool.or_eq_false_iff, Bool.not_eq_true', Bool.not_eq_false', Bool.not_eq_true, Bool.not_eq_false, Int.not_lt, Int.not_le, Decidable.not_not, ne_eq] at hg2_19
    simp only [List.take]
    refine Hd.ng rfl rfl rfl ?_
    refine Hd.ng rfl rfl rfl ?_
    first | (refine Hd.yv (y_pickT rfl rfl) ?_) | (refine Hd.yv (y_pickF rfl rfl) ?_) | (refine Hd.yv (y_pickb rfl rfl rfl) ?_) | (refine Hd.yv (y_pick rfl rfl rfl) ?_)
    refine Hd.nil ?_
    exact Hd.mend (by repeat (first | exact trivial | refine ⟨rfl, ?_⟩)) (Ent.sep enn)
  · intro hg2_19
    try simp only [decide_eq_true_eq, decide_eq_false_iff_not, Bool.and_eq_true, Bool.or_eq_true, Bool.and_eq_false_iff, Bool.or_eq_false_iff, Bool.not_eq_true', Bool.not_eq_false', Bool.not_eq_true, Bool.not_eq_false, Int.not_lt, Int.not_le, Decidable.not_not, ne_eq] at hg2_19
    simp only [List.take]
    refine Hd.yg rfl rfl (y_move rfl) ?_
    refine Hd.yg rfl rfl (y_not rfl) ?_
    first | (refine Hd.yv (y_pickT rfl rfl) ?_) | (refine Hd.yv (y_pickF rfl rfl) ?_) | (refine Hd.yv (y_pickb rfl rfl rfl) ?_) | (refine Hd.yv (y_pick rfl rfl rfl) ?_)
    refine Hd.nil ?_
    exact Hd.mend (by repeat (first | exact trivial | refine ⟨rfl, ?_⟩)) (Ent.sep enn)
  simp only [List.drop]
  refine Hd.nil ?_
  refine Hd.slots [(0, _), (3, _), (22, _)] ⟨rfl, rfl, rfl, trivial⟩ ?_
  refine Hd.toK hK4 ?_
  refine Hd.cond rfl (fun hc0 => ?_) (fun hc0 => ?_)
  ·
    try simp only [decide_eq_true_eq, decide_eq_false_iff_not, Bool.and_eq_true, Bool.or_eq_true, Bool.and_eq_false_iff, Bool.or_eq_false_iff, Bool.not_eq_true', Bool.not_eq_false', Bool.not_eq_true, Bool.not_eq_false, Int.not_lt, Int.not_le, Decidable.not_not, ne_eq] at hc0
    refine Hd.seq (fun K5 hK5 => ?_)
    refine Hd.region ?_
    refine Hd.yv (y_move rfl) ?_
    refine Hd.yv (y_assign rfl) ?_
    refine Hd.nil ?_
    refine Hd.slots [(2, _)] ⟨rfl, trivial⟩ ?_
    refine Hd.toK hK5 ?_
    refine Hd.ret ?_
    refine Hd.thenRet ?_
    clear hK1 hK2 hK3 hK4 hK5
    exact Hd.ret1 rfl () (by first | rfl | (simp only [*]; done) | (simp [*]; done)) (Ent.sep enn)
  ·
    try simp only [decide_eq_true_eq, decide_eq_false_iff_not, Bool.and_eq_true, Bool.or_eq_true, Bool.and_eq_false_iff, Bool.or_eq_false_iff, Bool.not_eq_true', Bool.not_eq_false', Bool.not_eq_true, Bool.not_eq_false, Int.not_lt, Int.not_le, Decidable.not_not, ne_eq] at hc0
    have hx : xs.length ≤ 100 := by have := hc0; simp at this; omega
    refine Hd.skip ?_
    refine Hd.toK hK3 ?_
    refine Hd.seq (fun K6 hK6 => ?_)
    refine Hd.region ?_
    refine Hd.callE rfl fk37 (new_ct _) (Ent.sep enn) ?_
    intro o
    refine Hd.yv (y_assign rfl) ?_
    refine Hd.nil ?_
    refine Hd.slots [(0, _), (3, _), (4, _)] ⟨rfl, rfl, rfl, trivial⟩ ?_
    refine Hd.toK hK6 ?_
    refine Hd.seq (fun K7 hK7 => ?_)
    refine Hd.region ?_
    refine Hd.yv (y_assign rfl) ?_
    refine Hd.nil ?_
    refine Hd.slots [(0, _), (3, _), (4, _), (5, _)] ⟨rfl, rfl, rfl, rfl, trivial⟩ ?_
    refine Hd.toK hK7 ?_
    refine Hd.seq (fun K8 hK8 => ?_)
    refine Hd.seq (fun K9 hK9 => ?_)
    refine Hd.region ?_
    refine Hd.yv (y_assign rfl) ?_
    refine Hd.nil ?_
    refine Hd.slots [(0, _), (3, _), (4, _), (5, _), (6, _)] ⟨rfl, rfl, rfl, rfl, rfl, trivial⟩ ?_
    refine Hd.toK hK9 ?_
    refine Hd.block ?_
    refine Hd.loopK (ι := Nat × List Q × List It × Int × Int) [(0, _), (3, _), (4, _)] (fun q_ => [(5, .int .u64 q_.2.2.2.2), (6, .int .i64 (q_.1 : Int))]) (fun q_ => pu (q_.1 ≤ xs.length ∧ q_.2.2.1.length ≤ q_.1 ∧ q_.2.2.2.1 ≤ q_.1 ∧ 0 ≤ q_.2.2.2.2 ∧ q_.2.2.2.2 ≤ 1048576 * q_.1) :: CoA o q_.2.1 q_.2.2.1 q_.2.2.2.1 :: L) (fun q_ => xs.length - q_.1) (0, [], [], 0, 0) (by repeat (first | exact trivial | refine ⟨rfl, ?_⟩)) (by repeat (first | exact trivial | refine ⟨rfl, ?_⟩)) (Ent.sep (.pure ⟨Nat.zero_le _, Nat.zero_le _, Int.le_refl _, Int.le_refl _, Int.le_refl _⟩ enn)) ?_
    rintro ⟨i, qs, s, nx, now⟩
    try dsimp only
    refine Hd.pure (fun hp0 => ?_)
    try dsimp only at hp0
    refine Hd.seq (fun K10 hK10 => ?_)
    refine Hd.seq (fun K11 hK11 => ?_)
    refine Hd.region ?_
    refine Hd.yv (y_move rfl) ?_
    refine Hd.yv (y_move rfl) ?_
    refine Hd.yv (y_len Try.underlying57 rfl) ?_
    refine Hd.yv (y_lss rfl rfl) ?_
    refine Hd.nil ?_
    refine Hd.slots [(0, _), (3, _), (4, _), (5, _), (6, _), (28, _)] ⟨rfl, rfl, rfl, rfl, rfl, rfl, trivial⟩ ?_
    refine Hd.toK hK11 ?_
    refine Hd.cond rfl (fun hc1 => ?_) (fun hc1 => ?_)
    ·
      try simp only [decide_eq_true_eq, decide_eq_false_iff_not, Bool.and_eq_true, Bool.or_eq_true, Bool.and_eq_false_iff, Bool.or_eq_false_iff, Bool.not_eq_true', Bool.not_eq_false', Bool.not_eq_true, Bool.not_eq_false, Int.not_lt, Int.not_le, Decidable.not_not, ne_eq] at hc1
      have hi : i < xs.length := by omega
      have hsl := hp0.2
      obtain ⟨x, hxo⟩ : ∃ x, xs[i]? = some x := ⟨_, List.getElem?_eq_getElem hi⟩
      have hok := hO x (List.mem_of_getElem? hxo)
      have hnow := hok.1
      simp only [InK] at hnow
      have hm0 : 0 ≤ x.now % 1048576 := Int.emod_nonneg _ (by omega)
      have hm1 : x.now % 1048576 < 1048576 := Int.emod_lt_of_pos _ (by omega)
      obtain ⟨now', hnow'⟩ : ∃ now', now' = now + x.now % 1048576 := ⟨_, rfl⟩
      have hn' : InK .u64 now' := by simp only [InK]; omega
      have hn2 : now' ≤ 1048576 * ((i + 1 : Nat) : Int) := by omega
      refine Hd.skip ?_
      refine Hd.toK hK10 ?_
      refine Hd.seq (fun K12 hK12 => ?_)
      refine Hd.block ?_
      refine Hd.seq (fun K13 hK13 => ?_)
      refine Hd.region ?_
      refine Hd.yv (y_move rfl) ?_
      refine Hd.yv (y_move rfl) ?_
      first | (refine Hd.yv (y_idxS Try.underlying57 sz63 rfl rfl (by first | omega | decide)) ?_) | (refine Hd.yv (y_idxR Try.underlying57 sz63 rfl rfl (by first | omega | decide) (by (first | exact RdS.own pkk | exact RdS.mono hR (Ent.sep enn)))) ?_)
      refine Hd.yv (y_loadRn (vs := [_, _, _, _]) ag63 rfl (RdS.mono hR (Ent.sep enn)) (flat_cells encO 4 (fun _ => rfl) hxo) (by exact sz63) (by simp)) ?_
      refine Hd.alloc zr63 (fun b7 => ?_)
      refine Hd.storeA (us := encO x) sz63 rfl rfl rfl (by simp [Value.oneCell']) pkk (by exact rfl) ?_
      refine Hd.nil ?_
      refine Hd.slots [(0, _), (3, _), (4, _), (5, _), (6, _), (7, _)] ⟨rfl, rfl, rfl, rfl, rfl, rfl, trivial⟩ ?_
      refine Hd.toK hK13 ?_
      refine Hd.seq (fun K14 hK14 => ?_)
      refine Hd.region ?_
      refine Hd.yv (y_move rfl) ?_
      first | (refine Hd.yv (y_field' (q := 2) (ft := 29) Try.underlying63 rfl sz29 rfl rfl) ?_) | (refine Hd.yv (y_fieldR (q := 2) (ft := 29) Try.underlying63 rfl sz29 rfl rfl) ?_)
      first | (refine Hd.yv (y_load1 ag29 rfl (Rd.pt1 pkk (by (first | exact flat_cells Hp.encI 3 (fun _ => rfl) hgk 0 _ rfl | exact flat_cells Hp.encI 3 (fun _ => rfl) hgk 1 _ rfl | rfl)))) ?_) | (refine Hd.yv (y_load1 ag29 rfl (Rd.seg1 pkk (by (first | exact flat_cells Hp.encI 3 (fun _ => rfl) hgk 0 _ rfl | exact flat_cells Hp.encI 3 (fun _ => rfl) hgk 1 _ rfl | rfl)))) ?_) | (refine Hd.yv (y_loadR1 ag29 rfl (by (first | exact RdS.own pkk | exact RdS.mono hR (Ent.sep enn))) (by (first | exact flat_cells Hp.encI 3 (fun _ => rfl) hgk 0 _ rfl | exact flat_cells Hp.encI 3 (fun _ => rfl) hgk 1 _ rfl | rfl))) ?_)
      first | (refine Hd.yv (y_remN rfl rfl (by omega)) ?_) | (refine Hd.yv (y_remn rfl rfl (by omega) (by omega)) ?_) | (refine Hd.yv (y_rem rfl rfl (by omega)) ?_)
      first | (refine Hd.yv (y_to (v' := .int .u64 now') (y_addn rfl rfl (by simp only [InK]; omega)) (by rw [hnow'])) ?_) | (refine Hd.yv (y_to (v' := .int .u64 now') (y_add rfl rfl) (by rw [hnow'])) ?_)
      refine Hd.yv (y_assign rfl) ?_
      refine Hd.nil ?_
      refine Hd.slots [(0, _), (3, _), (4, _), (5, _), (6, _), (7, _)] ⟨rfl, rfl, rfl, rfl, rfl, rfl, trivial⟩ ?_
      refine Hd.toK hK14 ?_
      refine Hd.seq (fun K15 hK15 => ?_)
      refine Hd.region ?_
      first | (refine Hd.yv (y_field' (q := 0) (ft := 3) Try.underlying63 rfl sz3 rfl rfl) ?_) | (refine Hd.yv (y_fieldR (q := 0) (ft := 3) Try.underlying63 rfl sz3 rfl rfl) ?_)
      first | (refine Hd.yv (y_load1 ag3 rfl (Rd.pt1 pkk (by (first | exact flat_cells Hp.encI 3 (fun _ => rfl) hgk 0 _ rfl | exact flat_cells Hp.encI 3 (fun _ => rfl) hgk 1 _ rfl | rfl)))) ?_) | (refine Hd.yv (y_load1 ag3 rfl (Rd.seg1 pkk (by (first | exact flat_cells Hp.encI 3 (fun _ => rfl) hgk 0 _ rfl | exact flat_cells Hp.encI 3 (fun _ => rfl) hgk 1 _ rfl | rfl)))) ?_) | (refine Hd.yv (y_loadR1 ag3 rfl (by (first | exact RdS.own pkk | exact RdS.mono hR (Ent.sep enn))) (by (first | exact flat_cells Hp.encI 3 (fun _ => rfl) hgk 0 _ rfl | exact flat_cells Hp.encI 3 (fun _ => rfl) hgk 1 _ rfl | rfl))) ?_)
      refine Hd.nil ?_
      refine Hd.slots [(0, _), (3, _), (4, _), (5, _), (6, _), (7, _), (41, _)] ⟨rfl, rfl, rfl, rfl, rfl, rfl, rfl, trivial⟩ ?_
      refine Hd.toK hK15 ?_
      refine Hd.block ?_
      refine Hd.seq (fun K16 hK16 => ?_)
      refine Hd.region ?_
      first | (refine Hd.yv (y_eqlT rfl rfl) ?_) | (refine Hd.yv (y_eql rfl rfl) ?_)
      refine Hd.yv (y_assign rfl) ?_
      refine Hd.nil ?_
      refine Hd.slots [(0, _), (3, _), (4, _), (5, _), (6, _), (7, _), (41, _), (42, _)] ⟨rfl, rfl, rfl, rfl, rfl, rfl, rfl, rfl, trivial⟩ ?_
      refine Hd.toK hK16 ?_
      refine Hd.cond rfl (fun hc2 => ?_) (fun hc2 => ?_)
      ·
        try simp only [decide_eq_true_eq, decide_eq_false_iff_not, Bool.and_eq_true, Bool.or_eq_true, Bool.and_eq_false_iff, Bool.or_eq_false_iff, Bool.not_eq_true', Bool.not_eq_false', Bool.not_eq_true, Bool.not_eq_false, Int.not_lt, Int.not_le, Decidable.not_not, ne_eq] at hc2
        refine Hd.region ?_
        refine Hd.yv (y_move rfl) ?_
        first | (refine Hd.yv (y_field' (q := 1) (ft := 3) Try.underlying63 rfl sz3 rfl rfl) ?_) | (refine Hd.yv (y_fieldR (q := 1) (ft := 3) Try.underlying63 rfl sz3 rfl rfl) ?_)
        first | (refine Hd.yv (y_load1 ag3 rfl (Rd.pt1 pkk (by (first | exact flat_cells Hp.encI 3 (fun _ => rfl) hgk 0 _ rfl | exact flat_cells Hp.encI 3 (fun _ => rfl) hgk 1 _ rfl | rfl)))) ?_) | (refine Hd.yv (y_load1 ag3 rfl (Rd.seg1 pkk (by (first | exact flat_cells Hp.encI 3 (fun _ => rfl) hgk 0 _ rfl | exact flat_cells Hp.encI 3 (fun _ => rfl) hgk 1 _ rfl | rfl)))) ?_) | (refine Hd.yv (y_loadR1 ag3 rfl (by (first | exact RdS.own pkk | exact RdS.mono hR (Ent.sep enn))) (by (first | exact flat_cells Hp.encI 3 (fun _ => rfl) hgk 0 _ rfl | exact flat_cells Hp.encI 3 (fun _ => rfl) hgk 1 _ rfl | rfl))) ?_)
        refine Hd.yv (y_move rfl) ?_
        first | (refine Hd.yv (y_field' (q := 3) (ft := 29) Try.underlying63 rfl sz29 rfl rfl) ?_) | (refine Hd.yv (y_fieldR (q := 3) (ft := 29) Try.underlying63 rfl sz29 rfl rfl) ?_)
        first | (refine Hd.yv (y_load1 ag29 rfl (Rd.pt1 pkk (by (first | exact flat_cells Hp.encI 3 (fun _ => rfl) hgk 0 _ rfl | exact flat_cells Hp.encI 3 (fun _ => rfl) hgk 1 _ rfl | rfl)))) ?_) | (refine Hd.yv (y_load1 ag29 rfl (Rd.seg1 pkk (by (first | exact flat_cells Hp.encI 3 (fun _ => rfl) hgk 0 _ rfl | exact flat_cells Hp.encI 3 (fun _ => rfl) hgk 1 _ rfl | rfl)))) ?_) | (refine Hd.yv (y_loadR1 ag29 rfl (by (first | exact RdS.own pkk | exact RdS.mono hR (Ent.sep enn))) (by (first | exact flat_cells Hp.encI 3 (fun _ => rfl) hgk 0 _ rfl | exact flat_cells Hp.encI 3 (fun _ => rfl) hgk 1 _ rfl | rfl))) ?_)
        refine Hd.callE rfl fk39 (add_ct _ o qs s nx (by omega) (by omega) x.id now' x.af hn' hok.2) (Ent.sep enn) ?_
        intro _
        refine Hd.nil ?_
        refine Hd.slots [(0, _), (3, _), (4, _), (5, _), (6, _)] ⟨rfl, rfl, rfl, rfl, rfl, trivial⟩ ?_
        refine Hd.inB ?_
        refine Hd.inB ?_
        refine Hd.toK hK12 ?_
        refine Hd.region ?_
        refine Hd.yv (y_move rfl) ?_
        first | (refine Hd.yv (y_addn rfl rfl (by simp only [InK]; omega)) ?_) | (refine Hd.yv (y_add rfl rfl) ?_)
        refine Hd.yv (y_assign rfl) ?_
        refine Hd.nil ?_
        refine Hd.slots [(0, _), (3, _), (4, _), (5, _), (6, _)] ⟨rfl, rfl, rfl, rfl, rfl, trivial⟩ ?_
        clear hK1 hK2 hK3 hK4 hK6 hK7 hK8 hK9 hK10 hK11 hK12 hK13 hK14 hK15 hK16
        refine Hd.thenN ?_
        exact Hd.again (i + 1, addQ qs x.id now' x.af nx, addS s x.id now' x.af nx, addN x.id nx, now') (by first | omega | (simp only; omega) | (simp; omega)) (by repeat (first | exact trivial | refine ⟨rfl, ?_⟩)) (Ent.sep (.pure ⟨hi, by have := addS_len s x.id now' x.af nx; show (addS s x.id now' x.af nx).length ≤ i + 1; omega, by have := addN_le x.id nx; show addN x.id nx ≤ ((i + 1 : Nat) : Int); omega, hn'.1, hn2⟩ enn))
      ·
        try simp only [decide_eq_true_eq, decide_eq_false_iff_not, Bool.and_eq_true, Bool.or_eq_true, Bool.and_eq_false_iff, Bool.or_eq_false_iff, Bool.not_eq_true', Bool.not_eq_false', Bool.not_eq_true, Bool.not_eq_false, Int.not_lt, Int.not_le, Decidable.not_not, ne_eq] at hc2
        refine Hd.seq (fun K17 hK17 => ?_)
        refine Hd.region ?_
        first | (refine Hd.yv (y_eqlT rfl rfl) ?_) | (refine Hd.yv (y_eql rfl rfl) ?_)
        refine Hd.yv (y_assign rfl) ?_
        refine Hd.nil ?_
        refine Hd.slots [(0, _), (3, _), (4, _), (5, _), (6, _), (7, _), (41, _), (51, _)] ⟨rfl, rfl, rfl, rfl, rfl, rfl, rfl, rfl, trivial⟩ ?_
        refine Hd.toK hK17 ?_
        refine Hd.cond rfl (fun hc3 => ?_) (fun hc3 => ?_)
        ·
          try simp only [decide_eq_true_eq, decide_eq_false_iff_not, Bool.and_eq_true, Bool.or_eq_true, Bool.and_eq_false_iff, Bool.or_eq_false_iff, Bool.not_eq_true', Bool.not_eq_false', Bool.not_eq_true, Bool.not_eq_false, Int.not_lt, Int.not_le, Decidable.not_not, ne_eq] at hc3
          refine Hd.region ?_
          refine Hd.yv (y_move rfl) ?_
          first | (refine Hd.yv (y_field' (q := 1) (ft := 3) Try.underlying63 rfl sz3 rfl rfl) ?_) | (refine Hd.yv (y_fieldR (q := 1) (ft := 3) Try.underlying63 rfl sz3 rfl rfl) ?_)
          first | (refine Hd.yv (y_load1 ag3 rfl (Rd.pt1 pkk (by (first | exact flat_cells Hp.encI 3 (fun _ => rfl) hgk 0 _ rfl | exact flat_cells Hp.encI 3 (fun _ => rfl) hgk 1 _ rfl | rfl)))) ?_) | (refine Hd.yv (y_load1 ag3 rfl (Rd.seg1 pkk (by (first | exact flat_cells Hp.encI 3 (fun _ => rfl) hgk 0 _ rfl | exact flat_cells Hp.encI 3 (fun _ => rfl) hgk 1 _ rfl | rfl)))) ?_) | (refine Hd.yv (y_loadR1 ag3 rfl (by (first | exact RdS.own pkk | exact RdS.mono hR (Ent.sep enn))) (by (first | exact flat_cells Hp.encI 3 (fun _ => rfl) hgk 0 _ rfl | exact flat_cells Hp.encI 3 (fun _ => rfl) hgk 1 _ rfl | rfl))) ?_)
          refine Hd.callE rfl fk40 (cut_ct _ o qs s nx (by omega) x.id) (Ent.sep enn) ?_
          intro _
          refine Hd.nil ?_
          refine Hd.slots [(0, _), (3, _), (4, _), (5, _), (6, _)] ⟨rfl, rfl, rfl, rfl, rfl, trivial⟩ ?_
          refine Hd.inB ?_
          refine Hd.inB ?_
          refine Hd.toK hK12 ?_
          refine Hd.region ?_
          refine Hd.yv (y_move rfl) ?_
          first | (refine Hd.yv (y_addn rfl rfl (by simp only [InK]; omega)) ?_) | (refine Hd.yv (y_add rfl rfl) ?_)
          refine Hd.yv (y_assign rfl) ?_
          refine Hd.nil ?_
          refine Hd.slots [(0, _), (3, _), (4, _), (5, _), (6, _)] ⟨rfl, rfl, rfl, rfl, rfl, trivial⟩ ?_
          clear hK1 hK2 hK3 hK4 hK6 hK7 hK8 hK9 hK10 hK11 hK12 hK13 hK14 hK15 hK16 hK17
          refine Hd.thenN ?_
          exact Hd.again (i + 1, cutQ x.id qs, remI x.id s, nx, now') (by first | omega | (simp only; omega) | (simp; omega)) (by repeat (first | exact trivial | refine ⟨rfl, ?_⟩)) (Ent.sep (.pure ⟨hi, by have := remI_len s x.id; show (remI x.id s).length ≤ i + 1; omega, by show nx ≤ ((i + 1 : Nat) : Int); omega, hn'.1, hn2⟩ enn))
        ·
          try simp only [decide_eq_true_eq, decide_eq_false_iff_not, Bool.and_eq_true, Bool.or_eq_true, Bool.and_eq_false_iff, Bool.or_eq_false_iff, Bool.not_eq_true', Bool.not_eq_false', Bool.not_eq_true, Bool.not_eq_false, Int.not_lt, Int.not_le, Decidable.not_not, ne_eq] at hc3
          refine Hd.seq (fun K18 hK18 => ?_)
          refine Hd.region ?_
          first | (refine Hd.yv (y_eqlT rfl rfl) ?_) | (refine Hd.yv (y_eql rfl rfl) ?_)
          refine Hd.yv (y_assign rfl) ?_
          refine Hd.nil ?_
          refine Hd.slots [(0, _), (3, _), (4, _), (5, _), (6, _), (7, _), (41, _), (57, _)] ⟨rfl, rfl, rfl, rfl, rfl, rfl, rfl, rfl, trivial⟩ ?_
          refine Hd.toK hK18 ?_
          refine Hd.cond rfl (fun hc4 => ?_) (fun hc4 => ?_)
          ·
            try simp only [decide_eq_true_eq, decide_eq_false_iff_not, Bool.and_eq_true, Bool.or_eq_true, Bool.and_eq_false_iff, Bool.or_eq_false_iff, Bool.not_eq_true', Bool.not_eq_false', Bool.not_eq_true, Bool.not_eq_false, Int.not_lt, Int.not_le, Decidable.not_not, ne_eq] at hc4
            refine Hd.region ?_
            refine Hd.yv (y_move rfl) ?_
            first | (refine Hd.yv (y_field' (q := 3) (ft := 29) Try.underlying63 rfl sz29 rfl rfl) ?_) | (refine Hd.yv (y_fieldR (q := 3) (ft := 29) Try.underlying63 rfl sz29 rfl rfl) ?_)
            first | (refine Hd.yv (y_load1 ag29 rfl (Rd.pt1 pkk (by (first | exact flat_cells Hp.encI 3 (fun _ => rfl) hgk 0 _ rfl | exact flat_cells Hp.encI 3 (fun _ => rfl) hgk 1 _ rfl | rfl)))) ?_) | (refine Hd.yv (y_load1 ag29 rfl (Rd.seg1 pkk (by (first | exact flat_cells Hp.encI 3 (fun _ => rfl) hgk 0 _ rfl | exact flat_cells Hp.encI 3 (fun _ => rfl) hgk 1 _ rfl | rfl)))) ?_) | (refine Hd.yv (y_loadR1 ag29 rfl (by (first | exact RdS.own pkk | exact RdS.mono hR (Ent.sep enn))) (by (first | exact flat_cells Hp.encI 3 (fun _ => rfl) hgk 0 _ rfl | exact flat_cells Hp.encI 3 (fun _ => rfl) hgk 1 _ rfl | rfl))) ?_)
            refine Hd.callE rfl fk38 (common_ct _ o qs s nx x.af) (Ent.sep enn) ?_
            intro _
            refine Hd.nil ?_
            refine Hd.slots [(0, _), (3, _), (4, _), (5, _), (6, _)] ⟨rfl, rfl, rfl, rfl, rfl, trivial⟩ ?_
            refine Hd.inB ?_
            refine Hd.inB ?_
            refine Hd.toK hK12 ?_
            refine Hd.region ?_
            refine Hd.yv (y_move rfl) ?_
            first | (refine Hd.yv (y_addn rfl rfl (by simp only [InK]; omega)) ?_) | (refine Hd.yv (y_add rfl rfl) ?_)
            refine Hd.yv (y_assign rfl) ?_
            refine Hd.nil ?_
            refine Hd.slots [(0, _), (3, _), (4, _), (5, _), (6, _)] ⟨rfl, rfl, rfl, rfl, rfl, trivial⟩ ?_
            clear hK1 hK2 hK3 hK4 hK6 hK7 hK8 hK9 hK10 hK11 hK12 hK13 hK14 hK15 hK16 hK17 hK18
            refine Hd.thenN ?_
            exact Hd.again (i + 1, mkS qs x.af, s, nx, now') (by first | omega | (simp only; omega) | (simp; omega)) (by repeat (first | exact trivial | refine ⟨rfl, ?_⟩)) (Ent.sep (.pure ⟨hi, by show s.length ≤ i + 1; omega, by show nx ≤ ((i + 1 : Nat) : Int); omega, hn'.1, hn2⟩ enn))
          ·
            try simp only [decide_eq_true_eq, decide_eq_false_iff_not, Bool.and_eq_true, Bool.or_eq_true, Bool.and_eq_false_iff, Bool.or_eq_false_iff, Bool.not_eq_true', Bool.not_eq_false', Bool.not_eq_true, Bool.not_eq_false, Int.not_lt, Int.not_le, Decidable.not_not, ne_eq] at hc4
            refine Hd.seq (fun K19 hK19 => ?_)
            refine Hd.region ?_
            first | (refine Hd.yv (y_eqlT rfl rfl) ?_) | (refine Hd.yv (y_eql rfl rfl) ?_)
            refine Hd.yv (y_assign rfl) ?_
            refine Hd.nil ?_
            refine Hd.slots [(0, _), (3, _), (4, _), (5, _), (6, _), (63, _)] ⟨rfl, rfl, rfl, rfl, rfl, rfl, trivial⟩ ?_
            refine Hd.toK hK19 ?_
            refine Hd.cond rfl (fun hc5 => ?_) (fun hc5 => ?_)
            ·
              try simp only [decide_eq_true_eq, decide_eq_false_iff_not, Bool.and_eq_true, Bool.or_eq_true, Bool.and_eq_false_iff, Bool.or_eq_false_iff, Bool.not_eq_true', Bool.not_eq_false', Bool.not_eq_true, Bool.not_eq_false, Int.not_lt, Int.not_le, Decidable.not_not, ne_eq] at hc5
              refine Hd.seq (fun K20 hK20 => ?_)
              refine Hd.region ?_
              refine Hd.yv (y_move rfl) ?_
              refine Hd.callE rfl fk45 (clen_ct _ o qs s nx) (Ent.sep enn) ?_
              intro _
              refine Hd.yv (y_assign rfl) ?_
              refine Hd.nil ?_
              refine Hd.slots [(0, _), (3, _), (4, _), (5, _), (6, _), (8, _)] ⟨rfl, rfl, rfl, rfl, rfl, rfl, trivial⟩ ?_
              refine Hd.toK hK20 ?_
              refine Hd.seq (fun K21 hK21 => ?_)
              refine Hd.coF (o := o) pkk (fun hcf => ?_)
              have hF := hcf.hF
              have hdl := dueI_len s now'
              refine Hd.region ?_
              refine Hd.yv (y_move rfl) ?_
              refine Hd.yv (y_move rfl) ?_
              refine Hd.callE rfl fk41 (cdue_ct _ o qs s nx (by omega) now') (Ent.sep enn) ?_
              rintro ⟨a9, c9⟩
              dsimp only
              refine Hd.yv (y_assign rfl) ?_
              refine Hd.nil ?_
              refine Hd.slots [(0, _), (3, _), (4, _), (5, _), (6, _), (8, _), (9, _)] ⟨rfl, rfl, rfl, rfl, rfl, rfl, rfl, trivial⟩ ?_
              refine Hd.toK hK21 ?_
              refine Hd.seq (fun K22 hK22 => ?_)
              refine Hd.seq (fun K23 hK23 => ?_)
              refine Hd.region ?_
              refine Hd.yv (y_assign rfl) ?_
              refine Hd.nil ?_
              refine Hd.slots [(0, _), (3, _), (4, _), (5, _), (6, _), (8, _), (9, _), (10, _)] ⟨rfl, rfl, rfl, rfl, rfl, rfl, rfl, rfl, trivial⟩ ?_
              refine Hd.toK hK23 ?_
              refine Hd.block ?_
              refine Hd.loopK (ι := Nat) [(0, _), (3, _), (4, _), (5, _), (6, _), (8, _), (9, _)] (fun k => [(10, .int .i64 (k : Int))]) (fun k => pu (k ≤ (dueI now' s).length) :: OwI a9 (dueI now' s).length c9 (dueI now' s) :: CoA o (cutAll (dueI now' s) qs) (restI now' s) nx :: L) (fun k => (dueI now' s).length - k) 0 (by repeat (first | exact trivial | refine ⟨rfl, ?_⟩)) (by repeat (first | exact trivial | refine ⟨rfl, ?_⟩)) (Ent.sep (.pure (by first | omega | (simp; done) | (simp; omega) | exact ⟨by simp, by simp⟩) enn)) ?_
              intro k
              try dsimp only
              refine Hd.pure (fun hp1 => ?_)
              try dsimp only at hp1
              refine Hd.seq (fun K24 hK24 => ?_)
              refine Hd.seq (fun K25 hK25 => ?_)
              refine Hd.region ?_
              refine Hd.yv (y_move rfl) ?_
              refine Hd.yv (y_move rfl) ?_
              refine Hd.yv (y_len Try.underlying22 rfl) ?_
              refine Hd.yv (y_lss rfl rfl) ?_
              refine Hd.nil ?_
              refine Hd.slots [(0, _), (3, _), (4, _), (5, _), (6, _), (8, _), (9, _), (10, _), (73, _)] ⟨rfl, rfl, rfl, rfl, rfl, rfl, rfl, rfl, rfl, trivial⟩ ?_
              refine Hd.toK hK25 ?_
              refine Hd.cond rfl (fun hc6 => ?_) (fun hc6 => ?_)
              ·
                try simp only [decide_eq_true_eq, decide_eq_false_iff_not, Bool.and_eq_true, Bool.or_eq_true, Bool.and_eq_false_iff, Bool.or_eq_false_iff, Bool.not_eq_true', Bool.not_eq_false', Bool.not_eq_true, Bool.not_eq_false, Int.not_lt, Int.not_le, Decidable.not_not, ne_eq] at hc6
                have hk : k < (dueI now' s).length := by omega
                have hgk : (dueI now' s)[k]? = some (g (dueI now' s) k) := g_at hk
                have hgm := g_mem hk
                have hle := dueI_le hgm
                have hgo := due_gone hF hgm
                refine Hd.skip ?_
                refine Hd.toK hK24 ?_
                refine Hd.seq (fun K26 hK26 => ?_)
                refine Hd.block ?_
                refine Hd.seq (fun K27 hK27 => ?_)
                refine Hd.region ?_
                refine Hd.yv (y_move rfl) ?_
                refine Hd.yv (y_move rfl) ?_
                refine Hd.yv (y_move rfl) ?_
                first | (refine Hd.yv (y_idxS Try.underlying22 sz31 rfl rfl (by first | omega | decide)) ?_) | (refine Hd.yv (y_idxR Try.underlying22 sz31 rfl rfl (by first | omega | decide) (by (first | exact RdS.own pkk | exact RdS.mono hR (Ent.sep enn)))) ?_)
                first | (refine Hd.yv (y_field' (q := 0) (ft := 3) Try.underlying31 rfl sz3 rfl rfl) ?_) | (refine Hd.yv (y_fieldR (q := 0) (ft := 3) Try.underlying31 rfl sz3 rfl rfl) ?_)
                first | (refine Hd.yv (y_load1 ag3 rfl (Rd.pt1 pkk (by (first | exact flat_cells Hp.encI 3 (fun _ => rfl) hgk 0 _ rfl | exact flat_cells Hp.encI 3 (fun _ => rfl) hgk 1 _ rfl | rfl)))) ?_) | (refine Hd.yv (y_load1 ag3 rfl (Rd.seg1 pkk (by (first | exact flat_cells Hp.encI 3 (fun _ => rfl) hgk 0 _ rfl | exact flat_cells Hp.encI 3 (fun _ => rfl) hgk 1 _ rfl | rfl)))) ?_) | (refine Hd.yv (y_loadR1 ag3 rfl (by (first | exact RdS.own pkk | exact RdS.mono hR (Ent.sep enn))) (by (first | exact flat_cells Hp.encI 3 (fun _ => rfl) hgk 0 _ rfl | exact flat_cells Hp.encI 3 (fun _ => rfl) hgk 1 _ rfl | rfl))) ?_)
                refine Hd.callE rfl fk52 (cfind_ct _ o (cutAll (dueI now' s) qs) (restI now' s) nx (g (dueI now' s) k).id) (Ent.sep enn) ?_
                intro _
                rw [hgo]
                refine Hd.yv (y_move rfl) ?_
                refine Hd.yv (y_extract rfl rfl) ?_
                refine Hd.yv (y_extract rfl rfl) ?_
                refine Hd.alloc zr31 (fun b11 => ?_)
                refine Hd.storeA (us := Hp.encI z0) sz31 rfl rfl rfl (encI_one _) pkk (by exact rfl) ?_
                refine Hd.yv (y_assign rfl) ?_
                refine Hd.nil ?_
                refine Hd.slots [(0, _), (3, _), (4, _), (5, _), (6, _), (8, _), (9, _), (10, _), (12, _)] ⟨rfl, rfl, rfl, rfl, rfl, rfl, rfl, rfl, rfl, trivial⟩ ?_
                refine Hd.toK hK27 ?_
                refine Hd.seq (fun K28 hK28 => ?_)
                refine Hd.quiet mixed (by kernel_rfl) ?_
                refine Hq.yv (y_move rfl) ?_
                refine Hq.yv (y_move rfl) ?_
                first | (refine Hq.yv (y_idxS Try.underlying22 sz31 rfl rfl (by first | omega | decide)) ?_) | (refine Hq.yv (y_idxR Try.underlying22 sz31 rfl rfl (by first | omega | decide) (by (first | exact RdS.own pkk | exact RdS.mono hR (Ent.sep enn)))) ?_)
                first | (refine Hq.yv (y_field' (q := 1) (ft := 29) Try.underlying31 rfl sz29 rfl rfl) ?_) | (refine Hq.yv (y_fieldR (q := 1) (ft := 29) Try.underlying31 rfl sz29 rfl rfl) ?_)
                refine Hq.yv (y_loadR1 ag29 rfl (RdS.own (ad := a9) (us := (dueI now' s).flatMap Hp.encI) pkk) (flat_cells Hp.encI 3 (fun _ => rfl) hgk 1 _ rfl)) ?_
                refine Hq.yv (y_move rfl) ?_
                refine Hq.yv (y_to (y_gtr rfl rfl) (congrArg Value.bool (decide_eq_false ((by omega))))) ?_
                refine Hq.yv (y_move rfl) ?_
                refine Hq.yg rfl rfl (y_move rfl) ?_
                first | (refine Hq.yv (y_pickT rfl rfl) ?_) | (refine Hq.yv (y_pickF rfl rfl) ?_) | (refine Hq.yv (y_pickb rfl rfl rfl) ?_) | (refine Hq.yv (y_pick rfl rfl rfl) ?_)
                refine Hq.yv (y_move rfl) ?_
                refine Hq.yg rfl rfl (y_move rfl) ?_
                refine Hq.yg rfl rfl (y_gtr rfl rfl) ?_
                refine Hq.yg rfl rfl (y_move rfl) ?_
                refine Hq.part (gd := 99) rfl (fun hg25_99 => ?_) (fun hg25_99 => ?_)
                ·
                  try simp only [decide_eq_true_eq, decide_eq_false_iff_not, Bool.and_eq_true, Bool.or_eq_true, Bool.and_eq_false_iff, Bool.or_eq_false_iff, Bool.not_eq_true', Bool.not_eq_false', Bool.not_eq_true, Bool.not_eq_false, Int.not_lt, Int.not_le, Decidable.not_not, ne_eq] at hg25_99
                  have hk0 : 0 < k := by omega
                  have hlt := due_ahead hcf hk0 hk
                  refine Hq.yg rfl rfl (y_move rfl) ?_
                  refine Hq.yg rfl rfl (y_move rfl) ?_
                  first | (refine Hq.yg rfl rfl (y_to (v' := .int .i64 ((k - 1 : Nat) : Int)) (y_subn rfl rfl (by simp only [InK]; omega)) (by (congr 1; omega))) ?_) | (refine Hq.yg rfl rfl (y_to (v' := .int .i64 ((k - 1 : Nat) : Int)) (y_sub rfl rfl) (by (congr 1; omega))) ?_)
                  first | (refine Hq.yg rfl rfl (y_idxS Try.underlying22 sz31 rfl rfl (by first | omega | decide)) ?_) | (refine Hq.yg rfl rfl (y_idxR Try.underlying22 sz31 rfl rfl (by first | omega | decide) (by (first | exact RdS.own pkk | exact RdS.mono hR (Ent.sep enn)))) ?_)
                  refine Hq.yg rfl rfl (y_loadRn (vs := [_, _, _]) ag31 rfl (RdS.own (ad := a9) (us := (dueI now' s).flatMap Hp.encI) pkk) (flat_cells Hp.encI 3 (fun _ => rfl) (g_at (show k - 1 < (dueI now' s).length by omega))) (by exact sz31) (by simp)) ?_
                  refine Hq.yg rfl rfl (y_move rfl) ?_
                  refine Hq.yg rfl rfl (y_move rfl) ?_
                  first | (refine Hq.yg rfl rfl (y_idxS Try.underlying22 sz31 rfl rfl (by first | omega | decide)) ?_) | (refine Hq.yg rfl rfl (y_idxR Try.underlying22 sz31 rfl rfl (by first | omega | decide) (by (first | exact RdS.own pkk | exact RdS.mono hR (Ent.sep enn)))) ?_)
                  refine Hq.yg rfl rfl (y_loadRn (vs := [_, _, _]) ag31 rfl (RdS.own (ad := a9) (us := (dueI now' s).flatMap Hp.encI) pkk) (flat_cells Hp.encI 3 (fun _ => rfl) hgk) (by exact sz31) (by simp)) ?_
                  refine Hq.unguard rfl rfl ?_
                  refine Hq.call rfl fk54 (ahead_ct _ (g (dueI now' s) (k - 1)) (g (dueI now' s) k)) ?_
                  refine Hq.yg rfl rfl (y_to (v' := .bool false) (y_not rfl) (by (simp [hlt]))) ?_
                  first | (refine Hq.yg rfl rfl (y_pickT rfl rfl) ?_) | (refine Hq.yg rfl rfl (y_pickF rfl rfl) ?_) | (refine Hq.yg rfl rfl (y_pickb rfl rfl rfl) ?_) | (refine Hq.yg rfl rfl (y_pick rfl rfl rfl) ?_)
                  first | (refine Hq.yv (y_pickT rfl rfl) ?_) | (refine Hq.yv (y_pickF rfl rfl) ?_) | (refine Hq.yv (y_pickb rfl rfl rfl) ?_) | (refine Hq.yv (y_pick rfl rfl rfl) ?_)
                  refine Hq.nil ?_
                  refine Hd.slots [(0, _), (3, _), (4, _), (5, _), (6, _), (8, _), (9, _), (10, _), (112, _)] ⟨rfl, rfl, rfl, rfl, rfl, rfl, rfl, rfl, rfl, trivial⟩ ?_
                  refine Hd.toK hK28 ?_
                  refine Hd.condF rfl ?_
                  refine Hd.skip ?_
                  refine Hd.inB ?_
                  refine Hd.toK hK26 ?_
                  refine Hd.region ?_
                  refine Hd.yv (y_move rfl) ?_
                  first | (refine Hd.yv (y_addn rfl rfl (by simp only [InK]; omega)) ?_) | (refine Hd.yv (y_add rfl rfl) ?_)
                  refine Hd.yv (y_assign rfl) ?_
                  refine Hd.nil ?_
                  refine Hd.slots [(0, _), (3, _), (4, _), (5, _), (6, _), (8, _), (9, _), (10, _)] ⟨rfl, rfl, rfl, rfl, rfl, rfl, rfl, rfl, trivial⟩ ?_
                  clear hK1 hK2 hK3 hK4 hK6 hK7 hK8 hK9 hK10 hK11 hK12 hK13 hK14 hK15 hK16 hK17 hK18 hK19 hK20 hK21 hK22 hK23 hK24 hK25 hK26 hK27 hK28
                  refine Hd.thenN ?_
                  exact Hd.again (k + 1) (by first | omega | (simp only; omega) | (simp; omega)) (by repeat (first | exact trivial | refine ⟨rfl, ?_⟩)) (Ent.sep (.pure (by first | omega | (simp; done) | (simp; omega) | (dsimp only; omega)) enn))
                ·
                  try simp only [decide_eq_true_eq, decide_eq_false_iff_not, Bool.and_eq_true, Bool.or_eq_true, Bool.and_eq_false_iff, Bool.or_eq_false_iff, Bool.not_eq_true', Bool.not_eq_false', Bool.not_eq_true, Bool.not_eq_false, Int.not_lt, Int.not_le, Decidable.not_not, ne_eq] at hg25_99
                  refine Hq.ng rfl rfl rfl ?_
                  refine Hq.ng rfl rfl rfl ?_
                  refine Hq.ng rfl rfl rfl ?_
                  refine Hq.ng rfl rfl rfl ?_
                  refine Hq.ng rfl rfl rfl ?_
                  refine Hq.ng rfl rfl rfl ?_
                  refine Hq.ng rfl rfl rfl ?_
                  refine Hq.ng rfl rfl rfl ?_
                  refine Hq.ng rfl rfl rfl ?_
                  refine Hq.ng rfl rfl rfl ?_
                  refine Hq.ng rfl rfl rfl ?_
                  first | (refine Hq.yg rfl rfl (y_pickT rfl rfl) ?_) | (refine Hq.yg rfl rfl (y_pickF rfl rfl) ?_) | (refine Hq.yg rfl rfl (y_pickb rfl rfl rfl) ?_) | (refine Hq.yg rfl rfl (y_pick rfl rfl rfl) ?_)
                  first | (refine Hq.yv (y_pickT rfl rfl) ?_) | (refine Hq.yv (y_pickF rfl rfl) ?_) | (refine Hq.yv (y_pickb rfl rfl rfl) ?_) | (refine Hq.yv (y_pick rfl rfl rfl) ?_)
                  refine Hq.nil ?_
                  refine Hd.slots [(0, _), (3, _), (4, _), (5, _), (6, _), (8, _), (9, _), (10, _), (112, _)] ⟨rfl, rfl, rfl, rfl, rfl, rfl, rfl, rfl, rfl, trivial⟩ ?_
                  refine Hd.toK hK28 ?_
                  refine Hd.condF rfl ?_
                  refine Hd.skip ?_
                  refine Hd.inB ?_
                  refine Hd.toK hK26 ?_
                  refine Hd.region ?_
                  refine Hd.yv (y_move rfl) ?_
                  first | (refine Hd.yv (y_addn rfl rfl (by simp only [InK]; omega)) ?_) | (refine Hd.yv (y_add rfl rfl) ?_)
                  refine Hd.yv (y_assign rfl) ?_
                  refine Hd.nil ?_
                  refine Hd.slots [(0, _), (3, _), (4, _), (5, _), (6, _), (8, _), (9, _), (10, _)] ⟨rfl, rfl, rfl, rfl, rfl, rfl, rfl, rfl, trivial⟩ ?_
                  clear hK1 hK2 hK3 hK4 hK6 hK7 hK8 hK9 hK10 hK11 hK12 hK13 hK14 hK15 hK16 hK17 hK18 hK19 hK20 hK21 hK22 hK23 hK24 hK25 hK26 hK27 hK28
                  refine Hd.thenN ?_
                  exact Hd.again (k + 1) (by first | omega | (simp only; omega) | (simp; omega)) (by repeat (first | exact trivial | refine ⟨rfl, ?_⟩)) (Ent.sep (.pure (by first | omega | (simp; done) | (simp; omega) | (dsimp only; omega)) enn))
              ·
                try simp only [decide_eq_true_eq, decide_eq_false_iff_not, Bool.and_eq_true, Bool.or_eq_true, Bool.and_eq_false_iff, Bool.or_eq_false_iff, Bool.not_eq_true', Bool.not_eq_false', Bool.not_eq_true, Bool.not_eq_false, Int.not_lt, Int.not_le, Decidable.not_not, ne_eq] at hc6
                refine Hd.exit ?_
                refine Hd.thenExit ?_
                refine Hd.thenExit ?_
                refine Hd.inBexit ?_
                refine Hd.toK hK22 ?_
                refine Hd.seq (fun K29 hK29 => ?_)
                refine Hd.region ?_
                refine Hd.yv (y_move rfl) ?_
                refine Hd.callE rfl fk43 (ctop_ct _ o (cutAll (dueI now' s) qs) (restI now' s) nx) (Ent.sep enn) ?_
                intro _
                refine Hd.yv (y_move rfl) ?_
                refine Hd.yv (y_extract rfl rfl) ?_
                refine Hd.yv (y_extract rfl rfl) ?_
                refine Hd.alloc zr31 (fun b13 => ?_)
                refine Hd.storeA (us := Hp.encI (topI (restI now' s)).1) sz31 rfl rfl rfl (encI_one _) pkk (by exact rfl) ?_
                refine Hd.yv (y_assign rfl) ?_
                refine Hd.nil ?_
                refine Hd.slots [(0, _), (3, _), (4, _), (5, _), (6, _), (8, _), (9, _), (13, _), (14, _)] ⟨rfl, rfl, rfl, rfl, rfl, rfl, rfl, rfl, rfl, trivial⟩ ?_
                refine Hd.toK hK29 ?_
                refine Hd.seq (fun K30 hK30 => ?_)
                refine Hd.region ?_
                refine Hd.yv (y_move rfl) ?_
                refine Hd.yv (y_move rfl) ?_
                apply Hd.andg 5 119 124 [(0, _), (3, _), (4, _), (5, _), (6, _), (8, _), (9, _)] rfl ⟨rfl, rfl, rfl, rfl, rfl, rfl, rfl, trivial⟩
                · intro hg28_119
                  try simp only [decide_eq_true_eq, decide_eq_false_iff_not, Bool.and_eq_true, Bool.or_eq_true, Bool.and_eq_false_iff, Bool.or_eq_false_iff, Bool.not_eq_true', Bool.not_eq_false', Bool.not_eq_true, Bool.not_eq_false, Int.not_lt, Int.not_le, Decidable.not_not, ne_eq] at hg28_119
                  simp only [List.take]
                  first | (refine Hd.yg rfl rfl (y_field' (q := 1) (ft := 29) Try.underlying31 rfl sz29 rfl rfl) ?_) | (refine Hd.yg rfl rfl (y_fieldR (q := 1) (ft := 29) Try.underlying31 rfl sz29 rfl rfl) ?_)
                  first | (refine Hd.yg rfl rfl (y_load1 ag29 rfl (Rd.pt1 pkk (by (first | exact flat_cells Hp.encI 3 (fun _ => rfl) hgk 0 _ rfl | exact flat_cells Hp.encI 3 (fun _ => rfl) hgk 1 _ rfl | rfl)))) ?_) | (refine Hd.yg rfl rfl (y_load1 ag29 rfl (Rd.seg1 pkk (by (first | exact flat_cells Hp.encI 3 (fun _ => rfl) hgk 0 _ rfl | exact flat_cells Hp.encI 3 (fun _ => rfl) hgk 1 _ rfl | rfl)))) ?_) | (refine Hd.yg rfl rfl (y_loadR1 ag29 rfl (by (first | exact RdS.own pkk | exact RdS.mono hR (Ent.sep enn))) (by (first | exact flat_cells Hp.encI 3 (fun _ => rfl) hgk 0 _ rfl | exact flat_cells Hp.encI 3 (fun _ => rfl) hgk 1 _ rfl | rfl))) ?_)
                  refine Hd.yg rfl rfl (y_move rfl) ?_
                  refine Hd.yg rfl rfl (y_leq rfl rfl) ?_
                  first | (refine Hd.yv (y_pickT rfl rfl) ?_) | (refine Hd.yv (y_pickF rfl rfl) ?_) | (refine Hd.yv (y_pickb rfl rfl rfl) ?_) | (refine Hd.yv (y_pick rfl rfl rfl) ?_)
                  refine Hd.nil ?_
                  exact Hd.mend (by repeat (first | exact trivial | refine ⟨rfl, ?_⟩)) (Ent.sep enn)
                · intro hg28_119
                  try simp only [decide_eq_true_eq, decide_eq_false_iff_not, Bool.and_eq_true, Bool.or_eq_true, Bool.and_eq_false_iff, Bool.or_eq_false_iff, Bool.not_eq_true', Bool.not_eq_false', Bool.not_eq_true, Bool.not_eq_false, Int.not_lt, Int.not_le, Decidable.not_not, ne_eq] at hg28_119
                  simp only [List.take]
                  refine Hd.ng rfl rfl rfl ?_
                  refine Hd.ng rfl rfl rfl ?_
                  refine Hd.ng rfl rfl rfl ?_
                  refine Hd.ng rfl rfl rfl ?_
                  first | (refine Hd.yv (y_pickT rfl rfl) ?_) | (refine Hd.yv (y_pickF rfl rfl) ?_) | (refine Hd.yv (y_pickb rfl rfl rfl) ?_) | (refine Hd.yv (y_pick rfl rfl rfl) ?_)
                  refine Hd.nil ?_
                  exact Hd.mend (by repeat (first | exact trivial | refine ⟨rfl, ?_⟩)) (Ent.sep enn)
                simp only [List.drop]
                refine Hd.yv (y_to (v' := .bool false) (y_move rfl) (by exact congrArg Value.bool (restI_top now' s))) ?_
                refine Hd.yg rfl rfl (y_move rfl) ?_
                refine Hd.unguard rfl rfl ?_
                refine Hd.callE rfl fk45 (clen_ct _ o (cutAll (dueI now' s) qs) (restI now' s) nx) (Ent.sep enn) ?_
                intro _
                refine Hd.yg rfl rfl (y_move rfl) ?_
                refine Hd.yg rfl rfl (y_move rfl) ?_
                refine Hd.yg rfl rfl (y_len Try.underlying22 rfl) ?_
                first | (refine Hd.yg rfl rfl (y_subn rfl rfl (by simp only [InK]; omega)) ?_) | (refine Hd.yg rfl rfl (y_sub rfl rfl) ?_)
                refine Hd.yg rfl rfl (y_to (y_neq rfl rfl) (congrArg Value.bool (decide_eq_false ((fun h => h (by omega)))))) ?_
                first | (refine Hd.yv (y_pickT rfl rfl) ?_) | (refine Hd.yv (y_pickF rfl rfl) ?_) | (refine Hd.yv (y_pickb rfl rfl rfl) ?_) | (refine Hd.yv (y_pick rfl rfl rfl) ?_)
                refine Hd.nil ?_
                refine Hd.slots [(0, _), (3, _), (4, _), (5, _), (6, _), (133, _)] ⟨rfl, rfl, rfl, rfl, rfl, rfl, trivial⟩ ?_
                refine Hd.toK hK30 ?_
                refine Hd.condF rfl ?_
                refine Hd.skip ?_
                refine Hd.inB ?_
                refine Hd.inB ?_
                refine Hd.toK hK12 ?_
                refine Hd.region ?_
                refine Hd.yv (y_move rfl) ?_
                first | (refine Hd.yv (y_addn rfl rfl (by simp only [InK]; omega)) ?_) | (refine Hd.yv (y_add rfl rfl) ?_)
                refine Hd.yv (y_assign rfl) ?_
                refine Hd.nil ?_
                refine Hd.slots [(0, _), (3, _), (4, _), (5, _), (6, _)] ⟨rfl, rfl, rfl, rfl, rfl, trivial⟩ ?_
                clear hK1 hK2 hK3 hK4 hK6 hK7 hK8 hK9 hK10 hK11 hK12 hK13 hK14 hK15 hK16 hK17 hK18 hK19 hK20 hK21 hK22 hK23 hK24 hK25 hK29 hK30
                refine Hd.thenN ?_
                exact Hd.again (i + 1, cutAll (dueI now' s) qs, restI now' s, nx, now') (by first | omega | (simp only; omega) | (simp; omega)) (by repeat (first | exact trivial | refine ⟨rfl, ?_⟩)) (Ent.sep (.pure ⟨hi, by show (restI now' s).length ≤ i + 1; omega, by show nx ≤ ((i + 1 : Nat) : Int); omega, hn'.1, hn2⟩ enn))
            ·
              try simp only [decide_eq_true_eq, decide_eq_false_iff_not, Bool.and_eq_true, Bool.or_eq_true, Bool.and_eq_false_iff, Bool.or_eq_false_iff, Bool.not_eq_true', Bool.not_eq_false', Bool.not_eq_true, Bool.not_eq_false, Int.not_lt, Int.not_le, Decidable.not_not, ne_eq] at hc5
              refine Hd.skip ?_
              refine Hd.inB ?_
              refine Hd.inB ?_
              refine Hd.toK hK12 ?_
              refine Hd.region ?_
              refine Hd.yv (y_move rfl) ?_
              first | (refine Hd.yv (y_addn rfl rfl (by simp only [InK]; omega)) ?_) | (refine Hd.yv (y_add rfl rfl) ?_)
              refine Hd.yv (y_assign rfl) ?_
              refine Hd.nil ?_
              refine Hd.slots [(0, _), (3, _), (4, _), (5, _), (6, _)] ⟨rfl, rfl, rfl, rfl, rfl, trivial⟩ ?_
              clear hK1 hK2 hK3 hK4 hK6 hK7 hK8 hK9 hK10 hK11 hK12 hK13 hK14 hK15 hK16 hK17 hK18 hK19
              refine Hd.thenN ?_
              exact Hd.again (i + 1, qs, s, nx, now') (by first | omega | (simp only; omega) | (simp; omega)) (by repeat (first | exact trivial | refine ⟨rfl, ?_⟩)) (Ent.sep (.pure ⟨hi, by show s.length ≤ i + 1; omega, by show nx ≤ ((i + 1 : Nat) : Int); omega, hn'.1, hn2⟩ enn))
    ·
      try simp only [decide_eq_true_eq, decide_eq_false_iff_not, Bool.and_eq_true, Bool.or_eq_true, Bool.and_eq_false_iff, Bool.or_eq_false_iff, Bool.not_eq_true', Bool.not_eq_false', Bool.not_eq_true, Bool.not_eq_false, Int.not_lt, Int.not_le, Decidable.not_not, ne_eq] at hc1
      refine Hd.exit ?_
      refine Hd.thenExit ?_
      refine Hd.thenExit ?_
      refine Hd.inBexit ?_
      refine Hd.toK hK8 ?_
      refine Hd.seq (fun K31 hK31 => ?_)
      refine Hd.region ?_
      refine Hd.yv (y_move rfl) ?_
      refine Hd.yv (y_assign rfl) ?_
      refine Hd.nil ?_
      refine Hd.slots [(2, _)] ⟨rfl, trivial⟩ ?_
      refine Hd.toK hK31 ?_
      refine Hd.ret ?_
      clear hK1 hK2 hK3 hK4 hK6 hK7 hK8 hK9 hK10 hK11 hK31
      exact Hd.ret1 rfl () (by first | rfl | (simp only [*]; done) | (simp [*]; done)) (Ent.sep enn)
end Cm
end Go.Proofs.Ytcnegelaenkgpaa
