/-
  The law CommonPlays answers true.
-/
import Derived.Test.YtcnegelaenkgpaaCo21
namespace Go.Proofs.Ytcnegelaenkgpaa
set_option linter.unusedSimpArgs false
set_option linter.unusedVariables false
set_option linter.unnecessarySimpa false
open Go.RX Fx Hp
namespace Cm
set_option maxRecDepth 8000
theorem CoF.cut' {qs : List Q} {s : List It} {nx : Int} (h : CoF qs s nx) (id : Int) : CoF (cutQ id qs) (remI id s) nx := by
  obtain ⟨hs, f, hok⟩ := h
  by_cases hf : (f id).isSome = true
  · obtain ⟨j, q, x, hj, _, _, hfj, _⟩ := hok.inq hf
    rw [hok.cut_at hj hfj]
    exact ⟨_, _, hok.cutA hj hfj⟩
  · have hn : f id = none := by cases hh : f id with | none => rfl | some v => rw [hh] at hf; exact absurd rfl hf
    rw [hok.cut_no hn]
    by_cases hid : 0 ≤ id
    · exact ⟨_, _, hok.cutB hid hn⟩
    · rw [remI_no fun x hx e => by have := hok.nn x hx; omega]; exact ⟨hs, f, hok⟩
theorem CoF.ql {qs : List Q} {s : List It} {nx : Int} (h : CoF qs s nx) : qs.length ≤ 32 := by obtain ⟨_, _, h⟩ := h; exact h.ql
theorem find_step {s : List It} (hF : HpF s) {k : Nat} (h : k < s.length) (id : Int) : findI id (s.take (k + 1)) = if (g s k).id = id then some (g s k) else findI id (s.take k) := by
  rw [List.take_add_one, g_at h, Option.toList_some]
  unfold findI
  rw [List.find?_append]
  by_cases e : (g s k).id = id
  · rw [if_pos e]
    have hn : (s.take k).find? (fun x => x.id == id) = none := by
      rw [List.find?_eq_none]
      intro y hy e2
      have h1 : s = s.take k ++ g s k :: s.drop (k + 1) := by rw [← drop_at h, List.take_append_drop]
      have hnd := hF.nd
      rw [h1, List.map_append, List.map_cons, List.nodup_append] at hnd
      exact hnd.2.2 y.id (List.mem_map.2 ⟨y, hy, rfl⟩) (g s k).id List.mem_cons_self (by rw [e]; simpa using e2)
    rw [hn]; simp [e]
  · rw [if_neg e]; simp [e]
theorem top_len (s : List It) : (topI s).2 = decide ((s.length : Int) > 0) := by
  cases s with
  | nil => rfl
  | cons x r => simp [topI]
set_option maxHeartbeats 2000000 in
theorem plays_ct (L : List SP) (ad : Option Addr) (c : Nat) (xs : List Opc) (hR : RdS L 4 ad xs.length (xs.flatMap encO)) (hO : ∀ o ∈ xs, OpOk o) : Ct Try.prog 12 #[.slice ad xs.length c] (L) (fun _ : Unit => .bool true) (fun _ : Unit => L) := by
  refine Ct.of (vs := [.slice ad xs.length c]) Try.func12 rfl rfl [(0, .slice ad xs.length c)] (by repeat (first | exact trivial | refine ⟨rfl, ?_⟩)) ?_
  intro E
  show Hd E 171 _ _ _ _
  refine Hd.seq (fun K1 hK1 => ?_)
  refine Hd.region ?_
  refine Hd.yv (y_assign rfl) ?_
  refine Hd.nil ?_
  refine Hd.slots [(0, _)] ⟨rfl, trivial⟩ ?_
  refine Hd.toK hK1 ?_
  refine Hd.seq (fun K2 hK2 => ?_)
  refine Hd.seq (fun K3 hK3 => ?_)
  refine Hd.region ?_
  refine Hd.yv (y_move rfl) ?_
  refine Hd.yv (y_len Try.underlying57 rfl) ?_
  refine Hd.yv (y_gtr rfl rfl) ?_
  refine Hd.nil ?_
  refine Hd.slots [(0, _), (19, _)] ⟨rfl, rfl, trivial⟩ ?_
  refine Hd.toK hK3 ?_
  refine Hd.cond rfl (fun hc0 => ?_) (fun hc0 => ?_)
  ·
    try simp only [decide_eq_true_eq, decide_eq_false_iff_not, Bool.and_eq_true, Bool.or_eq_true, Bool.and_eq_false_iff, Bool.or_eq_false_iff, Bool.not_eq_true', Bool.not_eq_false', Bool.not_eq_true, Bool.not_eq_false, Int.not_lt, Int.not_le, Decidable.not_not, ne_eq] at hc0
    refine Hd.seq (fun K4 hK4 => ?_)
    refine Hd.region ?_
    refine Hd.yv (y_assign rfl) ?_
    refine Hd.nil ?_
    refine Hd.slots [(2, _)] ⟨rfl, trivial⟩ ?_
    refine Hd.toK hK4 ?_
    refine Hd.ret ?_
    refine Hd.thenRet ?_
    clear hK1 hK2 hK3 hK4
    exact Hd.ret1 rfl () (by first | rfl | (simp only [*]; done) | (simp [*]; done)) (Ent.sep enn)
  ·
    try simp only [decide_eq_true_eq, decide_eq_false_iff_not, Bool.and_eq_true, Bool.or_eq_true, Bool.and_eq_false_iff, Bool.or_eq_false_iff, Bool.not_eq_true', Bool.not_eq_false', Bool.not_eq_true, Bool.not_eq_false, Int.not_lt, Int.not_le, Decidable.not_not, ne_eq] at hc0
    have hx : xs.length ≤ 100 := by omega
    refine Hd.skip ?_
    refine Hd.toK hK2 ?_
    refine Hd.seq (fun K5 hK5 => ?_)
    refine Hd.region ?_
    refine Hd.callE rfl fk37 (new_ct _) (Ent.sep enn) ?_
    intro o
    refine Hd.yv (y_assign rfl) ?_
    refine Hd.nil ?_
    refine Hd.slots [(0, _), (3, _)] ⟨rfl, rfl, trivial⟩ ?_
    refine Hd.toK hK5 ?_
    refine Hd.seq (fun K6 hK6 => ?_)
    refine Hd.region ?_
    refine Hd.yv (y_build (vs := []) rfl (by first | exact bd12_21 .. | kernel_rfl)) ?_
    refine Hd.box rfl rfl (fun b22 => ?_)
    refine Hd.yv (y_assign rfl) ?_
    refine Hd.nil ?_
    refine Hd.heap (CoA o [] [] 0 :: RR b22 [] [] 0 :: L) (fun k s => Ent.sep (.pick pkk (.ex ⟨⟨none, 0, none, 0, none, 0⟩, [], [], []⟩ (.pure ⟨.nil, rfl, rfl⟩ (.eq pkk (pt_eq (by rfl)) (.ownNil (.ownNil (.ownNil enn))))))) k s) ?_
    refine Hd.slots [(0, _), (3, _), (4, _)] ⟨rfl, rfl, rfl, trivial⟩ ?_
    refine Hd.toK hK6 ?_
    refine Hd.seq (fun K7 hK7 => ?_)
    refine Hd.seq (fun K8 hK8 => ?_)
    refine Hd.region ?_
    refine Hd.yv (y_assign rfl) ?_
    refine Hd.nil ?_
    refine Hd.slots [(0, _), (3, _), (4, _), (5, _)] ⟨rfl, rfl, rfl, rfl, trivial⟩ ?_
    refine Hd.toK hK8 ?_
    refine Hd.block ?_
    refine Hd.loopK (ι := Nat × List Q × List It × Int) [(0, _), (3, _), (4, _)] (fun q_ => [(5, .int .i64 (q_.1 : Int))]) (fun q_ => pu (q_.1 ≤ xs.length ∧ q_.2.2.1.length ≤ q_.1 ∧ q_.2.2.2 ≤ q_.1) :: CoA o q_.2.1 q_.2.2.1 q_.2.2.2 :: RR b22 q_.2.1 q_.2.2.1 q_.2.2.2 :: L) (fun q_ => xs.length - q_.1) (0, [], [], 0) (by repeat (first | exact trivial | refine ⟨rfl, ?_⟩)) (by repeat (first | exact trivial | refine ⟨rfl, ?_⟩)) (Ent.sep (.pure ⟨Nat.zero_le _, Nat.zero_le _, Int.le_refl _⟩ enn)) ?_
    rintro ⟨i, qs, s, nx⟩
    try dsimp only
    refine Hd.pure (fun hp0 => ?_)
    try dsimp only at hp0
    refine Hd.seq (fun K9 hK9 => ?_)
    refine Hd.seq (fun K10 hK10 => ?_)
    refine Hd.region ?_
    refine Hd.yv (y_move rfl) ?_
    refine Hd.yv (y_move rfl) ?_
    refine Hd.yv (y_len Try.underlying57 rfl) ?_
    refine Hd.yv (y_lss rfl rfl) ?_
    refine Hd.nil ?_
    refine Hd.slots [(0, _), (3, _), (4, _), (5, _), (26, _)] ⟨rfl, rfl, rfl, rfl, rfl, trivial⟩ ?_
    refine Hd.toK hK10 ?_
    refine Hd.cond rfl (fun hc1 => ?_) (fun hc1 => ?_)
    ·
      try simp only [decide_eq_true_eq, decide_eq_false_iff_not, Bool.and_eq_true, Bool.or_eq_true, Bool.and_eq_false_iff, Bool.or_eq_false_iff, Bool.not_eq_true', Bool.not_eq_false', Bool.not_eq_true, Bool.not_eq_false, Int.not_lt, Int.not_le, Decidable.not_not, ne_eq] at hc1
      have hi : i < xs.length := by omega
      have hsl := hp0.2
      obtain ⟨x, hxo⟩ : ∃ x, xs[i]? = some x := ⟨_, List.getElem?_eq_getElem hi⟩
      have hok := hO x (List.mem_of_getElem? hxo)
      refine Hd.coF (o := o) pkk (fun hcf => ?_)
      have hF := hcf.hF
      refine Hd.skip ?_
      refine Hd.toK hK9 ?_
      refine Hd.seq (fun K11 hK11 => ?_)
      refine Hd.block ?_
      refine Hd.seq (fun K12 hK12 => ?_)
      refine Hd.region ?_
      refine Hd.yv (y_move rfl) ?_
      refine Hd.yv (y_move rfl) ?_
      first | (refine Hd.yv (y_idxS Try.underlying57 sz63 rfl rfl (by first | omega | decide)) ?_) | (refine Hd.yv (y_idxR Try.underlying57 sz63 rfl rfl (by first | omega | decide) (by (first | exact RdS.own pkk | exact RdS.mono hR (Ent.sep enn)))) ?_)
      refine Hd.yv (y_loadRn (vs := [_, _, _, _]) ag63 rfl (RdS.mono hR (Ent.sep enn)) (flat_cells encO 4 (fun _ => rfl) hxo) (by exact sz63) (by simp)) ?_
      refine Hd.alloc zr63 (fun b6 => ?_)
      refine Hd.storeA (us := encO x) sz63 rfl rfl rfl (by simp [Value.oneCell']) pkk (by exact rfl) ?_
      refine Hd.nil ?_
      refine Hd.slots [(0, _), (3, _), (4, _), (5, _), (6, _)] ⟨rfl, rfl, rfl, rfl, rfl, trivial⟩ ?_
      refine Hd.toK hK12 ?_
      refine Hd.seq (fun K13 hK13 => ?_)
      refine Hd.region ?_
      refine Hd.yv (y_assign rfl) ?_
      refine Hd.nil ?_
      refine Hd.slots [(0, _), (3, _), (4, _), (5, _), (6, _), (7, _)] ⟨rfl, rfl, rfl, rfl, rfl, rfl, trivial⟩ ?_
      refine Hd.toK hK13 ?_
      refine Hd.cutK (ι := List Q × List It × Int) [(0, _), (3, _), (4, _), (5, _), (6, _)] (fun _ => [(7, .bool true)]) (fun j => pu (j.2.1.length ≤ i + 1 ∧ j.2.2 ≤ i + 1) :: pt b6 (encO x) 63 :: CoA o j.1 j.2.1 j.2.2 :: RR b22 j.1 j.2.1 j.2.2 :: L) ?_ ?_ ⟨rfl, rfl, rfl, rfl, rfl, trivial⟩
      ·
        refine Hd.seq (fun K14 hK14 => ?_)
        refine Hd.region ?_
        first | (refine Hd.yv (y_field' (q := 0) (ft := 3) Try.underlying63 rfl sz3 rfl rfl) ?_) | (refine Hd.yv (y_fieldR (q := 0) (ft := 3) Try.underlying63 rfl sz3 rfl rfl) ?_)
        first | (refine Hd.yv (y_load1 ag3 rfl (Rd.pt1 pkk (by (first | rfl)))) ?_) | (refine Hd.yv (y_load1 ag3 rfl (Rd.seg1 pkk (by (first | rfl)))) ?_) | (refine Hd.yv (y_loadR1 ag3 rfl (by (first | exact RdS.own pkk | exact RdS.mono hR (Ent.sep enn))) (by (first | rfl))) ?_)
        refine Hd.nil ?_
        refine Hd.slots [(0, _), (3, _), (4, _), (5, _), (6, _), (7, _), (34, _)] ⟨rfl, rfl, rfl, rfl, rfl, rfl, rfl, trivial⟩ ?_
        refine Hd.toK hK14 ?_
        refine Hd.block ?_
        refine Hd.seq (fun K15 hK15 => ?_)
        refine Hd.region ?_
        first | (refine Hd.yv (y_eqlT rfl rfl) ?_) | (refine Hd.yv (y_eql rfl rfl) ?_)
        refine Hd.yv (y_assign rfl) ?_
        refine Hd.nil ?_
        refine Hd.slots [(0, _), (3, _), (4, _), (5, _), (6, _), (7, _), (34, _), (35, _)] ⟨rfl, rfl, rfl, rfl, rfl, rfl, rfl, rfl, trivial⟩ ?_
        refine Hd.toK hK15 ?_
        refine Hd.cond rfl (fun hc2 => ?_) (fun hc2 => ?_)
        ·
          try simp only [decide_eq_true_eq, decide_eq_false_iff_not, Bool.and_eq_true, Bool.or_eq_true, Bool.and_eq_false_iff, Bool.or_eq_false_iff, Bool.not_eq_true', Bool.not_eq_false', Bool.not_eq_true, Bool.not_eq_false, Int.not_lt, Int.not_le, Decidable.not_not, ne_eq] at hc2
          refine Hd.drawsH ([pt b6 (encO x) 63]) (fun _ => true) mixed ?_
          simp only [List.length, Nat.zero_add, Nat.reduceAdd]
          refine Hd.takeH 0 rfl (by kernel_rfl) (by kernel_rfl) (by kernel_rfl) (by kernel_rfl) (y_move rfl) (fun _ _ => rfl) (Ent.sep enn) ?_
          first | (refine Hd.takeH 1 rfl (by kernel_rfl) (by kernel_rfl) (by kernel_rfl) (by kernel_rfl) (y_field' (q := 1) (ft := 3) Try.underlying63 rfl sz3 rfl rfl) (fun _ _ => rfl) (Ent.sep enn) ?_) | (refine Hd.takeH 1 rfl (by kernel_rfl) (by kernel_rfl) (by kernel_rfl) (by kernel_rfl) (y_fieldR (q := 1) (ft := 3) Try.underlying63 rfl sz3 rfl rfl) (fun _ _ => rfl) (Ent.sep enn) ?_)
          first | (refine Hd.takeH 2 rfl (by kernel_rfl) (by kernel_rfl) (by kernel_rfl) (by kernel_rfl) (y_load1 ag3 rfl (Rd.pt1 pkk (by (first | rfl)))) (fun _ _ => rfl) (Ent.sep enn) ?_) | (refine Hd.takeH 2 rfl (by kernel_rfl) (by kernel_rfl) (by kernel_rfl) (by kernel_rfl) (y_load1 ag3 rfl (Rd.seg1 pkk (by (first | rfl)))) (fun _ _ => rfl) (Ent.sep enn) ?_) | (refine Hd.takeH 2 rfl (by kernel_rfl) (by kernel_rfl) (by kernel_rfl) (by kernel_rfl) (y_loadR1 ag3 rfl (by (first | exact RdS.own pkk | exact RdS.mono hR (Ent.sep enn))) (by (first | rfl))) (fun _ _ => rfl) (Ent.sep enn) ?_)
          first | (refine Hd.takeH 3 rfl (by kernel_rfl) (by kernel_rfl) (by kernel_rfl) (by kernel_rfl) (y_field' (q := 2) (ft := 29) Try.underlying63 rfl sz29 rfl rfl) (fun _ _ => rfl) (Ent.sep enn) ?_) | (refine Hd.takeH 3 rfl (by kernel_rfl) (by kernel_rfl) (by kernel_rfl) (by kernel_rfl) (y_fieldR (q := 2) (ft := 29) Try.underlying63 rfl sz29 rfl rfl) (fun _ _ => rfl) (Ent.sep enn) ?_)
          first | (refine Hd.takeH 4 rfl (by kernel_rfl) (by kernel_rfl) (by kernel_rfl) (by kernel_rfl) (y_load1 ag29 rfl (Rd.pt1 pkk (by (first | rfl)))) (fun _ _ => rfl) (Ent.sep enn) ?_) | (refine Hd.takeH 4 rfl (by kernel_rfl) (by kernel_rfl) (by kernel_rfl) (by kernel_rfl) (y_load1 ag29 rfl (Rd.seg1 pkk (by (first | rfl)))) (fun _ _ => rfl) (Ent.sep enn) ?_) | (refine Hd.takeH 4 rfl (by kernel_rfl) (by kernel_rfl) (by kernel_rfl) (by kernel_rfl) (y_loadR1 ag29 rfl (by (first | exact RdS.own pkk | exact RdS.mono hR (Ent.sep enn))) (by (first | rfl))) (fun _ _ => rfl) (Ent.sep enn) ?_)
          first | (refine Hd.takeH 5 rfl (by kernel_rfl) (by kernel_rfl) (by kernel_rfl) (by kernel_rfl) (y_field' (q := 3) (ft := 29) Try.underlying63 rfl sz29 rfl rfl) (fun _ _ => rfl) (Ent.sep enn) ?_) | (refine Hd.takeH 5 rfl (by kernel_rfl) (by kernel_rfl) (by kernel_rfl) (by kernel_rfl) (y_fieldR (q := 3) (ft := 29) Try.underlying63 rfl sz29 rfl rfl) (fun _ _ => rfl) (Ent.sep enn) ?_)
          first | (refine Hd.takeH 6 rfl (by kernel_rfl) (by kernel_rfl) (by kernel_rfl) (by kernel_rfl) (y_load1 ag29 rfl (Rd.pt1 pkk (by (first | rfl)))) (fun _ _ => rfl) (Ent.sep enn) ?_) | (refine Hd.takeH 6 rfl (by kernel_rfl) (by kernel_rfl) (by kernel_rfl) (by kernel_rfl) (y_load1 ag29 rfl (Rd.seg1 pkk (by (first | rfl)))) (fun _ _ => rfl) (Ent.sep enn) ?_) | (refine Hd.takeH 6 rfl (by kernel_rfl) (by kernel_rfl) (by kernel_rfl) (by kernel_rfl) (y_loadR1 ag29 rfl (by (first | exact RdS.own pkk | exact RdS.mono hR (Ent.sep enn))) (by (first | rfl))) (fun _ _ => rfl) (Ent.sep enn) ?_)
          refine Hd.takeH 8 rfl (by kernel_rfl) (by kernel_rfl) (by kernel_rfl) (by kernel_rfl) (y_move rfl) (fun _ _ => rfl) (Ent.sep enn) ?_
          first | (refine Hd.takeH 9 rfl (by kernel_rfl) (by kernel_rfl) (by kernel_rfl) (by kernel_rfl) (y_field' (q := 1) (ft := 3) Try.underlying63 rfl sz3 rfl rfl) (fun _ _ => rfl) (Ent.sep enn) ?_) | (refine Hd.takeH 9 rfl (by kernel_rfl) (by kernel_rfl) (by kernel_rfl) (by kernel_rfl) (y_fieldR (q := 1) (ft := 3) Try.underlying63 rfl sz3 rfl rfl) (fun _ _ => rfl) (Ent.sep enn) ?_)
          first | (refine Hd.takeH 10 rfl (by kernel_rfl) (by kernel_rfl) (by kernel_rfl) (by kernel_rfl) (y_load1 ag3 rfl (Rd.pt1 pkk (by (first | rfl)))) (fun _ _ => rfl) (Ent.sep enn) ?_) | (refine Hd.takeH 10 rfl (by kernel_rfl) (by kernel_rfl) (by kernel_rfl) (by kernel_rfl) (y_load1 ag3 rfl (Rd.seg1 pkk (by (first | rfl)))) (fun _ _ => rfl) (Ent.sep enn) ?_) | (refine Hd.takeH 10 rfl (by kernel_rfl) (by kernel_rfl) (by kernel_rfl) (by kernel_rfl) (y_loadR1 ag3 rfl (by (first | exact RdS.own pkk | exact RdS.mono hR (Ent.sep enn))) (by (first | rfl))) (fun _ _ => rfl) (Ent.sep enn) ?_)
          first | (refine Hd.takeH 11 rfl (by kernel_rfl) (by kernel_rfl) (by kernel_rfl) (by kernel_rfl) (y_field' (q := 2) (ft := 29) Try.underlying63 rfl sz29 rfl rfl) (fun _ _ => rfl) (Ent.sep enn) ?_) | (refine Hd.takeH 11 rfl (by kernel_rfl) (by kernel_rfl) (by kernel_rfl) (by kernel_rfl) (y_fieldR (q := 2) (ft := 29) Try.underlying63 rfl sz29 rfl rfl) (fun _ _ => rfl) (Ent.sep enn) ?_)
          first | (refine Hd.takeH 12 rfl (by kernel_rfl) (by kernel_rfl) (by kernel_rfl) (by kernel_rfl) (y_load1 ag29 rfl (Rd.pt1 pkk (by (first | rfl)))) (fun _ _ => rfl) (Ent.sep enn) ?_) | (refine Hd.takeH 12 rfl (by kernel_rfl) (by kernel_rfl) (by kernel_rfl) (by kernel_rfl) (y_load1 ag29 rfl (Rd.seg1 pkk (by (first | rfl)))) (fun _ _ => rfl) (Ent.sep enn) ?_) | (refine Hd.takeH 12 rfl (by kernel_rfl) (by kernel_rfl) (by kernel_rfl) (by kernel_rfl) (y_loadR1 ag29 rfl (by (first | exact RdS.own pkk | exact RdS.mono hR (Ent.sep enn))) (by (first | rfl))) (fun _ _ => rfl) (Ent.sep enn) ?_)
          first | (refine Hd.takeH 13 rfl (by kernel_rfl) (by kernel_rfl) (by kernel_rfl) (by kernel_rfl) (y_field' (q := 3) (ft := 29) Try.underlying63 rfl sz29 rfl rfl) (fun _ _ => rfl) (Ent.sep enn) ?_) | (refine Hd.takeH 13 rfl (by kernel_rfl) (by kernel_rfl) (by kernel_rfl) (by kernel_rfl) (y_fieldR (q := 3) (ft := 29) Try.underlying63 rfl sz29 rfl rfl) (fun _ _ => rfl) (Ent.sep enn) ?_)
          first | (refine Hd.takeH 14 rfl (by kernel_rfl) (by kernel_rfl) (by kernel_rfl) (by kernel_rfl) (y_load1 ag29 rfl (Rd.pt1 pkk (by (first | rfl)))) (fun _ _ => rfl) (Ent.sep enn) ?_) | (refine Hd.takeH 14 rfl (by kernel_rfl) (by kernel_rfl) (by kernel_rfl) (by kernel_rfl) (y_load1 ag29 rfl (Rd.seg1 pkk (by (first | rfl)))) (fun _ _ => rfl) (Ent.sep enn) ?_) | (refine Hd.takeH 14 rfl (by kernel_rfl) (by kernel_rfl) (by kernel_rfl) (by kernel_rfl) (y_loadR1 ag29 rfl (by (first | exact RdS.own pkk | exact RdS.mono hR (Ent.sep enn))) (by (first | rfl))) (fun _ _ => rfl) (Ent.sep enn) ?_)
          refine Hd.onlyH 7 rfl (by kernel_rfl) ?_
          refine Hd.callE rfl fk39 (add_ct _ o qs s nx (by omega) (by omega) x.id x.now x.af hok.1 hok.2) (Ent.sep enn) ?_
          intro _
          refine Hd.nil ?_
          refine Hd.thenN ?_
          refine Hd.heldK (J := (fun _ => true)) (i := 7) (Ent.sep enn) ?_
          refine Hd.onlyH 15 rfl (by kernel_rfl) ?_
          refine Hd.callE rfl fk47 (radd_ct _ b22 qs s nx hcf hcf.cut' (by omega) (by omega) x.id x.now x.af hok.1 hok.2) (Ent.sep enn) ?_
          intro _
          refine Hd.nil ?_
          refine Hd.thenN ?_
          refine Hd.heldK (J := (fun _ => true)) (i := 15) (Ent.sep enn) ?_
          first | (refine Hd.takeH 16 rfl (by kernel_rfl) (by kernel_rfl) (by kernel_rfl) (by kernel_rfl) (y_to (y_eqlT rfl rfl) (congrArg Value.bool (decide_eq_true (rfl)))) (fun _ _ => rfl) (Ent.sep enn) ?_) | (refine Hd.takeH 16 rfl (by kernel_rfl) (by kernel_rfl) (by kernel_rfl) (by kernel_rfl) (y_to (y_eql rfl rfl) (congrArg Value.bool (decide_eq_true (rfl)))) (fun _ _ => rfl) (Ent.sep enn) ?_)
          refine Hd.takeH 17 rfl (by kernel_rfl) (by kernel_rfl) (by kernel_rfl) (by kernel_rfl) (y_assign rfl) (fun _ _ => rfl) (Ent.sep enn) ?_
          refine Hd.endH (by kernel_rfl) ?_
          refine Hd.slots [(0, _), (3, _), (4, _), (5, _), (6, _), (7, _)] ⟨rfl, rfl, rfl, rfl, rfl, rfl, trivial⟩ ?_
          refine Hd.inB ?_
          clear hK1 hK2 hK3 hK5 hK6 hK7 hK8 hK9 hK10 hK11 hK12 hK13 hK14 hK15
          refine Hd.thenN ?_
          exact Hd.meet (addQ qs x.id x.now x.af nx, addS s x.id x.now x.af nx, addN x.id nx) (by repeat (first | exact trivial | refine ⟨rfl, ?_⟩)) (Ent.sep (.pure (by have h1 := addS_len s x.id x.now x.af nx; have h2 := addN_le x.id nx; exact ⟨by show (addS s x.id x.now x.af nx).length ≤ _; omega, by show addN x.id nx ≤ _; omega⟩) enn))
        ·
          try simp only [decide_eq_true_eq, decide_eq_false_iff_not, Bool.and_eq_true, Bool.or_eq_true, Bool.and_eq_false_iff, Bool.or_eq_false_iff, Bool.not_eq_true', Bool.not_eq_false', Bool.not_eq_true, Bool.not_eq_false, Int.not_lt, Int.not_le, Decidable.not_not, ne_eq] at hc2
          refine Hd.seq (fun K16 hK16 => ?_)
          refine Hd.region ?_
          first | (refine Hd.yv (y_eqlT rfl rfl) ?_) | (refine Hd.yv (y_eql rfl rfl) ?_)
          refine Hd.yv (y_assign rfl) ?_
          refine Hd.nil ?_
          refine Hd.slots [(0, _), (3, _), (4, _), (5, _), (6, _), (7, _), (34, _), (54, _)] ⟨rfl, rfl, rfl, rfl, rfl, rfl, rfl, rfl, trivial⟩ ?_
          refine Hd.toK hK16 ?_
          refine Hd.cond rfl (fun hc3 => ?_) (fun hc3 => ?_)
          ·
            try simp only [decide_eq_true_eq, decide_eq_false_iff_not, Bool.and_eq_true, Bool.or_eq_true, Bool.and_eq_false_iff, Bool.or_eq_false_iff, Bool.not_eq_true', Bool.not_eq_false', Bool.not_eq_true, Bool.not_eq_false, Int.not_lt, Int.not_le, Decidable.not_not, ne_eq] at hc3
            refine Hd.drawsH ([pt b6 (encO x) 63]) (fun _ => true) mixed ?_
            simp only [List.length, Nat.zero_add, Nat.reduceAdd]
            refine Hd.takeH 0 rfl (by kernel_rfl) (by kernel_rfl) (by kernel_rfl) (by kernel_rfl) (y_move rfl) (fun _ _ => rfl) (Ent.sep enn) ?_
            first | (refine Hd.takeH 1 rfl (by kernel_rfl) (by kernel_rfl) (by kernel_rfl) (by kernel_rfl) (y_field' (q := 1) (ft := 3) Try.underlying63 rfl sz3 rfl rfl) (fun _ _ => rfl) (Ent.sep enn) ?_) | (refine Hd.takeH 1 rfl (by kernel_rfl) (by kernel_rfl) (by kernel_rfl) (by kernel_rfl) (y_fieldR (q := 1) (ft := 3) Try.underlying63 rfl sz3 rfl rfl) (fun _ _ => rfl) (Ent.sep enn) ?_)
            first | (refine Hd.takeH 2 rfl (by kernel_rfl) (by kernel_rfl) (by kernel_rfl) (by kernel_rfl) (y_load1 ag3 rfl (Rd.pt1 pkk (by (first | rfl)))) (fun _ _ => rfl) (Ent.sep enn) ?_) | (refine Hd.takeH 2 rfl (by kernel_rfl) (by kernel_rfl) (by kernel_rfl) (by kernel_rfl) (y_load1 ag3 rfl (Rd.seg1 pkk (by (first | rfl)))) (fun _ _ => rfl) (Ent.sep enn) ?_) | (refine Hd.takeH 2 rfl (by kernel_rfl) (by kernel_rfl) (by kernel_rfl) (by kernel_rfl) (y_loadR1 ag3 rfl (by (first | exact RdS.own pkk | exact RdS.mono hR (Ent.sep enn))) (by (first | rfl))) (fun _ _ => rfl) (Ent.sep enn) ?_)
            refine Hd.takeH 4 rfl (by kernel_rfl) (by kernel_rfl) (by kernel_rfl) (by kernel_rfl) (y_move rfl) (fun _ _ => rfl) (Ent.sep enn) ?_
            first | (refine Hd.takeH 5 rfl (by kernel_rfl) (by kernel_rfl) (by kernel_rfl) (by kernel_rfl) (y_field' (q := 1) (ft := 3) Try.underlying63 rfl sz3 rfl rfl) (fun _ _ => rfl) (Ent.sep enn) ?_) | (refine Hd.takeH 5 rfl (by kernel_rfl) (by kernel_rfl) (by kernel_rfl) (by kernel_rfl) (y_fieldR (q := 1) (ft := 3) Try.underlying63 rfl sz3 rfl rfl) (fun _ _ => rfl) (Ent.sep enn) ?_)
            first | (refine Hd.takeH 6 rfl (by kernel_rfl) (by kernel_rfl) (by kernel_rfl) (by kernel_rfl) (y_load1 ag3 rfl (Rd.pt1 pkk (by (first | rfl)))) (fun _ _ => rfl) (Ent.sep enn) ?_) | (refine Hd.takeH 6 rfl (by kernel_rfl) (by kernel_rfl) (by kernel_rfl) (by kernel_rfl) (y_load1 ag3 rfl (Rd.seg1 pkk (by (first | rfl)))) (fun _ _ => rfl) (Ent.sep enn) ?_) | (refine Hd.takeH 6 rfl (by kernel_rfl) (by kernel_rfl) (by kernel_rfl) (by kernel_rfl) (y_loadR1 ag3 rfl (by (first | exact RdS.own pkk | exact RdS.mono hR (Ent.sep enn))) (by (first | rfl))) (fun _ _ => rfl) (Ent.sep enn) ?_)
            refine Hd.onlyH 3 rfl (by kernel_rfl) ?_
            refine Hd.callE rfl fk40 (cut_ct _ o qs s nx (by omega) x.id) (Ent.sep enn) ?_
            intro _
            refine Hd.nil ?_
            refine Hd.thenN ?_
            refine Hd.heldK (J := (fun _ => true)) (i := 3) (Ent.sep enn) ?_
            refine Hd.onlyH 7 rfl (by kernel_rfl) ?_
            refine Hd.callE rfl fk48 (rcut_ct _ b22 qs s nx hF x.id) (Ent.sep enn) ?_
            intro _
            refine Hd.nil ?_
            refine Hd.thenN ?_
            refine Hd.heldK (J := (fun _ => true)) (i := 7) (Ent.sep enn) ?_
            refine Hd.takeH 8 rfl (by kernel_rfl) (by kernel_rfl) (by kernel_rfl) (by kernel_rfl) (y_to (v' := .bool true) (y_eqlb Try.underlying4 rfl rfl) (by simp)) (fun _ _ => rfl) (Ent.sep enn) ?_
            refine Hd.takeH 9 rfl (by kernel_rfl) (by kernel_rfl) (by kernel_rfl) (by kernel_rfl) (y_assign rfl) (fun _ _ => rfl) (Ent.sep enn) ?_
            refine Hd.endH (by kernel_rfl) ?_
            refine Hd.slots [(0, _), (3, _), (4, _), (5, _), (6, _), (7, _)] ⟨rfl, rfl, rfl, rfl, rfl, rfl, trivial⟩ ?_
            refine Hd.inB ?_
            clear hK1 hK2 hK3 hK5 hK6 hK7 hK8 hK9 hK10 hK11 hK12 hK13 hK14 hK15 hK16
            refine Hd.thenN ?_
            exact Hd.meet (cutQ x.id qs, remI x.id s, nx) (by repeat (first | exact trivial | refine ⟨rfl, ?_⟩)) (Ent.sep (.pure (by have h1 := remI_len s x.id; exact ⟨by show (remI x.id s).length ≤ _; omega, by show nx ≤ _; omega⟩) enn))
          ·
            try simp only [decide_eq_true_eq, decide_eq_false_iff_not, Bool.and_eq_true, Bool.or_eq_true, Bool.and_eq_false_iff, Bool.or_eq_false_iff, Bool.not_eq_true', Bool.not_eq_false', Bool.not_eq_true, Bool.not_eq_false, Int.not_lt, Int.not_le, Decidable.not_not, ne_eq] at hc3
            refine Hd.seq (fun K17 hK17 => ?_)
            refine Hd.region ?_
            first | (refine Hd.yv (y_eqlT rfl rfl) ?_) | (refine Hd.yv (y_eql rfl rfl) ?_)
            refine Hd.yv (y_assign rfl) ?_
            refine Hd.nil ?_
            refine Hd.slots [(0, _), (3, _), (4, _), (5, _), (6, _), (7, _), (34, _), (65, _)] ⟨rfl, rfl, rfl, rfl, rfl, rfl, rfl, rfl, trivial⟩ ?_
            refine Hd.toK hK17 ?_
            refine Hd.cond rfl (fun hc4 => ?_) (fun hc4 => ?_)
            ·
              try simp only [decide_eq_true_eq, decide_eq_false_iff_not, Bool.and_eq_true, Bool.or_eq_true, Bool.and_eq_false_iff, Bool.or_eq_false_iff, Bool.not_eq_true', Bool.not_eq_false', Bool.not_eq_true, Bool.not_eq_false, Int.not_lt, Int.not_le, Decidable.not_not, ne_eq] at hc4
              refine Hd.seq (fun K18 hK18 => ?_)
              refine Hd.region ?_
              refine Hd.yv (y_move rfl) ?_
              first | (refine Hd.yv (y_field' (q := 2) (ft := 29) Try.underlying63 rfl sz29 rfl rfl) ?_) | (refine Hd.yv (y_fieldR (q := 2) (ft := 29) Try.underlying63 rfl sz29 rfl rfl) ?_)
              first | (refine Hd.yv (y_load1 ag29 rfl (Rd.pt1 pkk (by (first | rfl)))) ?_) | (refine Hd.yv (y_load1 ag29 rfl (Rd.seg1 pkk (by (first | rfl)))) ?_) | (refine Hd.yv (y_loadR1 ag29 rfl (by (first | exact RdS.own pkk | exact RdS.mono hR (Ent.sep enn))) (by (first | rfl))) ?_)
              refine Hd.callE rfl fk41 (cdue_ct _ o qs s nx (by omega) x.now) (Ent.sep enn) ?_
              rintro ⟨a1, c1⟩
              dsimp only
              refine Hd.yv (y_assign rfl) ?_
              refine Hd.nil ?_
              refine Hd.slots [(0, _), (3, _), (4, _), (5, _), (6, _), (8, _)] ⟨rfl, rfl, rfl, rfl, rfl, rfl, trivial⟩ ?_
              refine Hd.toK hK18 ?_
              refine Hd.region ?_
              refine Hd.yv (y_move rfl) ?_
              refine Hd.yv (y_move rfl) ?_
              first | (refine Hd.yv (y_field' (q := 2) (ft := 29) Try.underlying63 rfl sz29 rfl rfl) ?_) | (refine Hd.yv (y_fieldR (q := 2) (ft := 29) Try.underlying63 rfl sz29 rfl rfl) ?_)
              first | (refine Hd.yv (y_load1 ag29 rfl (Rd.pt1 pkk (by (first | rfl)))) ?_) | (refine Hd.yv (y_load1 ag29 rfl (Rd.seg1 pkk (by (first | rfl)))) ?_) | (refine Hd.yv (y_loadR1 ag29 rfl (by (first | exact RdS.own pkk | exact RdS.mono hR (Ent.sep enn))) (by (first | rfl))) ?_)
              refine Hd.callE rfl fk49 (rdue_ct _ b22 qs s nx hcf x.now) (Ent.sep enn) ?_
              rintro ⟨a2, c3⟩
              dsimp only
              have hdl := dueI_len s x.now
              refine Hd.callE rfl fk42 (same_ct _ a1 (dueI x.now s).length c1 (dueI x.now s) rfl (by omega) ?h1 a2 (dueI x.now s).length c3 (dueI x.now s) rfl ?h2) (Ent.sep enn) ?_
              case h1 => exact RdS.own (ad := a1) pkk
              case h2 => exact RdS.own (ad := a2) pkk
              intro bb
              refine Hd.pure (fun hbb => ?_)
              obtain rfl : bb = true := by rw [hbb]; simp
              refine Hd.yv (y_assign rfl) ?_
              refine Hd.nil ?_
              refine Hd.slots [(0, _), (3, _), (4, _), (5, _), (6, _), (7, _)] ⟨rfl, rfl, rfl, rfl, rfl, rfl, trivial⟩ ?_
              refine Hd.inB ?_
              clear hK1 hK2 hK3 hK5 hK6 hK7 hK8 hK9 hK10 hK11 hK12 hK13 hK14 hK15 hK16 hK17 hK18
              refine Hd.thenN ?_
              exact Hd.meet (cutAll (dueI x.now s) qs, restI x.now s, nx) (by repeat (first | exact trivial | refine ⟨rfl, ?_⟩)) (Ent.sep (.pure (by have h1 := restI_len s x.now; exact ⟨by show (restI x.now s).length ≤ _; omega, by show nx ≤ _; omega⟩) enn))
            ·
              try simp only [decide_eq_true_eq, decide_eq_false_iff_not, Bool.and_eq_true, Bool.or_eq_true, Bool.and_eq_false_iff, Bool.or_eq_false_iff, Bool.not_eq_true', Bool.not_eq_false', Bool.not_eq_true, Bool.not_eq_false, Int.not_lt, Int.not_le, Decidable.not_not, ne_eq] at hc4
              refine Hd.seq (fun K19 hK19 => ?_)
              refine Hd.region ?_
              first | (refine Hd.yv (y_eqlT rfl rfl) ?_) | (refine Hd.yv (y_eql rfl rfl) ?_)
              refine Hd.yv (y_assign rfl) ?_
              refine Hd.nil ?_
              refine Hd.slots [(0, _), (3, _), (4, _), (5, _), (6, _), (7, _), (77, _)] ⟨rfl, rfl, rfl, rfl, rfl, rfl, rfl, trivial⟩ ?_
              refine Hd.toK hK19 ?_
              refine Hd.cond rfl (fun hc5 => ?_) (fun hc5 => ?_)
              ·
                try simp only [decide_eq_true_eq, decide_eq_false_iff_not, Bool.and_eq_true, Bool.or_eq_true, Bool.and_eq_false_iff, Bool.or_eq_false_iff, Bool.not_eq_true', Bool.not_eq_false', Bool.not_eq_true, Bool.not_eq_false, Int.not_lt, Int.not_le, Decidable.not_not, ne_eq] at hc5
                refine Hd.drawsH ([pt b6 (encO x) 63]) (fun _ => true) mixed ?_
                simp only [List.length, Nat.zero_add, Nat.reduceAdd]
                refine Hd.takeH 0 rfl (by kernel_rfl) (by kernel_rfl) (by kernel_rfl) (by kernel_rfl) (y_move rfl) (fun _ _ => rfl) (Ent.sep enn) ?_
                first | (refine Hd.takeH 1 rfl (by kernel_rfl) (by kernel_rfl) (by kernel_rfl) (by kernel_rfl) (y_field' (q := 3) (ft := 29) Try.underlying63 rfl sz29 rfl rfl) (fun _ _ => rfl) (Ent.sep enn) ?_) | (refine Hd.takeH 1 rfl (by kernel_rfl) (by kernel_rfl) (by kernel_rfl) (by kernel_rfl) (y_fieldR (q := 3) (ft := 29) Try.underlying63 rfl sz29 rfl rfl) (fun _ _ => rfl) (Ent.sep enn) ?_)
                first | (refine Hd.takeH 2 rfl (by kernel_rfl) (by kernel_rfl) (by kernel_rfl) (by kernel_rfl) (y_load1 ag29 rfl (Rd.pt1 pkk (by (first | rfl)))) (fun _ _ => rfl) (Ent.sep enn) ?_) | (refine Hd.takeH 2 rfl (by kernel_rfl) (by kernel_rfl) (by kernel_rfl) (by kernel_rfl) (y_load1 ag29 rfl (Rd.seg1 pkk (by (first | rfl)))) (fun _ _ => rfl) (Ent.sep enn) ?_) | (refine Hd.takeH 2 rfl (by kernel_rfl) (by kernel_rfl) (by kernel_rfl) (by kernel_rfl) (y_loadR1 ag29 rfl (by (first | exact RdS.own pkk | exact RdS.mono hR (Ent.sep enn))) (by (first | rfl))) (fun _ _ => rfl) (Ent.sep enn) ?_)
                refine Hd.takeH 4 rfl (by kernel_rfl) (by kernel_rfl) (by kernel_rfl) (by kernel_rfl) (y_move rfl) (fun _ _ => rfl) (Ent.sep enn) ?_
                first | (refine Hd.takeH 5 rfl (by kernel_rfl) (by kernel_rfl) (by kernel_rfl) (by kernel_rfl) (y_field' (q := 3) (ft := 29) Try.underlying63 rfl sz29 rfl rfl) (fun _ _ => rfl) (Ent.sep enn) ?_) | (refine Hd.takeH 5 rfl (by kernel_rfl) (by kernel_rfl) (by kernel_rfl) (by kernel_rfl) (y_fieldR (q := 3) (ft := 29) Try.underlying63 rfl sz29 rfl rfl) (fun _ _ => rfl) (Ent.sep enn) ?_)
                first | (refine Hd.takeH 6 rfl (by kernel_rfl) (by kernel_rfl) (by kernel_rfl) (by kernel_rfl) (y_load1 ag29 rfl (Rd.pt1 pkk (by (first | rfl)))) (fun _ _ => rfl) (Ent.sep enn) ?_) | (refine Hd.takeH 6 rfl (by kernel_rfl) (by kernel_rfl) (by kernel_rfl) (by kernel_rfl) (y_load1 ag29 rfl (Rd.seg1 pkk (by (first | rfl)))) (fun _ _ => rfl) (Ent.sep enn) ?_) | (refine Hd.takeH 6 rfl (by kernel_rfl) (by kernel_rfl) (by kernel_rfl) (by kernel_rfl) (y_loadR1 ag29 rfl (by (first | exact RdS.own pkk | exact RdS.mono hR (Ent.sep enn))) (by (first | rfl))) (fun _ _ => rfl) (Ent.sep enn) ?_)
                refine Hd.onlyH 3 rfl (by kernel_rfl) ?_
                refine Hd.callE rfl fk38 (common_ct _ o qs s nx x.af) (Ent.sep enn) ?_
                intro _
                refine Hd.nil ?_
                refine Hd.thenN ?_
                refine Hd.heldK (J := (fun _ => true)) (i := 3) (Ent.sep enn) ?_
                refine Hd.onlyH 7 rfl (by kernel_rfl) ?_
                refine Hd.callE rfl fk50 (rmake_ct _ b22 qs s nx hcf.ql x.af) (Ent.sep enn) ?_
                intro _
                refine Hd.nil ?_
                refine Hd.thenN ?_
                refine Hd.heldK (J := (fun _ => true)) (i := 7) (Ent.sep enn) ?_
                first | (refine Hd.takeH 8 rfl (by kernel_rfl) (by kernel_rfl) (by kernel_rfl) (by kernel_rfl) (y_to (y_eqlT rfl rfl) (congrArg Value.bool (decide_eq_true (rfl)))) (fun _ _ => rfl) (Ent.sep enn) ?_) | (refine Hd.takeH 8 rfl (by kernel_rfl) (by kernel_rfl) (by kernel_rfl) (by kernel_rfl) (y_to (y_eql rfl rfl) (congrArg Value.bool (decide_eq_true (rfl)))) (fun _ _ => rfl) (Ent.sep enn) ?_)
                refine Hd.takeH 9 rfl (by kernel_rfl) (by kernel_rfl) (by kernel_rfl) (by kernel_rfl) (y_assign rfl) (fun _ _ => rfl) (Ent.sep enn) ?_
                refine Hd.endH (by kernel_rfl) ?_
                refine Hd.slots [(0, _), (3, _), (4, _), (5, _), (6, _), (7, _)] ⟨rfl, rfl, rfl, rfl, rfl, rfl, trivial⟩ ?_
                refine Hd.inB ?_
                clear hK1 hK2 hK3 hK5 hK6 hK7 hK8 hK9 hK10 hK11 hK12 hK13 hK14 hK15 hK16 hK17 hK19
                refine Hd.thenN ?_
                exact Hd.meet (mkS qs x.af, s, nx) (by repeat (first | exact trivial | refine ⟨rfl, ?_⟩)) (Ent.sep (.pure (by exact ⟨by show s.length ≤ _; omega, by show nx ≤ _; omega⟩) enn))
              ·
                try simp only [decide_eq_true_eq, decide_eq_false_iff_not, Bool.and_eq_true, Bool.or_eq_true, Bool.and_eq_false_iff, Bool.or_eq_false_iff, Bool.not_eq_true', Bool.not_eq_false', Bool.not_eq_true, Bool.not_eq_false, Int.not_lt, Int.not_le, Decidable.not_not, ne_eq] at hc5
                refine Hd.skip ?_
                refine Hd.inB ?_
                clear hK1 hK2 hK3 hK5 hK6 hK7 hK8 hK9 hK10 hK11 hK12 hK13 hK14 hK15 hK16 hK17 hK19
                refine Hd.thenN ?_
                exact Hd.meet (qs, s, nx) (by repeat (first | exact trivial | refine ⟨rfl, ?_⟩)) (Ent.sep (.pure (by exact ⟨by show s.length ≤ _; omega, by show nx ≤ _; omega⟩) enn))
      ·
        rintro ⟨qt, s2, n2⟩
        refine Hd.pure (fun hs2 => ?_)
        dsimp only at hs2
        dsimp only
        refine Hd.coF (o := o) pkk (fun hcf2 => ?_)
        have hF2 := hcf2.hF
        refine Hd.seq (fun K20 hK20 => ?_)
        refine Hd.region ?_
        refine Hd.yv (y_move rfl) ?_
        refine Hd.callE rfl fk51 (rall_ct _ b22 qt s2 n2 hcf2) (Ent.sep enn) ?_
        rintro ⟨a9, c9⟩
        dsimp only
        refine Hd.yv (y_assign rfl) ?_
        refine Hd.nil ?_
        refine Hd.slots [(0, _), (3, _), (4, _), (5, _), (6, _), (7, _), (9, _)] ⟨rfl, rfl, rfl, rfl, rfl, rfl, rfl, trivial⟩ ?_
        refine Hd.toK hK20 ?_
        refine Hd.seq (fun K21 hK21 => ?_)
        refine Hd.region ?_
        refine Hd.yv (y_move rfl) ?_
        first | (refine Hd.yv (y_field' (q := 1) (ft := 3) Try.underlying63 rfl sz3 rfl rfl) ?_) | (refine Hd.yv (y_fieldR (q := 1) (ft := 3) Try.underlying63 rfl sz3 rfl rfl) ?_)
        first | (refine Hd.yv (y_load1 ag3 rfl (Rd.pt1 pkk (by (first | rfl)))) ?_) | (refine Hd.yv (y_load1 ag3 rfl (Rd.seg1 pkk (by (first | rfl)))) ?_) | (refine Hd.yv (y_loadR1 ag3 rfl (by (first | exact RdS.own pkk | exact RdS.mono hR (Ent.sep enn))) (by (first | rfl))) ?_)
        refine Hd.callE rfl fk52 (cfind_ct _ o qt s2 n2 x.id) (Ent.sep enn) ?_
        intro _
        refine Hd.yv (y_move rfl) ?_
        refine Hd.yv (y_extract rfl rfl) ?_
        refine Hd.yv (y_extract rfl rfl) ?_
        refine Hd.alloc zr31 (fun b10 => ?_)
        refine Hd.storeA (us := Hp.encI (findV (findI x.id s2)).1) sz31 rfl rfl rfl (encI_one _) pkk (by exact rfl) ?_
        refine Hd.yv (y_assign rfl) ?_
        refine Hd.nil ?_
        refine Hd.slots [(0, _), (3, _), (4, _), (5, _), (6, _), (7, _), (9, _), (10, _), (11, _)] ⟨rfl, rfl, rfl, rfl, rfl, rfl, rfl, rfl, rfl, trivial⟩ ?_
        refine Hd.toK hK21 ?_
        refine Hd.seq (fun K22 hK22 => ?_)
        refine Hd.region ?_
        refine Hd.yv (y_build (vs := []) rfl (by first | exact bd12_97 .. | kernel_rfl)) ?_
        refine Hd.alloc zr31 (fun b12 => ?_)
        refine Hd.storeA (us := Hp.encI (findV (findI x.id (s2.take 0))).1) sz31 rfl rfl rfl (encI_one _) pkk (by exact rfl) ?_
        refine Hd.nil ?_
        refine Hd.slots [(0, _), (3, _), (4, _), (5, _), (6, _), (7, _), (9, _), (10, _), (11, _), (12, _)] ⟨rfl, rfl, rfl, rfl, rfl, rfl, rfl, rfl, rfl, rfl, trivial⟩ ?_
        refine Hd.toK hK22 ?_
        refine Hd.seq (fun K23 hK23 => ?_)
        refine Hd.region ?_
        refine Hd.yv (y_to (v' := .bool (findV (findI x.id (s2.take 0))).2) (y_assign rfl) (by rfl)) ?_
        refine Hd.nil ?_
        refine Hd.slots [(0, _), (3, _), (4, _), (5, _), (6, _), (7, _), (9, _), (10, _), (11, _), (12, _), (13, _)] ⟨rfl, rfl, rfl, rfl, rfl, rfl, rfl, rfl, rfl, rfl, rfl, trivial⟩ ?_
        refine Hd.toK hK23 ?_
        refine Hd.seq (fun K24 hK24 => ?_)
        refine Hd.seq (fun K25 hK25 => ?_)
        refine Hd.region ?_
        refine Hd.yv (y_assign rfl) ?_
        refine Hd.nil ?_
        refine Hd.slots [(0, _), (3, _), (4, _), (5, _), (6, _), (7, _), (9, _), (10, _), (11, _), (12, _), (13, _), (14, _)] ⟨rfl, rfl, rfl, rfl, rfl, rfl, rfl, rfl, rfl, rfl, rfl, rfl, trivial⟩ ?_
        refine Hd.toK hK25 ?_
        refine Hd.block ?_
        refine Hd.loopK (ι := Nat) [(0, _), (3, _), (4, _), (5, _), (6, _), (7, _), (9, _), (10, _), (11, _), (12, _)] (fun k => [(13, .bool (findV (findI x.id (s2.take k))).2), (14, .int .i64 (k : Int))]) (fun k => pu (k ≤ s2.length) :: pt b12 (Hp.encI (findV (findI x.id (s2.take k))).1) 31 :: pt b10 (Hp.encI (findV (findI x.id s2)).1) 31 :: OwI a9 s2.length c9 s2 :: pt b6 (encO x) 63 :: CoA o qt s2 n2 :: RR b22 qt s2 n2 :: L) (fun k => s2.length - k) 0 (by repeat (first | exact trivial | refine ⟨rfl, ?_⟩)) (by repeat (first | exact trivial | refine ⟨rfl, ?_⟩)) (Ent.sep (.pure (by first | omega | (simp; done) | (simp; omega) | exact ⟨by simp, by simp⟩) enn)) ?_
        intro k
        try dsimp only
        refine Hd.pure (fun hp1 => ?_)
        try dsimp only at hp1
        refine Hd.seq (fun K26 hK26 => ?_)
        refine Hd.seq (fun K27 hK27 => ?_)
        refine Hd.region ?_
        refine Hd.yv (y_move rfl) ?_
        refine Hd.yv (y_move rfl) ?_
        refine Hd.yv (y_len Try.underlying22 rfl) ?_
        refine Hd.yv (y_lss rfl rfl) ?_
        refine Hd.nil ?_
        refine Hd.slots [(0, _), (3, _), (4, _), (5, _), (6, _), (7, _), (9, _), (10, _), (11, _), (12, _), (13, _), (14, _), (101, _)] ⟨rfl, rfl, rfl, rfl, rfl, rfl, rfl, rfl, rfl, rfl, rfl, rfl, rfl, trivial⟩ ?_
        refine Hd.toK hK27 ?_
        refine Hd.cond rfl (fun hc6 => ?_) (fun hc6 => ?_)
        ·
          try simp only [decide_eq_true_eq, decide_eq_false_iff_not, Bool.and_eq_true, Bool.or_eq_true, Bool.and_eq_false_iff, Bool.or_eq_false_iff, Bool.not_eq_true', Bool.not_eq_false', Bool.not_eq_true, Bool.not_eq_false, Int.not_lt, Int.not_le, Decidable.not_not, ne_eq] at hc6
          have hk : k < s2.length := by omega
          have hgk : s2[k]? = some (g s2 k) := g_at hk
          have hfs := find_step hF2 hk x.id
          refine Hd.skip ?_
          refine Hd.toK hK26 ?_
          refine Hd.seq (fun K28 hK28 => ?_)
          refine Hd.block ?_
          refine Hd.seq (fun K29 hK29 => ?_)
          refine Hd.quiet mixed (by kernel_rfl) ?_
          refine Hq.yv (y_move rfl) ?_
          refine Hq.yv (y_move rfl) ?_
          first | (refine Hq.yv (y_idxS Try.underlying22 sz31 rfl rfl (by first | omega | decide)) ?_) | (refine Hq.yv (y_idxR Try.underlying22 sz31 rfl rfl (by first | omega | decide) (by (first | exact RdS.own pkk | exact RdS.mono hR (Ent.sep enn)))) ?_)
          first | (refine Hq.yv (y_field' (q := 0) (ft := 3) Try.underlying31 rfl sz3 rfl rfl) ?_) | (refine Hq.yv (y_fieldR (q := 0) (ft := 3) Try.underlying31 rfl sz3 rfl rfl) ?_)
          refine Hq.yv (y_loadR1 ag3 rfl (RdS.own (ad := a9) (us := s2.flatMap Hp.encI) pkk) (flat_cells Hp.encI 3 (fun _ => rfl) hgk 0 _ rfl)) ?_
          first | (refine Hq.yv (y_field' (q := 1) (ft := 3) Try.underlying63 rfl sz3 rfl rfl) ?_) | (refine Hq.yv (y_fieldR (q := 1) (ft := 3) Try.underlying63 rfl sz3 rfl rfl) ?_)
          first | (refine Hq.yv (y_load1 ag3 rfl (Rd.pt1 pkk (by (first | rfl)))) ?_) | (refine Hq.yv (y_load1 ag3 rfl (Rd.seg1 pkk (by (first | rfl)))) ?_) | (refine Hq.yv (y_loadR1 ag3 rfl (by (first | exact RdS.own pkk | exact RdS.mono hR (Ent.sep enn))) (by (first | rfl))) ?_)
          first | (refine Hq.yv (y_eqlT rfl rfl) ?_) | (refine Hq.yv (y_eql rfl rfl) ?_)
          refine Hq.nil ?_
          refine Hd.slots [(0, _), (3, _), (4, _), (5, _), (6, _), (7, _), (9, _), (10, _), (11, _), (12, _), (13, _), (14, _), (111, _)] ⟨rfl, rfl, rfl, rfl, rfl, rfl, rfl, rfl, rfl, rfl, rfl, rfl, rfl, trivial⟩ ?_
          refine Hd.toK hK29 ?_
          refine Hd.cond rfl (fun hc7 => ?_) (fun hc7 => ?_)
          ·
            try simp only [decide_eq_true_eq, decide_eq_false_iff_not, Bool.and_eq_true, Bool.or_eq_true, Bool.and_eq_false_iff, Bool.or_eq_false_iff, Bool.not_eq_true', Bool.not_eq_false', Bool.not_eq_true, Bool.not_eq_false, Int.not_lt, Int.not_le, Decidable.not_not, ne_eq] at hc7
            have hf1 : findV (findI x.id (s2.take (k + 1))) = (g s2 k, true) := by rw [hfs, if_pos hc7]; rfl
            refine Hd.seq (fun K30 hK30 => ?_)
            refine Hd.region ?_
            refine Hd.yv (y_move rfl) ?_
            refine Hd.yv (y_move rfl) ?_
            first | (refine Hd.yv (y_idxS Try.underlying22 sz31 rfl rfl (by first | omega | decide)) ?_) | (refine Hd.yv (y_idxR Try.underlying22 sz31 rfl rfl (by first | omega | decide) (by (first | exact RdS.own pkk | exact RdS.mono hR (Ent.sep enn)))) ?_)
            refine Hd.yv (y_loadRn (vs := [_, _, _]) ag31 rfl (RdS.own (ad := a9) (us := s2.flatMap Hp.encI) pkk) (flat_cells Hp.encI 3 (fun _ => rfl) hgk) (by exact sz31) (by simp)) ?_
            refine Hd.storeA (us := Hp.encI (g s2 k)) sz31 rfl rfl rfl (encI_one _) pkk (by exact rfl) ?_
            refine Hd.nil ?_
            refine Hd.slots [(0, _), (3, _), (4, _), (5, _), (6, _), (7, _), (9, _), (10, _), (11, _), (12, _), (14, _)] ⟨rfl, rfl, rfl, rfl, rfl, rfl, rfl, rfl, rfl, rfl, rfl, trivial⟩ ?_
            refine Hd.toK hK30 ?_
            refine Hd.region ?_
            refine Hd.yv (y_to (v' := .bool (findV (findI x.id (s2.take (k + 1)))).2) (y_assign rfl) (by rw [hf1])) ?_
            refine Hd.nil ?_
            refine Hd.slots [(0, _), (3, _), (4, _), (5, _), (6, _), (7, _), (9, _), (10, _), (11, _), (12, _), (13, _), (14, _)] ⟨rfl, rfl, rfl, rfl, rfl, rfl, rfl, rfl, rfl, rfl, rfl, rfl, trivial⟩ ?_
            refine Hd.inB ?_
            refine Hd.toK hK28 ?_
            refine Hd.region ?_
            refine Hd.yv (y_move rfl) ?_
            first | (refine Hd.yv (y_addn rfl rfl (by simp only [InK]; omega)) ?_) | (refine Hd.yv (y_add rfl rfl) ?_)
            refine Hd.yv (y_assign rfl) ?_
            refine Hd.nil ?_
            refine Hd.slots [(0, _), (3, _), (4, _), (5, _), (6, _), (7, _), (9, _), (10, _), (11, _), (12, _), (13, _), (14, _)] ⟨rfl, rfl, rfl, rfl, rfl, rfl, rfl, rfl, rfl, rfl, rfl, rfl, trivial⟩ ?_
            clear hK1 hK2 hK3 hK5 hK6 hK7 hK8 hK9 hK10 hK11 hK12 hK13 hK20 hK21 hK22 hK23 hK24 hK25 hK26 hK27 hK28 hK29 hK30
            refine Hd.thenN ?_
            refine Hd.heap (pt b12 (Hp.encI (findV (findI x.id (s2.take (k + 1)))).1) 31 :: pt b10 (Hp.encI (findV (findI x.id s2)).1) 31 :: OwI a9 s2.length c9 s2 :: pt b6 (encO x) 63 :: CoA o qt s2 n2 :: RR b22 qt s2 n2 :: L) (Ent.sep (by rw [hf1]; exact enn)) ?_
            exact Hd.again (k + 1) (by first | omega | (simp only; omega) | (simp; omega)) (by repeat (first | exact trivial | refine ⟨rfl, ?_⟩)) (Ent.sep (.pure (by first | omega | (simp; done) | (simp; omega) | (dsimp only; omega)) enn))
          ·
            try simp only [decide_eq_true_eq, decide_eq_false_iff_not, Bool.and_eq_true, Bool.or_eq_true, Bool.and_eq_false_iff, Bool.or_eq_false_iff, Bool.not_eq_true', Bool.not_eq_false', Bool.not_eq_true, Bool.not_eq_false, Int.not_lt, Int.not_le, Decidable.not_not, ne_eq] at hc7
            have hf1 : findI x.id (s2.take k) = findI x.id (s2.take (k + 1)) := by rw [hfs, if_neg hc7]
            rw [hf1]
            refine Hd.skip ?_
            refine Hd.inB ?_
            refine Hd.toK hK28 ?_
            refine Hd.region ?_
            refine Hd.yv (y_move rfl) ?_
            first | (refine Hd.yv (y_addn rfl rfl (by simp only [InK]; omega)) ?_) | (refine Hd.yv (y_add rfl rfl) ?_)
            refine Hd.yv (y_assign rfl) ?_
            refine Hd.nil ?_
            refine Hd.slots [(0, _), (3, _), (4, _), (5, _), (6, _), (7, _), (9, _), (10, _), (11, _), (12, _), (13, _), (14, _)] ⟨rfl, rfl, rfl, rfl, rfl, rfl, rfl, rfl, rfl, rfl, rfl, rfl, trivial⟩ ?_
            clear hK1 hK2 hK3 hK5 hK6 hK7 hK8 hK9 hK10 hK11 hK12 hK13 hK20 hK21 hK22 hK23 hK24 hK25 hK26 hK27 hK28 hK29
            refine Hd.thenN ?_
            exact Hd.again (k + 1) (by first | omega | (simp only; omega) | (simp; omega)) (by repeat (first | exact trivial | refine ⟨rfl, ?_⟩)) (Ent.sep (.pure (by first | omega | (simp; done) | (simp; omega) | (dsimp only; omega)) enn))
        ·
          try simp only [decide_eq_true_eq, decide_eq_false_iff_not, Bool.and_eq_true, Bool.or_eq_true, Bool.and_eq_false_iff, Bool.or_eq_false_iff, Bool.not_eq_true', Bool.not_eq_false', Bool.not_eq_true, Bool.not_eq_false, Int.not_lt, Int.not_le, Decidable.not_not, ne_eq] at hc6
          have hk : k = s2.length := by omega
          have hall : s2.take k = s2 := List.take_of_length_le (by omega)
          rw [hall]
          refine Hd.exit ?_
          refine Hd.thenExit ?_
          refine Hd.thenExit ?_
          refine Hd.inBexit ?_
          refine Hd.toK hK24 ?_
          refine Hd.seq (fun K31 hK31 => ?_)
          refine Hd.region ?_
          refine Hd.yv (y_move rfl) ?_
          refine Hd.callE rfl fk43 (ctop_ct _ o qt s2 n2) (Ent.sep enn) ?_
          intro _
          refine Hd.yv (y_move rfl) ?_
          refine Hd.yv (y_extract rfl rfl) ?_
          refine Hd.yv (y_extract rfl rfl) ?_
          refine Hd.alloc zr31 (fun b15 => ?_)
          refine Hd.storeA (us := Hp.encI (topI s2).1) sz31 rfl rfl rfl (encI_one _) pkk (by exact rfl) ?_
          refine Hd.yv (y_assign rfl) ?_
          refine Hd.nil ?_
          refine Hd.slots [(0, _), (3, _), (4, _), (5, _), (7, _), (9, _), (10, _), (11, _), (12, _), (13, _), (15, _), (16, _)] ⟨rfl, rfl, rfl, rfl, rfl, rfl, rfl, rfl, rfl, rfl, rfl, rfl, trivial⟩ ?_
          refine Hd.toK hK31 ?_
          refine Hd.seq (fun K32 hK32 => ?_)
          refine Hd.drawsH ([pt b10 (Hp.encI (findV (findI x.id s2)).1) 31, pt b12 (Hp.encI (findV (findI x.id s2)).1) 31, pt b15 (Hp.encI (topI s2).1) 31, OwI a9 s2.length c9 s2]) (fun _ => true) mixed ?_
          simp only [List.length, Nat.zero_add, Nat.reduceAdd]
          refine Hd.takeH 0 rfl (by kernel_rfl) (by kernel_rfl) (by kernel_rfl) (by kernel_rfl) (y_move rfl) (fun _ _ => rfl) (Ent.sep enn) ?_
          refine Hd.takeH 1 rfl (by kernel_rfl) (by kernel_rfl) (by kernel_rfl) (by kernel_rfl) (y_not rfl) (fun _ _ => rfl) (Ent.sep enn) ?_
          refine Hd.takeH 2 rfl (by kernel_rfl) (by kernel_rfl) (by kernel_rfl) (by kernel_rfl) (y_move rfl) (fun _ _ => rfl) (Ent.sep enn) ?_
          first | (refine Hd.takegH 3 rfl (by kernel_rfl) (by kernel_rfl) (by kernel_rfl) (by kernel_rfl) rfl rfl (y_loadn (us := [_, _, _]) ag31 rfl (Rd.pt pkk (by (first | (intro j v e; rcases j with _|_|_|_|_|_|_|_|_|_|_|_|j <;> first | exact e | exact absurd e (by simp))))) (by exact sz31)) (fun _ _ => rfl) (Ent.sep enn) ?_) | (refine Hd.takegH 3 rfl (by kernel_rfl) (by kernel_rfl) (by kernel_rfl) (by kernel_rfl) rfl rfl (y_loadn (us := [_, _, _]) ag31 rfl (Rd.seg pkk (by (first | (intro j v e; rcases j with _|_|_|_|_|_|_|_|_|_|_|_|j <;> first | exact e | exact absurd e (by simp))))) (by exact sz31)) (fun _ _ => rfl) (Ent.sep enn) ?_) | (refine Hd.takegH 3 rfl (by kernel_rfl) (by kernel_rfl) (by kernel_rfl) (by kernel_rfl) rfl rfl (y_loadRn ag31 rfl (by (first | exact RdS.own pkk | exact RdS.mono hR (Ent.sep enn))) (by (first | (intro j v e; rcases j with _|_|_|_|_|_|_|_|_|_|_|_|j <;> first | exact e | exact absurd e (by simp)))) (by exact sz31) (by simp)) (fun _ _ => rfl) (Ent.sep enn) ?_)
          first | (refine Hd.takegH 4 rfl (by kernel_rfl) (by kernel_rfl) (by kernel_rfl) (by kernel_rfl) rfl rfl (y_loadn (us := [_, _, _]) ag31 rfl (Rd.pt pkk (by (first | (intro j v e; rcases j with _|_|_|_|_|_|_|_|_|_|_|_|j <;> first | exact e | exact absurd e (by simp))))) (by exact sz31)) (fun _ _ => rfl) (Ent.sep enn) ?_) | (refine Hd.takegH 4 rfl (by kernel_rfl) (by kernel_rfl) (by kernel_rfl) (by kernel_rfl) rfl rfl (y_loadn (us := [_, _, _]) ag31 rfl (Rd.seg pkk (by (first | (intro j v e; rcases j with _|_|_|_|_|_|_|_|_|_|_|_|j <;> first | exact e | exact absurd e (by simp))))) (by exact sz31)) (fun _ _ => rfl) (Ent.sep enn) ?_) | (refine Hd.takegH 4 rfl (by kernel_rfl) (by kernel_rfl) (by kernel_rfl) (by kernel_rfl) rfl rfl (y_loadRn ag31 rfl (by (first | exact RdS.own pkk | exact RdS.mono hR (Ent.sep enn))) (by (first | (intro j v e; rcases j with _|_|_|_|_|_|_|_|_|_|_|_|j <;> first | exact e | exact absurd e (by simp)))) (by exact sz31) (by simp)) (fun _ _ => rfl) (Ent.sep enn) ?_)
          refine Hd.takegH 5 rfl (by kernel_rfl) (by kernel_rfl) (by kernel_rfl) (by kernel_rfl) rfl rfl (y_to (v' := .bool false) (y_neq_agg rfl rfl eqt31 rfl ⟨rfl, rfl⟩) (by (rw [allEq_encI]; simp))) (fun _ _ => rfl) (Ent.sep enn) ?_
          first | (refine Hd.takeH 6 rfl (by kernel_rfl) (by kernel_rfl) (by kernel_rfl) (by kernel_rfl) (y_pickT rfl rfl) (fun _ _ => rfl) (Ent.sep enn) ?_) | (refine Hd.takeH 6 rfl (by kernel_rfl) (by kernel_rfl) (by kernel_rfl) (by kernel_rfl) (y_pickF rfl rfl) (fun _ _ => rfl) (Ent.sep enn) ?_) | (refine Hd.takeH 6 rfl (by kernel_rfl) (by kernel_rfl) (by kernel_rfl) (by kernel_rfl) (y_pickb rfl rfl rfl) (fun _ _ => rfl) (Ent.sep enn) ?_) | (refine Hd.takeH 6 rfl (by kernel_rfl) (by kernel_rfl) (by kernel_rfl) (by kernel_rfl) (y_pick rfl rfl rfl) (fun _ _ => rfl) (Ent.sep enn) ?_)
          refine Hd.takeH 7 rfl (by kernel_rfl) (by kernel_rfl) (by kernel_rfl) (by kernel_rfl) (y_move rfl) (fun _ _ => rfl) (Ent.sep enn) ?_
          refine Hd.takegH 8 rfl (by kernel_rfl) (by kernel_rfl) (by kernel_rfl) (by kernel_rfl) rfl rfl (y_move rfl) (fun _ _ => rfl) (Ent.sep enn) ?_
          refine Hd.takegH 9 rfl (by kernel_rfl) (by kernel_rfl) (by kernel_rfl) (by kernel_rfl) rfl rfl (y_move rfl) (fun _ _ => rfl) (Ent.sep enn) ?_
          refine Hd.takegH 10 rfl (by kernel_rfl) (by kernel_rfl) (by kernel_rfl) (by kernel_rfl) rfl rfl (y_to (v' := .bool false) (y_neqb Try.underlying4 rfl rfl) (by simp)) (fun _ _ => rfl) (Ent.sep enn) ?_
          first | (refine Hd.takeH 11 rfl (by kernel_rfl) (by kernel_rfl) (by kernel_rfl) (by kernel_rfl) (y_pickT rfl rfl) (fun _ _ => rfl) (Ent.sep enn) ?_) | (refine Hd.takeH 11 rfl (by kernel_rfl) (by kernel_rfl) (by kernel_rfl) (by kernel_rfl) (y_pickF rfl rfl) (fun _ _ => rfl) (Ent.sep enn) ?_) | (refine Hd.takeH 11 rfl (by kernel_rfl) (by kernel_rfl) (by kernel_rfl) (by kernel_rfl) (y_pickb rfl rfl rfl) (fun _ _ => rfl) (Ent.sep enn) ?_) | (refine Hd.takeH 11 rfl (by kernel_rfl) (by kernel_rfl) (by kernel_rfl) (by kernel_rfl) (y_pick rfl rfl rfl) (fun _ _ => rfl) (Ent.sep enn) ?_)
          refine Hd.takeH 12 rfl (by kernel_rfl) (by kernel_rfl) (by kernel_rfl) (by kernel_rfl) (y_move rfl) (fun _ _ => rfl) (Ent.sep enn) ?_
          refine Hd.takegH 13 rfl (by kernel_rfl) (by kernel_rfl) (by kernel_rfl) (by kernel_rfl) rfl rfl (y_move rfl) (fun _ _ => rfl) (Ent.sep enn) ?_
          refine Hd.takegH 14 rfl (by kernel_rfl) (by kernel_rfl) (by kernel_rfl) (by kernel_rfl) rfl rfl (y_move rfl) (fun _ _ => rfl) (Ent.sep enn) ?_
          refine Hd.takegH 15 rfl (by kernel_rfl) (by kernel_rfl) (by kernel_rfl) (by kernel_rfl) rfl rfl (y_len Try.underlying22 rfl) (fun _ _ => rfl) (Ent.sep enn) ?_
          refine Hd.takegH 16 rfl (by kernel_rfl) (by kernel_rfl) (by kernel_rfl) (by kernel_rfl) rfl rfl (y_gtr rfl rfl) (fun _ _ => rfl) (Ent.sep enn) ?_
          refine Hd.takegH 17 rfl (by kernel_rfl) (by kernel_rfl) (by kernel_rfl) (by kernel_rfl) rfl rfl (y_to (v' := .bool false) (y_neqb Try.underlying4 rfl rfl) (by (rw [top_len]; simp))) (fun _ _ => rfl) (Ent.sep enn) ?_
          first | (refine Hd.takeH 18 rfl (by kernel_rfl) (by kernel_rfl) (by kernel_rfl) (by kernel_rfl) (y_pickT rfl rfl) (fun _ _ => rfl) (Ent.sep enn) ?_) | (refine Hd.takeH 18 rfl (by kernel_rfl) (by kernel_rfl) (by kernel_rfl) (by kernel_rfl) (y_pickF rfl rfl) (fun _ _ => rfl) (Ent.sep enn) ?_) | (refine Hd.takeH 18 rfl (by kernel_rfl) (by kernel_rfl) (by kernel_rfl) (by kernel_rfl) (y_pickb rfl rfl rfl) (fun _ _ => rfl) (Ent.sep enn) ?_) | (refine Hd.takeH 18 rfl (by kernel_rfl) (by kernel_rfl) (by kernel_rfl) (by kernel_rfl) (y_pick rfl rfl rfl) (fun _ _ => rfl) (Ent.sep enn) ?_)
          refine Hd.takeH 19 rfl (by kernel_rfl) (by kernel_rfl) (by kernel_rfl) (by kernel_rfl) (y_move rfl) (fun _ _ => rfl) (Ent.sep enn) ?_
          refine Hd.takegH 20 rfl (by kernel_rfl) (by kernel_rfl) (by kernel_rfl) (by kernel_rfl) rfl rfl (y_move rfl) (fun _ _ => rfl) (Ent.sep enn) ?_
          refine Hd.takegH 21 rfl (by kernel_rfl) (by kernel_rfl) (by kernel_rfl) (by kernel_rfl) rfl rfl (y_move rfl) (fun _ _ => rfl) (Ent.sep enn) ?_
          refine Hd.part (gd := 142) rfl (fun hg31_142 => ?_) (fun hg31_142 => ?_)
          ·
            try simp only [decide_eq_true_eq, decide_eq_false_iff_not, Bool.and_eq_true, Bool.or_eq_true, Bool.and_eq_false_iff, Bool.or_eq_false_iff, Bool.not_eq_true', Bool.not_eq_false', Bool.not_eq_true, Bool.not_eq_false, Int.not_lt, Int.not_le, Decidable.not_not, ne_eq] at hg31_142
            have h0 : 0 < s2.length := by
              cases hs : s2 with
              | nil => rw [hs] at hg31_142; simp [topI] at hg31_142
              | cons x r => simp
            have hg0 : s2[0]? = some (g s2 0) := g_at h0
            have ht1 : (topI s2).1 = g s2 0 := by cases hs : s2 with | nil => rw [hs] at h0; simp at h0 | cons x r => rfl
            first | (refine Hd.takegH 22 rfl (by kernel_rfl) (by kernel_rfl) (by kernel_rfl) (by kernel_rfl) rfl rfl (y_loadn (us := [_, _, _]) ag31 rfl (Rd.pt pkk (by (first | (intro j v e; rcases j with _|_|_|_|_|_|_|_|_|_|_|_|j <;> first | exact e | exact absurd e (by simp))))) (by exact sz31)) (fun _ _ => rfl) (Ent.sep enn) ?_) | (refine Hd.takegH 22 rfl (by kernel_rfl) (by kernel_rfl) (by kernel_rfl) (by kernel_rfl) rfl rfl (y_loadn (us := [_, _, _]) ag31 rfl (Rd.seg pkk (by (first | (intro j v e; rcases j with _|_|_|_|_|_|_|_|_|_|_|_|j <;> first | exact e | exact absurd e (by simp))))) (by exact sz31)) (fun _ _ => rfl) (Ent.sep enn) ?_) | (refine Hd.takegH 22 rfl (by kernel_rfl) (by kernel_rfl) (by kernel_rfl) (by kernel_rfl) rfl rfl (y_loadRn ag31 rfl (by (first | exact RdS.own pkk | exact RdS.mono hR (Ent.sep enn))) (by (first | (intro j v e; rcases j with _|_|_|_|_|_|_|_|_|_|_|_|j <;> first | exact e | exact absurd e (by simp)))) (by exact sz31) (by simp)) (fun _ _ => rfl) (Ent.sep enn) ?_)
            refine Hd.takegH 23 rfl (by kernel_rfl) (by kernel_rfl) (by kernel_rfl) (by kernel_rfl) rfl rfl (y_move rfl) (fun _ _ => rfl) (Ent.sep enn) ?_
            first | (refine Hd.takegH 24 rfl (by kernel_rfl) (by kernel_rfl) (by kernel_rfl) (by kernel_rfl) rfl rfl (y_idxS Try.underlying22 sz31 rfl rfl (by first | exact (show (0 : Nat) < _ by omega) | omega | decide)) (fun _ _ => rfl) (Ent.sep enn) ?_) | (refine Hd.takegH 24 rfl (by kernel_rfl) (by kernel_rfl) (by kernel_rfl) (by kernel_rfl) rfl rfl (y_idxR Try.underlying22 sz31 rfl rfl (by first | exact (show (0 : Nat) < _ by omega) | omega | decide) (by (first | exact RdS.own pkk | exact RdS.mono hR (Ent.sep enn)))) (fun _ _ => rfl) (Ent.sep enn) ?_)
            refine Hd.onlyH 25 rfl (by kernel_rfl) ?_
            refine Hd.yg rfl rfl (y_loadRn (vs := [_, _, _]) ag31 rfl (RdS.own (ad := a9) (us := s2.flatMap Hp.encI) pkk) (by have h := flat_cells Hp.encI 3 (fun _ => rfl) hg0; rwa [Nat.zero_mul] at h ⊢) (by exact sz31) (by simp)) ?_
            refine Hd.nil ?_
            refine Hd.thenN ?_
            refine Hd.heldK (J := (fun _ => true)) (i := 25) (Ent.sep enn) ?_
            refine Hd.takegH 26 rfl (by kernel_rfl) (by kernel_rfl) (by kernel_rfl) (by kernel_rfl) rfl rfl (y_to (v' := .bool false) (y_neq_agg rfl rfl eqt31 rfl ⟨rfl, rfl⟩) (by (exact congrArg Value.bool ((congrArg (fun z => !(allEq (Hp.encI z) (Hp.encI (g s2 0)))) ht1).trans ((congrArg Bool.not (allEq_encI _ _)).trans (by simp)))))) (fun _ _ => rfl) (Ent.sep enn) ?_
            first | (refine Hd.takegH 27 rfl (by kernel_rfl) (by kernel_rfl) (by kernel_rfl) (by kernel_rfl) rfl rfl (y_pickT rfl rfl) (fun _ _ => rfl) (Ent.sep enn) ?_) | (refine Hd.takegH 27 rfl (by kernel_rfl) (by kernel_rfl) (by kernel_rfl) (by kernel_rfl) rfl rfl (y_pickF rfl rfl) (fun _ _ => rfl) (Ent.sep enn) ?_) | (refine Hd.takegH 27 rfl (by kernel_rfl) (by kernel_rfl) (by kernel_rfl) (by kernel_rfl) rfl rfl (y_pickb rfl rfl rfl) (fun _ _ => rfl) (Ent.sep enn) ?_) | (refine Hd.takegH 27 rfl (by kernel_rfl) (by kernel_rfl) (by kernel_rfl) (by kernel_rfl) rfl rfl (y_pick rfl rfl rfl) (fun _ _ => rfl) (Ent.sep enn) ?_)
            first | (refine Hd.takeH 28 rfl (by kernel_rfl) (by kernel_rfl) (by kernel_rfl) (by kernel_rfl) (y_pickT rfl rfl) (fun _ _ => rfl) (Ent.sep enn) ?_) | (refine Hd.takeH 28 rfl (by kernel_rfl) (by kernel_rfl) (by kernel_rfl) (by kernel_rfl) (y_pickF rfl rfl) (fun _ _ => rfl) (Ent.sep enn) ?_) | (refine Hd.takeH 28 rfl (by kernel_rfl) (by kernel_rfl) (by kernel_rfl) (by kernel_rfl) (y_pickb rfl rfl rfl) (fun _ _ => rfl) (Ent.sep enn) ?_) | (refine Hd.takeH 28 rfl (by kernel_rfl) (by kernel_rfl) (by kernel_rfl) (by kernel_rfl) (y_pick rfl rfl rfl) (fun _ _ => rfl) (Ent.sep enn) ?_)
            refine Hd.takeH 29 rfl (by kernel_rfl) (by kernel_rfl) (by kernel_rfl) (by kernel_rfl) (y_move rfl) (fun _ _ => rfl) (Ent.sep enn) ?_
            refine Hd.takegH 30 rfl (by kernel_rfl) (by kernel_rfl) (by kernel_rfl) (by kernel_rfl) rfl rfl (y_move rfl) (fun _ _ => rfl) (Ent.sep enn) ?_
            refine Hd.takegH 32 rfl (by kernel_rfl) (by kernel_rfl) (by kernel_rfl) (by kernel_rfl) rfl rfl (y_move rfl) (fun _ _ => rfl) (Ent.sep enn) ?_
            refine Hd.takegH 33 rfl (by kernel_rfl) (by kernel_rfl) (by kernel_rfl) (by kernel_rfl) rfl rfl (y_len Try.underlying22 rfl) (fun _ _ => rfl) (Ent.sep enn) ?_
            refine Hd.onlyH 31 rfl (by kernel_rfl) ?_
            refine Hd.unguard rfl rfl ?_
            refine Hd.callE rfl fk45 (clen_ct _ o qt s2 n2) (Ent.sep enn) ?_
            intro _
            refine Hd.nil ?_
            refine Hd.thenN ?_
            refine Hd.heldK (J := (fun _ => true)) (i := 31) (Ent.sep enn) ?_
            refine Hd.takegH 34 rfl (by kernel_rfl) (by kernel_rfl) (by kernel_rfl) (by kernel_rfl) rfl rfl (y_to (y_neq rfl rfl) (congrArg Value.bool (decide_eq_false ((fun h => h rfl))))) (fun _ _ => rfl) (Ent.sep enn) ?_
            first | (refine Hd.takeH 35 rfl (by kernel_rfl) (by kernel_rfl) (by kernel_rfl) (by kernel_rfl) (y_pickT rfl rfl) (fun _ _ => rfl) (Ent.sep enn) ?_) | (refine Hd.takeH 35 rfl (by kernel_rfl) (by kernel_rfl) (by kernel_rfl) (by kernel_rfl) (y_pickF rfl rfl) (fun _ _ => rfl) (Ent.sep enn) ?_) | (refine Hd.takeH 35 rfl (by kernel_rfl) (by kernel_rfl) (by kernel_rfl) (by kernel_rfl) (y_pickb rfl rfl rfl) (fun _ _ => rfl) (Ent.sep enn) ?_) | (refine Hd.takeH 35 rfl (by kernel_rfl) (by kernel_rfl) (by kernel_rfl) (by kernel_rfl) (y_pick rfl rfl rfl) (fun _ _ => rfl) (Ent.sep enn) ?_)
            refine Hd.takeH 36 rfl (by kernel_rfl) (by kernel_rfl) (by kernel_rfl) (by kernel_rfl) (y_move rfl) (fun _ _ => rfl) (Ent.sep enn) ?_
            refine Hd.takegH 37 rfl (by kernel_rfl) (by kernel_rfl) (by kernel_rfl) (by kernel_rfl) rfl rfl (y_move rfl) (fun _ _ => rfl) (Ent.sep enn) ?_
            refine Hd.takegH 39 rfl (by kernel_rfl) (by kernel_rfl) (by kernel_rfl) (by kernel_rfl) rfl rfl (y_move rfl) (fun _ _ => rfl) (Ent.sep enn) ?_
            refine Hd.onlyH 38 rfl (by kernel_rfl) ?_
            refine Hd.unguard rfl rfl ?_
            refine Hd.callE rfl fk44 (call_ct _ o qt s2 n2) (Ent.sep enn) ?_
            rintro ⟨a38, c38⟩
            dsimp only
            refine Hd.nil ?_
            refine Hd.thenN ?_
            refine Hd.heldK (J := (fun _ => true)) (i := 38) (Ent.sep enn) ?_
            refine Hd.onlyH 40 rfl (by kernel_rfl) ?_
            refine Hd.unguard rfl rfl ?_
            refine Hd.callE rfl fk42 (same_ct _ a38 s2.length c38 s2 rfl (by omega) ?h1 a9 s2.length c9 s2 rfl ?h2) (Ent.sep enn) ?_
            case h1 => exact RdS.own (ad := a38) pkk
            case h2 => exact RdS.own (ad := a9) pkk
            intro bb
            refine Hd.pure (fun hbb => ?_)
            obtain rfl : bb = true := by rw [hbb]; simp
            refine Hd.nil ?_
            refine Hd.thenN ?_
            refine Hd.heldK (J := (fun _ => true)) (i := 40) (Ent.sep enn) ?_
            refine Hd.takegH 41 rfl (by kernel_rfl) (by kernel_rfl) (by kernel_rfl) (by kernel_rfl) rfl rfl (y_not rfl) (fun _ _ => rfl) (Ent.sep enn) ?_
            first | (refine Hd.takeH 42 rfl (by kernel_rfl) (by kernel_rfl) (by kernel_rfl) (by kernel_rfl) (y_pickT rfl rfl) (fun _ _ => rfl) (Ent.sep enn) ?_) | (refine Hd.takeH 42 rfl (by kernel_rfl) (by kernel_rfl) (by kernel_rfl) (by kernel_rfl) (y_pickF rfl rfl) (fun _ _ => rfl) (Ent.sep enn) ?_) | (refine Hd.takeH 42 rfl (by kernel_rfl) (by kernel_rfl) (by kernel_rfl) (by kernel_rfl) (y_pickb rfl rfl rfl) (fun _ _ => rfl) (Ent.sep enn) ?_) | (refine Hd.takeH 42 rfl (by kernel_rfl) (by kernel_rfl) (by kernel_rfl) (by kernel_rfl) (y_pick rfl rfl rfl) (fun _ _ => rfl) (Ent.sep enn) ?_)
            refine Hd.takeH 43 rfl (by kernel_rfl) (by kernel_rfl) (by kernel_rfl) (by kernel_rfl) (y_move rfl) (fun _ _ => rfl) (Ent.sep enn) ?_
            refine Hd.takegH 44 rfl (by kernel_rfl) (by kernel_rfl) (by kernel_rfl) (by kernel_rfl) rfl rfl (y_move rfl) (fun _ _ => rfl) (Ent.sep enn) ?_
            refine Hd.takegH 46 rfl (by kernel_rfl) (by kernel_rfl) (by kernel_rfl) (by kernel_rfl) rfl rfl (y_move rfl) (fun _ _ => rfl) (Ent.sep enn) ?_
            refine Hd.onlyH 45 rfl (by kernel_rfl) ?_
            refine Hd.unguard rfl rfl ?_
            refine Hd.callE rfl fk46 (cheap_ct _ o qt s2 n2) (Ent.sep enn) ?_
            intro _
            refine Hd.nil ?_
            refine Hd.thenN ?_
            refine Hd.heldK (J := (fun _ => true)) (i := 45) (Ent.sep enn) ?_
            refine Hd.onlyH 47 rfl (by kernel_rfl) ?_
            refine Hd.unguard rfl rfl ?_
            refine Hd.callE rfl fk53 (rheap_ct _ b22 qt s2 n2 hcf2) (Ent.sep enn) ?_
            intro _
            refine Hd.nil ?_
            refine Hd.thenN ?_
            refine Hd.heldK (J := (fun _ => true)) (i := 47) (Ent.sep enn) ?_
            refine Hd.takegH 48 rfl (by kernel_rfl) (by kernel_rfl) (by kernel_rfl) (by kernel_rfl) rfl rfl (y_to (y_neq rfl rfl) (congrArg Value.bool (decide_eq_false ((fun h => h rfl))))) (fun _ _ => rfl) (Ent.sep enn) ?_
            first | (refine Hd.takeH 49 rfl (by kernel_rfl) (by kernel_rfl) (by kernel_rfl) (by kernel_rfl) (y_pickT rfl rfl) (fun _ _ => rfl) (Ent.sep enn) ?_) | (refine Hd.takeH 49 rfl (by kernel_rfl) (by kernel_rfl) (by kernel_rfl) (by kernel_rfl) (y_pickF rfl rfl) (fun _ _ => rfl) (Ent.sep enn) ?_) | (refine Hd.takeH 49 rfl (by kernel_rfl) (by kernel_rfl) (by kernel_rfl) (by kernel_rfl) (y_pickb rfl rfl rfl) (fun _ _ => rfl) (Ent.sep enn) ?_) | (refine Hd.takeH 49 rfl (by kernel_rfl) (by kernel_rfl) (by kernel_rfl) (by kernel_rfl) (y_pick rfl rfl rfl) (fun _ _ => rfl) (Ent.sep enn) ?_)
            refine Hd.endH (by kernel_rfl) ?_
            refine Hd.slots [(0, _), (3, _), (4, _), (5, _), (170, _)] ⟨rfl, rfl, rfl, rfl, rfl, trivial⟩ ?_
            refine Hd.toK hK32 ?_
            refine Hd.condF rfl ?_
            refine Hd.skip ?_
            refine Hd.inB ?_
            refine Hd.toK hK11 ?_
            refine Hd.region ?_
            refine Hd.yv (y_move rfl) ?_
            first | (refine Hd.yv (y_addn rfl rfl (by simp only [InK]; omega)) ?_) | (refine Hd.yv (y_add rfl rfl) ?_)
            refine Hd.yv (y_assign rfl) ?_
            refine Hd.nil ?_
            refine Hd.slots [(0, _), (3, _), (4, _), (5, _)] ⟨rfl, rfl, rfl, rfl, trivial⟩ ?_
            clear hK1 hK2 hK3 hK5 hK6 hK7 hK8 hK9 hK10 hK11 hK12 hK13 hK20 hK21 hK22 hK23 hK24 hK25 hK26 hK27 hK31 hK32
            refine Hd.thenN ?_
            exact Hd.again (i + 1, qt, s2, n2) (by first | omega | (simp only; omega) | (simp; omega)) (by repeat (first | exact trivial | refine ⟨rfl, ?_⟩)) (Ent.sep (.pure ⟨hi, by show s2.length ≤ i + 1; omega, by show n2 ≤ ((i + 1 : Nat) : Int); omega⟩ enn))
          ·
            try simp only [decide_eq_true_eq, decide_eq_false_iff_not, Bool.and_eq_true, Bool.or_eq_true, Bool.and_eq_false_iff, Bool.or_eq_false_iff, Bool.not_eq_true', Bool.not_eq_false', Bool.not_eq_true, Bool.not_eq_false, Int.not_lt, Int.not_le, Decidable.not_not, ne_eq] at hg31_142
            refine Hd.takenH 22 rfl (by kernel_rfl) (by kernel_rfl) (by kernel_rfl) (by kernel_rfl) rfl rfl rfl (fun _ _ => rfl) (Ent.sep enn) ?_
            refine Hd.takenH 23 rfl (by kernel_rfl) (by kernel_rfl) (by kernel_rfl) (by kernel_rfl) rfl rfl rfl (fun _ _ => rfl) (Ent.sep enn) ?_
            refine Hd.takenH 24 rfl (by kernel_rfl) (by kernel_rfl) (by kernel_rfl) (by kernel_rfl) rfl rfl rfl (fun _ _ => rfl) (Ent.sep enn) ?_
            refine Hd.onlyH 25 rfl (by kernel_rfl) ?_
            refine Hd.ng rfl rfl rfl ?_
            refine Hd.nil ?_
            refine Hd.thenN ?_
            refine Hd.heldK (J := (fun _ => true)) (i := 25) (Ent.sep enn) ?_
            refine Hd.takenH 26 rfl (by kernel_rfl) (by kernel_rfl) (by kernel_rfl) (by kernel_rfl) rfl rfl rfl (fun _ _ => rfl) (Ent.sep enn) ?_
            first | (refine Hd.takegH 27 rfl (by kernel_rfl) (by kernel_rfl) (by kernel_rfl) (by kernel_rfl) rfl rfl (y_pickT rfl rfl) (fun _ _ => rfl) (Ent.sep enn) ?_) | (refine Hd.takegH 27 rfl (by kernel_rfl) (by kernel_rfl) (by kernel_rfl) (by kernel_rfl) rfl rfl (y_pickF rfl rfl) (fun _ _ => rfl) (Ent.sep enn) ?_) | (refine Hd.takegH 27 rfl (by kernel_rfl) (by kernel_rfl) (by kernel_rfl) (by kernel_rfl) rfl rfl (y_pickb rfl rfl rfl) (fun _ _ => rfl) (Ent.sep enn) ?_) | (refine Hd.takegH 27 rfl (by kernel_rfl) (by kernel_rfl) (by kernel_rfl) (by kernel_rfl) rfl rfl (y_pick rfl rfl rfl) (fun _ _ => rfl) (Ent.sep enn) ?_)
            first | (refine Hd.takeH 28 rfl (by kernel_rfl) (by kernel_rfl) (by kernel_rfl) (by kernel_rfl) (y_pickT rfl rfl) (fun _ _ => rfl) (Ent.sep enn) ?_) | (refine Hd.takeH 28 rfl (by kernel_rfl) (by kernel_rfl) (by kernel_rfl) (by kernel_rfl) (y_pickF rfl rfl) (fun _ _ => rfl) (Ent.sep enn) ?_) | (refine Hd.takeH 28 rfl (by kernel_rfl) (by kernel_rfl) (by kernel_rfl) (by kernel_rfl) (y_pickb rfl rfl rfl) (fun _ _ => rfl) (Ent.sep enn) ?_) | (refine Hd.takeH 28 rfl (by kernel_rfl) (by kernel_rfl) (by kernel_rfl) (by kernel_rfl) (y_pick rfl rfl rfl) (fun _ _ => rfl) (Ent.sep enn) ?_)
            refine Hd.takeH 29 rfl (by kernel_rfl) (by kernel_rfl) (by kernel_rfl) (by kernel_rfl) (y_move rfl) (fun _ _ => rfl) (Ent.sep enn) ?_
            refine Hd.takegH 30 rfl (by kernel_rfl) (by kernel_rfl) (by kernel_rfl) (by kernel_rfl) rfl rfl (y_move rfl) (fun _ _ => rfl) (Ent.sep enn) ?_
            refine Hd.takegH 32 rfl (by kernel_rfl) (by kernel_rfl) (by kernel_rfl) (by kernel_rfl) rfl rfl (y_move rfl) (fun _ _ => rfl) (Ent.sep enn) ?_
            refine Hd.takegH 33 rfl (by kernel_rfl) (by kernel_rfl) (by kernel_rfl) (by kernel_rfl) rfl rfl (y_len Try.underlying22 rfl) (fun _ _ => rfl) (Ent.sep enn) ?_
            refine Hd.onlyH 31 rfl (by kernel_rfl) ?_
            refine Hd.unguard rfl rfl ?_
            refine Hd.callE rfl fk45 (clen_ct _ o qt s2 n2) (Ent.sep enn) ?_
            intro _
            refine Hd.nil ?_
            refine Hd.thenN ?_
            refine Hd.heldK (J := (fun _ => true)) (i := 31) (Ent.sep enn) ?_
            refine Hd.takegH 34 rfl (by kernel_rfl) (by kernel_rfl) (by kernel_rfl) (by kernel_rfl) rfl rfl (y_to (y_neq rfl rfl) (congrArg Value.bool (decide_eq_false ((fun h => h rfl))))) (fun _ _ => rfl) (Ent.sep enn) ?_
            first | (refine Hd.takeH 35 rfl (by kernel_rfl) (by kernel_rfl) (by kernel_rfl) (by kernel_rfl) (y_pickT rfl rfl) (fun _ _ => rfl) (Ent.sep enn) ?_) | (refine Hd.takeH 35 rfl (by kernel_rfl) (by kernel_rfl) (by kernel_rfl) (by kernel_rfl) (y_pickF rfl rfl) (fun _ _ => rfl) (Ent.sep enn) ?_) | (refine Hd.takeH 35 rfl (by kernel_rfl) (by kernel_rfl) (by kernel_rfl) (by kernel_rfl) (y_pickb rfl rfl rfl) (fun _ _ => rfl) (Ent.sep enn) ?_) | (refine Hd.takeH 35 rfl (by kernel_rfl) (by kernel_rfl) (by kernel_rfl) (by kernel_rfl) (y_pick rfl rfl rfl) (fun _ _ => rfl) (Ent.sep enn) ?_)
            refine Hd.takeH 36 rfl (by kernel_rfl) (by kernel_rfl) (by kernel_rfl) (by kernel_rfl) (y_move rfl) (fun _ _ => rfl) (Ent.sep enn) ?_
            refine Hd.takegH 37 rfl (by kernel_rfl) (by kernel_rfl) (by kernel_rfl) (by kernel_rfl) rfl rfl (y_move rfl) (fun _ _ => rfl) (Ent.sep enn) ?_
            refine Hd.takegH 39 rfl (by kernel_rfl) (by kernel_rfl) (by kernel_rfl) (by kernel_rfl) rfl rfl (y_move rfl) (fun _ _ => rfl) (Ent.sep enn) ?_
            refine Hd.onlyH 38 rfl (by kernel_rfl) ?_
            refine Hd.unguard rfl rfl ?_
            refine Hd.callE rfl fk44 (call_ct _ o qt s2 n2) (Ent.sep enn) ?_
            rintro ⟨a38, c38⟩
            dsimp only
            refine Hd.nil ?_
            refine Hd.thenN ?_
            refine Hd.heldK (J := (fun _ => true)) (i := 38) (Ent.sep enn) ?_
            refine Hd.onlyH 40 rfl (by kernel_rfl) ?_
            refine Hd.unguard rfl rfl ?_
            refine Hd.callE rfl fk42 (same_ct _ a38 s2.length c38 s2 rfl (by omega) ?h1 a9 s2.length c9 s2 rfl ?h2) (Ent.sep enn) ?_
            case h1 => exact RdS.own (ad := a38) pkk
            case h2 => exact RdS.own (ad := a9) pkk
            intro bb
            refine Hd.pure (fun hbb => ?_)
            obtain rfl : bb = true := by rw [hbb]; simp
            refine Hd.nil ?_
            refine Hd.thenN ?_
            refine Hd.heldK (J := (fun _ => true)) (i := 40) (Ent.sep enn) ?_
            refine Hd.takegH 41 rfl (by kernel_rfl) (by kernel_rfl) (by kernel_rfl) (by kernel_rfl) rfl rfl (y_not rfl) (fun _ _ => rfl) (Ent.sep enn) ?_
            first | (refine Hd.takeH 42 rfl (by kernel_rfl) (by kernel_rfl) (by kernel_rfl) (by kernel_rfl) (y_pickT rfl rfl) (fun _ _ => rfl) (Ent.sep enn) ?_) | (refine Hd.takeH 42 rfl (by kernel_rfl) (by kernel_rfl) (by kernel_rfl) (by kernel_rfl) (y_pickF rfl rfl) (fun _ _ => rfl) (Ent.sep enn) ?_) | (refine Hd.takeH 42 rfl (by kernel_rfl) (by kernel_rfl) (by kernel_rfl) (by kernel_rfl) (y_pickb rfl rfl rfl) (fun _ _ => rfl) (Ent.sep enn) ?_) | (refine Hd.takeH 42 rfl (by kernel_rfl) (by kernel_rfl) (by kernel_rfl) (by kernel_rfl) (y_pick rfl rfl rfl) (fun _ _ => rfl) (Ent.sep enn) ?_)
            refine Hd.takeH 43 rfl (by kernel_rfl) (by kernel_rfl) (by kernel_rfl) (by kernel_rfl) (y_move rfl) (fun _ _ => rfl) (Ent.sep enn) ?_
            refine Hd.takegH 44 rfl (by kernel_rfl) (by kernel_rfl) (by kernel_rfl) (by kernel_rfl) rfl rfl (y_move rfl) (fun _ _ => rfl) (Ent.sep enn) ?_
            refine Hd.takegH 46 rfl (by kernel_rfl) (by kernel_rfl) (by kernel_rfl) (by kernel_rfl) rfl rfl (y_move rfl) (fun _ _ => rfl) (Ent.sep enn) ?_
            refine Hd.onlyH 45 rfl (by kernel_rfl) ?_
            refine Hd.unguard rfl rfl ?_
            refine Hd.callE rfl fk46 (cheap_ct _ o qt s2 n2) (Ent.sep enn) ?_
            intro _
            refine Hd.nil ?_
            refine Hd.thenN ?_
            refine Hd.heldK (J := (fun _ => true)) (i := 45) (Ent.sep enn) ?_
            refine Hd.onlyH 47 rfl (by kernel_rfl) ?_
            refine Hd.unguard rfl rfl ?_
            refine Hd.callE rfl fk53 (rheap_ct _ b22 qt s2 n2 hcf2) (Ent.sep enn) ?_
            intro _
            refine Hd.nil ?_
            refine Hd.thenN ?_
            refine Hd.heldK (J := (fun _ => true)) (i := 47) (Ent.sep enn) ?_
            refine Hd.takegH 48 rfl (by kernel_rfl) (by kernel_rfl) (by kernel_rfl) (by kernel_rfl) rfl rfl (y_to (y_neq rfl rfl) (congrArg Value.bool (decide_eq_false ((fun h => h rfl))))) (fun _ _ => rfl) (Ent.sep enn) ?_
            first | (refine Hd.takeH 49 rfl (by kernel_rfl) (by kernel_rfl) (by kernel_rfl) (by kernel_rfl) (y_pickT rfl rfl) (fun _ _ => rfl) (Ent.sep enn) ?_) | (refine Hd.takeH 49 rfl (by kernel_rfl) (by kernel_rfl) (by kernel_rfl) (by kernel_rfl) (y_pickF rfl rfl) (fun _ _ => rfl) (Ent.sep enn) ?_) | (refine Hd.takeH 49 rfl (by kernel_rfl) (by kernel_rfl) (by kernel_rfl) (by kernel_rfl) (y_pickb rfl rfl rfl) (fun _ _ => rfl) (Ent.sep enn) ?_) | (refine Hd.takeH 49 rfl (by kernel_rfl) (by kernel_rfl) (by kernel_rfl) (by kernel_rfl) (y_pick rfl rfl rfl) (fun _ _ => rfl) (Ent.sep enn) ?_)
            refine Hd.endH (by kernel_rfl) ?_
            refine Hd.slots [(0, _), (3, _), (4, _), (5, _), (170, _)] ⟨rfl, rfl, rfl, rfl, rfl, trivial⟩ ?_
            refine Hd.toK hK32 ?_
            refine Hd.condF rfl ?_
            refine Hd.skip ?_
            refine Hd.inB ?_
            refine Hd.toK hK11 ?_
            refine Hd.region ?_
            refine Hd.yv (y_move rfl) ?_
            first | (refine Hd.yv (y_addn rfl rfl (by simp only [InK]; omega)) ?_) | (refine Hd.yv (y_add rfl rfl) ?_)
            refine Hd.yv (y_assign rfl) ?_
            refine Hd.nil ?_
            refine Hd.slots [(0, _), (3, _), (4, _), (5, _)] ⟨rfl, rfl, rfl, rfl, trivial⟩ ?_
            clear hK1 hK2 hK3 hK5 hK6 hK7 hK8 hK9 hK10 hK11 hK12 hK13 hK20 hK21 hK22 hK23 hK24 hK25 hK26 hK27 hK31 hK32
            refine Hd.thenN ?_
            exact Hd.again (i + 1, qt, s2, n2) (by first | omega | (simp only; omega) | (simp; omega)) (by repeat (first | exact trivial | refine ⟨rfl, ?_⟩)) (Ent.sep (.pure ⟨hi, by show s2.length ≤ i + 1; omega, by show n2 ≤ ((i + 1 : Nat) : Int); omega⟩ enn))
    ·
      try simp only [decide_eq_true_eq, decide_eq_false_iff_not, Bool.and_eq_true, Bool.or_eq_true, Bool.and_eq_false_iff, Bool.or_eq_false_iff, Bool.not_eq_true', Bool.not_eq_false', Bool.not_eq_true, Bool.not_eq_false, Int.not_lt, Int.not_le, Decidable.not_not, ne_eq] at hc1
      refine Hd.exit ?_
      refine Hd.thenExit ?_
      refine Hd.thenExit ?_
      refine Hd.inBexit ?_
      refine Hd.toK hK7 ?_
      refine Hd.seq (fun K33 hK33 => ?_)
      refine Hd.region ?_
      refine Hd.yv (y_assign rfl) ?_
      refine Hd.nil ?_
      refine Hd.slots [(2, _)] ⟨rfl, trivial⟩ ?_
      refine Hd.toK hK33 ?_
      refine Hd.ret ?_
      clear hK1 hK2 hK3 hK5 hK6 hK7 hK8 hK9 hK10 hK33
      exact Hd.ret1 rfl () (by first | rfl | (simp only [*]; done) | (simp [*]; done)) (Ent.sep enn)
end Cm
end Go.Proofs.Ytcnegelaenkgpaa
