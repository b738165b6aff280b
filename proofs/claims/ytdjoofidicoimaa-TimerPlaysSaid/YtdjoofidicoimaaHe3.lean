/-
  Heaps: put, up, down.
-/
import Derived.Test.YtdjoofidicoimaaHe2
namespace Go.Proofs.Ytdjoofidicoimaa
set_option linter.unusedSimpArgs false
set_option linter.unusedVariables false
set_option linter.unnecessarySimpa false
open Go.RX Fx
namespace Hp
set_option maxRecDepth 8000
theorem flat_len (V : List It) : (V.flatMap encI).length = V.length * 3 := by
  induction V with
  | nil => rfl
  | cons v V ih => simp only [List.flatMap_cons, List.length_append, ih, List.length_cons]; simp; omega
theorem encI_one (x : It) : ∀ u ∈ encI x, u.oneCell' = true := by simp [Value.oneCell']
abbrev HH (b mb : Nat) (ad : Option Addr) (n cap : Nat) : SP := pt b [.slice ad n cap, .map (some mb), .bool true] 100
abbrev MP (mb : Nat) (f : MF) : SP := RX.ex fun m : Nat => [mp mb .i64 f m]
abbrev OwI (ad : Option Addr) (n cap : Nat) (V : List It) : SP := own 69 3 ad n cap (V.flatMap encI)
abbrev HpL (b mb : Nat) (ad : Option Addr) (n cap : Nat) (V : List It) (f : MF) (L : List SP) : List SP := HH b mb ad n cap :: OwI ad n cap V :: MP mb f :: L
set_option maxHeartbeats 2000000 in
theorem put_ct (L : List SP) (b mb : Nat) (ad : Option Addr) (n cap : Nat) (V : List It) (hn : V.length = n) (f : MF) (i : Nat) (hi : i < n) (x : It) : Ct Try.prog 76 #[.pointer (some ⟨b, 0, none⟩), .int .i64 (i : Int), aggI x] (HpL b mb ad n cap V f L) (fun _ : Unit => .tuple #[]) (fun _ : Unit => HpL b mb ad n cap (V.set i x) (putF f x.id i) L) := by
  refine Ct.of (vs := [.pointer (some ⟨b, 0, none⟩), .int .i64 (i : Int), aggI x]) Try.func76 rfl rfl [(0, .pointer (some ⟨b, 0, none⟩)), (1, .int .i64 (i : Int)), (2, aggI x)] (by repeat (first | exact trivial | refine ⟨rfl, ?_⟩)) ?_
  intro E
  show Hd E 20 _ _ _ _
  refine Hd.seq (fun K1 hK1 => ?_)
  refine Hd.region ?_
  refine Hd.box rfl rfl (fun b5 => ?_)
  refine Hd.nil ?_
  refine Hd.slots [(0, _), (1, _), (5, _)] ⟨rfl, rfl, rfl, trivial⟩ ?_
  refine Hd.toK hK1 ?_
  refine Hd.seq (fun K2 hK2 => ?_)
  refine Hd.drawsH ([HH b mb ad n cap, OwI ad n cap V, pt b5 (encI x) 69]) (fun j => !([7].contains j)) mixed ?_
  simp only [List.length, Nat.zero_add, Nat.reduceAdd]
  refine Hd.takeH 0 rfl (by kernel_rfl) (by kernel_rfl) (by kernel_rfl) (by kernel_rfl) (y_move rfl) (fun _ _ => rfl) (Ent.sep enn) ?_
  refine Hd.takeH 1 rfl (by kernel_rfl) (by kernel_rfl) (by kernel_rfl) (by kernel_rfl) (y_nilp rfl) (fun _ _ => rfl) (Ent.sep enn) ?_
  first | (refine Hd.takeH 2 rfl (by kernel_rfl) (by kernel_rfl) (by kernel_rfl) (by kernel_rfl) (y_field' (q := 0) (ft := 77) Try.underlying100 rfl sz77 rfl rfl) (fun _ _ => rfl) (Ent.sep enn) ?_) | (refine Hd.takeH 2 rfl (by kernel_rfl) (by kernel_rfl) (by kernel_rfl) (by kernel_rfl) (y_fieldR (q := 0) (ft := 77) Try.underlying100 rfl sz77 rfl rfl) (fun _ _ => rfl) (Ent.sep enn) ?_)
  first | (refine Hd.takeH 3 rfl (by kernel_rfl) (by kernel_rfl) (by kernel_rfl) (by kernel_rfl) (y_load1 ag77 rfl (Rd.pt1 pkk (by (first | rfl)))) (fun _ _ => rfl) (Ent.sep enn) ?_) | (refine Hd.takeH 3 rfl (by kernel_rfl) (by kernel_rfl) (by kernel_rfl) (by kernel_rfl) (y_load1 ag77 rfl (Rd.seg1 pkk (by (first | rfl)))) (fun _ _ => rfl) (Ent.sep enn) ?_) | (refine Hd.takeH 3 rfl (by kernel_rfl) (by kernel_rfl) (by kernel_rfl) (by kernel_rfl) (y_loadR1 ag77 rfl (by (first | exact RdS.own pkk)) (by (first | rfl))) (fun _ _ => rfl) (Ent.sep enn) ?_)
  refine Hd.takeH 4 rfl (by kernel_rfl) (by kernel_rfl) (by kernel_rfl) (by kernel_rfl) (y_move rfl) (fun _ _ => rfl) (Ent.sep enn) ?_
  first | (refine Hd.takeH 5 rfl (by kernel_rfl) (by kernel_rfl) (by kernel_rfl) (by kernel_rfl) (y_loadn (us := [_, _, _]) ag69 rfl (Rd.pt pkk (by (first | (intro j v e; rcases j with _|_|_|_|_|_|_|_|_|_|_|_|j <;> first | exact e | exact absurd e (by simp))))) (by exact sz69)) (fun _ _ => rfl) (Ent.sep enn) ?_) | (refine Hd.takeH 5 rfl (by kernel_rfl) (by kernel_rfl) (by kernel_rfl) (by kernel_rfl) (y_loadn (us := [_, _, _]) ag69 rfl (Rd.seg pkk (by (first | (intro j v e; rcases j with _|_|_|_|_|_|_|_|_|_|_|_|j <;> first | exact e | exact absurd e (by simp))))) (by exact sz69)) (fun _ _ => rfl) (Ent.sep enn) ?_) | (refine Hd.takeH 5 rfl (by kernel_rfl) (by kernel_rfl) (by kernel_rfl) (by kernel_rfl) (y_loadRn ag69 rfl (by (first | exact RdS.own pkk)) (by (first | (intro j v e; rcases j with _|_|_|_|_|_|_|_|_|_|_|_|j <;> first | exact e | exact absurd e (by simp)))) (by exact sz69) (by simp)) (fun _ _ => rfl) (Ent.sep enn) ?_)
  first | (refine Hd.takeH 6 rfl (by kernel_rfl) (by kernel_rfl) (by kernel_rfl) (by kernel_rfl) (y_idxS Try.underlying77 sz69 rfl rfl (by first | omega | decide)) (fun _ _ => rfl) (Ent.sep enn) ?_) | (refine Hd.takeH 6 rfl (by kernel_rfl) (by kernel_rfl) (by kernel_rfl) (by kernel_rfl) (y_idxR Try.underlying77 sz69 rfl rfl (by first | omega | decide) (by (first | exact RdS.own pkk))) (fun _ _ => rfl) (Ent.sep enn) ?_)
  refine Hd.onlyH 7 rfl (by kernel_rfl) ?_
  refine Hd.storeO (vs := encI x) sz69 rfl rfl rfl (encI_one x) pkk (by rw [flat_len]; simp only [List.length]; omega) (by simp) ?_
  refine Hd.nil ?_
  refine Hd.thenN ?_
  refine Hd.heldN (J := (fun j => !([7].contains j))) (i := 7) rfl ?_
  refine Hd.endH (by kernel_rfl) ?_
  rw [show (V.flatMap encI).take (i * 3) ++ encI x ++ (V.flatMap encI).drop (i * 3 + (encI x).length) = (V.set i x).flatMap encI from flat_set (by omega)]
  refine Hd.slots [(0, _), (1, _), (5, _)] ⟨rfl, rfl, rfl, trivial⟩ ?_
  refine Hd.toK hK2 ?_
  refine Hd.exs (f := fun m : Nat => [mp mb .i64 f m]) pkk ?_
  intro m
  simp only [List.cons_append, List.nil_append]
  refine Hd.drawsH ([HH b mb ad n cap, pt b5 (encI x) 69]) (fun j => !([7].contains j)) mixed ?_
  simp only [List.length, Nat.zero_add, Nat.reduceAdd]
  refine Hd.takeH 0 rfl (by kernel_rfl) (by kernel_rfl) (by kernel_rfl) (by kernel_rfl) (y_move rfl) (fun _ _ => rfl) (Ent.sep enn) ?_
  refine Hd.takeH 1 rfl (by kernel_rfl) (by kernel_rfl) (by kernel_rfl) (by kernel_rfl) (y_nilp rfl) (fun _ _ => rfl) (Ent.sep enn) ?_
  first | (refine Hd.takeH 2 rfl (by kernel_rfl) (by kernel_rfl) (by kernel_rfl) (by kernel_rfl) (y_field' (q := 1) (ft := 83) Try.underlying100 rfl sz83 rfl rfl) (fun _ _ => rfl) (Ent.sep enn) ?_) | (refine Hd.takeH 2 rfl (by kernel_rfl) (by kernel_rfl) (by kernel_rfl) (by kernel_rfl) (y_fieldR (q := 1) (ft := 83) Try.underlying100 rfl sz83 rfl rfl) (fun _ _ => rfl) (Ent.sep enn) ?_)
  first | (refine Hd.takeH 3 rfl (by kernel_rfl) (by kernel_rfl) (by kernel_rfl) (by kernel_rfl) (y_load1 ag83 rfl (Rd.pt1 pkk (by (first | rfl)))) (fun _ _ => rfl) (Ent.sep enn) ?_) | (refine Hd.takeH 3 rfl (by kernel_rfl) (by kernel_rfl) (by kernel_rfl) (by kernel_rfl) (y_load1 ag83 rfl (Rd.seg1 pkk (by (first | rfl)))) (fun _ _ => rfl) (Ent.sep enn) ?_) | (refine Hd.takeH 3 rfl (by kernel_rfl) (by kernel_rfl) (by kernel_rfl) (by kernel_rfl) (y_loadR1 ag83 rfl (by (first | exact RdS.own pkk)) (by (first | rfl))) (fun _ _ => rfl) (Ent.sep enn) ?_)
  first | (refine Hd.takeH 4 rfl (by kernel_rfl) (by kernel_rfl) (by kernel_rfl) (by kernel_rfl) (y_field' (q := 0) (ft := 3) Try.underlying69 rfl sz3 rfl rfl) (fun _ _ => rfl) (Ent.sep enn) ?_) | (refine Hd.takeH 4 rfl (by kernel_rfl) (by kernel_rfl) (by kernel_rfl) (by kernel_rfl) (y_fieldR (q := 0) (ft := 3) Try.underlying69 rfl sz3 rfl rfl) (fun _ _ => rfl) (Ent.sep enn) ?_)
  first | (refine Hd.takeH 5 rfl (by kernel_rfl) (by kernel_rfl) (by kernel_rfl) (by kernel_rfl) (y_load1 ag3 rfl (Rd.pt1 pkk (by (first | rfl)))) (fun _ _ => rfl) (Ent.sep enn) ?_) | (refine Hd.takeH 5 rfl (by kernel_rfl) (by kernel_rfl) (by kernel_rfl) (by kernel_rfl) (y_load1 ag3 rfl (Rd.seg1 pkk (by (first | rfl)))) (fun _ _ => rfl) (Ent.sep enn) ?_) | (refine Hd.takeH 5 rfl (by kernel_rfl) (by kernel_rfl) (by kernel_rfl) (by kernel_rfl) (y_loadR1 ag3 rfl (by (first | exact RdS.own pkk)) (by (first | rfl))) (fun _ _ => rfl) (Ent.sep enn) ?_)
  refine Hd.takeH 6 rfl (by kernel_rfl) (by kernel_rfl) (by kernel_rfl) (by kernel_rfl) (y_move rfl) (fun _ _ => rfl) (Ent.sep enn) ?_
  refine Hd.onlyH 7 rfl (by kernel_rfl) ?_
  refine Hd.mapUpdate mapt83 rfl rfl rfl pkk ?_
  refine Hd.nil ?_
  refine Hd.thenN ?_
  refine Hd.heldN (J := (fun j => !([7].contains j))) (i := 7) rfl ?_
  refine Hd.endH (by kernel_rfl) ?_
  refine Hd.slots [] trivial ?_
  clear hK1 hK2
  exact Hd.end0 rfl () rfl (Ent.sep (.pick pkk (.pick pkk (.ex _ enn))))
theorem set_eq_self {V : List It} {i : Nat} (hi : i < V.length) : V.set i (g V i) = V := g_eq (by simp) fun j hj => by
  rw [g_set hi]; split
  · rename_i e; rw [e]
  · rfl
/-- the virtual list, one step up or down -/
theorem step_eq {U : List It} {x : It} {i j : Nat} (hi : i < U.length) (hj : j < U.length) (hij : j ≠ i) : (U.set i (g U j)).set j x = swp (U.set i x) i j := by
  apply g_eq
  · simp [swp]
  · intro q hq
    rw [g_set (by simpa using hj), g_set hi, swp_g (by simpa using hi) (by simpa using hj), g_set hi, g_set hi, g_set hi, if_pos rfl, if_neg hij]
    split
    · rfl
    · split
      · rfl
      · rfl
theorem swp_ids {V W : List It} (h : Ids V) (hp : ∃ i j, i < V.length ∧ j < V.length ∧ W = swp V i j) : Ids W := by
  obtain ⟨i, j, hi, hj, rfl⟩ := hp
  exact h.swp hi hj
set_option maxHeartbeats 2000000 in
theorem up_ct (L : List SP) (b mb : Nat) (ad : Option Addr) (n cap : Nat) (hn4 : n ≤ 4611686018427387904) (V0 : List It) (hn : V0.length = n) (f0 : MF) (i0 : Nat) (hi0 : i0 < n) (hH : Hole V0 i0) (hM : MapH V0 i0 f0) (hD : Ids V0) : Ct Try.prog 67 #[.pointer (some ⟨b, 0, none⟩), .int .i64 (i0 : Int)] (HpL b mb ad n cap V0 f0 L) (fun q_ : List It × Nat × MF => .int .i64 (q_.2.1 : Int)) (fun q_ : List It × Nat × MF => pu (q_.1.length = n ∧ q_.1.Perm V0 ∧ Hole q_.1 q_.2.1 ∧ PO q_.1 q_.2.1 ∧ q_.2.1 < n ∧ MapOk q_.1 q_.2.2 ∧ Ids q_.1 ∧ (CO V0 i0 → CO q_.1 q_.2.1)) :: HpL b mb ad n cap q_.1 q_.2.2 L) := by
  refine Ct.of (vs := [.pointer (some ⟨b, 0, none⟩), .int .i64 (i0 : Int)]) Try.func67 rfl rfl [(0, .pointer (some ⟨b, 0, none⟩)), (1, .int .i64 (i0 : Int))] (by repeat (first | exact trivial | refine ⟨rfl, ?_⟩)) ?_
  intro E
  show Hd E 45 _ _ _ _
  obtain ⟨x, hx⟩ : ∃ x, x = g V0 i0 := ⟨_, rfl⟩
  refine Hd.seq (fun K1 hK1 => ?_)
  refine Hd.region ?_
  refine Hd.yv (y_assign rfl) ?_
  refine Hd.nil ?_
  refine Hd.slots [(0, _), (1, _)] ⟨rfl, rfl, trivial⟩ ?_
  refine Hd.toK hK1 ?_
  refine Hd.scope ?_
  refine Hd.seq (fun K2 hK2 => ?_)
  refine Hd.region ?_
  refine Hd.yv (y_move rfl) ?_
  refine Hd.yv (y_nilp rfl) ?_
  first | (refine Hd.yv (y_field' (q := 0) (ft := 77) Try.underlying100 rfl sz77 rfl rfl) ?_) | (refine Hd.yv (y_fieldR (q := 0) (ft := 77) Try.underlying100 rfl sz77 rfl rfl) ?_)
  first | (refine Hd.yv (y_load1 ag77 rfl (Rd.pt1 pkk (by (first | rfl)))) ?_) | (refine Hd.yv (y_load1 ag77 rfl (Rd.seg1 pkk (by (first | rfl)))) ?_) | (refine Hd.yv (y_loadR1 ag77 rfl (by (first | exact RdS.own pkk)) (by (first | rfl))) ?_)
  refine Hd.yv (y_move rfl) ?_
  first | (refine Hd.yv (y_idxS Try.underlying77 sz69 rfl rfl (by first | omega | decide)) ?_) | (refine Hd.yv (y_idxR Try.underlying77 sz69 rfl rfl (by first | omega | decide) (by (first | exact RdS.own pkk))) ?_)
  refine Hd.yv (y_loadRn (vs := [_, _, _]) ag69 rfl (RdS.own pkk) (flat_cells encI 3 (fun _ => rfl) (show V0[i0]? = some x from hx ▸ g_at (by omega))) (by exact sz69) (by simp)) ?_
  refine Hd.alloc zr69 (fun b5 => ?_)
  refine Hd.storeA (us := encI x) sz69 rfl rfl rfl (encI_one x) pkk (by exact rfl) ?_
  refine Hd.nil ?_
  refine Hd.slots [(0, _), (1, _), (5, _)] ⟨rfl, rfl, rfl, trivial⟩ ?_
  refine Hd.toK hK2 ?_
  refine Hd.seq (fun K3 hK3 => ?_)
  refine Hd.label ?_
  refine Hd.toK hK3 ?_
  refine Hd.seq (fun K4 hK4 => ?_)
  refine Hd.block ?_
  refine Hd.loopK (ι := Nat × List It × MF) [(0, _), (5, _)] (fun q_ => [(1, .int .i64 (q_.1 : Int))]) (fun q_ => pu (q_.1 < n ∧ q_.2.1.length = n ∧ Hole (q_.2.1.set q_.1 x) q_.1 ∧ (q_.2.1.set q_.1 x).Perm V0 ∧ MapH (q_.2.1.set q_.1 x) q_.1 q_.2.2 ∧ Ids (q_.2.1.set q_.1 x) ∧ (CO V0 i0 → CO (q_.2.1.set q_.1 x) q_.1)) :: pt b5 (encI x) 69 :: HpL b mb ad n cap q_.2.1 q_.2.2 L) (fun q_ => q_.1) (i0, V0, f0) (by repeat (first | exact trivial | refine ⟨rfl, ?_⟩)) (by repeat (first | exact trivial | refine ⟨rfl, ?_⟩)) (Ent.sep (.pure (by dsimp only; rw [hx, set_eq_self (by omega)]; exact ⟨hi0, hn, hH, .refl _, hM, hD, id⟩) enn)) ?_
  rintro ⟨i, V, f⟩
  try dsimp only
  refine Hd.pure (fun hp0 => ?_)
  try dsimp only at hp0
  obtain ⟨hin, hVn, hHo, hPe, hMa, hId, hCO⟩ := hp0
  have hiV : i < V.length := by omega
  have hiS : i < (V.set i x).length := by simpa using hiV
  have hgi : g (V.set i x) i = x := by rw [g_set hiV, if_pos rfl]
  refine Hd.seq (fun K5 hK5 => ?_)
  refine Hd.seq (fun K6 hK6 => ?_)
  refine Hd.region ?_
  refine Hd.yv (y_move rfl) ?_
  refine Hd.yv (y_gtr rfl rfl) ?_
  refine Hd.nil ?_
  refine Hd.slots [(0, _), (1, _), (5, _), (15, _)] ⟨rfl, rfl, rfl, rfl, trivial⟩ ?_
  refine Hd.toK hK6 ?_
  refine Hd.cond rfl (fun hc0 => ?_) (fun hc0 => ?_)
  ·
    try simp only [decide_eq_true_eq, decide_eq_false_iff_not, Bool.and_eq_true, Bool.or_eq_true, Bool.and_eq_false_iff, Bool.or_eq_false_iff, Bool.not_eq_true', Bool.not_eq_false', Bool.not_eq_true, Bool.not_eq_false, Int.not_lt, Int.not_le, Decidable.not_not, ne_eq] at hc0
    have h0 : 0 < i := by omega
    have hpi : par i < i := by unfold par; omega
    have hpn : par i < n := by omega
    have hgp : V[par i]? = some (g V (par i)) := g_at (by omega)
    have hgq : g (V.set i x) (par i) = g V (par i) := by rw [g_set hiV, if_neg (by omega)]
    refine Hd.skip ?_
    refine Hd.toK hK5 ?_
    refine Hd.block ?_
    refine Hd.seq (fun K7 hK7 => ?_)
    refine Hd.region ?_
    refine Hd.yv (y_move rfl) ?_
    first | (refine Hd.yv (y_subn rfl rfl (by simp only [InK]; omega)) ?_) | (refine Hd.yv (y_sub rfl rfl) ?_)
    first | (refine Hd.yv (y_quoN rfl rfl (by omega) (by simp only [InK]; omega)) ?_) | (refine Hd.yv (y_quon rfl rfl (by omega) (by omega) (by simp only [InK]; omega)) ?_) | (refine Hd.yv (y_quo rfl rfl (by omega)) ?_)
    refine Hd.yv (y_assign rfl) ?_
    refine Hd.nil ?_
    refine Hd.name (b := ((par i : Nat) : Int)) 6 rfl (by unfold par; omega) ?_
    refine Hd.slots [(0, _), (1, _), (5, _), (6, _)] ⟨rfl, rfl, rfl, rfl, trivial⟩ ?_
    refine Hd.toK hK7 ?_
    refine Hd.seq (fun K8 hK8 => ?_)
    refine Hd.seq (fun K9 hK9 => ?_)
    refine Hd.quiet mixed (by kernel_rfl) ?_
    refine Hq.yv (y_move rfl) ?_
    refine Hq.yv (y_nilp rfl) ?_
    first | (refine Hq.yv (y_field' (q := 0) (ft := 77) Try.underlying100 rfl sz77 rfl rfl) ?_) | (refine Hq.yv (y_fieldR (q := 0) (ft := 77) Try.underlying100 rfl sz77 rfl rfl) ?_)
    first | (refine Hq.yv (y_load1 ag77 rfl (Rd.pt1 pkk (by (first | rfl)))) ?_) | (refine Hq.yv (y_load1 ag77 rfl (Rd.seg1 pkk (by (first | rfl)))) ?_) | (refine Hq.yv (y_loadR1 ag77 rfl (by (first | exact RdS.own pkk)) (by (first | rfl))) ?_)
    refine Hq.yv (y_move rfl) ?_
    first | (refine Hq.yv (y_idxS Try.underlying77 sz69 rfl rfl (by first | omega | decide)) ?_) | (refine Hq.yv (y_idxR Try.underlying77 sz69 rfl rfl (by first | omega | decide) (by (first | exact RdS.own pkk))) ?_)
    refine Hq.yv (y_loadRn (vs := [_, _, _]) ag69 rfl (RdS.own pkk) (flat_cells encI 3 (fun _ => rfl) hgp) (by exact sz69) (by simp)) ?_
    first | (refine Hq.yv (y_loadn (us := [_, _, _]) ag69 rfl (Rd.pt pkk (by (first | (intro j v e; rcases j with _|_|_|_|_|_|_|_|_|_|_|_|j <;> first | exact e | exact absurd e (by simp))))) (by exact sz69)) ?_) | (refine Hq.yv (y_loadn (us := [_, _, _]) ag69 rfl (Rd.seg pkk (by (first | (intro j v e; rcases j with _|_|_|_|_|_|_|_|_|_|_|_|j <;> first | exact e | exact absurd e (by simp))))) (by exact sz69)) ?_) | (refine Hq.yv (y_loadRn ag69 rfl (by (first | exact RdS.own pkk)) (by (first | (intro j v e; rcases j with _|_|_|_|_|_|_|_|_|_|_|_|j <;> first | exact e | exact absurd e (by simp)))) (by exact sz69) (by simp)) ?_)
    refine Hq.call rfl fk78 (compare_ct _ (g V (par i)) x) ?_
    refine Hq.yv (y_leq rfl rfl) ?_
    refine Hq.nil ?_
    refine Hd.slots [(0, _), (1, _), (5, _), (6, _), (28, _)] ⟨rfl, rfl, rfl, rfl, rfl, trivial⟩ ?_
    refine Hd.toK hK9 ?_
    refine Hd.cond rfl (fun hc1 => ?_) (fun hc1 => ?_)
    ·
      try simp only [decide_eq_true_eq, decide_eq_false_iff_not, Bool.and_eq_true, Bool.or_eq_true, Bool.and_eq_false_iff, Bool.or_eq_false_iff, Bool.not_eq_true', Bool.not_eq_false', Bool.not_eq_true, Bool.not_eq_false, Int.not_lt, Int.not_le, Decidable.not_not, ne_eq] at hc1
      have hPO : PO (V.set i x) i := fun _ => by rw [hgi, hgq]; exact (cmpI_le _ _).1 hc1
      refine Hd.exit ?_
      refine Hd.thenExit ?_
      refine Hd.inBexit' rfl ?_
      refine Hd.thenExit ?_
      refine Hd.inBexit ?_
      refine Hd.toK hK4 ?_
      refine Hd.seq (fun K10 hK10 => ?_)
      refine Hd.region ?_
      refine Hd.yv (y_move rfl) ?_
      refine Hd.yv (y_move rfl) ?_
      first | (refine Hd.yv (y_loadn (us := [_, _, _]) ag69 rfl (Rd.pt pkk (by (first | (intro j v e; rcases j with _|_|_|_|_|_|_|_|_|_|_|_|j <;> first | exact e | exact absurd e (by simp))))) (by exact sz69)) ?_) | (refine Hd.yv (y_loadn (us := [_, _, _]) ag69 rfl (Rd.seg pkk (by (first | (intro j v e; rcases j with _|_|_|_|_|_|_|_|_|_|_|_|j <;> first | exact e | exact absurd e (by simp))))) (by exact sz69)) ?_) | (refine Hd.yv (y_loadRn ag69 rfl (by (first | exact RdS.own pkk)) (by (first | (intro j v e; rcases j with _|_|_|_|_|_|_|_|_|_|_|_|j <;> first | exact e | exact absurd e (by simp)))) (by exact sz69) (by simp)) ?_)
      refine Hd.callE rfl fk76 (put_ct (pt b5 (encI x) 69 :: L) b mb ad n cap V hVn f i hin x) (Ent.sep enn) ?_
      intro _
      refine Hd.nil ?_
      refine Hd.slots [(1, _)] ⟨rfl, trivial⟩ ?_
      refine Hd.toK hK10 ?_
      refine Hd.seq (fun K11 hK11 => ?_)
      refine Hd.region ?_
      refine Hd.yv (y_move rfl) ?_
      refine Hd.yv (y_assign rfl) ?_
      refine Hd.nil ?_
      refine Hd.slots [(4, _)] ⟨rfl, trivial⟩ ?_
      refine Hd.toK hK11 ?_
      refine Hd.ret ?_
      refine Hd.scRet ?_
      clear hK1 hK2 hK3 hK4 hK5 hK6 hK7 hK8 hK9 hK10 hK11
      have hM3 := hMa.put hiS hId
      rw [hgi] at hM3
      exact Hd.ret1 rfl (V.set i x, i, putF f x.id i) rfl (Ent.sep (.pure ⟨by simpa using hVn, hPe, hHo, hPO, hin, hM3, hId, hCO⟩ enn))
    ·
      try simp only [decide_eq_true_eq, decide_eq_false_iff_not, Bool.and_eq_true, Bool.or_eq_true, Bool.and_eq_false_iff, Bool.or_eq_false_iff, Bool.not_eq_true', Bool.not_eq_false', Bool.not_eq_true, Bool.not_eq_false, Int.not_lt, Int.not_le, Decidable.not_not, ne_eq] at hc1
      have hc1' : ¬ cmpI (g V (par i)) x ≤ 0 := by omega
      refine Hd.skip ?_
      refine Hd.toK hK8 ?_
      refine Hd.seq (fun K12 hK12 => ?_)
      refine Hd.region ?_
      refine Hd.yv (y_move rfl) ?_
      refine Hd.yv (y_move rfl) ?_
      refine Hd.yv (y_move rfl) ?_
      refine Hd.yv (y_nilp rfl) ?_
      first | (refine Hd.yv (y_field' (q := 0) (ft := 77) Try.underlying100 rfl sz77 rfl rfl) ?_) | (refine Hd.yv (y_fieldR (q := 0) (ft := 77) Try.underlying100 rfl sz77 rfl rfl) ?_)
      first | (refine Hd.yv (y_load1 ag77 rfl (Rd.pt1 pkk (by (first | rfl)))) ?_) | (refine Hd.yv (y_load1 ag77 rfl (Rd.seg1 pkk (by (first | rfl)))) ?_) | (refine Hd.yv (y_loadR1 ag77 rfl (by (first | exact RdS.own pkk)) (by (first | rfl))) ?_)
      refine Hd.yv (y_move rfl) ?_
      first | (refine Hd.yv (y_idxS Try.underlying77 sz69 rfl rfl (by first | omega | decide)) ?_) | (refine Hd.yv (y_idxR Try.underlying77 sz69 rfl rfl (by first | omega | decide) (by (first | exact RdS.own pkk))) ?_)
      refine Hd.yv (y_loadRn (vs := [_, _, _]) ag69 rfl (RdS.own pkk) (flat_cells encI 3 (fun _ => rfl) hgp) (by exact sz69) (by simp)) ?_
      refine Hd.callE rfl fk76 (put_ct (pt b5 (encI x) 69 :: L) b mb ad n cap V hVn f i hin (g V (par i))) (Ent.sep enn) ?_
      intro _
      refine Hd.nil ?_
      refine Hd.slots [(0, _), (5, _), (6, _)] ⟨rfl, rfl, rfl, trivial⟩ ?_
      refine Hd.toK hK12 ?_
      refine Hd.region ?_
      refine Hd.yv (y_move rfl) ?_
      refine Hd.yv (y_assign rfl) ?_
      refine Hd.nil ?_
      refine Hd.slots [(0, _), (1, _), (5, _)] ⟨rfl, rfl, rfl, trivial⟩ ?_
      refine Hd.inB ?_
      clear hK1 hK2 hK3 hK4 hK5 hK6 hK7 hK8 hK9 hK12
      refine Hd.thenN ?_
      have hlt : ltI (g (V.set i x) i) (g (V.set i x) (par i)) := by
        rw [hgi, hgq]; exact Decidable.byContradiction fun h => hc1' ((cmpI_le _ _).2 h)
      have hse := step_eq (U := V) (x := x) (i := i) (j := par i) hiV (by omega) (by omega)
      have hsp := swp_perm (V := V.set i x) (i := i) (j := par i) hiS (by simpa using (show par i < V.length by omega))
      have hM2 := hMa.swp hiS (j := par i) (by simpa using (show par i < V.length by omega)) (by omega) hId
      have hI2 := hId.swp hiS (j := par i) (by simpa using (show par i < V.length by omega))
      have hH2 := hHo.up h0 hiS hlt
      have hC2 := hHo.upC h0 hiS hlt
      rw [hgq] at hM2
      rw [← hse] at hsp hM2 hI2 hH2 hC2
      exact Hd.again (par i, V.set i (g V (par i)), putF f (g V (par i)).id i) (by first | omega | (simp only; omega) | (simp; omega)) (by repeat (first | exact trivial | refine ⟨rfl, ?_⟩)) (Ent.sep (.pure ⟨hpn, by simpa using hVn, hH2, hsp.trans hPe, hM2, hI2, fun _ => hC2⟩ enn))
  ·
    try simp only [decide_eq_true_eq, decide_eq_false_iff_not, Bool.and_eq_true, Bool.or_eq_true, Bool.and_eq_false_iff, Bool.or_eq_false_iff, Bool.not_eq_true', Bool.not_eq_false', Bool.not_eq_true, Bool.not_eq_false, Int.not_lt, Int.not_le, Decidable.not_not, ne_eq] at hc0
    have hi0' : i = 0 := by omega
    have hPO : PO (V.set i x) i := fun h => absurd h (by omega)
    refine Hd.exit ?_
    refine Hd.thenExit ?_
    refine Hd.thenExit ?_
    refine Hd.inBexit ?_
    refine Hd.toK hK4 ?_
    refine Hd.seq (fun K13 hK13 => ?_)
    refine Hd.region ?_
    refine Hd.yv (y_move rfl) ?_
    refine Hd.yv (y_move rfl) ?_
    first | (refine Hd.yv (y_loadn (us := [_, _, _]) ag69 rfl (Rd.pt pkk (by (first | (intro j v e; rcases j with _|_|_|_|_|_|_|_|_|_|_|_|j <;> first | exact e | exact absurd e (by simp))))) (by exact sz69)) ?_) | (refine Hd.yv (y_loadn (us := [_, _, _]) ag69 rfl (Rd.seg pkk (by (first | (intro j v e; rcases j with _|_|_|_|_|_|_|_|_|_|_|_|j <;> first | exact e | exact absurd e (by simp))))) (by exact sz69)) ?_) | (refine Hd.yv (y_loadRn ag69 rfl (by (first | exact RdS.own pkk)) (by (first | (intro j v e; rcases j with _|_|_|_|_|_|_|_|_|_|_|_|j <;> first | exact e | exact absurd e (by simp)))) (by exact sz69) (by simp)) ?_)
    refine Hd.callE rfl fk76 (put_ct (pt b5 (encI x) 69 :: L) b mb ad n cap V hVn f i hin x) (Ent.sep enn) ?_
    intro _
    refine Hd.nil ?_
    refine Hd.slots [(1, _)] ⟨rfl, trivial⟩ ?_
    refine Hd.toK hK13 ?_
    refine Hd.seq (fun K14 hK14 => ?_)
    refine Hd.region ?_
    refine Hd.yv (y_move rfl) ?_
    refine Hd.yv (y_assign rfl) ?_
    refine Hd.nil ?_
    refine Hd.slots [(4, _)] ⟨rfl, trivial⟩ ?_
    refine Hd.toK hK14 ?_
    refine Hd.ret ?_
    refine Hd.scRet ?_
    clear hK1 hK2 hK3 hK4 hK5 hK6 hK13 hK14
    have hM3 := hMa.put hiS hId
    rw [hgi] at hM3
    exact Hd.ret1 rfl (V.set i x, i, putF f x.id i) rfl (Ent.sep (.pure ⟨by simpa using hVn, hPe, hHo, hPO, hin, hM3, hId, hCO⟩ enn))
set_option maxHeartbeats 2000000 in
theorem down_ct (L : List SP) (b mb : Nat) (ad : Option Addr) (n cap : Nat) (hn4 : n ≤ 4611686018427387904) (V0 : List It) (hn : V0.length = n) (f0 : MF) (i0 : Nat) (hi0 : i0 < n) (hH : Hole V0 i0) (hP : PO V0 i0) (hM : MapH V0 i0 f0) (hD : Ids V0) : Ct Try.prog 77 #[.pointer (some ⟨b, 0, none⟩), .int .i64 (i0 : Int)] (HpL b mb ad n cap V0 f0 L) (fun q_ : List It × MF => .tuple #[]) (fun q_ : List It × MF => pu (q_.1.length = n ∧ q_.1.Perm V0 ∧ HeapL q_.1 ∧ MapOk q_.1 q_.2 ∧ Ids q_.1) :: HpL b mb ad n cap q_.1 q_.2 L) := by
  refine Ct.of (vs := [.pointer (some ⟨b, 0, none⟩), .int .i64 (i0 : Int)]) Try.func77 rfl rfl [(0, .pointer (some ⟨b, 0, none⟩)), (1, .int .i64 (i0 : Int))] (by repeat (first | exact trivial | refine ⟨rfl, ?_⟩)) ?_
  intro E
  show Hd E 79 _ _ _ _
  obtain ⟨x, hx⟩ : ∃ x, x = g V0 i0 := ⟨_, rfl⟩
  refine Hd.scope ?_
  refine Hd.seq (fun K1 hK1 => ?_)
  refine Hd.region ?_
  refine Hd.yv (y_move rfl) ?_
  refine Hd.yv (y_nilp rfl) ?_
  first | (refine Hd.yv (y_field' (q := 0) (ft := 77) Try.underlying100 rfl sz77 rfl rfl) ?_) | (refine Hd.yv (y_fieldR (q := 0) (ft := 77) Try.underlying100 rfl sz77 rfl rfl) ?_)
  first | (refine Hd.yv (y_load1 ag77 rfl (Rd.pt1 pkk (by (first | rfl)))) ?_) | (refine Hd.yv (y_load1 ag77 rfl (Rd.seg1 pkk (by (first | rfl)))) ?_) | (refine Hd.yv (y_loadR1 ag77 rfl (by (first | exact RdS.own pkk)) (by (first | rfl))) ?_)
  refine Hd.yv (y_move rfl) ?_
  first | (refine Hd.yv (y_idxS Try.underlying77 sz69 rfl rfl (by first | omega | decide)) ?_) | (refine Hd.yv (y_idxR Try.underlying77 sz69 rfl rfl (by first | omega | decide) (by (first | exact RdS.own pkk))) ?_)
  refine Hd.yv (y_loadRn (vs := [_, _, _]) ag69 rfl (RdS.own pkk) (flat_cells encI 3 (fun _ => rfl) (show V0[i0]? = some x from hx ▸ g_at (by omega))) (by exact sz69) (by simp)) ?_
  refine Hd.alloc zr69 (fun b4 => ?_)
  refine Hd.storeA (us := encI x) sz69 rfl rfl rfl (encI_one x) pkk (by exact rfl) ?_
  refine Hd.nil ?_
  refine Hd.slots [(0, _), (1, _), (4, _)] ⟨rfl, rfl, rfl, trivial⟩ ?_
  refine Hd.toK hK1 ?_
  refine Hd.seq (fun K2 hK2 => ?_)
  refine Hd.label ?_
  refine Hd.toK hK2 ?_
  refine Hd.seq (fun K3 hK3 => ?_)
  refine Hd.block ?_
  refine Hd.loopK (ι := Nat × List It × MF) [(0, _), (4, _)] (fun q_ => [(1, .int .i64 (q_.1 : Int))]) (fun q_ => pu (q_.1 < n ∧ q_.2.1.length = n ∧ Hole (q_.2.1.set q_.1 x) q_.1 ∧ PO (q_.2.1.set q_.1 x) q_.1 ∧ (q_.2.1.set q_.1 x).Perm V0 ∧ MapH (q_.2.1.set q_.1 x) q_.1 q_.2.2 ∧ Ids (q_.2.1.set q_.1 x)) :: pt b4 (encI x) 69 :: HpL b mb ad n cap q_.2.1 q_.2.2 L) (fun q_ => n - q_.1) (i0, V0, f0) (by repeat (first | exact trivial | refine ⟨rfl, ?_⟩)) (by repeat (first | exact trivial | refine ⟨rfl, ?_⟩)) (Ent.sep (.pure (by dsimp only; rw [hx, set_eq_self (by omega)]; exact ⟨hi0, hn, hH, hP, .refl _, hM, hD⟩) enn)) ?_
  rintro ⟨i, V, f⟩
  try dsimp only
  refine Hd.pure (fun hp0 => ?_)
  try dsimp only at hp0
  obtain ⟨hin, hVn, hHo, hPO, hPe, hMa, hId⟩ := hp0
  have hiV : i < V.length := by omega
  have hiS : i < (V.set i x).length := by simpa using hiV
  have hgi : g (V.set i x) i = x := by rw [g_set hiV, if_pos rfl]
  have hgo : ∀ j, j ≠ i → g (V.set i x) j = g V j := fun j h => by rw [g_set hiV, if_neg h]
  refine Hd.seq (fun K4 hK4 => ?_)
  refine Hd.seq (fun K5 hK5 => ?_)
  refine Hd.region ?_
  refine Hd.yv (y_move rfl) ?_
  first | (refine Hd.yv (y_muln rfl rfl (by simp only [InK]; omega)) ?_) | (refine Hd.yv (y_mul rfl rfl) ?_)
  first | (refine Hd.yv (y_addn rfl rfl (by simp only [InK]; omega)) ?_) | (refine Hd.yv (y_add rfl rfl) ?_)
  refine Hd.yv (y_move rfl) ?_
  refine Hd.yv (y_nilp rfl) ?_
  first | (refine Hd.yv (y_field' (q := 0) (ft := 77) Try.underlying100 rfl sz77 rfl rfl) ?_) | (refine Hd.yv (y_fieldR (q := 0) (ft := 77) Try.underlying100 rfl sz77 rfl rfl) ?_)
  first | (refine Hd.yv (y_load1 ag77 rfl (Rd.pt1 pkk (by (first | rfl)))) ?_) | (refine Hd.yv (y_load1 ag77 rfl (Rd.seg1 pkk (by (first | rfl)))) ?_) | (refine Hd.yv (y_loadR1 ag77 rfl (by (first | exact RdS.own pkk)) (by (first | rfl))) ?_)
  refine Hd.yv (y_len Try.underlying77 rfl) ?_
  refine Hd.yv (y_lss rfl rfl) ?_
  refine Hd.nil ?_
  refine Hd.slots [(0, _), (1, _), (4, _), (21, _)] ⟨rfl, rfl, rfl, rfl, trivial⟩ ?_
  refine Hd.toK hK5 ?_
  refine Hd.cond rfl (fun hc0 => ?_) (fun hc0 => ?_)
  ·
    try simp only [decide_eq_true_eq, decide_eq_false_iff_not, Bool.and_eq_true, Bool.or_eq_true, Bool.and_eq_false_iff, Bool.or_eq_false_iff, Bool.not_eq_true', Bool.not_eq_false', Bool.not_eq_true, Bool.not_eq_false, Int.not_lt, Int.not_le, Decidable.not_not, ne_eq] at hc0
    have hb0 : 2 * i + 1 < n := by omega
    have hg0 : V[2 * i + 1]? = some (g V (2 * i + 1)) := g_at (by omega)
    refine Hd.skip ?_
    refine Hd.toK hK4 ?_
    refine Hd.block ?_
    refine Hd.seq (fun K6 hK6 => ?_)
    refine Hd.region ?_
    refine Hd.yv (y_move rfl) ?_
    first | (refine Hd.yv (y_muln rfl rfl (by simp only [InK]; omega)) ?_) | (refine Hd.yv (y_mul rfl rfl) ?_)
    first | (refine Hd.yv (y_addn rfl rfl (by simp only [InK]; omega)) ?_) | (refine Hd.yv (y_add rfl rfl) ?_)
    refine Hd.yv (y_assign rfl) ?_
    refine Hd.nil ?_
    refine Hd.name (b := ((2 * i + 1 : Nat) : Int)) 5 rfl (by omega) ?_
    refine Hd.slots [(0, _), (1, _), (4, _), (5, _)] ⟨rfl, rfl, rfl, rfl, trivial⟩ ?_
    refine Hd.toK hK6 ?_
    refine Hd.cutK (ι := Nat) [(0, _), (1, _), (4, _)] (fun j => [(5, .int .i64 (j : Int))]) (fun j => pu (j < n ∧ 0 < j ∧ par j = i ∧ ∀ c, 0 < c → c < n → par c = i → leI (g V j) (g V c)) :: pt b4 (encI x) 69 :: HpL b mb ad n cap V f L) ?_ ?_ ⟨rfl, rfl, rfl, trivial⟩
    ·
      refine Hd.seq (fun K7 hK7 => ?_)
      refine Hd.quiet mixed (by kernel_rfl) ?_
      refine Hq.yv (y_move rfl) ?_
      first | (refine Hq.yv (y_addn rfl rfl (by simp only [InK]; omega)) ?_) | (refine Hq.yv (y_add rfl rfl) ?_)
      refine Hq.yv (y_move rfl) ?_
      refine Hq.yv (y_nilp rfl) ?_
      first | (refine Hq.yv (y_field' (q := 0) (ft := 77) Try.underlying100 rfl sz77 rfl rfl) ?_) | (refine Hq.yv (y_fieldR (q := 0) (ft := 77) Try.underlying100 rfl sz77 rfl rfl) ?_)
      first | (refine Hq.yv (y_load1 ag77 rfl (Rd.pt1 pkk (by (first | rfl)))) ?_) | (refine Hq.yv (y_load1 ag77 rfl (Rd.seg1 pkk (by (first | rfl)))) ?_) | (refine Hq.yv (y_loadR1 ag77 rfl (by (first | exact RdS.own pkk)) (by (first | rfl))) ?_)
      refine Hq.yv (y_len Try.underlying77 rfl) ?_
      refine Hq.yv (y_lss rfl rfl) ?_
      refine Hq.yv (y_move rfl) ?_
      apply Hq.andg 18 33 51 [(0, _), (1, _), (4, _), (5, _)] rfl ⟨rfl, rfl, rfl, rfl, trivial⟩
      · intro hg3_33
        try simp only [decide_eq_true_eq, decide_eq_false_iff_not, Bool.and_eq_true, Bool.or_eq_true, Bool.and_eq_false_iff, Bool.or_eq_false_iff, Bool.not_eq_true', Bool.not_eq_false', Bool.not_eq_true, Bool.not_eq_false, Int.not_lt, Int.not_le, Decidable.not_not, ne_eq] at hg3_33
        simp only [List.take]
        refine Hq.yg rfl rfl (y_move rfl) ?_
        refine Hq.yg rfl rfl (y_nilp rfl) ?_
        first | (refine Hq.yg rfl rfl (y_field' (q := 0) (ft := 77) Try.underlying100 rfl sz77 rfl rfl) ?_) | (refine Hq.yg rfl rfl (y_fieldR (q := 0) (ft := 77) Try.underlying100 rfl sz77 rfl rfl) ?_)
        first | (refine Hq.yg rfl rfl (y_load1 ag77 rfl (Rd.pt1 pkk (by (first | rfl)))) ?_) | (refine Hq.yg rfl rfl (y_load1 ag77 rfl (Rd.seg1 pkk (by (first | rfl)))) ?_) | (refine Hq.yg rfl rfl (y_loadR1 ag77 rfl (by (first | exact RdS.own pkk)) (by (first | rfl))) ?_)
        refine Hq.yg rfl rfl (y_move rfl) ?_
        have hb1 : 2 * i + 1 + 1 < n := by omega
        have hg1 : V[2 * i + 1 + 1]? = some (g V (2 * i + 1 + 1)) := g_at (by omega)
        first | (refine Hq.yg rfl rfl (y_to (v' := .int .i64 ((2 * i + 1 + 1 : Nat) : Int)) (y_addn rfl rfl (by simp only [InK]; omega)) (by (congr 1))) ?_) | (refine Hq.yg rfl rfl (y_to (v' := .int .i64 ((2 * i + 1 + 1 : Nat) : Int)) (y_add rfl rfl) (by (congr 1))) ?_)
        first | (refine Hq.yg rfl rfl (y_idxS Try.underlying77 sz69 rfl rfl (by first | omega | decide)) ?_) | (refine Hq.yg rfl rfl (y_idxR Try.underlying77 sz69 rfl rfl (by first | omega | decide) (by (first | exact RdS.own pkk))) ?_)
        refine Hq.yg rfl rfl (y_loadRn (vs := [_, _, _]) ag69 rfl (RdS.own pkk) (flat_cells encI 3 (fun _ => rfl) hg1) (by exact sz69) (by simp)) ?_
        refine Hq.yg rfl rfl (y_move rfl) ?_
        refine Hq.yg rfl rfl (y_nilp rfl) ?_
        first | (refine Hq.yg rfl rfl (y_field' (q := 0) (ft := 77) Try.underlying100 rfl sz77 rfl rfl) ?_) | (refine Hq.yg rfl rfl (y_fieldR (q := 0) (ft := 77) Try.underlying100 rfl sz77 rfl rfl) ?_)
        first | (refine Hq.yg rfl rfl (y_load1 ag77 rfl (Rd.pt1 pkk (by (first | rfl)))) ?_) | (refine Hq.yg rfl rfl (y_load1 ag77 rfl (Rd.seg1 pkk (by (first | rfl)))) ?_) | (refine Hq.yg rfl rfl (y_loadR1 ag77 rfl (by (first | exact RdS.own pkk)) (by (first | rfl))) ?_)
        refine Hq.yg rfl rfl (y_move rfl) ?_
        first | (refine Hq.yg rfl rfl (y_idxS Try.underlying77 sz69 rfl rfl (by first | omega | decide)) ?_) | (refine Hq.yg rfl rfl (y_idxR Try.underlying77 sz69 rfl rfl (by first | omega | decide) (by (first | exact RdS.own pkk))) ?_)
        refine Hq.yg rfl rfl (y_loadRn (vs := [_, _, _]) ag69 rfl (RdS.own pkk) (flat_cells encI 3 (fun _ => rfl) hg0) (by exact sz69) (by simp)) ?_
        refine Hq.unguard rfl rfl ?_
        refine Hq.call rfl fk78 (compare_ct _ (g V (2 * i + 1 + 1)) (g V (2 * i + 1))) ?_
        refine Hq.yg rfl rfl (y_lss rfl rfl) ?_
        first | (refine Hq.yv (y_pickT rfl rfl) ?_) | (refine Hq.yv (y_pickF rfl rfl) ?_) | (refine Hq.yv (y_pickb rfl rfl rfl) ?_) | (refine Hq.yv (y_pick rfl rfl rfl) ?_)
        exact Hq.mend (by repeat (first | exact trivial | refine ⟨rfl, ?_⟩))
      · intro hg3_33
        try simp only [decide_eq_true_eq, decide_eq_false_iff_not, Bool.and_eq_true, Bool.or_eq_true, Bool.and_eq_false_iff, Bool.or_eq_false_iff, Bool.not_eq_true', Bool.not_eq_false', Bool.not_eq_true, Bool.not_eq_false, Int.not_lt, Int.not_le, Decidable.not_not, ne_eq] at hg3_33
        simp only [List.take]
        refine Hq.ng rfl rfl rfl ?_
        refine Hq.ng rfl rfl rfl ?_
        refine Hq.ng rfl rfl rfl ?_
        refine Hq.ng rfl rfl rfl ?_
        refine Hq.ng rfl rfl rfl ?_
        refine Hq.ng rfl rfl rfl ?_
        refine Hq.ng rfl rfl rfl ?_
        refine Hq.ng rfl rfl rfl ?_
        refine Hq.ng rfl rfl rfl ?_
        refine Hq.ng rfl rfl rfl ?_
        refine Hq.ng rfl rfl rfl ?_
        refine Hq.ng rfl rfl rfl ?_
        refine Hq.ng rfl rfl rfl ?_
        refine Hq.ng rfl rfl rfl ?_
        refine Hq.ng rfl rfl rfl ?_
        refine Hq.ng rfl rfl rfl ?_
        refine Hq.ng rfl rfl rfl ?_
        first | (refine Hq.yv (y_pickT rfl rfl) ?_) | (refine Hq.yv (y_pickF rfl rfl) ?_) | (refine Hq.yv (y_pickb rfl rfl rfl) ?_) | (refine Hq.yv (y_pick rfl rfl rfl) ?_)
        exact Hq.mend (by repeat (first | exact trivial | refine ⟨rfl, ?_⟩))
      simp only [List.drop]
      refine Hq.nil ?_
      refine Hd.slots [(0, _), (1, _), (4, _), (5, _), (51, _)] ⟨rfl, rfl, rfl, rfl, rfl, trivial⟩ ?_
      refine Hd.toK hK7 ?_
      refine Hd.cond rfl (fun hc1 => ?_) (fun hc1 => ?_)
      ·
        try simp only [decide_eq_true_eq, decide_eq_false_iff_not, Bool.and_eq_true, Bool.or_eq_true, Bool.and_eq_false_iff, Bool.or_eq_false_iff, Bool.not_eq_true', Bool.not_eq_false', Bool.not_eq_true, Bool.not_eq_false, Int.not_lt, Int.not_le, Decidable.not_not, ne_eq] at hc1
        refine Hd.region ?_
        refine Hd.yv (y_move rfl) ?_
        first | (refine Hd.yv (y_addn rfl rfl (by simp only [InK]; omega)) ?_) | (refine Hd.yv (y_add rfl rfl) ?_)
        refine Hd.yv (y_assign rfl) ?_
        refine Hd.nil ?_
        refine Hd.name (b := ((2 * i + 1 + 1 : Nat) : Int)) 5 rfl (by omega) ?_
        refine Hd.slots [(0, _), (1, _), (4, _), (5, _)] ⟨rfl, rfl, rfl, rfl, trivial⟩ ?_
        clear hK1 hK2 hK3 hK4 hK5 hK6 hK7
        refine Hd.thenN ?_
        have hb1 : 2 * i + 1 + 1 < n := by have := hc1.1; omega
        exact Hd.meet (2 * i + 1 + 1) (by repeat (first | exact trivial | refine ⟨rfl, ?_⟩)) (Ent.sep (.pure ⟨hb1, by omega, by unfold par; omega, fun c h1 h2 h3 => by
          rcases (show c = 2 * i + 1 ∨ c = 2 * i + 1 + 1 by unfold par at h3; omega) with rfl | rfl
          · exact leI_of_lt ((cmpI_neg _ _).1 hc1.2)
          · exact leI_rfl _⟩ enn))
      ·
        try simp only [decide_eq_true_eq, decide_eq_false_iff_not, Bool.and_eq_true, Bool.or_eq_true, Bool.and_eq_false_iff, Bool.or_eq_false_iff, Bool.not_eq_true', Bool.not_eq_false', Bool.not_eq_true, Bool.not_eq_false, Int.not_lt, Int.not_le, Decidable.not_not, ne_eq] at hc1
        refine Hd.skip ?_
        clear hK1 hK2 hK3 hK4 hK5 hK6 hK7
        refine Hd.thenN ?_
        exact Hd.meet (2 * i + 1) (by repeat (first | exact trivial | refine ⟨rfl, ?_⟩)) (Ent.sep (.pure ⟨hb0, by omega, by unfold par; omega, fun c h1 h2 h3 => by
          rcases (show c = 2 * i + 1 ∨ c = 2 * i + 1 + 1 by unfold par at h3; omega) with rfl | rfl
          · exact leI_rfl _
          · rcases hc1 with h | h
            · omega
            · intro q; have := (cmpI_neg _ _).2 q; omega⟩ enn))
    ·
      intro j
      refine Hd.pure (fun hj => ?_)
      obtain ⟨hjn, hj0, hjp, hjm⟩ := hj
      have hij : i < j := by unfold par at hjp; omega
      have hgj : V[j]? = some (g V j) := g_at (by omega)
      have hgJ : g (V.set i x) j = g V j := hgo j (by omega)
      have hjS : j < (V.set i x).length := by simpa using (show j < V.length by omega)
      have hjm2 : ∀ c, 0 < c → c < (V.set i x).length → par c = i → leI (g (V.set i x) j) (g (V.set i x) c) := fun c h1 h2 h3 => by
        rw [hgJ, hgo c (by unfold par at h3; omega)]; exact hjm c h1 (by rw [List.length_set] at h2; omega) h3
      refine Hd.seq (fun K8 hK8 => ?_)
      refine Hd.seq (fun K9 hK9 => ?_)
      refine Hd.quiet mixed (by kernel_rfl) ?_
      first | (refine Hq.yv (y_loadn (us := [_, _, _]) ag69 rfl (Rd.pt pkk (by (first | (intro j v e; rcases j with _|_|_|_|_|_|_|_|_|_|_|_|j <;> first | exact e | exact absurd e (by simp))))) (by exact sz69)) ?_) | (refine Hq.yv (y_loadn (us := [_, _, _]) ag69 rfl (Rd.seg pkk (by (first | (intro j v e; rcases j with _|_|_|_|_|_|_|_|_|_|_|_|j <;> first | exact e | exact absurd e (by simp))))) (by exact sz69)) ?_) | (refine Hq.yv (y_loadRn ag69 rfl (by (first | exact RdS.own pkk)) (by (first | (intro j v e; rcases j with _|_|_|_|_|_|_|_|_|_|_|_|j <;> first | exact e | exact absurd e (by simp)))) (by exact sz69) (by simp)) ?_)
      refine Hq.yv (y_move rfl) ?_
      refine Hq.yv (y_nilp rfl) ?_
      first | (refine Hq.yv (y_field' (q := 0) (ft := 77) Try.underlying100 rfl sz77 rfl rfl) ?_) | (refine Hq.yv (y_fieldR (q := 0) (ft := 77) Try.underlying100 rfl sz77 rfl rfl) ?_)
      first | (refine Hq.yv (y_load1 ag77 rfl (Rd.pt1 pkk (by (first | rfl)))) ?_) | (refine Hq.yv (y_load1 ag77 rfl (Rd.seg1 pkk (by (first | rfl)))) ?_) | (refine Hq.yv (y_loadR1 ag77 rfl (by (first | exact RdS.own pkk)) (by (first | rfl))) ?_)
      refine Hq.yv (y_move rfl) ?_
      first | (refine Hq.yv (y_idxS Try.underlying77 sz69 rfl rfl (by first | omega | decide)) ?_) | (refine Hq.yv (y_idxR Try.underlying77 sz69 rfl rfl (by first | omega | decide) (by (first | exact RdS.own pkk))) ?_)
      refine Hq.yv (y_loadRn (vs := [_, _, _]) ag69 rfl (RdS.own pkk) (flat_cells encI 3 (fun _ => rfl) hgj) (by exact sz69) (by simp)) ?_
      refine Hq.call rfl fk78 (compare_ct _ x (g V j)) ?_
      refine Hq.yv (y_leq rfl rfl) ?_
      refine Hq.nil ?_
      refine Hd.slots [(0, _), (1, _), (4, _), (5, _), (63, _)] ⟨rfl, rfl, rfl, rfl, rfl, trivial⟩ ?_
      refine Hd.toK hK9 ?_
      refine Hd.cond rfl (fun hc2 => ?_) (fun hc2 => ?_)
      ·
        try simp only [decide_eq_true_eq, decide_eq_false_iff_not, Bool.and_eq_true, Bool.or_eq_true, Bool.and_eq_false_iff, Bool.or_eq_false_iff, Bool.not_eq_true', Bool.not_eq_false', Bool.not_eq_true, Bool.not_eq_false, Int.not_lt, Int.not_le, Decidable.not_not, ne_eq] at hc2
        have hheap : HeapL (V.set i x) := hHo.done hPO fun c h1 h2 h3 => leI_trans (by rw [hgi, hgJ]; exact (cmpI_le _ _).1 hc2) (hjm2 c h1 h2 h3)
        refine Hd.exit ?_
        refine Hd.thenExit ?_
        refine Hd.inBexit' rfl ?_
        refine Hd.thenExit ?_
        refine Hd.inBexit ?_
        refine Hd.toK hK3 ?_
        refine Hd.region ?_
        refine Hd.yv (y_move rfl) ?_
        refine Hd.yv (y_move rfl) ?_
        first | (refine Hd.yv (y_loadn (us := [_, _, _]) ag69 rfl (Rd.pt pkk (by (first | (intro j v e; rcases j with _|_|_|_|_|_|_|_|_|_|_|_|j <;> first | exact e | exact absurd e (by simp))))) (by exact sz69)) ?_) | (refine Hd.yv (y_loadn (us := [_, _, _]) ag69 rfl (Rd.seg pkk (by (first | (intro j v e; rcases j with _|_|_|_|_|_|_|_|_|_|_|_|j <;> first | exact e | exact absurd e (by simp))))) (by exact sz69)) ?_) | (refine Hd.yv (y_loadRn ag69 rfl (by (first | exact RdS.own pkk)) (by (first | (intro j v e; rcases j with _|_|_|_|_|_|_|_|_|_|_|_|j <;> first | exact e | exact absurd e (by simp)))) (by exact sz69) (by simp)) ?_)
        refine Hd.callE rfl fk76 (put_ct (pt b4 (encI x) 69 :: L) b mb ad n cap V hVn f i hin x) (Ent.sep enn) ?_
        intro _
        refine Hd.nil ?_
        refine Hd.slots [] trivial ?_
        refine Hd.scNorm ?_
        clear hK1 hK2 hK3 hK4 hK5 hK6 hK8 hK9
        have hM3 := hMa.put hiS hId
        rw [hgi] at hM3
        exact Hd.end0 rfl (V.set i x, putF f x.id i) rfl (Ent.sep (.pure ⟨by simpa using hVn, hPe, hheap, hM3, hId⟩ enn))
      ·
        try simp only [decide_eq_true_eq, decide_eq_false_iff_not, Bool.and_eq_true, Bool.or_eq_true, Bool.and_eq_false_iff, Bool.or_eq_false_iff, Bool.not_eq_true', Bool.not_eq_false', Bool.not_eq_true, Bool.not_eq_false, Int.not_lt, Int.not_le, Decidable.not_not, ne_eq] at hc2
        have hc2' : ¬ cmpI x (g V j) ≤ 0 := by omega
        refine Hd.skip ?_
        refine Hd.toK hK8 ?_
        refine Hd.seq (fun K10 hK10 => ?_)
        refine Hd.region ?_
        refine Hd.yv (y_move rfl) ?_
        refine Hd.yv (y_move rfl) ?_
        refine Hd.yv (y_move rfl) ?_
        refine Hd.yv (y_nilp rfl) ?_
        first | (refine Hd.yv (y_field' (q := 0) (ft := 77) Try.underlying100 rfl sz77 rfl rfl) ?_) | (refine Hd.yv (y_fieldR (q := 0) (ft := 77) Try.underlying100 rfl sz77 rfl rfl) ?_)
        first | (refine Hd.yv (y_load1 ag77 rfl (Rd.pt1 pkk (by (first | rfl)))) ?_) | (refine Hd.yv (y_load1 ag77 rfl (Rd.seg1 pkk (by (first | rfl)))) ?_) | (refine Hd.yv (y_loadR1 ag77 rfl (by (first | exact RdS.own pkk)) (by (first | rfl))) ?_)
        refine Hd.yv (y_move rfl) ?_
        first | (refine Hd.yv (y_idxS Try.underlying77 sz69 rfl rfl (by first | omega | decide)) ?_) | (refine Hd.yv (y_idxR Try.underlying77 sz69 rfl rfl (by first | omega | decide) (by (first | exact RdS.own pkk))) ?_)
        refine Hd.yv (y_loadRn (vs := [_, _, _]) ag69 rfl (RdS.own pkk) (flat_cells encI 3 (fun _ => rfl) hgj) (by exact sz69) (by simp)) ?_
        refine Hd.callE rfl fk76 (put_ct (pt b4 (encI x) 69 :: L) b mb ad n cap V hVn f i hin (g V j)) (Ent.sep enn) ?_
        intro _
        refine Hd.nil ?_
        refine Hd.slots [(0, _), (4, _), (5, _)] ⟨rfl, rfl, rfl, trivial⟩ ?_
        refine Hd.toK hK10 ?_
        refine Hd.region ?_
        refine Hd.yv (y_move rfl) ?_
        refine Hd.yv (y_assign rfl) ?_
        refine Hd.nil ?_
        refine Hd.slots [(0, _), (1, _), (4, _)] ⟨rfl, rfl, rfl, trivial⟩ ?_
        refine Hd.inB ?_
        clear hK1 hK2 hK3 hK4 hK5 hK6 hK8 hK9 hK10
        refine Hd.thenN ?_
        have hlt : ltI (g (V.set i x) j) (g (V.set i x) i) := by
          rw [hgi, hgJ]; exact Decidable.byContradiction fun h => hc2' ((cmpI_le _ _).2 h)
        have hse := step_eq (U := V) (x := x) (i := i) (j := j) hiV (by omega) (by omega)
        have hsp := swp_perm (V := V.set i x) (i := i) (j := j) hiS hjS
        have hM2 := hMa.swp hiS hjS (by omega) hId
        have hI2 := hId.swp hiS hjS
        have hH2 := hHo.down hiS hjS hjp hj0 hjm2 hlt
        rw [hgJ] at hM2
        rw [← hse] at hsp hM2 hI2 hH2
        exact Hd.again (j, V.set i (g V j), putF f (g V j).id i) (by first | omega | (simp only; omega) | (simp; omega)) (by repeat (first | exact trivial | refine ⟨rfl, ?_⟩)) (Ent.sep (.pure ⟨hjn, by simpa using hVn, hH2.1, hH2.2, hsp.trans hPe, hM2, hI2⟩ enn))
  ·
    try simp only [decide_eq_true_eq, decide_eq_false_iff_not, Bool.and_eq_true, Bool.or_eq_true, Bool.and_eq_false_iff, Bool.or_eq_false_iff, Bool.not_eq_true', Bool.not_eq_false', Bool.not_eq_true, Bool.not_eq_false, Int.not_lt, Int.not_le, Decidable.not_not, ne_eq] at hc0
    have hheap : HeapL (V.set i x) := hHo.done hPO fun c h1 h2 h3 => by rw [List.length_set] at h2; unfold par at h3; omega
    refine Hd.exit ?_
    refine Hd.thenExit ?_
    refine Hd.thenExit ?_
    refine Hd.inBexit ?_
    refine Hd.toK hK3 ?_
    refine Hd.region ?_
    refine Hd.yv (y_move rfl) ?_
    refine Hd.yv (y_move rfl) ?_
    first | (refine Hd.yv (y_loadn (us := [_, _, _]) ag69 rfl (Rd.pt pkk (by (first | (intro j v e; rcases j with _|_|_|_|_|_|_|_|_|_|_|_|j <;> first | exact e | exact absurd e (by simp))))) (by exact sz69)) ?_) | (refine Hd.yv (y_loadn (us := [_, _, _]) ag69 rfl (Rd.seg pkk (by (first | (intro j v e; rcases j with _|_|_|_|_|_|_|_|_|_|_|_|j <;> first | exact e | exact absurd e (by simp))))) (by exact sz69)) ?_) | (refine Hd.yv (y_loadRn ag69 rfl (by (first | exact RdS.own pkk)) (by (first | (intro j v e; rcases j with _|_|_|_|_|_|_|_|_|_|_|_|j <;> first | exact e | exact absurd e (by simp)))) (by exact sz69) (by simp)) ?_)
    refine Hd.callE rfl fk76 (put_ct (pt b4 (encI x) 69 :: L) b mb ad n cap V hVn f i hin x) (Ent.sep enn) ?_
    intro _
    refine Hd.nil ?_
    refine Hd.slots [] trivial ?_
    refine Hd.scNorm ?_
    clear hK1 hK2 hK3 hK4 hK5
    have hM3 := hMa.put hiS hId
    rw [hgi] at hM3
    exact Hd.end0 rfl (V.set i x, putF f x.id i) rfl (Ent.sep (.pure ⟨by simpa using hVn, hPe, hheap, hM3, hId⟩ enn))
end Hp
end Go.Proofs.Ytdjoofidicoimaa
