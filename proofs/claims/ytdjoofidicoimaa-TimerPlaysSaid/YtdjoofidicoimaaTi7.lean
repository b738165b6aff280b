/-
  The law TimerOnce answers true.
-/
import Derived.Test.YtdjoofidicoimaaTi4
namespace Go.Proofs.Ytdjoofidicoimaa
set_option linter.unusedSimpArgs false
set_option linter.unusedVariables false
set_option linter.unnecessarySimpa false
open Go.RX Fx Hp Cm
namespace Tm
set_option maxRecDepth 8000
theorem Hd.tmF {E : World} {n : Nat} {ds : List Deferred} {st : List (Nat × Value)} {L L' : List SP} {K : Act → World → Prop} {b : Nat} {qs : List Q} {s : List It} {nx lim : Int} {af : AF} (p : Pick L (TmA b qs s nx af lim) L') (h : CoF qs s nx → AtOk s → Hd E n ds st L K) : Hd E n ds st L K := fun a w f hs => by
  obtain ⟨h1, s1, x⟩ := sep.one p hs.2.2.2
  obtain ⟨t, x⟩ := x
  obtain ⟨k1, k2, _, _, _, y, x⟩ := x
  obtain ⟨h3, _, x2⟩ := sep.one (.there .here) x
  obtain ⟨c, x2⟩ := x2
  obtain ⟨_, _, _, _, _, z, _⟩ := x2
  exact h ⟨_, _, z.1⟩ y.1 a w f hs
theorem rest_due (m : Int) : ∀ s : List It, dueI m (restI m s) = [] ∧ restI m (restI m s) = restI m s
  | [] => ⟨rfl, rfl⟩
  | y :: s => by
    unfold restI dueI
    rw [List.dropWhile_cons]
    split
    · exact rest_due m s
    · rename_i h
      rw [List.takeWhile_cons, List.dropWhile_cons, if_neg h, if_neg h]; exact ⟨rfl, rfl⟩
theorem due_app (m : Int) (s : List It) : dueI m s ++ restI m s = s := List.takeWhile_append_dropWhile
theorem due_gone {m : Int} {s : List It} (hF : HpF s) {y : It} (h : y ∈ dueI m s) : findI y.id (restI m s) = none := by
  refine (findI_none fun z hz e => ?_).1
  have hnd := hF.nd
  rw [← due_app m s, List.map_append, List.nodup_append] at hnd
  exact hnd.2.2 y.id (List.mem_map.2 ⟨y, h, rfl⟩) z.id (List.mem_map.2 ⟨z, hz, rfl⟩) e.symm
theorem due_ne {m : Int} {s : List It} (hF : HpF s) {j k : Nat} (hj : j < k) (hk : k < (dueI m s).length) : (g (dueI m s) j).id ≠ (g (dueI m s) k).id := by
  have hnd := hF.nd
  rw [← due_app m s, List.map_append, List.nodup_append] at hnd
  have h1 := List.pairwise_iff_getElem.1 (List.pairwise_map.1 hnd.1) j k (by omega) hk hj
  have e1 : (dueI m s)[j]'(by omega) = g (dueI m s) j := by
    have := g_at (V := dueI m s) (j := j) (by omega)
    rw [List.getElem?_eq_getElem (by omega)] at this; exact Option.some.inj this
  have e2 : (dueI m s)[k] = g (dueI m s) k := by
    have := g_at (V := dueI m s) (j := k) hk
    rw [List.getElem?_eq_getElem hk] at this; exact Option.some.inj this
  rwa [e1, e2] at h1
/-- each that is pending has a timeout -/
def Has (af : AF) (s : List It) : Prop := ∀ y ∈ s, (af y.id).isSome = true
theorem Has.cut {af : AF} {s : List It} (h : Has af s) (id : Int) : Has af (remI id s) := fun y hy => h y (rem_mem.1 hy).1
theorem Has.del {af : AF} {s : List It} (h : Has af s) (id : Int) : Has (delA af id) (remI id s) := fun y hy => by
  unfold delA; rw [if_neg (rem_mem.1 hy).2]; exact h y (rem_mem.1 hy).1
theorem Has.add {af : AF} {s : List It} (h : Has af s) (id now a nx : Int) : Has (addF af id a) (addS s id now a nx) := fun y hy => by
  unfold addS at hy; unfold addF
  split at hy
  · rename_i hid; rw [if_pos hid]; exact h y hy
  · rename_i hid
    rw [if_neg hid]
    rcases insI_mem.1 hy with rfl | hy
    · show (if _ then _ else _ : Option Int).isSome = true; rw [if_pos rfl]; rfl
    · show (if _ then _ else _ : Option Int).isSome = true; rw [if_neg (rem_mem.1 hy).2]; exact h y (rem_mem.1 hy).1
theorem Has.ag {af : AF} {s : List It} (h : Has af s) (id now nx : Int) : Has (agF af id) (agS s af id now nx) := by
  unfold agF agS; split
  · exact h.add id now _ nx
  · exact h
theorem leftV_is (o : Option It) (now : Int) : (leftV o now).2 = o.isSome := by cases o <;> rfl
set_option maxHeartbeats 2000000 in
theorem once_ct (L : List SP) (ad : Option Addr) (c : Nat) (xs : List Opt) (hR : RdS L 5 ad xs.length (xs.flatMap encO)) (hO : ∀ o ∈ xs, OpOk o) : Ct Try.prog 4 #[.slice ad xs.length c] (L) (fun _ : Unit => .bool true) (fun _ : Unit => L) := by
  refine Ct.of (vs := [.slice ad xs.length c]) Try.func4 rfl rfl [(0, .slice ad xs.length c)] (by repeat (first | exact trivial | refine ⟨rfl, ?_⟩)) ?_
  intro E
  show Hd E 200 _ _ _ _
  refine Hd.seq (fun K1 hK1 => ?_)
  refine Hd.region ?_
  refine Hd.yv (y_assign rfl) ?_
  refine Hd.nil ?_
  refine Hd.slots [(0, _)] ⟨rfl, trivial⟩ ?_
  refine Hd.toK hK1 ?_
  refine Hd.seq (fun K2 hK2 => ?_)
  refine Hd.region ?_
  refine Hd.callE rfl fk9 (alive_ct _) (Ent.sep enn) ?_
  intro _
  refine Hd.yv (y_assign rfl) ?_
  refine Hd.nil ?_
  refine Hd.slots [(0, _), (3, _)] ⟨rfl, rfl, trivial⟩ ?_
  refine Hd.toK hK2 ?_
  refine Hd.seq (fun K3 hK3 => ?_)
  refine Hd.seq (fun K4 hK4 => ?_)
  refine Hd.region ?_
  refine Hd.yv (y_move rfl) ?_
  refine Hd.yv (y_len Try.underlying39 rfl) ?_
  refine Hd.yv (y_gtr rfl rfl) ?_
  refine Hd.yv (y_move rfl) ?_
  apply Hd.org 3 29 32 [(0, _), (3, _)] rfl ⟨rfl, rfl, trivial⟩
  · intro hg2_29
    try simp only [decide_eq_true_eq, decide_eq_false_iff_not, Bool.and_eq_true, Bool.or_eq_true, Bool.and_eq_false_iff, Bool.or_eq_false_iff, Bool.not_eq_true', Bool.not_eq_false', Bool.not_eq_true, Bool.not_eq_false, Int.not_lt, Int.not_le, Decidable.not_not, ne_eq] at hg2_29
    simp only [List.take]
    refine Hd.ng rfl rfl rfl ?_
    refine Hd.ng rfl rfl rfl ?_
    first | (refine Hd.yv (y_pickT rfl rfl) ?_) | (refine Hd.yv (y_pickF rfl rfl) ?_) | (refine Hd.yv (y_pickb rfl rfl rfl) ?_) | (refine Hd.yv (y_pick rfl rfl rfl) ?_)
    refine Hd.nil ?_
    exact Hd.mend (by repeat (first | exact trivial | refine ⟨rfl, ?_⟩)) (Ent.sep enn)
  · intro hg2_29
    try simp only [decide_eq_true_eq, decide_eq_false_iff_not, Bool.and_eq_true, Bool.or_eq_true, Bool.and_eq_false_iff, Bool.or_eq_false_iff, Bool.not_eq_true', Bool.not_eq_false', Bool.not_eq_true, Bool.not_eq_false, Int.not_lt, Int.not_le, Decidable.not_not, ne_eq] at hg2_29
    simp only [List.take]
    refine Hd.yg rfl rfl (y_move rfl) ?_
    refine Hd.yg rfl rfl (y_not rfl) ?_
    first | (refine Hd.yv (y_pickT rfl rfl) ?_) | (refine Hd.yv (y_pickF rfl rfl) ?_) | (refine Hd.yv (y_pickb rfl rfl rfl) ?_) | (refine Hd.yv (y_pick rfl rfl rfl) ?_)
    refine Hd.nil ?_
    exact Hd.mend (by repeat (first | exact trivial | refine ⟨rfl, ?_⟩)) (Ent.sep enn)
  simp only [List.drop]
  refine Hd.nil ?_
  refine Hd.slots [(0, _), (3, _), (32, _)] ⟨rfl, rfl, rfl, trivial⟩ ?_
  refine Hd.toK hK4 ?_
  refine Hd.cond rfl (fun hc0 => ?_) (fun hc0 => ?_)
  ·
    try simp only [decide_eq_true_eq, decide_eq_false_iff_not, Bool.and_eq_true, Bool.or_eq_true, Bool.and_eq_false_iff, Bool.or_eq_false_iff, Bool.not_eq_true', Bool.not_eq_false', Bool.not_eq_true, Bool.not_eq_false, Int.not_lt, Int.not_le, Decidable.not_not, ne_eq] at hc0
    refine Hd.seq (fun K5 hK5 => ?_)
    refine Hd.region ?_
    refine Hd.yv (y_move rfl) ?_
    refine Hd.yv (y_assign rfl) ?_
    refine Hd.nil ?_
    refine Hd.slots [(2, _)] ⟨rfl, trivial⟩ ?_
    refine Hd.toK hK5 ?_
    refine Hd.ret ?_
    refine Hd.thenRet ?_
    clear hK1 hK2 hK3 hK4 hK5
    exact Hd.ret1 rfl () (by first | rfl | (simp only [*]; done) | (simp [*]; done)) (Ent.sep enn)
  ·
    try simp only [decide_eq_true_eq, decide_eq_false_iff_not, Bool.and_eq_true, Bool.or_eq_true, Bool.and_eq_false_iff, Bool.or_eq_false_iff, Bool.not_eq_true', Bool.not_eq_false', Bool.not_eq_true, Bool.not_eq_false, Int.not_lt, Int.not_le, Decidable.not_not, ne_eq] at hc0
    have hx : xs.length ≤ 100 := by have := hc0; simp at this; omega
    refine Hd.skip ?_
    refine Hd.toK hK3 ?_
    refine Hd.seq (fun K6 hK6 => ?_)
    refine Hd.region ?_
    refine Hd.callE rfl fk10 (tnew_ct _) (Ent.sep enn) ?_
    intro b
    refine Hd.yv (y_assign rfl) ?_
    refine Hd.nil ?_
    refine Hd.slots [(0, _), (3, _), (4, _)] ⟨rfl, rfl, rfl, trivial⟩ ?_
    refine Hd.toK hK6 ?_
    refine Hd.seq (fun K7 hK7 => ?_)
    refine Hd.seq (fun K8 hK8 => ?_)
    refine Hd.region ?_
    refine Hd.yv (y_assign rfl) ?_
    refine Hd.nil ?_
    refine Hd.slots [(0, _), (3, _), (4, _), (5, _)] ⟨rfl, rfl, rfl, rfl, trivial⟩ ?_
    refine Hd.toK hK8 ?_
    refine Hd.block ?_
    refine Hd.loopK (ι := Nat × List Q × List It × Int × AF) [(0, _), (3, _), (4, _)] (fun q_ => [(5, .int .i64 (q_.1 : Int))]) (fun q_ => pu (q_.1 ≤ xs.length ∧ q_.2.2.1.length ≤ q_.1 ∧ q_.2.2.2.1 ≤ q_.1 ∧ AfOk q_.2.2.2.2 ∧ Has q_.2.2.2.2 q_.2.2.1) :: TmA b q_.2.1 q_.2.2.1 q_.2.2.2.1 q_.2.2.2.2 NV :: L) (fun q_ => xs.length - q_.1) (0, [], [], 0, fun _ => none) (by repeat (first | exact trivial | refine ⟨rfl, ?_⟩)) (by repeat (first | exact trivial | refine ⟨rfl, ?_⟩)) (Ent.sep (.pure ⟨Nat.zero_le _, Nat.zero_le _, Int.le_refl _, AfOk.none, fun y hy => by cases hy⟩ enn)) ?_
    rintro ⟨i, qs, s, nx, af⟩
    try dsimp only
    refine Hd.pure (fun hp0 => ?_)
    try dsimp only at hp0
    refine Hd.seq (fun K9 hK9 => ?_)
    refine Hd.seq (fun K10 hK10 => ?_)
    refine Hd.region ?_
    refine Hd.yv (y_move rfl) ?_
    refine Hd.yv (y_move rfl) ?_
    refine Hd.yv (y_len Try.underlying39 rfl) ?_
    refine Hd.yv (y_lss rfl rfl) ?_
    refine Hd.nil ?_
    refine Hd.slots [(0, _), (3, _), (4, _), (5, _), (38, _)] ⟨rfl, rfl, rfl, rfl, rfl, trivial⟩ ?_
    refine Hd.toK hK10 ?_
    refine Hd.cond rfl (fun hc1 => ?_) (fun hc1 => ?_)
    ·
      try simp only [decide_eq_true_eq, decide_eq_false_iff_not, Bool.and_eq_true, Bool.or_eq_true, Bool.and_eq_false_iff, Bool.or_eq_false_iff, Bool.not_eq_true', Bool.not_eq_false', Bool.not_eq_true, Bool.not_eq_false, Int.not_lt, Int.not_le, Decidable.not_not, ne_eq] at hc1
      have hi : i < xs.length := by omega
      obtain ⟨_, hsl, hnl, haf, hhas⟩ := hp0
      obtain ⟨x, hxo⟩ : ∃ x, xs[i]? = some x := ⟨_, List.getElem?_eq_getElem hi⟩
      have hok := hO x (List.mem_of_getElem? hxo)
      refine Hd.tmF (b := b) pkk (fun hcf hat => ?_)
      have hF := hcf.hF
      refine Hd.skip ?_
      refine Hd.toK hK9 ?_
      refine Hd.seq (fun K11 hK11 => ?_)
      refine Hd.block ?_
      refine Hd.seq (fun K12 hK12 => ?_)
      refine Hd.region ?_
      refine Hd.yv (y_move rfl) ?_
      refine Hd.yv (y_move rfl) ?_
      first | (refine Hd.yv (y_idxS Try.underlying39 sz41 rfl rfl (by first | omega | decide)) ?_) | (refine Hd.yv (y_idxR Try.underlying39 sz41 rfl rfl (by first | omega | decide) (by (first | exact RdS.own pkk | exact RdS.mono hR (Ent.sep enn)))) ?_)
      refine Hd.yv (y_loadRn (vs := [_, _, _, _, _]) ag41 rfl (RdS.mono hR (Ent.sep enn)) (flat_cells encO 5 (fun _ => rfl) hxo) (by exact sz41) (by simp)) ?_
      refine Hd.alloc zr41 (fun b6 => ?_)
      refine Hd.storeA (us := encO x) sz41 rfl rfl rfl (by simp [Value.oneCell']) pkk (by exact rfl) ?_
      refine Hd.nil ?_
      refine Hd.slots [(0, _), (3, _), (4, _), (5, _), (6, _)] ⟨rfl, rfl, rfl, rfl, rfl, trivial⟩ ?_
      refine Hd.toK hK12 ?_
      refine Hd.seq (fun K13 hK13 => ?_)
      refine Hd.region ?_
      refine Hd.yv (y_move rfl) ?_
      first | (refine Hd.yv (y_field' (q := 1) (ft := 3) Try.underlying41 rfl sz3 rfl rfl) ?_) | (refine Hd.yv (y_fieldR (q := 1) (ft := 3) Try.underlying41 rfl sz3 rfl rfl) ?_)
      first | (refine Hd.yv (y_load1 ag3 rfl (Rd.pt1 pkk (by (first | exact hek | rfl)))) ?_) | (refine Hd.yv (y_load1 ag3 rfl (Rd.seg1 pkk (by (first | exact hek | rfl)))) ?_) | (refine Hd.yv (y_loadR1 ag3 rfl (by (first | exact RdS.own pkk | exact RdS.mono hR (Ent.sep enn))) (by (first | exact hek | rfl))) ?_)
      first | (refine Hd.yv (y_field' (q := 2) (ft := 23) Try.underlying41 rfl sz23 rfl rfl) ?_) | (refine Hd.yv (y_fieldR (q := 2) (ft := 23) Try.underlying41 rfl sz23 rfl rfl) ?_)
      first | (refine Hd.yv (y_load1 ag23 rfl (Rd.pt1 pkk (by (first | exact hek | rfl)))) ?_) | (refine Hd.yv (y_load1 ag23 rfl (Rd.seg1 pkk (by (first | exact hek | rfl)))) ?_) | (refine Hd.yv (y_loadR1 ag23 rfl (by (first | exact RdS.own pkk | exact RdS.mono hR (Ent.sep enn))) (by (first | exact hek | rfl))) ?_)
      refine Hd.callE rfl fk18 (tleft_ct _ b qs s nx af NV x.id x.now hok.1) (Ent.sep enn) ?_
      intro _
      refine Hd.yv (y_move rfl) ?_
      refine Hd.yv (y_extract rfl rfl) ?_
      refine Hd.yv (y_extract rfl rfl) ?_
      refine Hd.yv (y_assign rfl) ?_
      refine Hd.yv (y_assign rfl) ?_
      refine Hd.nil ?_
      refine Hd.slots [(0, _), (3, _), (4, _), (5, _), (6, _), (8, _)] ⟨rfl, rfl, rfl, rfl, rfl, rfl, trivial⟩ ?_
      refine Hd.toK hK13 ?_
      refine Hd.seq (fun K14 hK14 => ?_)
      refine Hd.region ?_
      first | (refine Hd.yv (y_field' (q := 0) (ft := 3) Try.underlying41 rfl sz3 rfl rfl) ?_) | (refine Hd.yv (y_fieldR (q := 0) (ft := 3) Try.underlying41 rfl sz3 rfl rfl) ?_)
      first | (refine Hd.yv (y_load1 ag3 rfl (Rd.pt1 pkk (by (first | exact hek | rfl)))) ?_) | (refine Hd.yv (y_load1 ag3 rfl (Rd.seg1 pkk (by (first | exact hek | rfl)))) ?_) | (refine Hd.yv (y_loadR1 ag3 rfl (by (first | exact RdS.own pkk | exact RdS.mono hR (Ent.sep enn))) (by (first | exact hek | rfl))) ?_)
      refine Hd.nil ?_
      refine Hd.slots [(0, _), (3, _), (4, _), (5, _), (6, _), (8, _), (55, _)] ⟨rfl, rfl, rfl, rfl, rfl, rfl, rfl, trivial⟩ ?_
      refine Hd.toK hK14 ?_
      refine Hd.block ?_
      refine Hd.seq (fun K15 hK15 => ?_)
      refine Hd.region ?_
      first | (refine Hd.yv (y_eqlT rfl rfl) ?_) | (refine Hd.yv (y_eql rfl rfl) ?_)
      refine Hd.yv (y_assign rfl) ?_
      refine Hd.nil ?_
      refine Hd.slots [(0, _), (3, _), (4, _), (5, _), (6, _), (8, _), (55, _), (56, _)] ⟨rfl, rfl, rfl, rfl, rfl, rfl, rfl, rfl, trivial⟩ ?_
      refine Hd.toK hK15 ?_
      refine Hd.cond rfl (fun hc2 => ?_) (fun hc2 => ?_)
      ·
        try simp only [decide_eq_true_eq, decide_eq_false_iff_not, Bool.and_eq_true, Bool.or_eq_true, Bool.and_eq_false_iff, Bool.or_eq_false_iff, Bool.not_eq_true', Bool.not_eq_false', Bool.not_eq_true, Bool.not_eq_false, Int.not_lt, Int.not_le, Decidable.not_not, ne_eq] at hc2
        refine Hd.region ?_
        refine Hd.yv (y_move rfl) ?_
        first | (refine Hd.yv (y_field' (q := 1) (ft := 3) Try.underlying41 rfl sz3 rfl rfl) ?_) | (refine Hd.yv (y_fieldR (q := 1) (ft := 3) Try.underlying41 rfl sz3 rfl rfl) ?_)
        first | (refine Hd.yv (y_load1 ag3 rfl (Rd.pt1 pkk (by (first | exact hek | rfl)))) ?_) | (refine Hd.yv (y_load1 ag3 rfl (Rd.seg1 pkk (by (first | exact hek | rfl)))) ?_) | (refine Hd.yv (y_loadR1 ag3 rfl (by (first | exact RdS.own pkk | exact RdS.mono hR (Ent.sep enn))) (by (first | exact hek | rfl))) ?_)
        first | (refine Hd.yv (y_field' (q := 2) (ft := 23) Try.underlying41 rfl sz23 rfl rfl) ?_) | (refine Hd.yv (y_fieldR (q := 2) (ft := 23) Try.underlying41 rfl sz23 rfl rfl) ?_)
        first | (refine Hd.yv (y_load1 ag23 rfl (Rd.pt1 pkk (by (first | exact hek | rfl)))) ?_) | (refine Hd.yv (y_load1 ag23 rfl (Rd.seg1 pkk (by (first | exact hek | rfl)))) ?_) | (refine Hd.yv (y_loadR1 ag23 rfl (by (first | exact RdS.own pkk | exact RdS.mono hR (Ent.sep enn))) (by (first | exact hek | rfl))) ?_)
        first | (refine Hd.yv (y_field' (q := 3) (ft := 23) Try.underlying41 rfl sz23 rfl rfl) ?_) | (refine Hd.yv (y_fieldR (q := 3) (ft := 23) Try.underlying41 rfl sz23 rfl rfl) ?_)
        first | (refine Hd.yv (y_load1 ag23 rfl (Rd.pt1 pkk (by (first | exact hek | rfl)))) ?_) | (refine Hd.yv (y_load1 ag23 rfl (Rd.seg1 pkk (by (first | exact hek | rfl)))) ?_) | (refine Hd.yv (y_loadR1 ag23 rfl (by (first | exact RdS.own pkk | exact RdS.mono hR (Ent.sep enn))) (by (first | exact hek | rfl))) ?_)
        refine Hd.callE rfl fk13 (tadd_ct _ b qs s nx af NV (by omega) (by omega) x.id x.now x.af hok.1 hok.2) (Ent.sep enn) ?_
        intro _
        refine Hd.nil ?_
        refine Hd.slots [(0, _), (3, _), (4, _), (5, _)] ⟨rfl, rfl, rfl, rfl, trivial⟩ ?_
        refine Hd.inB ?_
        refine Hd.inB ?_
        refine Hd.toK hK11 ?_
        refine Hd.region ?_
        refine Hd.yv (y_move rfl) ?_
        first | (refine Hd.yv (y_addn rfl rfl (by simp only [InK]; omega)) ?_) | (refine Hd.yv (y_add rfl rfl) ?_)
        refine Hd.yv (y_assign rfl) ?_
        refine Hd.nil ?_
        refine Hd.slots [(0, _), (3, _), (4, _), (5, _)] ⟨rfl, rfl, rfl, rfl, trivial⟩ ?_
        clear hK1 hK2 hK3 hK4 hK6 hK7 hK8 hK9 hK10 hK11 hK12 hK13 hK14 hK15
        refine Hd.thenN ?_
        exact Hd.again (i + 1, addQ qs x.id x.now x.af nx, addS s x.id x.now x.af nx, addN x.id nx, addF af x.id x.af) (by first | omega | (simp only; omega) | (simp; omega)) (by repeat (first | exact trivial | refine ⟨rfl, ?_⟩)) (Ent.sep (.pure ⟨hi, by have := addS_len s x.id x.now x.af nx; show (addS s x.id x.now x.af nx).length ≤ i + 1; omega, by have := addN_le x.id nx; show addN x.id nx ≤ ((i + 1 : Nat) : Int); omega, haf.add hok.2 x.id, hhas.add x.id x.now x.af nx⟩ enn))
      ·
        try simp only [decide_eq_true_eq, decide_eq_false_iff_not, Bool.and_eq_true, Bool.or_eq_true, Bool.and_eq_false_iff, Bool.or_eq_false_iff, Bool.not_eq_true', Bool.not_eq_false', Bool.not_eq_true, Bool.not_eq_false, Int.not_lt, Int.not_le, Decidable.not_not, ne_eq] at hc2
        refine Hd.seq (fun K16 hK16 => ?_)
        refine Hd.region ?_
        first | (refine Hd.yv (y_eqlT rfl rfl) ?_) | (refine Hd.yv (y_eql rfl rfl) ?_)
        refine Hd.yv (y_assign rfl) ?_
        refine Hd.nil ?_
        refine Hd.slots [(0, _), (3, _), (4, _), (5, _), (6, _), (8, _), (55, _), (66, _)] ⟨rfl, rfl, rfl, rfl, rfl, rfl, rfl, rfl, trivial⟩ ?_
        refine Hd.toK hK16 ?_
        refine Hd.cond rfl (fun hc3 => ?_) (fun hc3 => ?_)
        ·
          try simp only [decide_eq_true_eq, decide_eq_false_iff_not, Bool.and_eq_true, Bool.or_eq_true, Bool.and_eq_false_iff, Bool.or_eq_false_iff, Bool.not_eq_true', Bool.not_eq_false', Bool.not_eq_true, Bool.not_eq_false, Int.not_lt, Int.not_le, Decidable.not_not, ne_eq] at hc3
          refine Hd.region ?_
          refine Hd.yv (y_move rfl) ?_
          first | (refine Hd.yv (y_field' (q := 1) (ft := 3) Try.underlying41 rfl sz3 rfl rfl) ?_) | (refine Hd.yv (y_fieldR (q := 1) (ft := 3) Try.underlying41 rfl sz3 rfl rfl) ?_)
          first | (refine Hd.yv (y_load1 ag3 rfl (Rd.pt1 pkk (by (first | exact hek | rfl)))) ?_) | (refine Hd.yv (y_load1 ag3 rfl (Rd.seg1 pkk (by (first | exact hek | rfl)))) ?_) | (refine Hd.yv (y_loadR1 ag3 rfl (by (first | exact RdS.own pkk | exact RdS.mono hR (Ent.sep enn))) (by (first | exact hek | rfl))) ?_)
          first | (refine Hd.yv (y_field' (q := 2) (ft := 23) Try.underlying41 rfl sz23 rfl rfl) ?_) | (refine Hd.yv (y_fieldR (q := 2) (ft := 23) Try.underlying41 rfl sz23 rfl rfl) ?_)
          first | (refine Hd.yv (y_load1 ag23 rfl (Rd.pt1 pkk (by (first | exact hek | rfl)))) ?_) | (refine Hd.yv (y_load1 ag23 rfl (Rd.seg1 pkk (by (first | exact hek | rfl)))) ?_) | (refine Hd.yv (y_loadR1 ag23 rfl (by (first | exact RdS.own pkk | exact RdS.mono hR (Ent.sep enn))) (by (first | exact hek | rfl))) ?_)
          refine Hd.callE rfl fk19 (tagain_ct _ b qs s nx af NV (by omega) (by omega) haf x.id x.now hok.1) (Ent.sep enn) ?_
          intro _
          refine Hd.nil ?_
          refine Hd.slots [(0, _), (3, _), (4, _), (5, _)] ⟨rfl, rfl, rfl, rfl, trivial⟩ ?_
          refine Hd.inB ?_
          refine Hd.inB ?_
          refine Hd.toK hK11 ?_
          refine Hd.region ?_
          refine Hd.yv (y_move rfl) ?_
          first | (refine Hd.yv (y_addn rfl rfl (by simp only [InK]; omega)) ?_) | (refine Hd.yv (y_add rfl rfl) ?_)
          refine Hd.yv (y_assign rfl) ?_
          refine Hd.nil ?_
          refine Hd.slots [(0, _), (3, _), (4, _), (5, _)] ⟨rfl, rfl, rfl, rfl, trivial⟩ ?_
          clear hK1 hK2 hK3 hK4 hK6 hK7 hK8 hK9 hK10 hK11 hK12 hK13 hK14 hK15 hK16
          refine Hd.thenN ?_
          exact Hd.again (i + 1, agQ qs af x.id x.now nx, agS s af x.id x.now nx, agN af x.id nx, agF af x.id) (by first | omega | (simp only; omega) | (simp; omega)) (by repeat (first | exact trivial | refine ⟨rfl, ?_⟩)) (Ent.sep (.pure ⟨hi, by have := agS_len s af x.id x.now nx; show (agS s af x.id x.now nx).length ≤ i + 1; omega, by have := agN_le af x.id nx; show agN af x.id nx ≤ ((i + 1 : Nat) : Int); omega, haf.ag x.id, hhas.ag x.id x.now nx⟩ enn))
        ·
          try simp only [decide_eq_true_eq, decide_eq_false_iff_not, Bool.and_eq_true, Bool.or_eq_true, Bool.and_eq_false_iff, Bool.or_eq_false_iff, Bool.not_eq_true', Bool.not_eq_false', Bool.not_eq_true, Bool.not_eq_false, Int.not_lt, Int.not_le, Decidable.not_not, ne_eq] at hc3
          refine Hd.seq (fun K17 hK17 => ?_)
          refine Hd.region ?_
          first | (refine Hd.yv (y_eqlT rfl rfl) ?_) | (refine Hd.yv (y_eql rfl rfl) ?_)
          refine Hd.yv (y_assign rfl) ?_
          refine Hd.nil ?_
          refine Hd.slots [(0, _), (3, _), (4, _), (5, _), (6, _), (8, _), (55, _), (74, _)] ⟨rfl, rfl, rfl, rfl, rfl, rfl, rfl, rfl, trivial⟩ ?_
          refine Hd.toK hK17 ?_
          refine Hd.cond rfl (fun hc4 => ?_) (fun hc4 => ?_)
          ·
            try simp only [decide_eq_true_eq, decide_eq_false_iff_not, Bool.and_eq_true, Bool.or_eq_true, Bool.and_eq_false_iff, Bool.or_eq_false_iff, Bool.not_eq_true', Bool.not_eq_false', Bool.not_eq_true, Bool.not_eq_false, Int.not_lt, Int.not_le, Decidable.not_not, ne_eq] at hc4
            refine Hd.seq (fun K18 hK18 => ?_)
            refine Hd.region ?_
            refine Hd.yv (y_move rfl) ?_
            first | (refine Hd.yv (y_field' (q := 1) (ft := 3) Try.underlying41 rfl sz3 rfl rfl) ?_) | (refine Hd.yv (y_fieldR (q := 1) (ft := 3) Try.underlying41 rfl sz3 rfl rfl) ?_)
            first | (refine Hd.yv (y_load1 ag3 rfl (Rd.pt1 pkk (by (first | exact hek | rfl)))) ?_) | (refine Hd.yv (y_load1 ag3 rfl (Rd.seg1 pkk (by (first | exact hek | rfl)))) ?_) | (refine Hd.yv (y_loadR1 ag3 rfl (by (first | exact RdS.own pkk | exact RdS.mono hR (Ent.sep enn))) (by (first | exact hek | rfl))) ?_)
            refine Hd.callE rfl fk20 (tcut_ct _ b qs s nx af NV (by omega) x.id) (Ent.sep enn) ?_
            intro _
            refine Hd.yv (y_assign rfl) ?_
            refine Hd.nil ?_
            refine Hd.slots [(0, _), (3, _), (4, _), (5, _), (6, _), (8, _), (9, _)] ⟨rfl, rfl, rfl, rfl, rfl, rfl, rfl, trivial⟩ ?_
            refine Hd.toK hK18 ?_
            refine Hd.seq (fun K19 hK19 => ?_)
            refine Hd.region ?_
            refine Hd.yv (y_move rfl) ?_
            first | (refine Hd.yv (y_field' (q := 1) (ft := 3) Try.underlying41 rfl sz3 rfl rfl) ?_) | (refine Hd.yv (y_fieldR (q := 1) (ft := 3) Try.underlying41 rfl sz3 rfl rfl) ?_)
            first | (refine Hd.yv (y_load1 ag3 rfl (Rd.pt1 pkk (by (first | exact hek | rfl)))) ?_) | (refine Hd.yv (y_load1 ag3 rfl (Rd.seg1 pkk (by (first | exact hek | rfl)))) ?_) | (refine Hd.yv (y_loadR1 ag3 rfl (by (first | exact RdS.own pkk | exact RdS.mono hR (Ent.sep enn))) (by (first | exact hek | rfl))) ?_)
            first | (refine Hd.yv (y_field' (q := 2) (ft := 23) Try.underlying41 rfl sz23 rfl rfl) ?_) | (refine Hd.yv (y_fieldR (q := 2) (ft := 23) Try.underlying41 rfl sz23 rfl rfl) ?_)
            first | (refine Hd.yv (y_load1 ag23 rfl (Rd.pt1 pkk (by (first | exact hek | rfl)))) ?_) | (refine Hd.yv (y_load1 ag23 rfl (Rd.seg1 pkk (by (first | exact hek | rfl)))) ?_) | (refine Hd.yv (y_loadR1 ag23 rfl (by (first | exact RdS.own pkk | exact RdS.mono hR (Ent.sep enn))) (by (first | exact hek | rfl))) ?_)
            refine Hd.callE rfl fk18 (tleft_ct _ b (cutQ x.id qs) (remI x.id s) nx af NV x.id x.now hok.1) (Ent.sep enn) ?_
            intro _
            rw [findI_rem]
            refine Hd.yv (y_move rfl) ?_
            refine Hd.yv (y_extract rfl rfl) ?_
            refine Hd.yv (y_extract rfl rfl) ?_
            refine Hd.yv (y_assign rfl) ?_
            refine Hd.yv (y_assign rfl) ?_
            refine Hd.nil ?_
            refine Hd.slots [(0, _), (3, _), (4, _), (5, _), (8, _), (9, _), (11, _)] ⟨rfl, rfl, rfl, rfl, rfl, rfl, rfl, trivial⟩ ?_
            refine Hd.toK hK19 ?_
            refine Hd.seq (fun K20 hK20 => ?_)
            refine Hd.region ?_
            refine Hd.yv (y_move rfl) ?_
            refine Hd.yv (y_move rfl) ?_
            refine Hd.yv (y_to (v' := .bool false) (y_neqb Try.underlying4 rfl rfl) (by (rw [leftV_is]; simp))) ?_
            refine Hd.yv (y_move rfl) ?_
            refine Hd.yg rfl rfl (y_move rfl) ?_
            first | (refine Hd.yv (y_pickT rfl rfl) ?_) | (refine Hd.yv (y_pickF rfl rfl) ?_) | (refine Hd.yv (y_pickb rfl rfl rfl) ?_) | (refine Hd.yv (y_pick rfl rfl rfl) ?_)
            refine Hd.nil ?_
            refine Hd.slots [(0, _), (3, _), (4, _), (5, _), (94, _)] ⟨rfl, rfl, rfl, rfl, rfl, trivial⟩ ?_
            refine Hd.toK hK20 ?_
            refine Hd.condF rfl ?_
            refine Hd.skip ?_
            refine Hd.inB ?_
            refine Hd.inB ?_
            refine Hd.toK hK11 ?_
            refine Hd.region ?_
            refine Hd.yv (y_move rfl) ?_
            first | (refine Hd.yv (y_addn rfl rfl (by simp only [InK]; omega)) ?_) | (refine Hd.yv (y_add rfl rfl) ?_)
            refine Hd.yv (y_assign rfl) ?_
            refine Hd.nil ?_
            refine Hd.slots [(0, _), (3, _), (4, _), (5, _)] ⟨rfl, rfl, rfl, rfl, trivial⟩ ?_
            clear hK1 hK2 hK3 hK4 hK6 hK7 hK8 hK9 hK10 hK11 hK12 hK13 hK14 hK15 hK16 hK17 hK18 hK19 hK20
            refine Hd.thenN ?_
            exact Hd.again (i + 1, cutQ x.id qs, remI x.id s, nx, af) (by first | omega | (simp only; omega) | (simp; omega)) (by repeat (first | exact trivial | refine ⟨rfl, ?_⟩)) (Ent.sep (.pure ⟨hi, by have := remI_len s x.id; show (remI x.id s).length ≤ i + 1; omega, by show nx ≤ ((i + 1 : Nat) : Int); omega, haf, hhas.cut _⟩ enn))
          ·
            try simp only [decide_eq_true_eq, decide_eq_false_iff_not, Bool.and_eq_true, Bool.or_eq_true, Bool.and_eq_false_iff, Bool.or_eq_false_iff, Bool.not_eq_true', Bool.not_eq_false', Bool.not_eq_true, Bool.not_eq_false, Int.not_lt, Int.not_le, Decidable.not_not, ne_eq] at hc4
            refine Hd.seq (fun K21 hK21 => ?_)
            refine Hd.region ?_
            first | (refine Hd.yv (y_eqlT rfl rfl) ?_) | (refine Hd.yv (y_eql rfl rfl) ?_)
            refine Hd.yv (y_assign rfl) ?_
            refine Hd.nil ?_
            refine Hd.slots [(0, _), (3, _), (4, _), (5, _), (6, _), (55, _), (95, _)] ⟨rfl, rfl, rfl, rfl, rfl, rfl, rfl, trivial⟩ ?_
            refine Hd.toK hK21 ?_
            refine Hd.cond rfl (fun hc6 => ?_) (fun hc6 => ?_)
            ·
              try simp only [decide_eq_true_eq, decide_eq_false_iff_not, Bool.and_eq_true, Bool.or_eq_true, Bool.and_eq_false_iff, Bool.or_eq_false_iff, Bool.not_eq_true', Bool.not_eq_false', Bool.not_eq_true, Bool.not_eq_false, Int.not_lt, Int.not_le, Decidable.not_not, ne_eq] at hc6
              refine Hd.seq (fun K22 hK22 => ?_)
              refine Hd.region ?_
              refine Hd.yv (y_move rfl) ?_
              first | (refine Hd.yv (y_field' (q := 1) (ft := 3) Try.underlying41 rfl sz3 rfl rfl) ?_) | (refine Hd.yv (y_fieldR (q := 1) (ft := 3) Try.underlying41 rfl sz3 rfl rfl) ?_)
              first | (refine Hd.yv (y_load1 ag3 rfl (Rd.pt1 pkk (by (first | exact hek | rfl)))) ?_) | (refine Hd.yv (y_load1 ag3 rfl (Rd.seg1 pkk (by (first | exact hek | rfl)))) ?_) | (refine Hd.yv (y_loadR1 ag3 rfl (by (first | exact RdS.own pkk | exact RdS.mono hR (Ent.sep enn))) (by (first | exact hek | rfl))) ?_)
              refine Hd.callE rfl fk21 (tforget_ct _ b qs s nx af NV (by omega) x.id) (Ent.sep enn) ?_
              intro _
              refine Hd.nil ?_
              refine Hd.slots [(0, _), (3, _), (4, _), (5, _), (6, _)] ⟨rfl, rfl, rfl, rfl, rfl, trivial⟩ ?_
              refine Hd.toK hK22 ?_
              refine Hd.seq (fun K23 hK23 => ?_)
              refine Hd.region ?_
              refine Hd.yv (y_move rfl) ?_
              first | (refine Hd.yv (y_field' (q := 1) (ft := 3) Try.underlying41 rfl sz3 rfl rfl) ?_) | (refine Hd.yv (y_fieldR (q := 1) (ft := 3) Try.underlying41 rfl sz3 rfl rfl) ?_)
              first | (refine Hd.yv (y_load1 ag3 rfl (Rd.pt1 pkk (by (first | exact hek | rfl)))) ?_) | (refine Hd.yv (y_load1 ag3 rfl (Rd.seg1 pkk (by (first | exact hek | rfl)))) ?_) | (refine Hd.yv (y_loadR1 ag3 rfl (by (first | exact RdS.own pkk | exact RdS.mono hR (Ent.sep enn))) (by (first | exact hek | rfl))) ?_)
              first | (refine Hd.yv (y_field' (q := 2) (ft := 23) Try.underlying41 rfl sz23 rfl rfl) ?_) | (refine Hd.yv (y_fieldR (q := 2) (ft := 23) Try.underlying41 rfl sz23 rfl rfl) ?_)
              first | (refine Hd.yv (y_load1 ag23 rfl (Rd.pt1 pkk (by (first | exact hek | rfl)))) ?_) | (refine Hd.yv (y_load1 ag23 rfl (Rd.seg1 pkk (by (first | exact hek | rfl)))) ?_) | (refine Hd.yv (y_loadR1 ag23 rfl (by (first | exact RdS.own pkk | exact RdS.mono hR (Ent.sep enn))) (by (first | exact hek | rfl))) ?_)
              refine Hd.callE rfl fk18 (tleft_ct _ b (cutQ x.id qs) (remI x.id s) nx (delA af x.id) NV x.id x.now hok.1) (Ent.sep enn) ?_
              intro _
              rw [findI_rem]
              refine Hd.yv (y_move rfl) ?_
              refine Hd.yv (y_extract rfl rfl) ?_
              refine Hd.yv (y_extract rfl rfl) ?_
              refine Hd.yv (y_assign rfl) ?_
              refine Hd.yv (y_assign rfl) ?_
              refine Hd.nil ?_
              refine Hd.slots [(0, _), (3, _), (4, _), (5, _), (6, _), (13, _)] ⟨rfl, rfl, rfl, rfl, rfl, rfl, trivial⟩ ?_
              refine Hd.toK hK23 ?_
              refine Hd.seq (fun K24 hK24 => ?_)
              refine Hd.region ?_
              refine Hd.yv (y_move rfl) ?_
              first | (refine Hd.yv (y_field' (q := 1) (ft := 3) Try.underlying41 rfl sz3 rfl rfl) ?_) | (refine Hd.yv (y_fieldR (q := 1) (ft := 3) Try.underlying41 rfl sz3 rfl rfl) ?_)
              first | (refine Hd.yv (y_load1 ag3 rfl (Rd.pt1 pkk (by (first | exact hek | rfl)))) ?_) | (refine Hd.yv (y_load1 ag3 rfl (Rd.seg1 pkk (by (first | exact hek | rfl)))) ?_) | (refine Hd.yv (y_loadR1 ag3 rfl (by (first | exact RdS.own pkk | exact RdS.mono hR (Ent.sep enn))) (by (first | exact hek | rfl))) ?_)
              refine Hd.callE rfl fk22 (tafter_ct _ b (cutQ x.id qs) (remI x.id s) nx (delA af x.id) NV x.id) (Ent.sep enn) ?_
              intro _
              have hd : delA af x.id x.id = none := by unfold delA; simp
              have hn : ¬ (delA af x.id x.id).isSome = true := by rw [hd]; simp
              have hrl := remI_len s x.id
              rw [hd]
              refine Hd.yv (y_move rfl) ?_
              refine Hd.yv (y_extract rfl rfl) ?_
              refine Hd.yv (y_extract rfl rfl) ?_
              refine Hd.yv (y_assign rfl) ?_
              refine Hd.yv (y_assign rfl) ?_
              refine Hd.nil ?_
              refine Hd.slots [(0, _), (3, _), (4, _), (5, _), (6, _), (13, _), (15, _)] ⟨rfl, rfl, rfl, rfl, rfl, rfl, rfl, trivial⟩ ?_
              refine Hd.toK hK24 ?_
              refine Hd.seq (fun K25 hK25 => ?_)
              refine Hd.region ?_
              refine Hd.yv (y_move rfl) ?_
              refine Hd.yv (y_move rfl) ?_
              refine Hd.yg rfl rfl (y_move rfl) ?_
              first | (refine Hd.yv (y_pickT rfl rfl) ?_) | (refine Hd.yv (y_pickF rfl rfl) ?_) | (refine Hd.yv (y_pickb rfl rfl rfl) ?_) | (refine Hd.yv (y_pick rfl rfl rfl) ?_)
              refine Hd.yv (y_move rfl) ?_
              refine Hd.yg rfl rfl (y_move rfl) ?_
              first | (refine Hd.yg rfl rfl (y_field' (q := 1) (ft := 3) Try.underlying41 rfl sz3 rfl rfl) ?_) | (refine Hd.yg rfl rfl (y_fieldR (q := 1) (ft := 3) Try.underlying41 rfl sz3 rfl rfl) ?_)
              first | (refine Hd.yg rfl rfl (y_load1 ag3 rfl (Rd.pt1 pkk (by (first | exact hek | rfl)))) ?_) | (refine Hd.yg rfl rfl (y_load1 ag3 rfl (Rd.seg1 pkk (by (first | exact hek | rfl)))) ?_) | (refine Hd.yg rfl rfl (y_loadR1 ag3 rfl (by (first | exact RdS.own pkk | exact RdS.mono hR (Ent.sep enn))) (by (first | exact hek | rfl))) ?_)
              first | (refine Hd.yg rfl rfl (y_field' (q := 2) (ft := 23) Try.underlying41 rfl sz23 rfl rfl) ?_) | (refine Hd.yg rfl rfl (y_fieldR (q := 2) (ft := 23) Try.underlying41 rfl sz23 rfl rfl) ?_)
              first | (refine Hd.yg rfl rfl (y_load1 ag23 rfl (Rd.pt1 pkk (by (first | exact hek | rfl)))) ?_) | (refine Hd.yg rfl rfl (y_load1 ag23 rfl (Rd.seg1 pkk (by (first | exact hek | rfl)))) ?_) | (refine Hd.yg rfl rfl (y_loadR1 ag23 rfl (by (first | exact RdS.own pkk | exact RdS.mono hR (Ent.sep enn))) (by (first | exact hek | rfl))) ?_)
              refine Hd.unguard rfl rfl ?_
              refine Hd.callE rfl fk19 (tagain_ct _ b (cutQ x.id qs) (remI x.id s) nx (delA af x.id) NV (by omega) (by omega) (haf.del x.id) x.id x.now hok.1) (Ent.sep enn) ?_
              intro _
              rw [show agV (delA af x.id) x.id = 220 by unfold agV; rw [if_neg hn], show agQ (cutQ x.id qs) (delA af x.id) x.id x.now nx = cutQ x.id qs by unfold agQ; rw [if_neg hn], show agS (remI x.id s) (delA af x.id) x.id x.now nx = remI x.id s by unfold agS; rw [if_neg hn], show agN (delA af x.id) x.id nx = nx by unfold agN; rw [if_neg hn], show agF (delA af x.id) x.id = delA af x.id by unfold agF; rw [if_neg hn]]
              refine Hd.yg rfl rfl (y_to (y_neq rfl rfl) (congrArg Value.bool (decide_eq_false ((fun h => h rfl))))) ?_
              first | (refine Hd.yv (y_pickT rfl rfl) ?_) | (refine Hd.yv (y_pickF rfl rfl) ?_) | (refine Hd.yv (y_pickb rfl rfl rfl) ?_) | (refine Hd.yv (y_pick rfl rfl rfl) ?_)
              refine Hd.nil ?_
              refine Hd.slots [(0, _), (3, _), (4, _), (5, _), (129, _)] ⟨rfl, rfl, rfl, rfl, rfl, trivial⟩ ?_
              refine Hd.toK hK25 ?_
              refine Hd.condF rfl ?_
              refine Hd.skip ?_
              refine Hd.inB ?_
              refine Hd.inB ?_
              refine Hd.toK hK11 ?_
              refine Hd.region ?_
              refine Hd.yv (y_move rfl) ?_
              first | (refine Hd.yv (y_addn rfl rfl (by simp only [InK]; omega)) ?_) | (refine Hd.yv (y_add rfl rfl) ?_)
              refine Hd.yv (y_assign rfl) ?_
              refine Hd.nil ?_
              refine Hd.slots [(0, _), (3, _), (4, _), (5, _)] ⟨rfl, rfl, rfl, rfl, trivial⟩ ?_
              clear hK1 hK2 hK3 hK4 hK6 hK7 hK8 hK9 hK10 hK11 hK12 hK13 hK14 hK15 hK16 hK17 hK21 hK22 hK23 hK24 hK25
              refine Hd.thenN ?_
              exact Hd.again (i + 1, cutQ x.id qs, remI x.id s, nx, delA af x.id) (by first | omega | (simp only; omega) | (simp; omega)) (by repeat (first | exact trivial | refine ⟨rfl, ?_⟩)) (Ent.sep (.pure ⟨hi, by show (remI x.id s).length ≤ i + 1; omega, by show nx ≤ ((i + 1 : Nat) : Int); omega, haf.del x.id, hhas.del _⟩ enn))
            ·
              try simp only [decide_eq_true_eq, decide_eq_false_iff_not, Bool.and_eq_true, Bool.or_eq_true, Bool.and_eq_false_iff, Bool.or_eq_false_iff, Bool.not_eq_true', Bool.not_eq_false', Bool.not_eq_true, Bool.not_eq_false, Int.not_lt, Int.not_le, Decidable.not_not, ne_eq] at hc6
              refine Hd.seq (fun K26 hK26 => ?_)
              refine Hd.region ?_
              first | (refine Hd.yv (y_eqlT rfl rfl) ?_) | (refine Hd.yv (y_eql rfl rfl) ?_)
              refine Hd.yv (y_assign rfl) ?_
              refine Hd.nil ?_
              refine Hd.slots [(0, _), (3, _), (4, _), (5, _), (6, _), (130, _)] ⟨rfl, rfl, rfl, rfl, rfl, rfl, trivial⟩ ?_
              refine Hd.toK hK26 ?_
              refine Hd.cond rfl (fun hc8 => ?_) (fun hc8 => ?_)
              ·
                try simp only [decide_eq_true_eq, decide_eq_false_iff_not, Bool.and_eq_true, Bool.or_eq_true, Bool.and_eq_false_iff, Bool.or_eq_false_iff, Bool.not_eq_true', Bool.not_eq_false', Bool.not_eq_true, Bool.not_eq_false, Int.not_lt, Int.not_le, Decidable.not_not, ne_eq] at hc8
                refine Hd.seq (fun K27 hK27 => ?_)
                refine Hd.region ?_
                refine Hd.yv (y_move rfl) ?_
                refine Hd.callE rfl fk15 (tlen_ct _ b qs s nx af NV) (Ent.sep enn) ?_
                intro _
                refine Hd.yv (y_assign rfl) ?_
                refine Hd.nil ?_
                refine Hd.slots [(0, _), (3, _), (4, _), (5, _), (6, _), (16, _)] ⟨rfl, rfl, rfl, rfl, rfl, rfl, trivial⟩ ?_
                refine Hd.toK hK27 ?_
                refine Hd.seq (fun K28 hK28 => ?_)
                obtain ⟨m, hm⟩ : ∃ m, m = min x.now 18446744073709551614 := ⟨_, rfl⟩
                have hrd := rest_due m s
                have hdl : (dueI m s).length + (restI m s).length = s.length := by have := congrArg List.length (due_app m s); rwa [List.length_append] at this
                have hsub : ∀ y ∈ restI m s, y ∈ s := fun y hy => (List.dropWhile_sublist _).mem hy
                refine Hd.region ?_
                refine Hd.yv (y_move rfl) ?_
                first | (refine Hd.yv (y_field' (q := 2) (ft := 23) Try.underlying41 rfl sz23 rfl rfl) ?_) | (refine Hd.yv (y_fieldR (q := 2) (ft := 23) Try.underlying41 rfl sz23 rfl rfl) ?_)
                first | (refine Hd.yv (y_load1 ag23 rfl (Rd.pt1 pkk (by (first | exact hek | rfl)))) ?_) | (refine Hd.yv (y_load1 ag23 rfl (Rd.seg1 pkk (by (first | exact hek | rfl)))) ?_) | (refine Hd.yv (y_loadR1 ag23 rfl (by (first | exact RdS.own pkk | exact RdS.mono hR (Ent.sep enn))) (by (first | exact hek | rfl))) ?_)
                refine Hd.callE rfl fk16 (tdue_ct _ b qs s nx af NV (by omega) x.now) (Ent.sep enn) ?_
                rintro ⟨a17, c17⟩
                dsimp only
                simp only [du]
                rw [← hm]
                refine Hd.yv (y_assign rfl) ?_
                refine Hd.nil ?_
                refine Hd.slots [(0, _), (3, _), (4, _), (5, _), (6, _), (16, _), (17, _)] ⟨rfl, rfl, rfl, rfl, rfl, rfl, rfl, trivial⟩ ?_
                refine Hd.toK hK28 ?_
                refine Hd.seq (fun K29 hK29 => ?_)
                refine Hd.region ?_
                refine Hd.yv (y_move rfl) ?_
                first | (refine Hd.yv (y_field' (q := 2) (ft := 23) Try.underlying41 rfl sz23 rfl rfl) ?_) | (refine Hd.yv (y_fieldR (q := 2) (ft := 23) Try.underlying41 rfl sz23 rfl rfl) ?_)
                first | (refine Hd.yv (y_load1 ag23 rfl (Rd.pt1 pkk (by (first | exact hek | rfl)))) ?_) | (refine Hd.yv (y_load1 ag23 rfl (Rd.seg1 pkk (by (first | exact hek | rfl)))) ?_) | (refine Hd.yv (y_loadR1 ag23 rfl (by (first | exact RdS.own pkk | exact RdS.mono hR (Ent.sep enn))) (by (first | exact hek | rfl))) ?_)
                refine Hd.callE rfl fk16 (tdue_ct _ b (cutAll (dueI m s) qs) (restI m s) nx af NV (by omega) x.now) (Ent.sep enn) ?_
                rintro ⟨a18, c18⟩
                dsimp only
                simp only [du]
                rw [← hm, hrd.1, hrd.2, show ∀ q, cutAll [] q = q from fun _ => rfl]
                refine Hd.yv (y_assign rfl) ?_
                refine Hd.nil ?_
                refine Hd.slots [(0, _), (3, _), (4, _), (5, _), (6, _), (16, _), (17, _), (18, _)] ⟨rfl, rfl, rfl, rfl, rfl, rfl, rfl, rfl, trivial⟩ ?_
                refine Hd.toK hK29 ?_
                refine Hd.seq (fun K30 hK30 => ?_)
                refine Hd.seq (fun K31 hK31 => ?_)
                refine Hd.region ?_
                refine Hd.yv (y_assign rfl) ?_
                refine Hd.nil ?_
                refine Hd.slots [(0, _), (3, _), (4, _), (5, _), (6, _), (16, _), (17, _), (18, _), (19, _)] ⟨rfl, rfl, rfl, rfl, rfl, rfl, rfl, rfl, rfl, trivial⟩ ?_
                refine Hd.toK hK31 ?_
                refine Hd.block ?_
                refine Hd.loopK (ι := Nat) [(0, _), (3, _), (4, _), (5, _), (6, _), (16, _), (17, _), (18, _)] (fun k => [(19, .int .i64 (k : Int))]) (fun k => pu (k ≤ (dueI m s).length) :: ownN a17 (dueI m s).length c17 (dueI m s) :: pt b6 (encO x) 41 :: TmA b (cutAll (dueI m s) qs) (restI m s) nx af NV :: L) (fun k => (dueI m s).length - k) 0 (by repeat (first | exact trivial | refine ⟨rfl, ?_⟩)) (by repeat (first | exact trivial | refine ⟨rfl, ?_⟩)) (Ent.sep (.pure (by first | omega | (simp; done) | (simp; omega) | exact ⟨by simp, by simp⟩) enn)) ?_
                intro k
                try dsimp only
                refine Hd.pure (fun hp1 => ?_)
                try dsimp only at hp1
                refine Hd.seq (fun K32 hK32 => ?_)
                refine Hd.seq (fun K33 hK33 => ?_)
                refine Hd.region ?_
                refine Hd.yv (y_move rfl) ?_
                refine Hd.yv (y_move rfl) ?_
                refine Hd.yv (y_len Try.underlying35 rfl) ?_
                refine Hd.yv (y_lss rfl rfl) ?_
                refine Hd.nil ?_
                refine Hd.slots [(0, _), (3, _), (4, _), (5, _), (6, _), (16, _), (17, _), (18, _), (19, _), (145, _)] ⟨rfl, rfl, rfl, rfl, rfl, rfl, rfl, rfl, rfl, rfl, trivial⟩ ?_
                refine Hd.toK hK33 ?_
                refine Hd.cond rfl (fun hc9 => ?_) (fun hc9 => ?_)
                ·
                  try simp only [decide_eq_true_eq, decide_eq_false_iff_not, Bool.and_eq_true, Bool.or_eq_true, Bool.and_eq_false_iff, Bool.or_eq_false_iff, Bool.not_eq_true', Bool.not_eq_false', Bool.not_eq_true, Bool.not_eq_false, Int.not_lt, Int.not_le, Decidable.not_not, ne_eq] at hc9
                  have hk : k < (dueI m s).length := by omega
                  have hgk : (dueI m s)[k]? = some (g (dueI m s) k) := g_at hk
                  have hgm := g_mem hk
                  have hgo := due_gone hF hgm
                  have hhk := hhas _ (show g (dueI m s) k ∈ s from (List.takeWhile_sublist _).mem hgm)
                  have hek : (eN (dueI m s))[k * 1]? = some (.int .i64 (g (dueI m s) k).id) := by rw [Nat.mul_one, List.getElem?_map, hgk]; rfl
                  refine Hd.skip ?_
                  refine Hd.toK hK32 ?_
                  refine Hd.seq (fun K34 hK34 => ?_)
                  refine Hd.block ?_
                  refine Hd.seq (fun K35 hK35 => ?_)
                  refine Hd.drawsH ([pt b6 (encO x) 41, ownN a17 (dueI m s).length c17 (dueI m s)]) (fun _ => true) mixed ?_
                  simp only [List.length, Nat.zero_add, Nat.reduceAdd]
                  refine Hd.takeH 0 rfl (by kernel_rfl) (by kernel_rfl) (by kernel_rfl) (by kernel_rfl) (y_move rfl) (fun _ _ => rfl) (Ent.sep enn) ?_
                  refine Hd.takeH 1 rfl (by kernel_rfl) (by kernel_rfl) (by kernel_rfl) (by kernel_rfl) (y_move rfl) (fun _ _ => rfl) (Ent.sep enn) ?_
                  refine Hd.takeH 2 rfl (by kernel_rfl) (by kernel_rfl) (by kernel_rfl) (by kernel_rfl) (y_move rfl) (fun _ _ => rfl) (Ent.sep enn) ?_
                  first | (refine Hd.takeH 3 rfl (by kernel_rfl) (by kernel_rfl) (by kernel_rfl) (by kernel_rfl) (y_idxS Try.underlying35 sz3 rfl rfl (by first | omega | decide)) (fun _ _ => rfl) (Ent.sep enn) ?_) | (refine Hd.takeH 3 rfl (by kernel_rfl) (by kernel_rfl) (by kernel_rfl) (by kernel_rfl) (y_idxR Try.underlying35 sz3 rfl rfl (by first | omega | decide) (by (first | exact RdS.own pkk | exact RdS.mono hR (Ent.sep enn)))) (fun _ _ => rfl) (Ent.sep enn) ?_)
                  first | (refine Hd.takeH 4 rfl (by kernel_rfl) (by kernel_rfl) (by kernel_rfl) (by kernel_rfl) (y_load1 ag3 rfl (Rd.pt1 pkk (by (first | exact hek | rfl)))) (fun _ _ => rfl) (Ent.sep enn) ?_) | (refine Hd.takeH 4 rfl (by kernel_rfl) (by kernel_rfl) (by kernel_rfl) (by kernel_rfl) (y_load1 ag3 rfl (Rd.seg1 pkk (by (first | exact hek | rfl)))) (fun _ _ => rfl) (Ent.sep enn) ?_) | (refine Hd.takeH 4 rfl (by kernel_rfl) (by kernel_rfl) (by kernel_rfl) (by kernel_rfl) (y_loadR1 ag3 rfl (by (first | exact RdS.own pkk | exact RdS.mono hR (Ent.sep enn))) (by (first | exact hek | rfl))) (fun _ _ => rfl) (Ent.sep enn) ?_)
                  first | (refine Hd.takeH 5 rfl (by kernel_rfl) (by kernel_rfl) (by kernel_rfl) (by kernel_rfl) (y_field' (q := 2) (ft := 23) Try.underlying41 rfl sz23 rfl rfl) (fun _ _ => rfl) (Ent.sep enn) ?_) | (refine Hd.takeH 5 rfl (by kernel_rfl) (by kernel_rfl) (by kernel_rfl) (by kernel_rfl) (y_fieldR (q := 2) (ft := 23) Try.underlying41 rfl sz23 rfl rfl) (fun _ _ => rfl) (Ent.sep enn) ?_)
                  first | (refine Hd.takeH 6 rfl (by kernel_rfl) (by kernel_rfl) (by kernel_rfl) (by kernel_rfl) (y_load1 ag23 rfl (Rd.pt1 pkk (by (first | exact hek | rfl)))) (fun _ _ => rfl) (Ent.sep enn) ?_) | (refine Hd.takeH 6 rfl (by kernel_rfl) (by kernel_rfl) (by kernel_rfl) (by kernel_rfl) (y_load1 ag23 rfl (Rd.seg1 pkk (by (first | exact hek | rfl)))) (fun _ _ => rfl) (Ent.sep enn) ?_) | (refine Hd.takeH 6 rfl (by kernel_rfl) (by kernel_rfl) (by kernel_rfl) (by kernel_rfl) (y_loadR1 ag23 rfl (by (first | exact RdS.own pkk | exact RdS.mono hR (Ent.sep enn))) (by (first | exact hek | rfl))) (fun _ _ => rfl) (Ent.sep enn) ?_)
                  refine Hd.onlyH 7 rfl (by kernel_rfl) ?_
                  refine Hd.callE rfl fk18 (tleft_ct _ b (cutAll (dueI m s) qs) (restI m s) nx af NV (g (dueI m s) k).id x.now hok.1) (Ent.sep enn) ?_
                  intro _
                  rw [hgo]
                  refine Hd.nil ?_
                  refine Hd.thenN ?_
                  refine Hd.heldK (J := (fun _ => true)) (i := 7) (Ent.sep enn) ?_
                  refine Hd.takeH 8 rfl (by kernel_rfl) (by kernel_rfl) (by kernel_rfl) (by kernel_rfl) (y_move rfl) (fun _ _ => rfl) (Ent.sep enn) ?_
                  refine Hd.takeH 9 rfl (by kernel_rfl) (by kernel_rfl) (by kernel_rfl) (by kernel_rfl) (y_extract rfl rfl) (fun _ _ => rfl) (Ent.sep enn) ?_
                  refine Hd.takeH 10 rfl (by kernel_rfl) (by kernel_rfl) (by kernel_rfl) (by kernel_rfl) (y_extract rfl rfl) (fun _ _ => rfl) (Ent.sep enn) ?_
                  refine Hd.takeH 11 rfl (by kernel_rfl) (by kernel_rfl) (by kernel_rfl) (by kernel_rfl) (y_assign rfl) (fun _ _ => rfl) (Ent.sep enn) ?_
                  refine Hd.takeH 12 rfl (by kernel_rfl) (by kernel_rfl) (by kernel_rfl) (by kernel_rfl) (y_assign rfl) (fun _ _ => rfl) (Ent.sep enn) ?_
                  refine Hd.endH (by kernel_rfl) ?_
                  refine Hd.slots [(0, _), (3, _), (4, _), (5, _), (6, _), (16, _), (17, _), (18, _), (19, _), (21, _)] ⟨rfl, rfl, rfl, rfl, rfl, rfl, rfl, rfl, rfl, rfl, trivial⟩ ?_
                  refine Hd.toK hK35 ?_
                  refine Hd.seq (fun K36 hK36 => ?_)
                  refine Hd.region ?_
                  refine Hd.yv (y_move rfl) ?_
                  refine Hd.yv (y_move rfl) ?_
                  refine Hd.yv (y_move rfl) ?_
                  first | (refine Hd.yv (y_idxS Try.underlying35 sz3 rfl rfl (by first | omega | decide)) ?_) | (refine Hd.yv (y_idxR Try.underlying35 sz3 rfl rfl (by first | omega | decide) (by (first | exact RdS.own pkk | exact RdS.mono hR (Ent.sep enn)))) ?_)
                  first | (refine Hd.yv (y_load1 ag3 rfl (Rd.pt1 pkk (by (first | exact hek | rfl)))) ?_) | (refine Hd.yv (y_load1 ag3 rfl (Rd.seg1 pkk (by (first | exact hek | rfl)))) ?_) | (refine Hd.yv (y_loadR1 ag3 rfl (by (first | exact RdS.own pkk | exact RdS.mono hR (Ent.sep enn))) (by (first | exact hek | rfl))) ?_)
                  refine Hd.callE rfl fk22 (tafter_ct _ b (cutAll (dueI m s) qs) (restI m s) nx af NV (g (dueI m s) k).id) (Ent.sep enn) ?_
                  intro _
                  rw [hhk]
                  refine Hd.yv (y_move rfl) ?_
                  refine Hd.yv (y_extract rfl rfl) ?_
                  refine Hd.yv (y_extract rfl rfl) ?_
                  refine Hd.yv (y_assign rfl) ?_
                  refine Hd.yv (y_assign rfl) ?_
                  refine Hd.nil ?_
                  refine Hd.slots [(0, _), (3, _), (4, _), (5, _), (6, _), (16, _), (17, _), (18, _), (19, _), (21, _), (23, _)] ⟨rfl, rfl, rfl, rfl, rfl, rfl, rfl, rfl, rfl, rfl, rfl, trivial⟩ ?_
                  refine Hd.toK hK36 ?_
                  refine Hd.seq (fun K37 hK37 => ?_)
                  refine Hd.seq (fun K38 hK38 => ?_)
                  refine Hd.region ?_
                  refine Hd.yv (y_move rfl) ?_
                  refine Hd.yv (y_move rfl) ?_
                  refine Hd.yg rfl rfl (y_move rfl) ?_
                  refine Hd.yg rfl rfl (y_not rfl) ?_
                  first | (refine Hd.yv (y_pickT rfl rfl) ?_) | (refine Hd.yv (y_pickF rfl rfl) ?_) | (refine Hd.yv (y_pickb rfl rfl rfl) ?_) | (refine Hd.yv (y_pick rfl rfl rfl) ?_)
                  refine Hd.nil ?_
                  refine Hd.slots [(0, _), (3, _), (4, _), (5, _), (6, _), (16, _), (17, _), (18, _), (19, _), (172, _)] ⟨rfl, rfl, rfl, rfl, rfl, rfl, rfl, rfl, rfl, rfl, trivial⟩ ?_
                  refine Hd.toK hK38 ?_
                  refine Hd.condF rfl ?_
                  refine Hd.skip ?_
                  refine Hd.toK hK37 ?_
                  refine Hd.seq (fun K39 hK39 => ?_)
                  refine Hd.region ?_
                  refine Hd.yv (y_assign rfl) ?_
                  refine Hd.nil ?_
                  refine Hd.slots [(0, _), (3, _), (4, _), (5, _), (6, _), (16, _), (17, _), (18, _), (19, _), (24, _)] ⟨rfl, rfl, rfl, rfl, rfl, rfl, rfl, rfl, rfl, rfl, trivial⟩ ?_
                  refine Hd.toK hK39 ?_
                  refine Hd.block ?_
                  refine Hd.loopK (ι := Nat) [(0, _), (3, _), (4, _), (5, _), (6, _), (16, _), (17, _), (18, _), (19, _)] (fun j => [(24, .int .i64 (j : Int))]) (fun j => pu (j ≤ k) :: ownN a17 (dueI m s).length c17 (dueI m s) :: pt b6 (encO x) 41 :: TmA b (cutAll (dueI m s) qs) (restI m s) nx af NV :: L) (fun j => k - j) 0 (by repeat (first | exact trivial | refine ⟨rfl, ?_⟩)) (by repeat (first | exact trivial | refine ⟨rfl, ?_⟩)) (Ent.sep (.pure (by first | omega | (simp; done) | (simp; omega) | exact ⟨by simp, by simp⟩) enn)) ?_
                  intro j
                  try dsimp only
                  refine Hd.pure (fun hp2 => ?_)
                  try dsimp only at hp2
                  refine Hd.seq (fun K40 hK40 => ?_)
                  refine Hd.seq (fun K41 hK41 => ?_)
                  refine Hd.region ?_
                  refine Hd.yv (y_move rfl) ?_
                  refine Hd.yv (y_move rfl) ?_
                  refine Hd.yv (y_lss rfl rfl) ?_
                  refine Hd.nil ?_
                  refine Hd.slots [(0, _), (3, _), (4, _), (5, _), (6, _), (16, _), (17, _), (18, _), (19, _), (24, _), (175, _)] ⟨rfl, rfl, rfl, rfl, rfl, rfl, rfl, rfl, rfl, rfl, rfl, trivial⟩ ?_
                  refine Hd.toK hK41 ?_
                  refine Hd.cond rfl (fun hc11 => ?_) (fun hc11 => ?_)
                  ·
                    try simp only [decide_eq_true_eq, decide_eq_false_iff_not, Bool.and_eq_true, Bool.or_eq_true, Bool.and_eq_false_iff, Bool.or_eq_false_iff, Bool.not_eq_true', Bool.not_eq_false', Bool.not_eq_true, Bool.not_eq_false, Int.not_lt, Int.not_le, Decidable.not_not, ne_eq] at hc11
                    have hj : j < k := by omega
                    have hgj : (dueI m s)[j]? = some (g (dueI m s) j) := g_at (by omega)
                    have hej : (eN (dueI m s))[j * 1]? = some (.int .i64 (g (dueI m s) j).id) := by rw [Nat.mul_one, List.getElem?_map, hgj]; rfl
                    have hne := due_ne hF hj hk
                    refine Hd.skip ?_
                    refine Hd.toK hK40 ?_
                    refine Hd.seq (fun K42 hK42 => ?_)
                    refine Hd.block ?_
                    refine Hd.seq (fun K43 hK43 => ?_)
                    refine Hd.quiet mixed (by kernel_rfl) ?_
                    refine Hq.yv (y_move rfl) ?_
                    refine Hq.yv (y_move rfl) ?_
                    first | (refine Hq.yv (y_idxS Try.underlying35 sz3 rfl rfl (by first | omega | decide)) ?_) | (refine Hq.yv (y_idxR Try.underlying35 sz3 rfl rfl (by first | omega | decide) (by (first | exact RdS.own pkk | exact RdS.mono hR (Ent.sep enn)))) ?_)
                    refine Hq.yv (y_loadR1 ag3 rfl (RdS.own (ad := a17) (us := eN (dueI m s)) pkk) hej) ?_
                    refine Hq.yv (y_move rfl) ?_
                    refine Hq.yv (y_move rfl) ?_
                    first | (refine Hq.yv (y_idxS Try.underlying35 sz3 rfl rfl (by first | omega | decide)) ?_) | (refine Hq.yv (y_idxR Try.underlying35 sz3 rfl rfl (by first | omega | decide) (by (first | exact RdS.own pkk | exact RdS.mono hR (Ent.sep enn)))) ?_)
                    refine Hq.yv (y_loadR1 ag3 rfl (RdS.own (ad := a17) (us := eN (dueI m s)) pkk) hek) ?_
                    first | (refine Hq.yv (y_to (y_eqlT rfl rfl) (congrArg Value.bool (decide_eq_false (hne)))) ?_) | (refine Hq.yv (y_to (y_eql rfl rfl) (congrArg Value.bool (decide_eq_false (hne)))) ?_)
                    refine Hq.nil ?_
                    refine Hd.slots [(0, _), (3, _), (4, _), (5, _), (6, _), (16, _), (17, _), (18, _), (19, _), (24, _), (186, _)] ⟨rfl, rfl, rfl, rfl, rfl, rfl, rfl, rfl, rfl, rfl, rfl, trivial⟩ ?_
                    refine Hd.toK hK43 ?_
                    refine Hd.condF rfl ?_
                    refine Hd.skip ?_
                    refine Hd.inB ?_
                    refine Hd.toK hK42 ?_
                    refine Hd.region ?_
                    refine Hd.yv (y_move rfl) ?_
                    first | (refine Hd.yv (y_addn rfl rfl (by simp only [InK]; omega)) ?_) | (refine Hd.yv (y_add rfl rfl) ?_)
                    refine Hd.yv (y_assign rfl) ?_
                    refine Hd.nil ?_
                    refine Hd.slots [(0, _), (3, _), (4, _), (5, _), (6, _), (16, _), (17, _), (18, _), (19, _), (24, _)] ⟨rfl, rfl, rfl, rfl, rfl, rfl, rfl, rfl, rfl, rfl, trivial⟩ ?_
                    clear hK1 hK2 hK3 hK4 hK6 hK7 hK8 hK9 hK10 hK11 hK12 hK13 hK14 hK15 hK16 hK17 hK21 hK26 hK27 hK28 hK29 hK30 hK31 hK32 hK33 hK34 hK35 hK36 hK37 hK38 hK39 hK40 hK41 hK42 hK43
                    refine Hd.thenN ?_
                    exact Hd.again (j + 1) (by first | omega | (simp only; omega) | (simp; omega)) (by repeat (first | exact trivial | refine ⟨rfl, ?_⟩)) (Ent.sep (.pure (by first | omega | (simp; done) | (simp; omega) | (dsimp only; omega)) enn))
                  ·
                    try simp only [decide_eq_true_eq, decide_eq_false_iff_not, Bool.and_eq_true, Bool.or_eq_true, Bool.and_eq_false_iff, Bool.or_eq_false_iff, Bool.not_eq_true', Bool.not_eq_false', Bool.not_eq_true, Bool.not_eq_false, Int.not_lt, Int.not_le, Decidable.not_not, ne_eq] at hc11
                    refine Hd.exit ?_
                    refine Hd.thenExit ?_
                    refine Hd.thenExit ?_
                    refine Hd.inBexit ?_
                    refine Hd.inB ?_
                    refine Hd.toK hK34 ?_
                    refine Hd.region ?_
                    refine Hd.yv (y_move rfl) ?_
                    first | (refine Hd.yv (y_addn rfl rfl (by simp only [InK]; omega)) ?_) | (refine Hd.yv (y_add rfl rfl) ?_)
                    refine Hd.yv (y_assign rfl) ?_
                    refine Hd.nil ?_
                    refine Hd.slots [(0, _), (3, _), (4, _), (5, _), (6, _), (16, _), (17, _), (18, _), (19, _)] ⟨rfl, rfl, rfl, rfl, rfl, rfl, rfl, rfl, rfl, trivial⟩ ?_
                    clear hK1 hK2 hK3 hK4 hK6 hK7 hK8 hK9 hK10 hK11 hK12 hK13 hK14 hK15 hK16 hK17 hK21 hK26 hK27 hK28 hK29 hK30 hK31 hK32 hK33 hK34 hK35 hK36 hK37 hK38 hK39 hK40 hK41
                    refine Hd.thenN ?_
                    exact Hd.again (k + 1) (by first | omega | (simp only; omega) | (simp; omega)) (by repeat (first | exact trivial | refine ⟨rfl, ?_⟩)) (Ent.sep (.pure (by first | omega | (simp; done) | (simp; omega) | (dsimp only; omega)) enn))
                ·
                  try simp only [decide_eq_true_eq, decide_eq_false_iff_not, Bool.and_eq_true, Bool.or_eq_true, Bool.and_eq_false_iff, Bool.or_eq_false_iff, Bool.not_eq_true', Bool.not_eq_false', Bool.not_eq_true, Bool.not_eq_false, Int.not_lt, Int.not_le, Decidable.not_not, ne_eq] at hc9
                  refine Hd.exit ?_
                  refine Hd.thenExit ?_
                  refine Hd.thenExit ?_
                  refine Hd.inBexit ?_
                  refine Hd.toK hK30 ?_
                  refine Hd.seq (fun K44 hK44 => ?_)
                  refine Hd.region ?_
                  refine Hd.yv (y_move rfl) ?_
                  refine Hd.yv (y_len Try.underlying35 rfl) ?_
                  refine Hd.yv (y_to (y_neq rfl rfl) (congrArg Value.bool (decide_eq_false ((fun h => h rfl))))) ?_
                  refine Hd.yv (y_move rfl) ?_
                  refine Hd.yg rfl rfl (y_move rfl) ?_
                  refine Hd.unguard rfl rfl ?_
                  refine Hd.callE rfl fk15 (tlen_ct _ b (cutAll (dueI m s) qs) (restI m s) nx af NV) (Ent.sep enn) ?_
                  intro _
                  refine Hd.yg rfl rfl (y_move rfl) ?_
                  refine Hd.yg rfl rfl (y_move rfl) ?_
                  refine Hd.yg rfl rfl (y_len Try.underlying35 rfl) ?_
                  first | (refine Hd.yg rfl rfl (y_subn rfl rfl (by simp only [InK]; omega)) ?_) | (refine Hd.yg rfl rfl (y_sub rfl rfl) ?_)
                  refine Hd.yg rfl rfl (y_to (y_neq rfl rfl) (congrArg Value.bool (decide_eq_false ((fun h => h (by omega)))))) ?_
                  first | (refine Hd.yv (y_pickT rfl rfl) ?_) | (refine Hd.yv (y_pickF rfl rfl) ?_) | (refine Hd.yv (y_pickb rfl rfl rfl) ?_) | (refine Hd.yv (y_pick rfl rfl rfl) ?_)
                  refine Hd.nil ?_
                  refine Hd.slots [(0, _), (3, _), (4, _), (5, _), (198, _)] ⟨rfl, rfl, rfl, rfl, rfl, trivial⟩ ?_
                  refine Hd.toK hK44 ?_
                  refine Hd.condF rfl ?_
                  refine Hd.skip ?_
                  refine Hd.inB ?_
                  refine Hd.inB ?_
                  refine Hd.toK hK11 ?_
                  refine Hd.region ?_
                  refine Hd.yv (y_move rfl) ?_
                  first | (refine Hd.yv (y_addn rfl rfl (by simp only [InK]; omega)) ?_) | (refine Hd.yv (y_add rfl rfl) ?_)
                  refine Hd.yv (y_assign rfl) ?_
                  refine Hd.nil ?_
                  refine Hd.slots [(0, _), (3, _), (4, _), (5, _)] ⟨rfl, rfl, rfl, rfl, trivial⟩ ?_
                  clear hK1 hK2 hK3 hK4 hK6 hK7 hK8 hK9 hK10 hK11 hK12 hK13 hK14 hK15 hK16 hK17 hK21 hK26 hK27 hK28 hK29 hK30 hK31 hK32 hK33 hK44
                  refine Hd.thenN ?_
                  exact Hd.again (i + 1, cutAll (dueI m s) qs, restI m s, nx, af) (by first | omega | (simp only; omega) | (simp; omega)) (by repeat (first | exact trivial | refine ⟨rfl, ?_⟩)) (Ent.sep (.pure ⟨hi, by show (restI m s).length ≤ i + 1; omega, by show nx ≤ ((i + 1 : Nat) : Int); omega, haf, fun y hy => hhas y (hsub y hy)⟩ enn))
              ·
                try simp only [decide_eq_true_eq, decide_eq_false_iff_not, Bool.and_eq_true, Bool.or_eq_true, Bool.and_eq_false_iff, Bool.or_eq_false_iff, Bool.not_eq_true', Bool.not_eq_false', Bool.not_eq_true, Bool.not_eq_false, Int.not_lt, Int.not_le, Decidable.not_not, ne_eq] at hc8
                refine Hd.skip ?_
                refine Hd.inB ?_
                refine Hd.inB ?_
                refine Hd.toK hK11 ?_
                refine Hd.region ?_
                refine Hd.yv (y_move rfl) ?_
                first | (refine Hd.yv (y_addn rfl rfl (by simp only [InK]; omega)) ?_) | (refine Hd.yv (y_add rfl rfl) ?_)
                refine Hd.yv (y_assign rfl) ?_
                refine Hd.nil ?_
                refine Hd.slots [(0, _), (3, _), (4, _), (5, _)] ⟨rfl, rfl, rfl, rfl, trivial⟩ ?_
                clear hK1 hK2 hK3 hK4 hK6 hK7 hK8 hK9 hK10 hK11 hK12 hK13 hK14 hK15 hK16 hK17 hK21 hK26
                refine Hd.thenN ?_
                exact Hd.again (i + 1, qs, s, nx, af) (by first | omega | (simp only; omega) | (simp; omega)) (by repeat (first | exact trivial | refine ⟨rfl, ?_⟩)) (Ent.sep (.pure ⟨hi, by show s.length ≤ i + 1; omega, by show nx ≤ ((i + 1 : Nat) : Int); omega, haf, hhas⟩ enn))
    ·
      try simp only [decide_eq_true_eq, decide_eq_false_iff_not, Bool.and_eq_true, Bool.or_eq_true, Bool.and_eq_false_iff, Bool.or_eq_false_iff, Bool.not_eq_true', Bool.not_eq_false', Bool.not_eq_true, Bool.not_eq_false, Int.not_lt, Int.not_le, Decidable.not_not, ne_eq] at hc1
      refine Hd.exit ?_
      refine Hd.thenExit ?_
      refine Hd.thenExit ?_
      refine Hd.inBexit ?_
      refine Hd.toK hK7 ?_
      refine Hd.seq (fun K45 hK45 => ?_)
      refine Hd.region ?_
      refine Hd.yv (y_move rfl) ?_
      refine Hd.yv (y_assign rfl) ?_
      refine Hd.nil ?_
      refine Hd.slots [(2, _)] ⟨rfl, trivial⟩ ?_
      refine Hd.toK hK45 ?_
      refine Hd.ret ?_
      clear hK1 hK2 hK3 hK4 hK6 hK7 hK8 hK9 hK10 hK45
      exact Hd.ret1 rfl () (by first | rfl | (simp only [*]; done) | (simp [*]; done)) (Ent.sep enn)
end Tm
end Go.Proofs.Ytdjoofidicoimaa
