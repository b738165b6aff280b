/-
  Sets of deadlines: All, in order; Len.
-/
import Derived.Test.YtdjoofidicoimaaCo7
namespace Go.Proofs.Ytdjoofidicoimaa
set_option linter.unusedSimpArgs false
set_option linter.unusedVariables false
set_option linter.unnecessarySimpa false
open Go.RX Fx Hp
namespace Cm
set_option maxRecDepth 8000
/-- what of the set an item of the heap stands for -/
def exQ (qs : List Q) (y : It) : List It := if 0 ≤ y.id then [y] else match qs[(-1 - y.id).toNat]? with
  | some q => q.l
  | none => []
theorem exQ_own {qs : List Q} {y : It} (h : 0 ≤ y.id) : exQ qs y = [y] := if_pos h
theorem exQ_sgn {qs : List Q} {j : Nat} {q : Q} (hj : qs[j]? = some q) (x : It) : exQ qs (sgn j x) = q.l := by
  unfold exQ
  rw [if_neg (by rw [sgn_id]; omega), sgn_id, show (-1 - (-1 - (j : Int))).toNat = j by omega, hj]
theorem heads_ex : ∀ {t p : List Q}, (heads t p.length).flatMap (exQ (p ++ t)) = t.flatMap Q.l
  | [], _ => rfl
  | q :: t, p => by
    have ih := heads_ex (t := t) (p := p ++ [q])
    rw [List.length_append, show [q].length = 1 from rfl, List.append_assoc, List.singleton_append] at ih
    have hq : (p ++ q :: t)[p.length]? = some q := by rw [List.getElem?_append_right (Nat.le_refl _), Nat.sub_self]; rfl
    show ((match q.l with | [] => [] | x :: _ => [sgn p.length x]) ++ heads t (p.length + 1)).flatMap _ = _
    rw [List.flatMap_append, ih, List.flatMap_cons]
    congr 1
    cases hl : q.l with
    | nil => rfl
    | cons x r => show [sgn p.length x].flatMap _ = _; rw [List.flatMap_cons, exQ_sgn hq, hl]; simp
theorem Ok.all {qs : List Q} {s hs : List It} {nx : Int} {f : MF} (h : Ok qs s nx hs f) (hH : HpF hs) : (hs.flatMap (exQ qs)).Perm s := by
  have h1 := (h.perm hH).flatMap_right (exQ qs)
  refine h1.trans ?_
  rw [List.flatMap_append]
  have e1 : (heads qs 0).flatMap (exQ qs) = qs.flatMap Q.l := heads_ex (t := qs) (p := [])
  have e2 : (s.filter fun x => !inQ qs x.id).flatMap (exQ qs) = s.filter fun x => !inQ qs x.id := by
    have : ∀ l : List It, (∀ x ∈ l, 0 ≤ x.id) → l.flatMap (exQ qs) = l := fun l => by
      induction l with
      | nil => intro _; rfl
      | cons x l ih => intro h; rw [List.flatMap_cons, exQ_own (h x List.mem_cons_self), ih fun y hy => h y (List.mem_cons_of_mem _ hy)]; rfl
    exact this _ fun x hx => h.nn x (List.mem_filter.1 hx).1
  rw [e1, e2]
  have hnd2 : (qs.flatMap Q.l).Nodup := by
    unfold List.Nodup
    rw [List.pairwise_flatMap]
    refine ⟨fun q hq => nodup_of_ids (h.q_nd hq), ?_⟩
    rw [List.pairwise_iff_getElem]
    intro i j hi hj hij x hx y hy e
    subst e
    have h1 := h.fat i _ (List.getElem?_eq_getElem hi) x hx
    have h2 := h.fat j _ (List.getElem?_eq_getElem hj) x hy
    rw [h1] at h2
    have := Option.some.inj h2
    simp at this; omega
  refine (List.perm_ext_iff_of_nodup ?_ (nodup_of_ids h.hF.nd)).2 fun y => ?_
  · rw [List.nodup_append]
    refine ⟨(nodup_of_ids h.hF.nd).sublist List.filter_sublist, hnd2, fun a ha b hb e => ?_⟩
    subst e
    obtain ⟨q, hq, hx⟩ := List.mem_flatMap.1 hb
    have := (List.mem_filter.1 ha).2
    unfold inQ at this
    simp only [Bool.not_eq_true', List.any_eq_false] at this
    exact this q hq (List.any_eq_true.2 ⟨a, hx, by simp⟩)
  · rw [List.mem_append, List.mem_filter, List.mem_flatMap]
    constructor
    · rintro (h1 | ⟨q, hq, hx⟩)
      · exact h1.1
      · exact h.sub q hq y hx
    · intro hy
      by_cases hin : inQ qs y.id = true
      · right
        rw [← h.f_inQ] at hin
        obtain ⟨j, q, x, hj, hx, e, _, hfi⟩ := h.inq hin
        have hxy := h.uniq (h.sub q (List.mem_of_getElem? hj) x hx) hy e
        exact ⟨q, List.mem_of_getElem? hj, hxy ▸ hx⟩
      · exact .inl ⟨hy, by simpa using hin⟩
/-! the order of At and N -/
def cmpC (a b : It) : Int := if cmpZ a.at_ b.at_ ≠ 0 then cmpZ a.at_ b.at_ else cmpZ a.n b.n
def ltC (a b : It) : Prop := a.at_ < b.at_ ∨ (a.at_ = b.at_ ∧ a.n < b.n)
instance (a b : It) : Decidable (ltC a b) := by unfold ltC; exact inferInstance
theorem cmpC_neg (a b : It) : cmpC a b < 0 ↔ ltC a b := by
  unfold cmpC cmpZ ltC; repeat' split
  all_goals omega
theorem ltC_I {a b : It} (h : a.n = b.n → a = b) : ltC a b ↔ ltI a b := by
  constructor
  · unfold ltC ltI; omega
  · intro hi
    by_cases e : a.n = b.n
    · have := h e; subst this; exact absurd hi (ltI_irrefl a)
    · unfold ltC ltI at *; omega
set_option maxHeartbeats 2000000 in
theorem or2_ct (L : List SP) (b : Nat) (x y : Int) : Ct Try.prog 71 #[.slice (some ⟨b, 0, none⟩) 2 2] (pt b [.int .i64 x, .int .i64 y] 3 :: L) (fun _ : Unit => .int .i64 (if x ≠ 0 then x else y)) (fun _ : Unit => pt b [.int .i64 x, .int .i64 y] 3 :: L) := by
  refine Ct.of (vs := [.slice (some ⟨b, 0, none⟩) 2 2]) Try.func71 rfl rfl [(0, .slice (some ⟨b, 0, none⟩) 2 2)] (by repeat (first | exact trivial | refine ⟨rfl, ?_⟩)) ?_
  intro E
  show Hd E 18 _ _ _ _
  refine Hd.seq (fun K1 hK1 => ?_)
  refine Hd.region ?_
  refine Hd.yv (y_assign rfl) ?_
  refine Hd.nil ?_
  refine Hd.slots [(0, _)] ⟨rfl, trivial⟩ ?_
  refine Hd.toK hK1 ?_
  refine Hd.seq (fun K2 hK2 => ?_)
  refine Hd.region ?_
  refine Hd.yv (y_assign rfl) ?_
  refine Hd.nil ?_
  refine Hd.slots [(0, _), (3, _)] ⟨rfl, rfl, trivial⟩ ?_
  refine Hd.toK hK2 ?_
  refine Hd.seq (fun K3 hK3 => ?_)
  refine Hd.seq (fun K4 hK4 => ?_)
  refine Hd.region ?_
  refine Hd.yv (y_move rfl) ?_
  refine Hd.yv (y_len Try.underlying35 rfl) ?_
  refine Hd.yv (y_move rfl) ?_
  refine Hd.nil ?_
  refine Hd.slots [(3, _), (6, _), (7, _), (8, _)] ⟨rfl, rfl, rfl, rfl, trivial⟩ ?_
  refine Hd.toK hK4 ?_
  refine Hd.block ?_
  refine Hd.rounds 3 ?_
  refine Hd.roundS ?_
  refine Hd.seq (fun K5 hK5 => ?_)
  refine Hd.region ?_
  refine Hd.yv (y_lss rfl rfl) ?_
  refine Hd.nil ?_
  refine Hd.slots [(3, _), (6, _), (7, _), (8, _), (9, _)] ⟨rfl, rfl, rfl, rfl, rfl, trivial⟩ ?_
  refine Hd.toK hK5 ?_
  refine Hd.seq (fun K6 hK6 => ?_)
  refine Hd.condT rfl ?_
  refine Hd.skip ?_
  refine Hd.toK hK6 ?_
  refine Hd.seq (fun K7 hK7 => ?_)
  refine Hd.block ?_
  refine Hd.seq (fun K8 hK8 => ?_)
  refine Hd.region ?_
  first | (refine Hd.yv (y_idxS Try.underlying35 sz3 rfl rfl (by first | omega | decide)) ?_) | (refine Hd.yv (y_idxR Try.underlying35 sz3 rfl rfl (by first | omega | decide) (by (first | exact RdS.own pkk))) ?_)
  first | (refine Hd.yv (y_load1 ag3 rfl (Rd.pt1 pkk (by (first | rfl)))) ?_) | (refine Hd.yv (y_load1 ag3 rfl (Rd.seg1 pkk (by (first | rfl)))) ?_) | (refine Hd.yv (y_loadR1 ag3 rfl (by (first | exact RdS.own pkk)) (by (first | rfl))) ?_)
  refine Hd.yv (y_assign rfl) ?_
  refine Hd.nil ?_
  refine Hd.slots [(3, _), (5, _), (6, _), (7, _), (8, _)] ⟨rfl, rfl, rfl, rfl, rfl, trivial⟩ ?_
  refine Hd.toK hK8 ?_
  refine Hd.seq (fun K9 hK9 => ?_)
  refine Hd.region ?_
  refine Hd.yv (y_move rfl) ?_
  refine Hd.yv (y_move rfl) ?_
  refine Hd.yv (y_neq rfl rfl) ?_
  refine Hd.nil ?_
  refine Hd.slots [(3, _), (5, _), (6, _), (7, _), (8, _), (14, _)] ⟨rfl, rfl, rfl, rfl, rfl, rfl, trivial⟩ ?_
  refine Hd.toK hK9 ?_
  refine Hd.cond rfl (fun hc1 => ?_) (fun hc1 => ?_)
  ·
    try simp only [decide_eq_true_eq, decide_eq_false_iff_not, Bool.and_eq_true, Bool.or_eq_true, Bool.and_eq_false_iff, Bool.or_eq_false_iff, Bool.not_eq_true', Bool.not_eq_false', Bool.not_eq_true, Bool.not_eq_false, Int.not_lt, Int.not_le, Decidable.not_not, ne_eq] at hc1
    refine Hd.seq (fun K10 hK10 => ?_)
    refine Hd.region ?_
    refine Hd.yv (y_move rfl) ?_
    refine Hd.yv (y_assign rfl) ?_
    refine Hd.nil ?_
    refine Hd.slots [(2, _)] ⟨rfl, trivial⟩ ?_
    refine Hd.toK hK10 ?_
    refine Hd.ret ?_
    refine Hd.inBret ?_
    refine Hd.thenRet ?_
    refine Hd.thenRet ?_
    refine Hd.inBret ?_
    refine Hd.thenRet ?_
    clear hK1 hK2 hK3 hK4 hK5 hK6 hK7 hK8 hK9 hK10
    exact Hd.ret1 rfl () (show some (Value.int .i64 x) = some (Value.int .i64 (if x ≠ 0 then x else y)) from by simp_all) (Ent.sep enn)
  ·
    try simp only [decide_eq_true_eq, decide_eq_false_iff_not, Bool.and_eq_true, Bool.or_eq_true, Bool.and_eq_false_iff, Bool.or_eq_false_iff, Bool.not_eq_true', Bool.not_eq_false', Bool.not_eq_true, Bool.not_eq_false, Int.not_lt, Int.not_le, Decidable.not_not, ne_eq] at hc1
    refine Hd.skip ?_
    refine Hd.inB ?_
    refine Hd.toK hK7 ?_
    refine Hd.region ?_
    first | (refine Hd.yv (y_addn rfl rfl (by simp only [InK]; omega)) ?_) | (refine Hd.yv (y_add rfl rfl) ?_)
    refine Hd.yv (y_move rfl) ?_
    refine Hd.nil ?_
    refine Hd.slots [(3, _), (6, _), (7, _), (8, _)] ⟨rfl, rfl, rfl, rfl, trivial⟩ ?_
    refine Hd.roundN ?_
    refine Hd.seq (fun K11 hK11 => ?_)
    refine Hd.region ?_
    refine Hd.yv (y_lss rfl rfl) ?_
    refine Hd.nil ?_
    refine Hd.slots [(3, _), (6, _), (7, _), (8, _), (9, _)] ⟨rfl, rfl, rfl, rfl, rfl, trivial⟩ ?_
    refine Hd.toK hK11 ?_
    refine Hd.seq (fun K12 hK12 => ?_)
    refine Hd.condT rfl ?_
    refine Hd.skip ?_
    refine Hd.toK hK12 ?_
    refine Hd.seq (fun K13 hK13 => ?_)
    refine Hd.block ?_
    refine Hd.seq (fun K14 hK14 => ?_)
    refine Hd.region ?_
    first | (refine Hd.yv (y_idxS Try.underlying35 sz3 rfl rfl (by first | omega | decide)) ?_) | (refine Hd.yv (y_idxR Try.underlying35 sz3 rfl rfl (by first | omega | decide) (by (first | exact RdS.own pkk))) ?_)
    first | (refine Hd.yv (y_load1 ag3 rfl (Rd.pt1 pkk (by (first | rfl)))) ?_) | (refine Hd.yv (y_load1 ag3 rfl (Rd.seg1 pkk (by (first | rfl)))) ?_) | (refine Hd.yv (y_loadR1 ag3 rfl (by (first | exact RdS.own pkk)) (by (first | rfl))) ?_)
    refine Hd.yv (y_assign rfl) ?_
    refine Hd.nil ?_
    refine Hd.slots [(3, _), (5, _), (6, _), (7, _), (8, _)] ⟨rfl, rfl, rfl, rfl, rfl, trivial⟩ ?_
    refine Hd.toK hK14 ?_
    refine Hd.seq (fun K15 hK15 => ?_)
    refine Hd.region ?_
    refine Hd.yv (y_move rfl) ?_
    refine Hd.yv (y_move rfl) ?_
    refine Hd.yv (y_neq rfl rfl) ?_
    refine Hd.nil ?_
    refine Hd.slots [(3, _), (5, _), (6, _), (7, _), (8, _), (14, _)] ⟨rfl, rfl, rfl, rfl, rfl, rfl, trivial⟩ ?_
    refine Hd.toK hK15 ?_
    refine Hd.cond rfl (fun hc1 => ?_) (fun hc1 => ?_)
    ·
      try simp only [decide_eq_true_eq, decide_eq_false_iff_not, Bool.and_eq_true, Bool.or_eq_true, Bool.and_eq_false_iff, Bool.or_eq_false_iff, Bool.not_eq_true', Bool.not_eq_false', Bool.not_eq_true, Bool.not_eq_false, Int.not_lt, Int.not_le, Decidable.not_not, ne_eq] at hc1
      refine Hd.seq (fun K16 hK16 => ?_)
      refine Hd.region ?_
      refine Hd.yv (y_move rfl) ?_
      refine Hd.yv (y_assign rfl) ?_
      refine Hd.nil ?_
      refine Hd.slots [(2, _)] ⟨rfl, trivial⟩ ?_
      refine Hd.toK hK16 ?_
      refine Hd.ret ?_
      refine Hd.inBret ?_
      refine Hd.thenRet ?_
      refine Hd.thenRet ?_
      refine Hd.inBret ?_
      refine Hd.thenRet ?_
      clear hK1 hK2 hK3 hK4 hK5 hK6 hK7 hK8 hK9 hK11 hK12 hK13 hK14 hK15 hK16
      exact Hd.ret1 rfl () (show some (Value.int .i64 y) = some (Value.int .i64 (if x ≠ 0 then x else y)) from by simp_all) (Ent.sep enn)
    ·
      try simp only [decide_eq_true_eq, decide_eq_false_iff_not, Bool.and_eq_true, Bool.or_eq_true, Bool.and_eq_false_iff, Bool.or_eq_false_iff, Bool.not_eq_true', Bool.not_eq_false', Bool.not_eq_true, Bool.not_eq_false, Int.not_lt, Int.not_le, Decidable.not_not, ne_eq] at hc1
      refine Hd.skip ?_
      refine Hd.inB ?_
      refine Hd.toK hK13 ?_
      refine Hd.region ?_
      first | (refine Hd.yv (y_addn rfl rfl (by simp only [InK]; omega)) ?_) | (refine Hd.yv (y_add rfl rfl) ?_)
      refine Hd.yv (y_move rfl) ?_
      refine Hd.nil ?_
      refine Hd.slots [(3, _), (6, _), (7, _), (8, _)] ⟨rfl, rfl, rfl, rfl, trivial⟩ ?_
      refine Hd.roundN ?_
      refine Hd.seq (fun K17 hK17 => ?_)
      refine Hd.region ?_
      refine Hd.yv (y_lss rfl rfl) ?_
      refine Hd.nil ?_
      refine Hd.slots [(3, _), (6, _), (7, _), (8, _), (9, _)] ⟨rfl, rfl, rfl, rfl, rfl, trivial⟩ ?_
      refine Hd.toK hK17 ?_
      refine Hd.seq (fun K18 hK18 => ?_)
      refine Hd.condF rfl ?_
      refine Hd.exit ?_
      refine Hd.thenExit ?_
      refine Hd.thenExit ?_
      refine Hd.inBexit ?_
      refine Hd.toK hK3 ?_
      refine Hd.seq (fun K19 hK19 => ?_)
      refine Hd.region ?_
      refine Hd.yv (y_move rfl) ?_
      refine Hd.yv (y_assign rfl) ?_
      refine Hd.nil ?_
      refine Hd.slots [(2, _)] ⟨rfl, trivial⟩ ?_
      refine Hd.toK hK19 ?_
      refine Hd.ret ?_
      clear hK1 hK2 hK3 hK4 hK5 hK6 hK7 hK8 hK9 hK11 hK12 hK13 hK14 hK15 hK17 hK18 hK19
      exact Hd.ret1 rfl () (show some (Value.int .i64 0) = some (Value.int .i64 (if x ≠ 0 then x else y)) from by simp_all) (Ent.sep enn)
set_option maxHeartbeats 2000000 in
theorem compC_ct (L : List SP) (a b : It) : Ct Try.prog 70 #[aggI a, aggI b] (L) (fun _ : Unit => .int .i64 (cmpC a b)) (fun _ : Unit => L) := by
  refine Ct.of (vs := [aggI a, aggI b]) Try.func70 rfl rfl [(0, aggI a), (1, aggI b)] (by repeat (first | exact trivial | refine ⟨rfl, ?_⟩)) ?_
  intro E
  show Hd E 17 _ _ _ _
  refine Hd.seq (fun K1 hK1 => ?_)
  refine Hd.region ?_
  refine Hd.box rfl rfl (fun b2 => ?_)
  refine Hd.box rfl rfl (fun b3 => ?_)
  refine Hd.yv (y_assign rfl) ?_
  refine Hd.nil ?_
  refine Hd.slots [(2, _), (3, _)] ⟨rfl, rfl, trivial⟩ ?_
  refine Hd.toK hK1 ?_
  refine Hd.seq (fun K2 hK2 => ?_)
  refine Hd.drawsH ([pt b2 (Hp.encI a) 69, pt b3 (Hp.encI b) 69]) (fun _ => true) mixed ?_
  simp only [List.length, Nat.zero_add, Nat.reduceAdd]
  first | (refine Hd.takeH 0 rfl (by kernel_rfl) (by kernel_rfl) (by kernel_rfl) (by kernel_rfl) (y_field' (q := 1) (ft := 23) Try.underlying69 rfl sz23 rfl rfl) (fun _ _ => rfl) (Ent.sep enn) ?_) | (refine Hd.takeH 0 rfl (by kernel_rfl) (by kernel_rfl) (by kernel_rfl) (by kernel_rfl) (y_fieldR (q := 1) (ft := 23) Try.underlying69 rfl sz23 rfl rfl) (fun _ _ => rfl) (Ent.sep enn) ?_)
  first | (refine Hd.takeH 1 rfl (by kernel_rfl) (by kernel_rfl) (by kernel_rfl) (by kernel_rfl) (y_load1 ag23 rfl (Rd.pt1 pkk (by (first | rfl)))) (fun _ _ => rfl) (Ent.sep enn) ?_) | (refine Hd.takeH 1 rfl (by kernel_rfl) (by kernel_rfl) (by kernel_rfl) (by kernel_rfl) (y_load1 ag23 rfl (Rd.seg1 pkk (by (first | rfl)))) (fun _ _ => rfl) (Ent.sep enn) ?_) | (refine Hd.takeH 1 rfl (by kernel_rfl) (by kernel_rfl) (by kernel_rfl) (by kernel_rfl) (y_loadR1 ag23 rfl (by (first | exact RdS.own pkk)) (by (first | rfl))) (fun _ _ => rfl) (Ent.sep enn) ?_)
  first | (refine Hd.takeH 2 rfl (by kernel_rfl) (by kernel_rfl) (by kernel_rfl) (by kernel_rfl) (y_field' (q := 1) (ft := 23) Try.underlying69 rfl sz23 rfl rfl) (fun _ _ => rfl) (Ent.sep enn) ?_) | (refine Hd.takeH 2 rfl (by kernel_rfl) (by kernel_rfl) (by kernel_rfl) (by kernel_rfl) (y_fieldR (q := 1) (ft := 23) Try.underlying69 rfl sz23 rfl rfl) (fun _ _ => rfl) (Ent.sep enn) ?_)
  first | (refine Hd.takeH 3 rfl (by kernel_rfl) (by kernel_rfl) (by kernel_rfl) (by kernel_rfl) (y_load1 ag23 rfl (Rd.pt1 pkk (by (first | rfl)))) (fun _ _ => rfl) (Ent.sep enn) ?_) | (refine Hd.takeH 3 rfl (by kernel_rfl) (by kernel_rfl) (by kernel_rfl) (by kernel_rfl) (y_load1 ag23 rfl (Rd.seg1 pkk (by (first | rfl)))) (fun _ _ => rfl) (Ent.sep enn) ?_) | (refine Hd.takeH 3 rfl (by kernel_rfl) (by kernel_rfl) (by kernel_rfl) (by kernel_rfl) (y_loadR1 ag23 rfl (by (first | exact RdS.own pkk)) (by (first | rfl))) (fun _ _ => rfl) (Ent.sep enn) ?_)
  first | (refine Hd.takeH 5 rfl (by kernel_rfl) (by kernel_rfl) (by kernel_rfl) (by kernel_rfl) (y_field' (q := 2) (ft := 23) Try.underlying69 rfl sz23 rfl rfl) (fun _ _ => rfl) (Ent.sep enn) ?_) | (refine Hd.takeH 5 rfl (by kernel_rfl) (by kernel_rfl) (by kernel_rfl) (by kernel_rfl) (y_fieldR (q := 2) (ft := 23) Try.underlying69 rfl sz23 rfl rfl) (fun _ _ => rfl) (Ent.sep enn) ?_)
  first | (refine Hd.takeH 6 rfl (by kernel_rfl) (by kernel_rfl) (by kernel_rfl) (by kernel_rfl) (y_load1 ag23 rfl (Rd.pt1 pkk (by (first | rfl)))) (fun _ _ => rfl) (Ent.sep enn) ?_) | (refine Hd.takeH 6 rfl (by kernel_rfl) (by kernel_rfl) (by kernel_rfl) (by kernel_rfl) (y_load1 ag23 rfl (Rd.seg1 pkk (by (first | rfl)))) (fun _ _ => rfl) (Ent.sep enn) ?_) | (refine Hd.takeH 6 rfl (by kernel_rfl) (by kernel_rfl) (by kernel_rfl) (by kernel_rfl) (y_loadR1 ag23 rfl (by (first | exact RdS.own pkk)) (by (first | rfl))) (fun _ _ => rfl) (Ent.sep enn) ?_)
  first | (refine Hd.takeH 7 rfl (by kernel_rfl) (by kernel_rfl) (by kernel_rfl) (by kernel_rfl) (y_field' (q := 2) (ft := 23) Try.underlying69 rfl sz23 rfl rfl) (fun _ _ => rfl) (Ent.sep enn) ?_) | (refine Hd.takeH 7 rfl (by kernel_rfl) (by kernel_rfl) (by kernel_rfl) (by kernel_rfl) (y_fieldR (q := 2) (ft := 23) Try.underlying69 rfl sz23 rfl rfl) (fun _ _ => rfl) (Ent.sep enn) ?_)
  first | (refine Hd.takeH 8 rfl (by kernel_rfl) (by kernel_rfl) (by kernel_rfl) (by kernel_rfl) (y_load1 ag23 rfl (Rd.pt1 pkk (by (first | rfl)))) (fun _ _ => rfl) (Ent.sep enn) ?_) | (refine Hd.takeH 8 rfl (by kernel_rfl) (by kernel_rfl) (by kernel_rfl) (by kernel_rfl) (y_load1 ag23 rfl (Rd.seg1 pkk (by (first | rfl)))) (fun _ _ => rfl) (Ent.sep enn) ?_) | (refine Hd.takeH 8 rfl (by kernel_rfl) (by kernel_rfl) (by kernel_rfl) (by kernel_rfl) (y_loadR1 ag23 rfl (by (first | exact RdS.own pkk)) (by (first | rfl))) (fun _ _ => rfl) (Ent.sep enn) ?_)
  refine Hd.onlyH 4 rfl (by kernel_rfl) ?_
  refine Hd.callE rfl fk72 (cmp64_ct _ a.at_ b.at_) (Ent.sep enn) ?_
  intro _
  refine Hd.nil ?_
  refine Hd.thenN ?_
  refine Hd.heldK (J := (fun _ => true)) (i := 4) (Ent.sep enn) ?_
  refine Hd.onlyH 9 rfl (by kernel_rfl) ?_
  refine Hd.callE rfl fk72 (cmp64_ct _ a.n b.n) (Ent.sep enn) ?_
  intro _
  refine Hd.nil ?_
  refine Hd.thenN ?_
  refine Hd.heldK (J := (fun _ => true)) (i := 9) (Ent.sep enn) ?_
  refine Hd.onlyH 10 rfl (by kernel_rfl) ?_
  refine Hd.bslice (vs := [(0, _), (1, _)]) rfl (by first | exact bs70_15 .. | kernel_rfl) (fun b15 => ?_)
  refine Hd.nil ?_
  refine Hd.thenN ?_
  refine Hd.heldK (J := (fun _ => true)) (i := 10) (Ent.sep enn) ?_
  refine Hd.onlyH 11 rfl (by kernel_rfl) ?_
  refine Hd.callE rfl fk71 (or2_ct _ b15 (cmpZ a.at_ b.at_) (cmpZ a.n b.n)) (Ent.sep enn) ?_
  intro _
  refine Hd.nil ?_
  refine Hd.thenN ?_
  refine Hd.heldK (J := (fun _ => true)) (i := 11) (Ent.sep enn) ?_
  refine Hd.takeH 12 rfl (by kernel_rfl) (by kernel_rfl) (by kernel_rfl) (by kernel_rfl) (y_assign rfl) (fun _ _ => rfl) (Ent.sep enn) ?_
  refine Hd.endH (by kernel_rfl) ?_
  refine Hd.slots [(4, _)] ⟨rfl, trivial⟩ ?_
  refine Hd.toK hK2 ?_
  refine Hd.ret ?_
  clear hK1 hK2
  exact Hd.ret1 rfl () (by first | rfl | (simp only [*]; done) | (simp [*]; done)) (Ent.sep enn)
theorem flat_one {l : List It} : ∀ u ∈ l.flatMap Hp.encI, u.oneCell' = true := by
  intro u hu
  obtain ⟨y, _, hy⟩ := List.mem_flatMap.1 hu
  exact encI_one y u hy
section
variable {xs : List It}
abbrev Sb (xs : List It) : Type := { x : It // x ∈ xs }
abbrev encS (x : Sb xs) : List Value := Hp.encI x.1
abbrev cmpS (x y : Sb xs) : Int := cmpC x.1 y.1
theorem ltOf_S (x y : Sb xs) : ltOf cmpS x y = decide (ltC x.1 y.1) := by
  unfold ltOf
  by_cases h : ltC x.1 y.1
  · simp [cmpS, h, (cmpC_neg x.1 y.1).2 h]
  · have hn : ¬ cmpS x y < 0 := fun q => h ((cmpC_neg x.1 y.1).1 q)
    rw [decide_eq_false hn, decide_eq_false h]
theorem swo_S : Go.Sort.SWO (ltOf (cmpS (xs := xs))) where
  irrefl x := by rw [ltOf_S]; simp [ltC]
  trans x y z h1 h2 := by rw [ltOf_S] at *; simp only [decide_eq_true_eq] at *; unfold ltC at *; omega
  ntrans x y z h1 h2 := by rw [ltOf_S] at *; simp only [decide_eq_false_iff_not] at *; unfold ltC at *; omega
theorem attach_flat (xs : List It) : xs.attach.flatMap encS = xs.flatMap Hp.encI := by
  have : (xs.attach.map Subtype.val).flatMap Hp.encI = xs.flatMap Hp.encI := by rw [List.attach_map_subtype_val]
  rw [List.flatMap_map] at this; exact this
theorem sortedS {s : List It} (hp : xs.Perm s) (hs : s.Pairwise ltI) (hn : ∀ x ∈ xs, ∀ y ∈ xs, x.n = y.n → x = y) : (xs.attach.mergeSort fun x y => !(ltOf cmpS) y x).map Subtype.val = s := by
  have hle : ∀ x y : Sb xs, (!(ltOf cmpS) y x) = true ↔ leI x.1 y.1 := fun x y => by
    rw [ltOf_S]
    unfold leI
    rw [← ltC_I (hn y.1 y.2 x.1 x.2)]; simp
  have h1 := List.pairwise_mergeSort (le := fun x y : Sb xs => !(ltOf cmpS) y x) (fun a b c h1 h2 => (hle _ _).2 (leI_trans ((hle _ _).1 h1) ((hle _ _).1 h2))) (fun a b => by
    rw [Bool.or_eq_true]
    rcases leI_total a.1 b.1 with h | h
    · exact .inl ((hle _ _).2 h)
    · exact .inr ((hle _ _).2 h)) xs.attach
  have h2 : ((xs.attach.mergeSort fun x y => !(ltOf cmpS) y x).map Subtype.val).Pairwise leI := List.pairwise_map.2 (h1.imp fun h => (hle _ _).1 h)
  have h3 : s.Pairwise leI := hs.imp fun h => leI_of_lt h
  have h4 : ((xs.attach.mergeSort fun x y => !(ltOf cmpS) y x).map Subtype.val).Perm s := by
    have := (List.mergeSort_perm xs.attach fun x y => !(ltOf cmpS) y x).map Subtype.val
    rw [List.attach_map_subtype_val] at this
    exact this.trans hp
  exact h4.eq_of_pairwise (le := leI) (fun a b _ _ x y => leI_anti x y) h2 h3
end
theorem sortC_ct (L : List SP) (ad : Option Addr) (n cap : Nat) (xs s : List It) (hn : xs.length = n) (hp : xs.Perm s) (hs : s.Pairwise ltI) (hu : ∀ x ∈ xs, ∀ y ∈ xs, x.n = y.n → x = y) (hlen : n ≤ 1000000) :
    Ct Try.prog 69 #[.slice ad n cap, .func (.func 70) #[] #[]] (OwI ad n cap xs :: L) (fun _ : Unit => .tuple #[]) (fun _ => OwI ad n cap s :: L) := by
  intro E w hsat
  have hls : s.length = n := by rw [← hp.length_eq, hn]
  obtain ⟨hos, htp, hou, h1, h2, dd, s1, s2, ⟨hul, hv⟩, hL⟩ := hsat
  rcases hv with ⟨h0, hc0⟩ | ⟨b, o, sp, rfl, hmc, hcm, hsp, hpt⟩
  · subst h0
    obtain rfl := List.eq_nil_of_length_eq_zero hn
    obtain rfl := List.eq_nil_of_length_eq_zero hls
    refine (AnyF.slices_SortFunc_none Try.sortI ad cap _ w).mono ?_
    rintro e w' ⟨rfl, rfl⟩
    exact ⟨(), rfl, hos, htp, hou, h1, h2, dd, s1, s2, ⟨hul, .inl ⟨rfl, hc0⟩⟩, hL⟩
  · by_cases hn0 : n = 0
    · subst hn0
      obtain rfl := List.eq_nil_of_length_eq_zero hn
      obtain rfl := List.eq_nil_of_length_eq_zero hls
      refine (AnyF.slices_SortFunc_none Try.sortI (some ⟨b, o, none⟩) cap _ w).mono ?_
      rintro e w' ⟨rfl, rfl⟩
      exact ⟨(), rfl, hos, htp, hou, h1, h2, dd, s1, s2, ⟨hul, .inr ⟨b, o, sp, rfl, hmc, hcm, hsp, hpt⟩⟩, hL⟩
    have s0 : Sat E (seg b o (xs.flatMap Hp.encI ++ sp) :: L) w := ⟨hos, htp, hou, h1, h2, dd, s1, s2, hpt, hL⟩
    have s3 : Sat E (seg b o (xs.attach.flatMap encS) :: seg b (o + (xs.attach.flatMap encS).length) sp :: L) w := by
      rw [attach_flat]; exact s0.mp fun k h => seg_split h
    have h0x : 0 < xs.attach.length := by rw [List.length_attach]; omega
    have hal : xs.attach.length = n := by rw [List.length_attach]; exact hn
    obtain ⟨x0, hx0⟩ : ∃ x, x ∈ xs := ⟨xs[0], List.getElem_mem (by omega)⟩
    have : Inhabited (Sb xs) := ⟨⟨x0, hx0⟩⟩
    have hH := Sat.holdsK (enc := encS (xs := xs)) (k := 3) (fun _ => rfl) (by omega) h0x s3
    have eg : ∀ args w, (callFunc 70 args).run Try.prog w = .ok (.enter 70 args) w := fun args w => run_call (show fnk Try.prog 70 = true by kernel_rfl) args w
    have hc := AnyQ.slices_SortFunc_total Try.sortI 3 Try.isAgg69 Try.sizeOf69 (encS (xs := xs)) (fun _ => rfl) (fun x => encI_one x.1) cmpS swo_S 70 #[] b o cap xs.attach.toArray w eg
      (cmpLays_of fun L x y => compC_ct L x.1 y.1) hH.1 hH.2 (by simp; omega) (fun x y h1 h2 => by
        rw [ltOf_S] at h1 h2; simp only [decide_eq_false_iff_not] at h1 h2
        rw [ltC_I (hu _ x.2 _ y.2)] at h1
        rw [ltC_I (hu _ y.2 _ x.2)] at h2
        exact Subtype.ext (leI_anti h2 h1))
    have hsz : xs.attach.toArray.size = n := by simpa using hn
    rw [hsz] at hc
    refine Calls.mono (show Calls Try.prog 69 _ _ _ from hc) ?_
    rintro e w' ⟨rfl, m, os, rfl⟩
    refine ⟨(), rfl, ?_⟩
    have hso := sortedS hp hs hu
    have hsl : (xs.attach.mergeSort fun x y => !(ltOf cmpS) y x).length = n := by rw [List.length_mergeSort]; exact hal
    have s4 := s3.sortW (ys := xs.attach.mergeSort fun x y => !(ltOf cmpS) y x) (enc := encS (xs := xs)) (k := 3) (fun _ => rfl) (by omega) (by rw [hsl]; exact hal.symm) h0x m os
    have hfs : (xs.attach.mergeSort fun x y => !(ltOf cmpS) y x).flatMap encS = s.flatMap Hp.encI := by
      have : ((xs.attach.mergeSort fun x y => !(ltOf cmpS) y x).map Subtype.val).flatMap Hp.encI = s.flatMap Hp.encI := by rw [hso]
      rw [List.flatMap_map] at this; exact this
    rw [hfs, attach_flat] at s4
    have hfl : (xs.flatMap Hp.encI).length = (s.flatMap Hp.encI).length := by rw [Hp.flat_len, Hp.flat_len]; omega
    rw [hfl] at s4
    have s5 := s4.mp fun k h => seg_join h
    exact s5.mp fun k h => sep_head h fun k2 x => ⟨by rw [Hp.flat_len, hls], .inr ⟨b, o, sp, rfl, hmc, hcm, hsp, x⟩⟩
set_option maxHeartbeats 2000000 in
theorem call_ct (L : List SP) (o : Nat) (qs : List Q) (s : List It) (nx : Int) : Ct Try.prog 58 #[.pointer (some ⟨o, 0, none⟩)] (CoA o qs s nx :: L) (fun q_ : Option Addr × Nat => .slice q_.1 s.length q_.2) (fun q_ : Option Addr × Nat => OwI q_.1 s.length q_.2 s :: CoA o qs s nx :: L) := by
  refine Ct.of (vs := [.pointer (some ⟨o, 0, none⟩)]) Try.func58 rfl rfl [(0, .pointer (some ⟨o, 0, none⟩))] (by repeat (first | exact trivial | refine ⟨rfl, ?_⟩)) ?_
  intro E
  show Hd E 43 _ _ _ _
  refine Hd.exs .here ?_
  intro c
  simp only [List.cons_append, List.nil_append]
  refine Hd.pure (fun hq => ?_)
  obtain ⟨hok, hrs⟩ := hq
  refine Hd.hpF (b := c.h) (s := c.hs) pkk (fun hH => ?_)
  have hrl : c.rs.length = qs.length := by rw [← hrs, List.length_map]
  have hsl := hok.hF.len
  have hql := hok.ql
  have hpm := hok.all hH
  have htl : ∀ k, ((c.hs.take k).flatMap (exQ qs)).length ≤ s.length := fun k => by
    have e : c.hs.flatMap (exQ qs) = (c.hs.take k).flatMap (exQ qs) ++ (c.hs.drop k).flatMap (exQ qs) := by rw [← List.flatMap_append, List.take_append_drop]
    have := hpm.length_eq
    rw [e, List.length_append] at this; omega
  have hhl := hH.len
  refine Hd.seq (fun K1 hK1 => ?_)
  refine Hd.region ?_
  refine Hd.yv (y_assign rfl) ?_
  refine Hd.nil ?_
  refine Hd.slots [(0, _)] ⟨rfl, trivial⟩ ?_
  refine Hd.toK hK1 ?_
  refine Hd.seq (fun K2 hK2 => ?_)
  refine Hd.seq (fun K3 hK3 => ?_)
  refine Hd.region ?_
  refine Hd.yv (y_move rfl) ?_
  refine Hd.callE rfl fk50 (none_ct _ o c.h c.mb c.qad qs.length c.qcap nx) (Ent.sep enn) ?_
  intro _
  refine Hd.nil ?_
  refine Hd.slots [(0, _), (7, _)] ⟨rfl, rfl, trivial⟩ ?_
  refine Hd.toK hK3 ?_
  refine Hd.condF rfl ?_
  refine Hd.skip ?_
  refine Hd.toK hK2 ?_
  refine Hd.seq (fun K4 hK4 => ?_)
  refine Hd.region ?_
  refine Hd.yv (y_assign rfl) ?_
  refine Hd.nil ?_
  refine Hd.slots [(0, _), (3, _)] ⟨rfl, rfl, trivial⟩ ?_
  refine Hd.toK hK4 ?_
  refine Hd.seq (fun K5 hK5 => ?_)
  refine Hd.seq (fun K6 hK6 => ?_)
  refine Hd.region ?_
  refine Hd.yv (y_move rfl) ?_
  refine Hd.yv (y_nilp rfl) ?_
  first | (refine Hd.yv (y_field' (q := 0) (ft := 81) Try.underlying86 rfl sz81 rfl rfl) ?_) | (refine Hd.yv (y_fieldR (q := 0) (ft := 81) Try.underlying86 rfl sz81 rfl rfl) ?_)
  first | (refine Hd.yv (y_load1 ag81 rfl (Rd.pt1 pkk (by (first | exact pv_at hr | rfl)))) ?_) | (refine Hd.yv (y_load1 ag81 rfl (Rd.seg1 pkk (by (first | exact pv_at hr | rfl)))) ?_) | (refine Hd.yv (y_loadR1 ag81 rfl (by (first | exact RdS.own pkk)) (by (first | exact pv_at hr | rfl))) ?_)
  refine Hd.callE rfl fk68 (all_ct _ c.h c.hs) (Ent.sep enn) ?_
  rintro ⟨ah, ch⟩
  dsimp only
  refine Hd.yv (y_len Try.underlying77 rfl) ?_
  refine Hd.yv (y_move rfl) ?_
  refine Hd.nil ?_
  refine Hd.slots [(0, _), (3, _), (12, _), (13, _), (14, _)] ⟨rfl, rfl, rfl, rfl, rfl, trivial⟩ ?_
  refine Hd.toK hK6 ?_
  refine Hd.block ?_
  refine Hd.ownNil 69 3 none ?_
  refine Hd.loopK (ι := Nat × Option Addr × Nat) [(0, _), (12, _), (13, _)] (fun q_ => [(3, .slice q_.2.1 ((c.hs.take q_.1).flatMap (exQ qs)).length q_.2.2), (14, .int .i64 (q_.1 : Int))]) (fun q_ => pu (q_.1 ≤ c.hs.length) :: OwI q_.2.1 ((c.hs.take q_.1).flatMap (exQ qs)).length q_.2.2 ((c.hs.take q_.1).flatMap (exQ qs)) :: OwI ah c.hs.length ch c.hs :: CmL o qs.length nx c L) (fun q_ => c.hs.length - q_.1) (0, none, 0) (by repeat (first | exact trivial | refine ⟨rfl, ?_⟩)) (by repeat (first | exact trivial | refine ⟨rfl, ?_⟩)) (Ent.sep (.pure (by first | omega | (simp; done) | (simp; omega) | exact ⟨by simp, by simp⟩) enn)) ?_
  rintro ⟨k, ad, cp⟩
  try dsimp only
  refine Hd.pure (fun hp0 => ?_)
  try dsimp only at hp0
  refine Hd.seq (fun K7 hK7 => ?_)
  refine Hd.region ?_
  refine Hd.yv (y_lss rfl rfl) ?_
  refine Hd.nil ?_
  refine Hd.slots [(0, _), (3, _), (12, _), (13, _), (14, _), (15, _)] ⟨rfl, rfl, rfl, rfl, rfl, rfl, trivial⟩ ?_
  refine Hd.toK hK7 ?_
  refine Hd.seq (fun K8 hK8 => ?_)
  refine Hd.cond rfl (fun hc1 => ?_) (fun hc1 => ?_)
  ·
    try simp only [decide_eq_true_eq, decide_eq_false_iff_not, Bool.and_eq_true, Bool.or_eq_true, Bool.and_eq_false_iff, Bool.or_eq_false_iff, Bool.not_eq_true', Bool.not_eq_false', Bool.not_eq_true, Bool.not_eq_false, Int.not_lt, Int.not_le, Decidable.not_not, ne_eq] at hc1
    have hk : k < c.hs.length := by omega
    have hgk : c.hs[k]? = some (g c.hs k) := g_at hk
    have htk : (c.hs.take (k + 1)).flatMap (exQ qs) = (c.hs.take k).flatMap (exQ qs) ++ exQ qs (g c.hs k) := by rw [List.take_add_one, hgk, List.flatMap_append]; simp
    have hl1 := htl (k + 1)
    have hl0 := htl k
    refine Hd.skip ?_
    refine Hd.toK hK8 ?_
    refine Hd.seq (fun K9 hK9 => ?_)
    refine Hd.block ?_
    refine Hd.seq (fun K10 hK10 => ?_)
    refine Hd.region ?_
    first | (refine Hd.yv (y_idxS Try.underlying77 sz69 rfl rfl (by first | omega | decide)) ?_) | (refine Hd.yv (y_idxR Try.underlying77 sz69 rfl rfl (by first | omega | decide) (by (first | exact RdS.own pkk))) ?_)
    refine Hd.yv (y_loadRn (vs := [_, _, _]) ag69 rfl (RdS.own (ad := ah) (us := c.hs.flatMap Hp.encI) pkk) (flat_cells Hp.encI 3 (fun _ => rfl) hgk) (by exact sz69) (by simp)) ?_
    refine Hd.alloc zr69 (fun b5 => ?_)
    refine Hd.storeA (us := Hp.encI (g c.hs k)) sz69 rfl rfl rfl (encI_one _) pkk (by exact rfl) ?_
    refine Hd.nil ?_
    refine Hd.slots [(0, _), (3, _), (5, _), (12, _), (13, _), (14, _)] ⟨rfl, rfl, rfl, rfl, rfl, rfl, trivial⟩ ?_
    refine Hd.toK hK10 ?_
    refine Hd.seq (fun K11 hK11 => ?_)
    refine Hd.region ?_
    first | (refine Hd.yv (y_field' (q := 0) (ft := 3) Try.underlying69 rfl sz3 rfl rfl) ?_) | (refine Hd.yv (y_fieldR (q := 0) (ft := 3) Try.underlying69 rfl sz3 rfl rfl) ?_)
    first | (refine Hd.yv (y_load1 ag3 rfl (Rd.pt1 pkk (by (first | exact pv_at hr | rfl)))) ?_) | (refine Hd.yv (y_load1 ag3 rfl (Rd.seg1 pkk (by (first | exact pv_at hr | rfl)))) ?_) | (refine Hd.yv (y_loadR1 ag3 rfl (by (first | exact RdS.own pkk)) (by (first | exact pv_at hr | rfl))) ?_)
    refine Hd.yv (y_geq rfl rfl) ?_
    refine Hd.nil ?_
    refine Hd.slots [(0, _), (3, _), (5, _), (12, _), (13, _), (14, _), (20, _)] ⟨rfl, rfl, rfl, rfl, rfl, rfl, rfl, trivial⟩ ?_
    refine Hd.toK hK11 ?_
    refine Hd.cond rfl (fun hc2 => ?_) (fun hc2 => ?_)
    ·
      try simp only [decide_eq_true_eq, decide_eq_false_iff_not, Bool.and_eq_true, Bool.or_eq_true, Bool.and_eq_false_iff, Bool.or_eq_false_iff, Bool.not_eq_true', Bool.not_eq_false', Bool.not_eq_true, Bool.not_eq_false, Int.not_lt, Int.not_le, Decidable.not_not, ne_eq] at hc2
      have hex : exQ qs (g c.hs k) = [g c.hs k] := exQ_own hc2
      rw [hex] at htk
      have hle : ((c.hs.take k).flatMap (exQ qs)).length + 1 = ((c.hs.take (k + 1)).flatMap (exQ qs)).length := by rw [htk, List.length_append]; rfl
      refine Hd.region ?_
      refine Hd.yv (y_move rfl) ?_
      first | (refine Hd.yv (y_loadn (us := [_, _, _]) ag69 rfl (Rd.pt pkk (by (first | (intro j v e; rcases j with _|_|_|_|_|_|_|_|_|_|_|_|j <;> first | exact e | exact absurd e (by simp))))) (by exact sz69)) ?_) | (refine Hd.yv (y_loadn (us := [_, _, _]) ag69 rfl (Rd.seg pkk (by (first | (intro j v e; rcases j with _|_|_|_|_|_|_|_|_|_|_|_|j <;> first | exact e | exact absurd e (by simp))))) (by exact sz69)) ?_) | (refine Hd.yv (y_loadRn ag69 rfl (by (first | exact RdS.own pkk)) (by (first | (intro j v e; rcases j with _|_|_|_|_|_|_|_|_|_|_|_|j <;> first | exact e | exact absurd e (by simp)))) (by exact sz69) (by simp)) ?_)
      refine Hd.bslice (vs := [(0, _)]) rfl (by first | exact bs58_23 .. | kernel_rfl) (fun b23 => ?_)
      refine Hd.append Try.underlying77 ty69 rfl rfl rfl pkk (by first | exact RdS.rd (Rd.pt pkk (fun j v e => by simpa using e)) rfl | (first | exact RdS.own pkk)) (by first | (simp [Value.oneCell']; done) | assumption | exact flat_one) (by first | (simp only [maxLen]; omega) | assumption) (by omega) (fun ad24 cap24 => ?_)
      refine Hd.yv (y_assign rfl) ?_
      refine Hd.nil ?_
      refine Hd.slots [(0, _), (3, _), (12, _), (13, _), (14, _)] ⟨rfl, rfl, rfl, rfl, rfl, trivial⟩ ?_
      refine Hd.inB ?_
      refine Hd.toK hK9 ?_
      refine Hd.region ?_
      first | (refine Hd.yv (y_addn rfl rfl (by simp only [InK]; omega)) ?_) | (refine Hd.yv (y_add rfl rfl) ?_)
      refine Hd.yv (y_move rfl) ?_
      refine Hd.nil ?_
      refine Hd.slots [(0, _), (3, _), (12, _), (13, _), (14, _)] ⟨rfl, rfl, rfl, rfl, rfl, trivial⟩ ?_
      clear hK1 hK2 hK3 hK4 hK5 hK6 hK7 hK8 hK9 hK10 hK11
      refine Hd.thenN ?_
      rw [hle]; refine Hd.heap (OwI ad24 ((c.hs.take (k + 1)).flatMap (exQ qs)).length cap24 ((c.hs.take (k + 1)).flatMap (exQ qs)) :: OwI ah c.hs.length ch c.hs :: CmL o qs.length nx c L) (Ent.sep (.eq pkk (own_eq3 rfl rfl (by rw [htk, List.flatMap_append]; rfl)) enn)) ?_
      exact Hd.again (k + 1, ad24, cap24) (by first | omega | (simp only; omega) | (simp; omega)) (by repeat (first | exact trivial | refine ⟨rfl, ?_⟩)) (Ent.sep (.pure (by first | omega | (simp; done) | (simp; omega) | (dsimp only; omega)) enn))
    ·
      try simp only [decide_eq_true_eq, decide_eq_false_iff_not, Bool.and_eq_true, Bool.or_eq_true, Bool.and_eq_false_iff, Bool.or_eq_false_iff, Bool.not_eq_true', Bool.not_eq_false', Bool.not_eq_true, Bool.not_eq_false, Int.not_lt, Int.not_le, Decidable.not_not, ne_eq] at hc2
      have hm := g_mem hk
      obtain ⟨j, q, x, r2, hj, hql2, hye2⟩ : ∃ (j : Nat) (q : Q) (x : It) (r' : List It), qs[j]? = some q ∧ q.l = x :: r' ∧ g c.hs k = sgn j x := by
        rcases (hok.hm _).1 hm with ⟨h, _⟩ | h
        · have := hok.nn _ h; omega
        · exact h
      obtain ⟨r, hr, hrq⟩ := hok.row hrs hj
      subst hrq
      have hjl : j < c.rs.length := (List.getElem?_eq_some_iff.1 hr).1
      have hid : (g c.hs k).id = -1 - (j : Int) := by rw [hye2]; rfl
      have hex : exQ qs (g c.hs k) = r.l := by rw [hye2]; exact exQ_sgn hj x
      rw [hex] at htk
      have hle : ((c.hs.take k).flatMap (exQ qs)).length + r.l.length = ((c.hs.take (k + 1)).flatMap (exQ qs)).length := by rw [htk, List.length_append]
      refine Hd.qOut pkk hr ?_
      refine Hd.drawsH ([CmH o c.h c.mb c.qad qs.length c.qcap nx, pt b5 (Hp.encI (g c.hs k)) 69, QP c.qad qs.length c.qcap c.rs, qb r, qo r]) (fun _ => true) mixed ?_
      simp only [List.length, Nat.zero_add, Nat.reduceAdd]
      refine Hd.takeH 0 rfl (by kernel_rfl) (by kernel_rfl) (by kernel_rfl) (by kernel_rfl) (y_move rfl) (fun _ _ => rfl) (Ent.sep enn) ?_
      refine Hd.takeH 1 rfl (by kernel_rfl) (by kernel_rfl) (by kernel_rfl) (by kernel_rfl) (y_move rfl) (fun _ _ => rfl) (Ent.sep enn) ?_
      refine Hd.takeH 2 rfl (by kernel_rfl) (by kernel_rfl) (by kernel_rfl) (by kernel_rfl) (y_nilp rfl) (fun _ _ => rfl) (Ent.sep enn) ?_
      first | (refine Hd.takeH 3 rfl (by kernel_rfl) (by kernel_rfl) (by kernel_rfl) (by kernel_rfl) (y_field' (q := 1) (ft := 84) Try.underlying86 rfl sz84 rfl rfl) (fun _ _ => rfl) (Ent.sep enn) ?_) | (refine Hd.takeH 3 rfl (by kernel_rfl) (by kernel_rfl) (by kernel_rfl) (by kernel_rfl) (y_fieldR (q := 1) (ft := 84) Try.underlying86 rfl sz84 rfl rfl) (fun _ _ => rfl) (Ent.sep enn) ?_)
      first | (refine Hd.takeH 4 rfl (by kernel_rfl) (by kernel_rfl) (by kernel_rfl) (by kernel_rfl) (y_load1 ag84 rfl (Rd.pt1 pkk (by (first | exact pv_at hr | rfl)))) (fun _ _ => rfl) (Ent.sep enn) ?_) | (refine Hd.takeH 4 rfl (by kernel_rfl) (by kernel_rfl) (by kernel_rfl) (by kernel_rfl) (y_load1 ag84 rfl (Rd.seg1 pkk (by (first | exact pv_at hr | rfl)))) (fun _ _ => rfl) (Ent.sep enn) ?_) | (refine Hd.takeH 4 rfl (by kernel_rfl) (by kernel_rfl) (by kernel_rfl) (by kernel_rfl) (y_loadR1 ag84 rfl (by (first | exact RdS.own pkk)) (by (first | exact pv_at hr | rfl))) (fun _ _ => rfl) (Ent.sep enn) ?_)
      first | (refine Hd.takeH 5 rfl (by kernel_rfl) (by kernel_rfl) (by kernel_rfl) (by kernel_rfl) (y_field' (q := 0) (ft := 3) Try.underlying69 rfl sz3 rfl rfl) (fun _ _ => rfl) (Ent.sep enn) ?_) | (refine Hd.takeH 5 rfl (by kernel_rfl) (by kernel_rfl) (by kernel_rfl) (by kernel_rfl) (y_fieldR (q := 0) (ft := 3) Try.underlying69 rfl sz3 rfl rfl) (fun _ _ => rfl) (Ent.sep enn) ?_)
      first | (refine Hd.takeH 6 rfl (by kernel_rfl) (by kernel_rfl) (by kernel_rfl) (by kernel_rfl) (y_load1 ag3 rfl (Rd.pt1 pkk (by (first | exact pv_at hr | rfl)))) (fun _ _ => rfl) (Ent.sep enn) ?_) | (refine Hd.takeH 6 rfl (by kernel_rfl) (by kernel_rfl) (by kernel_rfl) (by kernel_rfl) (y_load1 ag3 rfl (Rd.seg1 pkk (by (first | exact pv_at hr | rfl)))) (fun _ _ => rfl) (Ent.sep enn) ?_) | (refine Hd.takeH 6 rfl (by kernel_rfl) (by kernel_rfl) (by kernel_rfl) (by kernel_rfl) (y_loadR1 ag3 rfl (by (first | exact RdS.own pkk)) (by (first | exact pv_at hr | rfl))) (fun _ _ => rfl) (Ent.sep enn) ?_)
      refine Hd.onlyH 7 rfl (by kernel_rfl) ?_
      refine Hd.callE rfl fk57 (sign_ct _ (g c.hs k).id (by rw [hid]; omega) (by rw [hid]; omega)) (Ent.sep enn) ?_
      intro _
      refine Hd.name (b := (j : Int)) 32 rfl (by rw [hid]; omega) ?_
      refine Hd.nil ?_
      refine Hd.thenN ?_
      refine Hd.heldK (J := (fun _ => true)) (i := 7) (Ent.sep enn) ?_
      first | (refine Hd.takeH 8 rfl (by kernel_rfl) (by kernel_rfl) (by kernel_rfl) (by kernel_rfl) (y_idxS Try.underlying84 sz88 rfl rfl (by first | omega | decide)) (fun _ _ => rfl) (Ent.sep enn) ?_) | (refine Hd.takeH 8 rfl (by kernel_rfl) (by kernel_rfl) (by kernel_rfl) (by kernel_rfl) (y_idxR Try.underlying84 sz88 rfl rfl (by first | omega | decide) (by (first | exact RdS.own pkk))) (fun _ _ => rfl) (Ent.sep enn) ?_)
      first | (refine Hd.takeH 9 rfl (by kernel_rfl) (by kernel_rfl) (by kernel_rfl) (by kernel_rfl) (y_load1 ag88 rfl (Rd.pt1 pkk (by (first | exact pv_at hr | rfl)))) (fun _ _ => rfl) (Ent.sep enn) ?_) | (refine Hd.takeH 9 rfl (by kernel_rfl) (by kernel_rfl) (by kernel_rfl) (by kernel_rfl) (y_load1 ag88 rfl (Rd.seg1 pkk (by (first | exact pv_at hr | rfl)))) (fun _ _ => rfl) (Ent.sep enn) ?_) | (refine Hd.takeH 9 rfl (by kernel_rfl) (by kernel_rfl) (by kernel_rfl) (by kernel_rfl) (y_loadR1 ag88 rfl (by (first | exact RdS.own pkk)) (by (first | exact pv_at hr | rfl))) (fun _ _ => rfl) (Ent.sep enn) ?_)
      refine Hd.takeH 10 rfl (by kernel_rfl) (by kernel_rfl) (by kernel_rfl) (by kernel_rfl) (y_nilp rfl) (fun _ _ => rfl) (Ent.sep enn) ?_
      first | (refine Hd.takeH 11 rfl (by kernel_rfl) (by kernel_rfl) (by kernel_rfl) (by kernel_rfl) (y_field' (q := 1) (ft := 77) Try.underlying90 rfl sz77 rfl rfl) (fun _ _ => rfl) (Ent.sep enn) ?_) | (refine Hd.takeH 11 rfl (by kernel_rfl) (by kernel_rfl) (by kernel_rfl) (by kernel_rfl) (y_fieldR (q := 1) (ft := 77) Try.underlying90 rfl sz77 rfl rfl) (fun _ _ => rfl) (Ent.sep enn) ?_)
      first | (refine Hd.takeH 12 rfl (by kernel_rfl) (by kernel_rfl) (by kernel_rfl) (by kernel_rfl) (y_load1 ag77 rfl (Rd.pt1 pkk (by (first | exact pv_at hr | rfl)))) (fun _ _ => rfl) (Ent.sep enn) ?_) | (refine Hd.takeH 12 rfl (by kernel_rfl) (by kernel_rfl) (by kernel_rfl) (by kernel_rfl) (y_load1 ag77 rfl (Rd.seg1 pkk (by (first | exact pv_at hr | rfl)))) (fun _ _ => rfl) (Ent.sep enn) ?_) | (refine Hd.takeH 12 rfl (by kernel_rfl) (by kernel_rfl) (by kernel_rfl) (by kernel_rfl) (y_loadR1 ag77 rfl (by (first | exact RdS.own pkk)) (by (first | exact pv_at hr | rfl))) (fun _ _ => rfl) (Ent.sep enn) ?_)
      refine Hd.onlyH 13 rfl (by kernel_rfl) ?_
      refine Hd.append Try.underlying77 ty69 rfl rfl rfl pkk (by first | exact RdS.rd (Rd.pt pkk (fun j v e => by simpa using e)) rfl | (first | exact RdS.own pkk)) (by first | (simp [Value.oneCell']; done) | assumption | exact flat_one) (by first | (simp only [maxLen]; omega) | assumption) (by omega) (fun ad38 cap38 => ?_)
      refine Hd.nil ?_
      refine Hd.thenN ?_
      refine Hd.heldK (J := (fun _ => true)) (i := 13) (Ent.sep enn) ?_
      refine Hd.takeH 14 rfl (by kernel_rfl) (by kernel_rfl) (by kernel_rfl) (by kernel_rfl) (y_assign rfl) (fun _ _ => rfl) (Ent.sep enn) ?_
      refine Hd.endH (by kernel_rfl) ?_
      refine Hd.qIn r hjl (Ent.sep enn) ?_
      rw [set_same hr]
      refine Hd.slots [(0, _), (3, _), (12, _), (13, _), (14, _)] ⟨rfl, rfl, rfl, rfl, rfl, trivial⟩ ?_
      refine Hd.inB ?_
      refine Hd.toK hK9 ?_
      refine Hd.region ?_
      first | (refine Hd.yv (y_addn rfl rfl (by simp only [InK]; omega)) ?_) | (refine Hd.yv (y_add rfl rfl) ?_)
      refine Hd.yv (y_move rfl) ?_
      refine Hd.nil ?_
      refine Hd.slots [(0, _), (3, _), (12, _), (13, _), (14, _)] ⟨rfl, rfl, rfl, rfl, rfl, trivial⟩ ?_
      clear hK1 hK2 hK3 hK4 hK5 hK6 hK7 hK8 hK9 hK10 hK11
      refine Hd.thenN ?_
      rw [hle]; refine Hd.heap (OwI ad38 ((c.hs.take (k + 1)).flatMap (exQ qs)).length cap38 ((c.hs.take (k + 1)).flatMap (exQ qs)) :: OwI ah c.hs.length ch c.hs :: CmL o qs.length nx c L) (Ent.sep (.eq pkk (own_eq3 rfl rfl (by rw [htk, List.flatMap_append])) enn)) ?_
      exact Hd.again (k + 1, ad38, cap38) (by first | omega | (simp only; omega) | (simp; omega)) (by repeat (first | exact trivial | refine ⟨rfl, ?_⟩)) (Ent.sep (.pure (by first | omega | (simp; done) | (simp; omega) | (dsimp only; omega)) enn))
  ·
    try simp only [decide_eq_true_eq, decide_eq_false_iff_not, Bool.and_eq_true, Bool.or_eq_true, Bool.and_eq_false_iff, Bool.or_eq_false_iff, Bool.not_eq_true', Bool.not_eq_false', Bool.not_eq_true, Bool.not_eq_false, Int.not_lt, Int.not_le, Decidable.not_not, ne_eq] at hc1
    have hk : k = c.hs.length := by omega
    have hall : (c.hs.take k).flatMap (exQ qs) = c.hs.flatMap (exQ qs) := by rw [hk, List.take_length]
    have hpl := hpm.length_eq
    have hmm : ∀ x ∈ c.hs.flatMap (exQ qs), ∀ y ∈ c.hs.flatMap (exQ qs), x.n = y.n → x = y := fun x hx y hy e => hok.nin x (hpm.mem_iff.1 hx) y (hpm.mem_iff.1 hy) e
    rw [hall, hpl]
    refine Hd.exit ?_
    refine Hd.thenExit ?_
    refine Hd.thenExit ?_
    refine Hd.inBexit ?_
    refine Hd.toK hK5 ?_
    refine Hd.seq (fun K12 hK12 => ?_)
    refine Hd.region ?_
    refine Hd.yv (y_move rfl) ?_
    refine Hd.callE rfl fk69 (sortC_ct _ ad s.length cp (c.hs.flatMap (exQ qs)) s hpl hpm hok.hF.srt hmm hsl) (Ent.sep enn) ?_
    intro _
    refine Hd.nil ?_
    refine Hd.slots [(3, _)] ⟨rfl, trivial⟩ ?_
    refine Hd.toK hK12 ?_
    refine Hd.seq (fun K13 hK13 => ?_)
    refine Hd.region ?_
    refine Hd.yv (y_move rfl) ?_
    refine Hd.yv (y_assign rfl) ?_
    refine Hd.nil ?_
    refine Hd.slots [(2, _)] ⟨rfl, trivial⟩ ?_
    refine Hd.toK hK13 ?_
    refine Hd.ret ?_
    clear hK1 hK2 hK3 hK4 hK5 hK6 hK7 hK8 hK12 hK13
    exact Hd.ret1 rfl (ad, cp) rfl (Ent.sep (.pick pkk (.ex c (.pure ⟨hok, hrs⟩ enn))))
end Cm
end Go.Proofs.Ytdjoofidicoimaa
