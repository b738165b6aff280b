/-
  The document's set of deadlines: Heap.
-/
import Derived.Test.YtcnegelaenkgpaaCo20
namespace Go.Proofs.Ytcnegelaenkgpaa
set_option linter.unusedSimpArgs false
set_option linter.unusedVariables false
set_option linter.unnecessarySimpa false
open Go.RX Fx Hp
namespace Cm
set_option maxRecDepth 8000
/-- is a queue's number a first one behind k of the list -/
def fst_ (q : List Int) (a : Int) (k : Nat) : Bool := decide (a < 0) || (q.take k).all fun y => decide (y ≠ a)
def hc (q : List Int) : Nat → Nat
  | 0 => 0
  | i + 1 => hc q i + if fst_ q (q.getD i 0) i then 1 else 0
theorem hc_le (q : List Int) : ∀ i, hc q i ≤ i
  | 0 => Nat.le_refl _
  | i + 1 => by show hc q i + _ ≤ _; have := hc_le q i; split <;> omega
theorem fst_step {q : List Int} {a : Int} {k : Nat} {y : Int} (h : q[k]? = some y) : (fst_ q a k && (decide (a < 0) || decide (y ≠ a))) = fst_ q a (k + 1) := by
  unfold fst_
  rw [List.take_add_one, h, Option.toList_some, List.all_append]
  cases decide (a < 0) <;> simp
/-- the queues' numbers that are met, each once -/
def Df (q : List Int) : Nat → List Int
  | 0 => []
  | i + 1 => if 0 ≤ q.getD i 0 ∧ q.getD i 0 ∉ q.take i then Df q i ++ [q.getD i 0] else Df q i
theorem getD_at {q : List Int} {i : Nat} (h : i < q.length) : q[i]? = some (q.getD i 0) := by rw [List.getD_eq_getElem?_getD, List.getElem?_eq_getElem h]; rfl
theorem Df_mem {q : List Int} {y : Int} : ∀ {i : Nat}, i ≤ q.length → (y ∈ Df q i ↔ 0 ≤ y ∧ y ∈ q.take i)
  | 0, _ => by simp [Df]
  | i + 1, h => by
    have ih := Df_mem (q := q) (y := y) (i := i) (by omega)
    rw [List.take_add_one, getD_at (by omega), Option.toList_some, List.mem_append, List.mem_singleton]
    show y ∈ (if _ then _ else _) ↔ _
    split
    · rename_i hc
      rw [List.mem_append, List.mem_singleton, ih]
      constructor
      · rintro (h1 | rfl)
        · exact ⟨h1.1, .inl h1.2⟩
        · exact ⟨hc.1, .inr rfl⟩
      · rintro ⟨h1, h2 | h2⟩
        · exact .inl ⟨h1, h2⟩
        · exact .inr h2
    · rename_i hc
      rw [ih]
      constructor
      · exact fun h1 => ⟨h1.1, .inl h1.2⟩
      · rintro ⟨h1, h2 | rfl⟩
        · exact ⟨h1, h2⟩
        · exact ⟨h1, Decidable.byContradiction fun hn => hc ⟨h1, hn⟩⟩
theorem Df_nd {q : List Int} : ∀ {i : Nat}, i ≤ q.length → (Df q i).Nodup
  | 0, _ => .nil
  | i + 1, h => by
    show (if _ then _ else _ : List Int).Nodup
    split
    · rename_i hc
      rw [List.nodup_append]
      refine ⟨Df_nd (by omega), by simp, fun a ha b hb e => ?_⟩
      obtain rfl : b = q.getD i 0 := by simpa using hb
      subst e
      exact hc.2 ((Df_mem (by omega)).1 ha).2
    · exact Df_nd (by omega)
theorem hc_eq {q : List Int} : ∀ {i : Nat}, i ≤ q.length → hc q i = ((q.take i).filter fun y => decide (y < 0)).length + (Df q i).length
  | 0, _ => by simp [hc, Df]
  | i + 1, h => by
    have ih := hc_eq (q := q) (i := i) (by omega)
    rw [List.take_add_one, getD_at (by omega), Option.toList_some, List.filter_append, List.length_append]
    show hc q i + (if _ then _ else _) = _ + _ + (if _ then _ else _ : List Int).length
    have hm : fst_ q (q.getD i 0) i = true ↔ q.getD i 0 < 0 ∨ q.getD i 0 ∉ q.take i := by
      unfold fst_
      rw [Bool.or_eq_true, decide_eq_true_iff, List.all_eq_true]
      constructor
      · rintro (h | h)
        · exact .inl h
        · exact .inr fun hm => by have := h _ hm; simp at this
      · rintro (h | h)
        · exact .inl h
        · exact .inr fun y hy => by rw [decide_eq_true_iff]; exact fun e => h (by rw [← e]; exact hy)
    generalize q.getD i 0 = a at hm ⊢
    by_cases h1 : a < 0
    · rw [if_pos (hm.2 (.inl h1)), if_neg (by omega), ih]
      simp [h1]; omega
    · by_cases h2 : a ∈ q.take i
      · rw [if_neg (by rw [hm]; simp [h1, h2]), if_neg (by simp [h2]), ih]
        simp [h1]
      · rw [if_pos (hm.2 (.inr h2)), if_pos ⟨by omega, h2⟩, ih, List.length_append]
        simp [h1]; omega
theorem filter_range {α : Type} (p : α → Bool) (d : α) (qs : List α) : (qs.filter p).length = ((List.range qs.length).filter fun j => p (qs.getD j d)).length := by
  have e : qs = (List.range qs.length).map fun j => qs.getD j d := by
    apply List.ext_getElem?
    intro i
    rw [List.getElem?_map]
    by_cases h : i < qs.length
    · rw [List.getElem?_range h, List.getElem?_eq_getElem h]
      simp [List.getD_eq_getElem?_getD, List.getElem?_eq_getElem h]
    · rw [List.getElem?_eq_none (by omega), List.getElem?_eq_none (by simp; omega)]; rfl
  conv => lhs; rw [e]
  rw [List.filter_map, List.length_map]; rfl
theorem hc_cnt {qs : List Q} {s l : List It} {q cm : List Int} {nx : Int} (hcf : CoF qs s nx) (hr : Rel qs s l q cm) : hc q q.length = cnt qs s := by
  obtain ⟨hs, f, hok⟩ := hcf
  have hql : q.length = l.length := by rw [hr.q, List.length_map]
  have hin : ∀ x ∈ s, (inQ qs x.id = true ↔ ∃ (j : Nat) (p : Q), qs[j]? = some p ∧ x ∈ p.l ∧ qV qs x = j) := fun x hx => by
    rw [← hok.f_inQ]
    constructor
    · intro hf
      obtain ⟨j, p, x', hj, hx', e, _, hfi⟩ := hok.inq hf
      have := hok.uniq (hok.sub p (List.mem_of_getElem? hj) x' hx') hx e
      subst this
      exact ⟨j, p, hj, hx', hok.qOf_eq hj hx'⟩
    · rintro ⟨j, p, hj, hx', _⟩
      rw [hok.fat j p hj x hx']; rfl
  have hneg : ∀ x ∈ s, inQ qs x.id = false → qV qs x = -1 := fun x hx h => by
    refine qOf_no fun p hp y hy e => ?_
    have : inQ qs x.id = true := by
      unfold inQ; exact List.any_eq_true.2 ⟨p, hp, List.any_eq_true.2 ⟨y, hy, by simp [e]⟩⟩
    rw [h] at this; cases this
  rw [hc_eq (Nat.le_refl _), List.take_length]
  unfold cnt
  congr 1
  · rw [hr.q, List.filter_map, List.length_map]
    have h1 : (l.filter ((fun y => decide (y < 0)) ∘ qV qs)).length = (s.filter ((fun y => decide (y < 0)) ∘ qV qs)).length := (hr.perm.filter _).length_eq
    rw [h1]
    congr 1
    refine List.filter_congr fun x hx => ?_
    show decide (qV qs x < 0) = !inQ qs x.id
    cases h : inQ qs x.id with
    | true =>
      obtain ⟨j, _, _, _, e⟩ := (hin x hx).1 h
      rw [e]; simp
    | false => rw [hneg x hx h]; rfl
  · rw [filter_range _ ⟨0, []⟩]
    have : (Df q q.length).Perm (((List.range qs.length).filter fun j => !(qs.getD j ⟨0, []⟩).l.isEmpty).map fun (j : Nat) => (j : Int)) := by
      refine (List.perm_ext_iff_of_nodup (Df_nd (Nat.le_refl _)) ?_).2 fun y => ?_
      · unfold List.Nodup
        rw [List.pairwise_map]
        exact (List.nodup_range.sublist List.filter_sublist).imp fun h e => h (Int.ofNat.inj e)
      · rw [Df_mem (Nat.le_refl _), List.take_length, List.mem_map]
        constructor
        · rintro ⟨h0, h1⟩
          rw [hr.q] at h1
          obtain ⟨x, hx, rfl⟩ := List.mem_map.1 h1
          have hxs := hr.perm.mem_iff.1 hx
          have hiq : inQ qs x.id = true := by
            cases h : inQ qs x.id with
            | true => rfl
            | false => rw [hneg x hxs h] at h0; omega
          obtain ⟨j, p, hj, hxp, e⟩ := (hin x hxs).1 hiq
          refine ⟨j, List.mem_filter.2 ⟨List.mem_range.2 (List.getElem?_eq_some_iff.1 hj).1, ?_⟩, e.symm⟩
          rw [List.getD_eq_getElem?_getD, hj]
          show (!p.l.isEmpty) = true
          cases hp : p.l with
          | nil => rw [hp] at hxp; cases hxp
          | cons _ _ => rfl
        · rintro ⟨j, hj, rfl⟩
          obtain ⟨h1, h2⟩ := List.mem_filter.1 hj
          have hjl := List.mem_range.1 h1
          have hg : qs[j]? = some qs[j] := List.getElem?_eq_getElem hjl
          rw [List.getD_eq_getElem?_getD, hg] at h2
          have h3 : (!(qs[j]).l.isEmpty) = true := h2
          cases hp : (qs[j]).l with
          | nil => rw [hp] at h3; cases h3
          | cons x t =>
            have hx : x ∈ (qs[j]).l := by rw [hp]; exact List.mem_cons_self
            have hxs := hok.sub _ (List.mem_of_getElem? hg) x hx
            refine ⟨by omega, ?_⟩
            rw [hr.q]
            exact List.mem_map.2 ⟨x, hr.perm.mem_iff.2 hxs, hok.qOf_eq hg hx⟩
    rw [this.length_eq, List.length_map]
set_option maxHeartbeats 2000000 in
theorem rheap_ct (L : List SP) (b : Nat) (qs : List Q) (s : List It) (nx : Int) (hcf : CoF qs s nx) : Ct Try.prog 53 #[.pointer (some ⟨b, 0, none⟩)] (RR b qs s nx :: L) (fun _ : Unit => .int .i64 (cnt qs s : Nat)) (fun _ : Unit => RR b qs s nx :: L) := by
  refine Ct.of (vs := [.pointer (some ⟨b, 0, none⟩)]) Try.func53 rfl rfl [(0, .pointer (some ⟨b, 0, none⟩))] (by repeat (first | exact trivial | refine ⟨rfl, ?_⟩)) ?_
  intro E
  show Hd E 53 _ _ _ _
  refine Hd.exs .here ?_
  rintro ⟨r, l, q, cm⟩
  simp only [List.cons_append, List.nil_append]
  refine Hd.pure (fun hr => ?_)
  have hls : l.length = s.length := hr.perm.length_eq
  have hsl := hcf.hF.len
  have hql : q.length = l.length := by rw [hr.q, List.length_map]
  have hcnt := hc_cnt hcf hr
  refine Hd.seq (fun K1 hK1 => ?_)
  refine Hd.region ?_
  refine Hd.yv (y_assign rfl) ?_
  refine Hd.nil ?_
  refine Hd.slots [(0, _)] ⟨rfl, trivial⟩ ?_
  refine Hd.toK hK1 ?_
  refine Hd.seq (fun K2 hK2 => ?_)
  refine Hd.region ?_
  refine Hd.yv (y_assign rfl) ?_
  refine Hd.nil ?_
  refine Hd.slots [(0, _), (3, _)] ⟨rfl, rfl, trivial⟩ ?_
  refine Hd.toK hK2 ?_
  refine Hd.seq (fun K3 hK3 => ?_)
  refine Hd.seq (fun K4 hK4 => ?_)
  refine Hd.region ?_
  refine Hd.yv (y_assign rfl) ?_
  refine Hd.nil ?_
  refine Hd.slots [(0, _), (3, _), (4, _)] ⟨rfl, rfl, rfl, trivial⟩ ?_
  refine Hd.toK hK4 ?_
  refine Hd.block ?_
  refine Hd.loopK (ι := Nat) [(0, _)] (fun i => [(3, .int .i64 (hc q i : Nat)), (4, .int .i64 (i : Int))]) (fun i => pu (i ≤ l.length) :: RcL b l q cm nx r L) (fun i => l.length - i) 0 (by repeat (first | exact trivial | refine ⟨rfl, ?_⟩)) (by repeat (first | exact trivial | refine ⟨rfl, ?_⟩)) (Ent.sep (.pure (by first | omega | (simp; done) | (simp; omega) | exact ⟨by simp, by simp⟩) enn)) ?_
  intro i
  try dsimp only
  refine Hd.pure (fun hp0 => ?_)
  try dsimp only at hp0
  refine Hd.seq (fun K5 hK5 => ?_)
  refine Hd.seq (fun K6 hK6 => ?_)
  refine Hd.region ?_
  refine Hd.yv (y_move rfl) ?_
  refine Hd.yv (y_move rfl) ?_
  refine Hd.yv (y_nilp rfl) ?_
  first | (refine Hd.yv (y_field' (q := 0) (ft := 22) Try.underlying69 rfl sz22 rfl rfl) ?_) | (refine Hd.yv (y_fieldR (q := 0) (ft := 22) Try.underlying69 rfl sz22 rfl rfl) ?_)
  first | (refine Hd.yv (y_load1 ag22 rfl (Rd.pt1 pkk (by (first | rfl)))) ?_) | (refine Hd.yv (y_load1 ag22 rfl (Rd.seg1 pkk (by (first | rfl)))) ?_) | (refine Hd.yv (y_loadR1 ag22 rfl (by (first | exact RdS.own pkk)) (by (first | rfl))) ?_)
  refine Hd.yv (y_len Try.underlying22 rfl) ?_
  refine Hd.yv (y_lss rfl rfl) ?_
  refine Hd.nil ?_
  refine Hd.slots [(0, _), (3, _), (4, _), (13, _)] ⟨rfl, rfl, rfl, rfl, trivial⟩ ?_
  refine Hd.toK hK6 ?_
  refine Hd.cond rfl (fun hc0 => ?_) (fun hc0 => ?_)
  ·
    try simp only [decide_eq_true_eq, decide_eq_false_iff_not, Bool.and_eq_true, Bool.or_eq_true, Bool.and_eq_false_iff, Bool.or_eq_false_iff, Bool.not_eq_true', Bool.not_eq_false', Bool.not_eq_true, Bool.not_eq_false, Int.not_lt, Int.not_le, Decidable.not_not, ne_eq] at hc0
    have hi : i < l.length := by omega
    have hgi : q[i]? = some (q.getD i 0) := getD_at (by omega)
    have hhl := hc_le q i
    refine Hd.skip ?_
    refine Hd.toK hK5 ?_
    refine Hd.seq (fun K7 hK7 => ?_)
    refine Hd.block ?_
    refine Hd.seq (fun K8 hK8 => ?_)
    refine Hd.region ?_
    refine Hd.yv (y_to (v' := .bool (fst_ q (q.getD i 0) 0)) (y_assign rfl) (by (unfold fst_; simp))) ?_
    refine Hd.nil ?_
    refine Hd.slots [(0, _), (3, _), (4, _), (5, _)] ⟨rfl, rfl, rfl, rfl, trivial⟩ ?_
    refine Hd.toK hK8 ?_
    refine Hd.seq (fun K9 hK9 => ?_)
    refine Hd.seq (fun K10 hK10 => ?_)
    refine Hd.region ?_
    refine Hd.yv (y_assign rfl) ?_
    refine Hd.nil ?_
    refine Hd.slots [(0, _), (3, _), (4, _), (5, _), (6, _)] ⟨rfl, rfl, rfl, rfl, rfl, trivial⟩ ?_
    refine Hd.toK hK10 ?_
    refine Hd.block ?_
    refine Hd.loopK (ι := Nat) [(0, _), (3, _), (4, _)] (fun k => [(5, .bool (fst_ q (q.getD i 0) k)), (6, .int .i64 (k : Int))]) (fun k => pu (k ≤ i) :: RcL b l q cm nx r L) (fun k => i - k) 0 (by repeat (first | exact trivial | refine ⟨rfl, ?_⟩)) (by repeat (first | exact trivial | refine ⟨rfl, ?_⟩)) (Ent.sep (.pure (by first | omega | (simp; done) | (simp; omega) | exact ⟨by simp, by simp⟩) enn)) ?_
    intro k
    try dsimp only
    refine Hd.pure (fun hp1 => ?_)
    try dsimp only at hp1
    refine Hd.seq (fun K11 hK11 => ?_)
    refine Hd.seq (fun K12 hK12 => ?_)
    refine Hd.region ?_
    refine Hd.yv (y_move rfl) ?_
    refine Hd.yv (y_move rfl) ?_
    refine Hd.yv (y_lss rfl rfl) ?_
    refine Hd.nil ?_
    refine Hd.slots [(0, _), (3, _), (4, _), (5, _), (6, _), (18, _)] ⟨rfl, rfl, rfl, rfl, rfl, rfl, trivial⟩ ?_
    refine Hd.toK hK12 ?_
    refine Hd.cond rfl (fun hc1 => ?_) (fun hc1 => ?_)
    ·
      try simp only [decide_eq_true_eq, decide_eq_false_iff_not, Bool.and_eq_true, Bool.or_eq_true, Bool.and_eq_false_iff, Bool.or_eq_false_iff, Bool.not_eq_true', Bool.not_eq_false', Bool.not_eq_true, Bool.not_eq_false, Int.not_lt, Int.not_le, Decidable.not_not, ne_eq] at hc1
      have hk : k < q.length := by omega
      have hgk : q[k]? = some (q.getD k 0) := getD_at hk
      refine Hd.skip ?_
      refine Hd.toK hK11 ?_
      refine Hd.seq (fun K13 hK13 => ?_)
      refine Hd.block ?_
      refine Hd.quiet mixed (by kernel_rfl) ?_
      refine Hq.yv (y_move rfl) ?_
      refine Hq.yv (y_move rfl) ?_
      apply Hq.andg (q := (decide (q.getD i 0 < 0) || decide (q.getD k 0 ≠ q.getD i 0))) 26 22 48 [(0, _), (3, _), (4, _), (6, _)] rfl ⟨rfl, rfl, rfl, rfl, trivial⟩
      · intro hg9_22
        try simp only [decide_eq_true_eq, decide_eq_false_iff_not, Bool.and_eq_true, Bool.or_eq_true, Bool.and_eq_false_iff, Bool.or_eq_false_iff, Bool.not_eq_true', Bool.not_eq_false', Bool.not_eq_true, Bool.not_eq_false, Int.not_lt, Int.not_le, Decidable.not_not, ne_eq] at hg9_22
        simp only [List.take]
        refine Hq.yg rfl rfl (y_move rfl) ?_
        refine Hq.yg rfl rfl (y_nilp rfl) ?_
        first | (refine Hq.yg rfl rfl (y_field' (q := 1) (ft := 67) Try.underlying69 rfl sz67 rfl rfl) ?_) | (refine Hq.yg rfl rfl (y_fieldR (q := 1) (ft := 67) Try.underlying69 rfl sz67 rfl rfl) ?_)
        first | (refine Hq.yg rfl rfl (y_load1 ag67 rfl (Rd.pt1 pkk (by (first | rfl)))) ?_) | (refine Hq.yg rfl rfl (y_load1 ag67 rfl (Rd.seg1 pkk (by (first | rfl)))) ?_) | (refine Hq.yg rfl rfl (y_loadR1 ag67 rfl (by (first | exact RdS.own pkk)) (by (first | rfl))) ?_)
        refine Hq.yg rfl rfl (y_move rfl) ?_
        first | (refine Hq.yg rfl rfl (y_idxS Try.underlying67 sz3 rfl rfl (by first | omega | decide)) ?_) | (refine Hq.yg rfl rfl (y_idxR Try.underlying67 sz3 rfl rfl (by first | omega | decide) (by (first | exact RdS.own pkk))) ?_)
        refine Hq.yg rfl rfl (y_loadR1 ag3 rfl (RdS.own (ad := r.a2) (us := eI q) pkk) (int_at hgi)) ?_
        refine Hq.yg rfl rfl (y_lss rfl rfl) ?_
        refine Hq.yg rfl rfl (y_move rfl) ?_
        apply Hq.org 16 31 47 [(0, _), (3, _), (4, _), (6, _), (22, _)] rfl ⟨rfl, rfl, rfl, rfl, rfl, trivial⟩
        · intro hg9_31
          try simp only [decide_eq_true_eq, decide_eq_false_iff_not, Bool.and_eq_true, Bool.or_eq_true, Bool.and_eq_false_iff, Bool.or_eq_false_iff, Bool.not_eq_true', Bool.not_eq_false', Bool.not_eq_true, Bool.not_eq_false, Int.not_lt, Int.not_le, Decidable.not_not, ne_eq] at hg9_31
          simp only [List.take]
          refine Hq.ng rfl rfl rfl ?_
          refine Hq.ng rfl rfl rfl ?_
          refine Hq.ng rfl rfl rfl ?_
          refine Hq.ng rfl rfl rfl ?_
          refine Hq.ng rfl rfl rfl ?_
          refine Hq.ng rfl rfl rfl ?_
          refine Hq.ng rfl rfl rfl ?_
          refine Hq.ng rfl rfl rfl ?_
          refine Hq.ng rfl rfl rfl ?_
          refine Hq.ng rfl rfl rfl ?_
          refine Hq.ng rfl rfl rfl ?_
          refine Hq.ng rfl rfl rfl ?_
          refine Hq.ng rfl rfl rfl ?_
          refine Hq.ng rfl rfl rfl ?_
          refine Hq.ng rfl rfl rfl ?_
          first | (refine Hq.yg rfl rfl (y_pickT rfl rfl) ?_) | (refine Hq.yg rfl rfl (y_pickF rfl rfl) ?_) | (refine Hq.yg rfl rfl (y_pickb rfl rfl rfl) ?_) | (refine Hq.yg rfl rfl (y_pick rfl rfl rfl) ?_)
          exact Hq.mend (by repeat (first | exact trivial | refine ⟨rfl, ?_⟩))
        · intro hg9_31
          try simp only [decide_eq_true_eq, decide_eq_false_iff_not, Bool.and_eq_true, Bool.or_eq_true, Bool.and_eq_false_iff, Bool.or_eq_false_iff, Bool.not_eq_true', Bool.not_eq_false', Bool.not_eq_true, Bool.not_eq_false, Int.not_lt, Int.not_le, Decidable.not_not, ne_eq] at hg9_31
          simp only [List.take]
          refine Hq.yg rfl rfl (y_move rfl) ?_
          refine Hq.yg rfl rfl (y_nilp rfl) ?_
          first | (refine Hq.yg rfl rfl (y_field' (q := 1) (ft := 67) Try.underlying69 rfl sz67 rfl rfl) ?_) | (refine Hq.yg rfl rfl (y_fieldR (q := 1) (ft := 67) Try.underlying69 rfl sz67 rfl rfl) ?_)
          first | (refine Hq.yg rfl rfl (y_load1 ag67 rfl (Rd.pt1 pkk (by (first | rfl)))) ?_) | (refine Hq.yg rfl rfl (y_load1 ag67 rfl (Rd.seg1 pkk (by (first | rfl)))) ?_) | (refine Hq.yg rfl rfl (y_loadR1 ag67 rfl (by (first | exact RdS.own pkk)) (by (first | rfl))) ?_)
          refine Hq.yg rfl rfl (y_move rfl) ?_
          first | (refine Hq.yg rfl rfl (y_idxS Try.underlying67 sz3 rfl rfl (by first | omega | decide)) ?_) | (refine Hq.yg rfl rfl (y_idxR Try.underlying67 sz3 rfl rfl (by first | omega | decide) (by (first | exact RdS.own pkk))) ?_)
          refine Hq.yg rfl rfl (y_loadR1 ag3 rfl (RdS.own (ad := r.a2) (us := eI q) pkk) (int_at hgk)) ?_
          refine Hq.yg rfl rfl (y_move rfl) ?_
          refine Hq.yg rfl rfl (y_nilp rfl) ?_
          first | (refine Hq.yg rfl rfl (y_field' (q := 1) (ft := 67) Try.underlying69 rfl sz67 rfl rfl) ?_) | (refine Hq.yg rfl rfl (y_fieldR (q := 1) (ft := 67) Try.underlying69 rfl sz67 rfl rfl) ?_)
          first | (refine Hq.yg rfl rfl (y_load1 ag67 rfl (Rd.pt1 pkk (by (first | rfl)))) ?_) | (refine Hq.yg rfl rfl (y_load1 ag67 rfl (Rd.seg1 pkk (by (first | rfl)))) ?_) | (refine Hq.yg rfl rfl (y_loadR1 ag67 rfl (by (first | exact RdS.own pkk)) (by (first | rfl))) ?_)
          refine Hq.yg rfl rfl (y_move rfl) ?_
          first | (refine Hq.yg rfl rfl (y_idxS Try.underlying67 sz3 rfl rfl (by first | omega | decide)) ?_) | (refine Hq.yg rfl rfl (y_idxR Try.underlying67 sz3 rfl rfl (by first | omega | decide) (by (first | exact RdS.own pkk))) ?_)
          refine Hq.yg rfl rfl (y_loadR1 ag3 rfl (RdS.own (ad := r.a2) (us := eI q) pkk) (int_at hgi)) ?_
          refine Hq.yg rfl rfl (y_neq rfl rfl) ?_
          first | (refine Hq.yg rfl rfl (y_pickT rfl rfl) ?_) | (refine Hq.yg rfl rfl (y_pickF rfl rfl) ?_) | (refine Hq.yg rfl rfl (y_pickb rfl rfl rfl) ?_) | (refine Hq.yg rfl rfl (y_pick rfl rfl rfl) ?_)
          exact Hq.mend (by repeat (first | exact trivial | refine ⟨rfl, ?_⟩))
        simp only [List.drop]
        first | (refine Hq.yv (y_pickT rfl rfl) ?_) | (refine Hq.yv (y_pickF rfl rfl) ?_) | (refine Hq.yv (y_pickb rfl rfl rfl) ?_) | (refine Hq.yv (y_pick rfl rfl rfl) ?_)
        exact Hq.mend (by repeat (first | exact trivial | refine ⟨rfl, ?_⟩))
      · intro hg9_22
        try simp only [decide_eq_true_eq, decide_eq_false_iff_not, Bool.and_eq_true, Bool.or_eq_true, Bool.and_eq_false_iff, Bool.or_eq_false_iff, Bool.not_eq_true', Bool.not_eq_false', Bool.not_eq_true, Bool.not_eq_false, Int.not_lt, Int.not_le, Decidable.not_not, ne_eq] at hg9_22
        simp only [List.take]
        refine Hq.ng rfl rfl rfl ?_
        refine Hq.ng rfl rfl rfl ?_
        refine Hq.ng rfl rfl rfl ?_
        refine Hq.ng rfl rfl rfl ?_
        refine Hq.ng rfl rfl rfl ?_
        refine Hq.ng rfl rfl rfl ?_
        refine Hq.ng rfl rfl rfl ?_
        refine Hq.ng rfl rfl rfl ?_
        refine Hq.ng rfl rfl rfl ?_
        refine Hq.ng rfl rfl rfl ?_
        refine Hq.ng rfl rfl rfl ?_
        refine Hq.ng rfl rfl rfl ?_
        refine Hq.ng rfl rfl rfl ?_
        refine Hq.ng rfl rfl rfl ?_
        refine Hq.ng rfl rfl rfl ?_
        refine Hq.ng rfl rfl rfl ?_
        refine Hq.ng rfl rfl rfl ?_
        refine Hq.ng rfl rfl rfl ?_
        refine Hq.ng rfl rfl rfl ?_
        refine Hq.ng rfl rfl rfl ?_
        refine Hq.ng rfl rfl rfl ?_
        refine Hq.ng rfl rfl rfl ?_
        refine Hq.ng rfl rfl rfl ?_
        refine Hq.ng rfl rfl rfl ?_
        refine Hq.ng rfl rfl rfl ?_
        first | (refine Hq.yv (y_pickT rfl rfl) ?_) | (refine Hq.yv (y_pickF rfl rfl) ?_) | (refine Hq.yv (y_pickb rfl rfl rfl) ?_) | (refine Hq.yv (y_pick rfl rfl rfl) ?_)
        exact Hq.mend (by repeat (first | exact trivial | refine ⟨rfl, ?_⟩))
      simp only [List.drop]
      refine Hq.yv (y_to (v' := .bool (fst_ q (q.getD i 0) (k + 1))) (y_assign rfl) (by exact congrArg Value.bool (fst_step hgk))) ?_
      refine Hq.nil ?_
      refine Hd.slots [(0, _), (3, _), (4, _), (5, _), (6, _)] ⟨rfl, rfl, rfl, rfl, rfl, trivial⟩ ?_
      refine Hd.inB ?_
      refine Hd.toK hK13 ?_
      refine Hd.region ?_
      refine Hd.yv (y_move rfl) ?_
      first | (refine Hd.yv (y_addn rfl rfl (by simp only [InK]; omega)) ?_) | (refine Hd.yv (y_add rfl rfl) ?_)
      refine Hd.yv (y_assign rfl) ?_
      refine Hd.nil ?_
      refine Hd.slots [(0, _), (3, _), (4, _), (5, _), (6, _)] ⟨rfl, rfl, rfl, rfl, rfl, trivial⟩ ?_
      clear hK1 hK2 hK3 hK4 hK5 hK6 hK7 hK8 hK9 hK10 hK11 hK12 hK13
      refine Hd.thenN ?_
      exact Hd.again (k + 1) (by first | omega | (simp only; omega) | (simp; omega)) (by repeat (first | exact trivial | refine ⟨rfl, ?_⟩)) (Ent.sep (.pure (by first | omega | (simp; done) | (simp; omega) | (dsimp only; omega)) enn))
    ·
      try simp only [decide_eq_true_eq, decide_eq_false_iff_not, Bool.and_eq_true, Bool.or_eq_true, Bool.and_eq_false_iff, Bool.or_eq_false_iff, Bool.not_eq_true', Bool.not_eq_false', Bool.not_eq_true, Bool.not_eq_false, Int.not_lt, Int.not_le, Decidable.not_not, ne_eq] at hc1
      obtain rfl : k = i := by omega
      refine Hd.exit ?_
      refine Hd.thenExit ?_
      refine Hd.thenExit ?_
      refine Hd.inBexit ?_
      refine Hd.toK hK9 ?_
      refine Hd.seq (fun K14 hK14 => ?_)
      refine Hd.region ?_
      refine Hd.yv (y_move rfl) ?_
      refine Hd.nil ?_
      refine Hd.slots [(0, _), (3, _), (4, _), (49, _)] ⟨rfl, rfl, rfl, rfl, trivial⟩ ?_
      refine Hd.toK hK14 ?_
      refine Hd.cond rfl (fun hc2 => ?_) (fun hc2 => ?_)
      ·
        try simp only [decide_eq_true_eq, decide_eq_false_iff_not, Bool.and_eq_true, Bool.or_eq_true, Bool.and_eq_false_iff, Bool.or_eq_false_iff, Bool.not_eq_true', Bool.not_eq_false', Bool.not_eq_true, Bool.not_eq_false, Int.not_lt, Int.not_le, Decidable.not_not, ne_eq] at hc2
        have he : hc q (k + 1) = hc q k + 1 := by show hc q k + (if _ then _ else _) = _; rw [if_pos hc2]
        refine Hd.region ?_
        refine Hd.yv (y_move rfl) ?_
        first | (refine Hd.yv (y_to (v' := .int .i64 ((hc q (k + 1) : Nat) : Int)) (y_addn rfl rfl (by simp only [InK]; omega)) (by (rw [he]; rfl))) ?_) | (refine Hd.yv (y_to (v' := .int .i64 ((hc q (k + 1) : Nat) : Int)) (y_add rfl rfl) (by (rw [he]; rfl))) ?_)
        refine Hd.yv (y_assign rfl) ?_
        refine Hd.nil ?_
        refine Hd.slots [(0, _), (3, _), (4, _)] ⟨rfl, rfl, rfl, trivial⟩ ?_
        refine Hd.inB ?_
        refine Hd.toK hK7 ?_
        refine Hd.region ?_
        refine Hd.yv (y_move rfl) ?_
        first | (refine Hd.yv (y_addn rfl rfl (by simp only [InK]; omega)) ?_) | (refine Hd.yv (y_add rfl rfl) ?_)
        refine Hd.yv (y_assign rfl) ?_
        refine Hd.nil ?_
        refine Hd.slots [(0, _), (3, _), (4, _)] ⟨rfl, rfl, rfl, trivial⟩ ?_
        clear hK1 hK2 hK3 hK4 hK5 hK6 hK7 hK8 hK9 hK10 hK11 hK12 hK14
        refine Hd.thenN ?_
        exact Hd.again (k + 1) (by first | omega | (simp only; omega) | (simp; omega)) (by repeat (first | exact trivial | refine ⟨rfl, ?_⟩)) (Ent.sep (.pure (by first | omega | (simp; done) | (simp; omega) | (dsimp only; omega)) enn))
      ·
        try simp only [decide_eq_true_eq, decide_eq_false_iff_not, Bool.and_eq_true, Bool.or_eq_true, Bool.and_eq_false_iff, Bool.or_eq_false_iff, Bool.not_eq_true', Bool.not_eq_false', Bool.not_eq_true, Bool.not_eq_false, Int.not_lt, Int.not_le, Decidable.not_not, ne_eq] at hc2
        have he : hc q k = hc q (k + 1) := by show _ = hc q k + (if _ then _ else _); rw [if_neg (by rw [hc2]; simp)]; rfl
        rw [he]
        refine Hd.skip ?_
        refine Hd.inB ?_
        refine Hd.toK hK7 ?_
        refine Hd.region ?_
        refine Hd.yv (y_move rfl) ?_
        first | (refine Hd.yv (y_addn rfl rfl (by simp only [InK]; omega)) ?_) | (refine Hd.yv (y_add rfl rfl) ?_)
        refine Hd.yv (y_assign rfl) ?_
        refine Hd.nil ?_
        refine Hd.slots [(0, _), (3, _), (4, _)] ⟨rfl, rfl, rfl, trivial⟩ ?_
        clear hK1 hK2 hK3 hK4 hK5 hK6 hK7 hK8 hK9 hK10 hK11 hK12 hK14
        refine Hd.thenN ?_
        exact Hd.again (k + 1) (by first | omega | (simp only; omega) | (simp; omega)) (by repeat (first | exact trivial | refine ⟨rfl, ?_⟩)) (Ent.sep (.pure (by first | omega | (simp; done) | (simp; omega) | (dsimp only; omega)) enn))
  ·
    try simp only [decide_eq_true_eq, decide_eq_false_iff_not, Bool.and_eq_true, Bool.or_eq_true, Bool.and_eq_false_iff, Bool.or_eq_false_iff, Bool.not_eq_true', Bool.not_eq_false', Bool.not_eq_true, Bool.not_eq_false, Int.not_lt, Int.not_le, Decidable.not_not, ne_eq] at hc0
    have hi : i = q.length := by omega
    rw [hi, hcnt]
    refine Hd.exit ?_
    refine Hd.thenExit ?_
    refine Hd.thenExit ?_
    refine Hd.inBexit ?_
    refine Hd.toK hK3 ?_
    refine Hd.seq (fun K15 hK15 => ?_)
    refine Hd.region ?_
    refine Hd.yv (y_move rfl) ?_
    refine Hd.yv (y_assign rfl) ?_
    refine Hd.nil ?_
    refine Hd.slots [(2, _)] ⟨rfl, trivial⟩ ?_
    refine Hd.toK hK15 ?_
    refine Hd.ret ?_
    clear hK1 hK2 hK3 hK4 hK5 hK6 hK15
    exact Hd.ret1 rfl () rfl (Ent.sep (.ex ⟨r, l, q, cm⟩ (.pure hr enn)))
end Cm
end Go.Proofs.Ytcnegelaenkgpaa
