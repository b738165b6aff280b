/-
  Heaps in plain words: what the calls make of the items in their order.
-/
import Derived.Test.YtdjoofidicoimaaHe3
namespace Go.Proofs.Ytdjoofidicoimaa
set_option linter.unusedSimpArgs false
set_option linter.unusedVariables false
set_option linter.unnecessarySimpa false
namespace Hp
def insI (x : It) : List It → List It
  | [] => [x]
  | y :: r => if ltI y x then y :: insI x r else x :: y :: r
theorem insI_perm (x : It) : ∀ s : List It, (insI x s).Perm (x :: s)
  | [] => .refl _
  | y :: r => by
    unfold insI; split
    · exact ((insI_perm x r).cons y).trans (.swap x y r)
    · exact .refl _
theorem insI_mem {x y : It} {s : List It} : y ∈ insI x s ↔ y = x ∨ y ∈ s := by rw [(insI_perm x s).mem_iff, List.mem_cons]
theorem insI_srt {x : It} : ∀ {s : List It}, s.Pairwise ltI → (∀ y ∈ s, y ≠ x) → (insI x s).Pairwise ltI
  | [], _, _ => by simp [insI]
  | y :: r, h, hx => by
    rw [List.pairwise_cons] at h
    unfold insI; split
    · rename_i hlt
      rw [List.pairwise_cons]
      refine ⟨fun z hz => ?_, insI_srt h.2 (fun z hz => hx z (List.mem_cons.2 (.inr hz)))⟩
      rcases insI_mem.1 hz with rfl | hz
      · exact hlt
      · exact h.1 z hz
    · rename_i hlt
      have hxy : ltI x y := ltI_of_ne hlt (fun e => hx y (List.mem_cons.2 (.inl rfl)) e.symm)
      rw [List.pairwise_cons]
      refine ⟨fun z hz => ?_, List.pairwise_cons.2 h⟩
      rcases List.mem_cons.1 hz with rfl | hz
      · exact hxy
      · exact ltI_trans hxy (h.1 z hz)
def remI (id : Int) (s : List It) : List It := s.filter fun x => x.id != id
def findI (id : Int) (s : List It) : Option It := s.find? fun x => x.id == id
theorem remI_srt {s : List It} (h : s.Pairwise ltI) (id : Int) : (remI id s).Pairwise ltI := h.filter _
theorem srt_eq {s t : List It} (h1 : s.Pairwise ltI) (h2 : t.Pairwise ltI) (h : s.Perm t) : s = t :=
  h.eq_of_pairwise (le := ltI) (fun a b _ _ x y => absurd (ltI_trans x y) (ltI_irrefl a)) h1 h2
theorem findI_some {id : Int} {x : It} : ∀ {s : List It}, (s.map It.id).Nodup → x ∈ s → x.id = id → findI id s = some x ∧ s.Perm (x :: remI id s)
  | [], _, h, _ => by cases h
  | y :: r, hd, h, e => by
    simp only [List.map_cons, List.nodup_cons] at hd
    rcases List.mem_cons.1 h with rfl | h
    · have hr : remI id (x :: r) = r := by
        unfold remI; rw [List.filter_cons_of_neg (by simp [e])]
        exact List.filter_eq_self.2 fun z hz => by
          have : z.id ≠ id := fun q => hd.1 (by rw [e, ← q]; exact List.mem_map_of_mem hz)
          simpa using this
      rw [hr]
      exact ⟨by simp [findI, e], .refl _⟩
    · have hy : y.id ≠ id := fun q => hd.1 (by rw [q, ← e]; exact List.mem_map_of_mem h)
      have ih := findI_some hd.2 h e
      refine ⟨?_, ?_⟩
      · have := ih.1
        unfold findI at this ⊢
        rw [List.find?_cons_of_neg (by simpa using hy)]; exact this
      · have : remI id (y :: r) = y :: remI id r := by unfold remI; rw [List.filter_cons_of_pos (by simpa using hy)]
        rw [this]
        exact (ih.2.cons y).trans (.swap _ _ _)
theorem findI_none {id : Int} {s : List It} (h : ∀ x ∈ s, x.id ≠ id) : findI id s = none ∧ remI id s = s := by
  refine ⟨?_, ?_⟩
  · unfold findI; exact List.find?_eq_none.2 fun x hx => by simpa using h x hx
  · unfold remI; exact List.filter_eq_self.2 fun x hx => by simpa using h x hx
/-- a heap's list and map, and its items in their order -/
structure HpOk (V : List It) (f : MF) (s : List It) : Prop where
  heap : HeapL V
  map : MapOk V f
  perm : V.Perm s
  srt : s.Pairwise ltI
  nd : (s.map It.id).Nodup
  len : s.length ≤ 1000000
theorem HpOk.ids {V : List It} {f : MF} {s : List It} (h : HpOk V f s) : Ids V := ids_of ((h.perm.map It.id).nodup_iff.2 h.nd)
theorem HpOk.vlen {V : List It} {f : MF} {s : List It} (h : HpOk V f s) : V.length = s.length := h.perm.length_eq
theorem HpOk.cases {V : List It} {f : MF} {s : List It} (h : HpOk V f s) (id : Int) :
    (∃ i, i < V.length ∧ f id = some (.int .i64 (i : Int)) ∧ (g V i).id = id ∧ findI id s = some (g V i) ∧ s.Perm (g V i :: remI id s)) ∨ (f id = none ∧ findI id s = none ∧ remI id s = s ∧ ∀ x ∈ s, x.id ≠ id) := by
  by_cases hq : ∃ i, i < V.length ∧ (g V i).id = id
  · obtain ⟨i, hi, e⟩ := hq
    have hm : g V i ∈ s := h.perm.mem_iff.1 (g_mem hi)
    have h1 := findI_some h.nd hm e
    have h2 := h.map.at_ i hi
    rw [e] at h2
    exact .inl ⟨i, hi, h2, e, h1.1, h1.2⟩
  · have hn : ∀ j, j < V.length → (g V j).id ≠ id := fun j hj e => hq ⟨j, hj, e⟩
    have hs : ∀ x ∈ s, x.id ≠ id := fun x hx e => by
      obtain ⟨j, hj, ej⟩ := g_of (h.perm.mem_iff.2 hx)
      exact hn j hj (by rw [ej]; exact e)
    exact .inr ⟨h.map.no id hn, (findI_none hs).1, (findI_none hs).2, hs⟩
theorem HpOk.some_of {V : List It} {f : MF} {s : List It} (h : HpOk V f s) {id : Int} (hs : (f id).isSome = true) : ∃ i, i < V.length ∧ f id = some (.int .i64 (i : Int)) ∧ (g V i).id = id ∧ findI id s = some (g V i) ∧ s.Perm (g V i :: remI id s) := by
  rcases h.cases id with h1 | h1
  · exact h1
  · rw [h1.1] at hs; cases hs
theorem HpOk.none_of {V : List It} {f : MF} {s : List It} (h : HpOk V f s) {id : Int} (hs : (f id).isSome = false) : findI id s = none ∧ remI id s = s ∧ (∀ x ∈ s, x.id ≠ id) ∧ f id = none := by
  rcases h.cases id with ⟨i, _, h1, _⟩ | h1
  · rw [h1] at hs; cases hs
  · exact ⟨h1.2.1, h1.2.2.1, h1.2.2.2, h1.1⟩
theorem HpOk.top {V : List It} {f : MF} {x : It} {r : List It} (h : HpOk V f (x :: r)) : g V 0 = x := by
  have hl : V.length = r.length + 1 := h.perm.length_eq
  obtain ⟨j, hj, e⟩ := g_of (h.perm.mem_iff.2 (List.mem_cons.2 (.inl rfl)) : x ∈ V)
  have h1 := h.heap.top j hj
  rw [e] at h1
  have h2 : g V 0 ∈ x :: r := h.perm.mem_iff.1 (g_mem (by omega))
  rcases List.mem_cons.1 h2 with h2 | h2
  · exact h2
  · exact absurd ((List.pairwise_cons.1 h.srt).1 _ h2) h1
theorem HpOk.nil : HpOk [] (fun _ => none) [] := ⟨fun j _ h => by simp at h, ⟨fun j h => by simp at h, fun _ _ => rfl⟩, .refl _, .nil, .nil, Nat.zero_le _⟩
/-- an item more -/
theorem g_app {V : List It} {x : It} {j : Nat} : g (V ++ [x]) j = if j = V.length then x else g V j := by
  unfold g; rw [List.getD_eq_getElem?_getD, List.getD_eq_getElem?_getD]
  by_cases h : j < V.length
  · rw [List.getElem?_append_left h, if_neg (by omega)]
  · rw [List.getElem?_append_right (by omega)]
    by_cases e : j = V.length
    · subst e; simp
    · rw [if_neg e, List.getElem?_eq_none (by simp; omega), List.getElem?_eq_none (by omega)]
theorem HpOk.push {V : List It} {f : MF} {s : List It} (h : HpOk V f s) {x : It} (hx : ∀ y ∈ s, y.id ≠ x.id) : Hole (V ++ [x]) V.length ∧ MapH (V ++ [x]) V.length f ∧ Ids (V ++ [x]) ∧ CO (V ++ [x]) V.length := by
  have hV : ∀ j, j < V.length → (g V j).id ≠ x.id := fun j hj => hx _ (h.perm.mem_iff.1 (g_mem hj))
  refine ⟨⟨fun j h0 h1 h2 h3 => ?_, fun c h0 h1 h2 h3 => ?_⟩, ⟨fun j h1 h2 => ?_, fun k hk => ?_⟩, fun i j hi hj e => ?_, fun c h0 h1 h2 => ?_⟩
  · simp only [List.length_append, List.length_cons, List.length_nil] at h1
    rw [g_app, g_app, if_neg h3, if_neg h2]
    exact h.heap j h0 (by omega)
  · simp only [List.length_append, List.length_cons, List.length_nil] at h1
    unfold par at h2; omega
  · simp only [List.length_append, List.length_cons, List.length_nil] at h1
    rw [g_app, if_neg h2]; exact h.map.at_ j (by omega)
  · refine h.map.no k fun j hj e => hk j (by simp; omega) ?_
    rw [g_app, if_neg (by omega)]; exact e
  · simp only [List.length_append, List.length_cons, List.length_nil] at hi hj
    rw [g_app, g_app] at e
    by_cases h1 : i = V.length
    · by_cases h2 : j = V.length
      · omega
      · rw [if_pos h1, if_neg h2] at e; exact absurd e.symm (hV j (by omega))
    · by_cases h2 : j = V.length
      · rw [if_neg h1, if_pos h2] at e; exact absurd e (hV i (by omega))
      · rw [if_neg h1, if_neg h2] at e; exact h.ids i j (by omega) (by omega) e
  · simp only [List.length_append, List.length_cons, List.length_nil] at h1
    unfold par at h2; omega
theorem HpOk.pushed {V V' : List It} {f f' : MF} {s : List It} (h : HpOk V f s) {x : It} (hx : ∀ y ∈ s, y.id ≠ x.id) (hl : s.length < 1000000) (hh : HeapL V') (hm : MapOk V' f') (hp : V'.Perm (V ++ [x])) : HpOk V' f' (insI x s) := by
  have hp2 : V'.Perm (insI x s) := (hp.trans (List.perm_append_comm.trans (h.perm.cons x))).trans (insI_perm x s).symm
  refine ⟨hh, hm, hp2, insI_srt h.srt (fun y hy e => hx y hy (by rw [e])), ?_, ?_⟩
  · rw [((insI_perm x s).map It.id).nodup_iff, List.map_cons, List.nodup_cons]
    refine ⟨fun q => ?_, h.nd⟩
    obtain ⟨y, hy, e⟩ := List.mem_map.1 q
    exact hx y hy e
  · rw [(insI_perm x s).length_eq]; simp; omega
/-- an item less: the last one takes its place -/
def cutL (V : List It) (i : Nat) : List It := if i < V.length - 1 then (V.take (V.length - 1)).set i (g V (V.length - 1)) else V.take (V.length - 1)
theorem g_take {V : List It} {m j : Nat} (hj : j < m) : g (V.take m) j = g V j := by
  unfold g; rw [List.getD_eq_getElem?_getD, List.getD_eq_getElem?_getD, List.getElem?_take, if_pos hj]
theorem cutL_len {V : List It} {i : Nat} : (cutL V i).length = V.length - 1 := by unfold cutL; split <;> simp
theorem cutL_g {V : List It} {i j : Nat} (hj : j < V.length - 1) : g (cutL V i) j = if j = i then g V (V.length - 1) else g V j := by
  unfold cutL; split
  · rename_i h
    rw [g_set (by simp; omega), g_take hj]
  · rw [g_take hj, if_neg (by omega)]
theorem cutL_perm {V : List It} {i : Nat} (hi : i < V.length) : V.Perm (g V i :: cutL V i) := by
  have h1 : V.length - 1 < V.length := by omega
  have h2 : swp V i (V.length - 1) = cutL V i ++ [g V i] := by
    apply g_eq
    · rw [swp_len]; simp [cutL_len]; omega
    · intro q hq
      rw [swp_len] at hq
      rw [swp_g hi h1, g_app, cutL_len]
      split
      · rfl
      · rename_i hne
        rw [cutL_g (by omega)]
  exact (swp_perm hi h1).symm.trans (h2 ▸ List.perm_append_comm)
theorem HpOk.cut {V : List It} {f : MF} {s : List It} (h : HpOk V f s) {i : Nat} (hi : i < V.length) {f' : MF}
    (hf1 : ∀ j, j < V.length - 1 → f' (g (cutL V i) j).id = some (.int .i64 (j : Int))) (hf2 : ∀ k, (∀ j, j < V.length - 1 → (g (cutL V i) j).id ≠ k) → f' k = none) :
    Hole (cutL V i) i ∧ MapOk (cutL V i) f' ∧ Ids (cutL V i) := by
  refine ⟨?_, ⟨fun j hj => hf1 j (by rwa [cutL_len] at hj), fun k hk => hf2 k fun j hj => hk j (by rwa [cutL_len])⟩, ?_⟩
  · have hT : HeapL (V.take (V.length - 1)) := fun j h0 h1 => by
      rw [List.length_take] at h1
      rw [g_take (by unfold par; omega), g_take (by omega)]
      exact h.heap j h0 (by omega)
    unfold cutL; split
    · exact (hT.hole i).set (by simp; omega) _
    · exact hT.hole i
  · have := (h.perm.symm.trans (cutL_perm hi))
    have hn : ((cutL V i).map It.id).Nodup := by
      have h1 := ((this.map It.id).nodup_iff.1 h.nd)
      rw [List.map_cons, List.nodup_cons] at h1
      exact h1.2
    exact ids_of hn
abbrev delF (f : MF) (k : Int) : MF := fun c => if c = k then none else f c
theorem HpOk.cutA {V : List It} {f : MF} {s : List It} (h : HpOk V f s) {i : Nat} (hi : i < V.length - 1) : Hole (cutL V i) i ∧ MapOk (cutL V i) (putF (delF f (g V i).id) (g V (V.length - 1)).id i) ∧ Ids (cutL V i) := by
  refine h.cut (by omega) (fun j hj => ?_) (fun k hk => ?_)
  · rw [cutL_g hj]
    by_cases e : j = i
    · rw [if_pos e, e]; exact if_pos rfl
    · rw [if_neg e]
      show (if _ then _ else if _ then _ else _) = _
      rw [if_neg (fun q => by have := h.ids _ _ (by omega) (by omega) q; omega), if_neg (fun q => e (h.ids _ _ (by omega) (by omega) q))]
      exact h.map.at_ j (by omega)
  · have h1 : (g V (V.length - 1)).id ≠ k := by have := hk i hi; rwa [cutL_g hi, if_pos rfl] at this
    show (if _ then _ else if _ then _ else _) = _
    rw [if_neg (fun q => h1 q.symm)]
    split
    · rfl
    · rename_i hne
      refine h.map.no k fun j hj e => ?_
      by_cases e1 : j = i
      · subst e1; exact hne e.symm
      · by_cases e2 : j = V.length - 1
        · subst e2; exact h1 e
        · have := hk j (by omega); rw [cutL_g (by omega), if_neg e1] at this; exact this e
theorem HpOk.cutB {V : List It} {f : MF} {s : List It} (h : HpOk V f s) {i : Nat} (hi : i = V.length - 1) (h0 : 0 < V.length) : HeapL (cutL V i) ∧ MapOk (cutL V i) (delF f (g V i).id) := by
  have hc := h.cut (i := i) (by omega) (f' := delF f (g V i).id) (fun j hj => ?_) (fun k hk => ?_)
  · refine ⟨fun j h0 h1 => ?_, hc.2.1⟩
    rw [cutL_len] at h1
    rw [cutL_g (by unfold par; omega), cutL_g h1, if_neg (by unfold par; omega), if_neg (by omega)]
    exact h.heap j h0 (by omega)
  · rw [cutL_g hj, if_neg (by omega)]
    show (if _ then _ else _) = _
    rw [if_neg (fun q => by have := h.ids _ _ (by omega) (by omega) q; omega)]
    exact h.map.at_ j (by omega)
  · show (if _ then _ else _) = _
    split
    · rfl
    · rename_i hne
      refine h.map.no k fun j hj e => ?_
      by_cases e1 : j = i
      · subst e1; exact hne e.symm
      · have := hk j (by omega); rw [cutL_g (by omega), if_neg e1] at this; exact this e
theorem HpOk.taken {V V' : List It} {f f' : MF} {s : List It} (h : HpOk V f s) {i : Nat} (hi : i < V.length) {id : Int} (hs : s.Perm (g V i :: remI id s)) (hh : HeapL V') (hm : MapOk V' f') (hp : V'.Perm (cutL V i)) : HpOk V' f' (remI id s) := by
  have h1 : (g V i :: cutL V i).Perm (g V i :: remI id s) := (cutL_perm hi).symm.trans (h.perm.trans hs)
  refine ⟨hh, hm, hp.trans ((List.perm_cons _).1 h1), remI_srt h.srt id, ?_, ?_⟩
  · have := (hs.map It.id).nodup_iff.1 h.nd
    rw [List.map_cons, List.nodup_cons] at this
    exact this.2
  · have := hs.length_eq; have := h.len; simp at *; omega
/-- another deadline -/
theorem HpOk.set {V : List It} {f : MF} {s : List It} (h : HpOk V f s) {i : Nat} (hi : i < V.length) {x : It} (hx : x.id = (g V i).id) : Hole (V.set i x) i ∧ MapOk (V.set i x) f ∧ Ids (V.set i x) := by
  have hg : ∀ j, (g (V.set i x) j).id = (g V j).id := fun j => by
    rw [g_set hi]; split
    · rename_i e; rw [e, hx]
    · rfl
  refine ⟨(h.heap.hole i).set hi x, ⟨fun j hj => ?_, fun k hk => ?_⟩, fun a b ha hb e => ?_⟩
  · rw [List.length_set] at hj; rw [hg]; exact h.map.at_ j hj
  · exact h.map.no k fun j hj => by have := hk j (by simpa using hj); rwa [hg] at this
  · rw [List.length_set] at ha hb; rw [hg, hg] at e; exact h.ids a b ha hb e
theorem set_perm {V : List It} {i : Nat} (hi : i < V.length) (x : It) : (V.set i x).Perm (x :: cutL V i) := by
  have h1 : i < (V.set i x).length := by simpa using hi
  have := cutL_perm h1
  have e1 : g (V.set i x) i = x := by rw [g_set hi, if_pos rfl]
  have e2 : cutL (V.set i x) i = cutL V i := by
    apply g_eq
    · rw [cutL_len, cutL_len]; simp
    · intro j hj
      rw [cutL_len, List.length_set] at hj
      rw [cutL_g (by simpa using hj), cutL_g hj, List.length_set]
      split
      · rename_i e
        subst e
        rw [g_set hi, if_neg (by omega)]
      · rename_i e
        rw [g_set hi, if_neg e]
  rwa [e1, e2] at this
theorem HpOk.moved {V V' : List It} {f f' : MF} {s : List It} (h : HpOk V f s) {i : Nat} (hi : i < V.length) {x : It} (hx : x.id = (g V i).id) (hs : s.Perm (g V i :: remI x.id s)) (hh : HeapL V') (hm : MapOk V' f') (hp : V'.Perm (V.set i x)) : HpOk V' f' (insI x (remI x.id s)) := by
  have h1 : (g V i :: cutL V i).Perm (g V i :: remI x.id s) := (cutL_perm hi).symm.trans (h.perm.trans hs)
  have h2 : (cutL V i).Perm (remI x.id s) := (List.perm_cons _).1 h1
  have hn : ∀ y ∈ remI x.id s, y.id ≠ x.id := fun y hy => by
    have := (List.mem_filter.1 hy).2; simpa using this
  refine ⟨hh, hm, (hp.trans ((set_perm hi x).trans (h2.cons x))).trans (insI_perm _ _).symm, insI_srt (remI_srt h.srt _) (fun y hy e => hn y hy (by rw [e])), ?_, ?_⟩
  · rw [((insI_perm x _).map It.id).nodup_iff, List.map_cons, List.nodup_cons]
    refine ⟨fun q => ?_, ?_⟩
    · obtain ⟨y, hy, e⟩ := List.mem_map.1 q
      exact hn y hy e
    · have := (hs.map It.id).nodup_iff.1 h.nd
      rw [List.map_cons, List.nodup_cons] at this
      exact this.2
  · rw [(insI_perm x _).length_eq]
    have := hs.length_eq; have := h.len; simp at *; omega
end Hp
end Go.Proofs.Ytdjoofidicoimaa
