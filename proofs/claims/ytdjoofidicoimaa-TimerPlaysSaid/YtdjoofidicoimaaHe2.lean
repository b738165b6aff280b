/-
  Heaps in plain words: a list none of whose items stands ahead of the one at half its place; a hole in one. No program is spoken of.
-/
import Derived.Test.YtdjoofidicoimaaHe1
namespace Go.Proofs.Ytdjoofidicoimaa
set_option linter.unusedSimpArgs false
set_option linter.unusedVariables false
set_option linter.unnecessarySimpa false
namespace Hp
def z0 : It := ⟨0, 0, 0⟩
def g (V : List It) (j : Nat) : It := V.getD j z0
theorem g_at {V : List It} {j : Nat} (h : j < V.length) : V[j]? = some (g V j) := by
  unfold g; rw [List.getD_eq_getElem?_getD, List.getElem?_eq_getElem h]; rfl
theorem g_mem {V : List It} {j : Nat} (h : j < V.length) : g V j ∈ V := List.mem_of_getElem? (g_at h)
theorem g_of {V : List It} {x : It} (h : x ∈ V) : ∃ j, j < V.length ∧ g V j = x := by
  obtain ⟨j, hj, e⟩ := List.getElem_of_mem h
  refine ⟨j, hj, ?_⟩
  have := g_at hj
  rw [List.getElem?_eq_getElem hj] at this
  exact (Option.some.inj this).symm.trans e
theorem g_set {V : List It} {i j : Nat} {x : It} (hi : i < V.length) : g (V.set i x) j = if j = i then x else g V j := by
  unfold g; rw [List.getD_eq_getElem?_getD, List.getD_eq_getElem?_getD, List.getElem?_set]
  by_cases h : i = j
  · subst h; simp [hi]
  · rw [if_neg h, if_neg (Ne.symm h)]
theorem g_eq {V W : List It} (hl : V.length = W.length) (h : ∀ j, j < V.length → g V j = g W j) : V = W := by
  apply List.ext_getElem? 
  intro j
  by_cases hj : j < V.length
  · rw [g_at hj, g_at (hl ▸ hj), h j hj]
  · rw [List.getElem?_eq_none (by omega), List.getElem?_eq_none (by omega)]
/-- of two places each other's items -/
def swp (V : List It) (i j : Nat) : List It := (V.set i (g V j)).set j (g V i)
theorem swp_len (V : List It) (i j : Nat) : (swp V i j).length = V.length := by simp [swp]
theorem swp_perm {V : List It} {i j : Nat} (hi : i < V.length) (hj : j < V.length) : (swp V i j).Perm V := by
  have e1 : g V i = V[i] := by have := g_at hi; rw [List.getElem?_eq_getElem hi] at this; exact (Option.some.inj this).symm
  have e2 : g V j = V[j] := by have := g_at hj; rw [List.getElem?_eq_getElem hj] at this; exact (Option.some.inj this).symm
  unfold swp; rw [e1, e2]
  exact List.set_set_perm hi hj
theorem swp_g {V : List It} {i j q : Nat} (hi : i < V.length) (hj : j < V.length) : g (swp V i j) q = if q = j then g V i else if q = i then g V j else g V q := by
  unfold swp; rw [g_set (by simpa using hj), g_set hi]
def par (j : Nat) : Nat := (j - 1) / 2
structure Hole (V : List It) (i : Nat) : Prop where
  far : ∀ j, 0 < j → j < V.length → j ≠ i → par j ≠ i → leI (g V (par j)) (g V j)
  br : ∀ c, 0 < c → c < V.length → par c = i → 0 < i → leI (g V (par i)) (g V c)
def PO (V : List It) (i : Nat) : Prop := 0 < i → leI (g V (par i)) (g V i)
def HeapL (V : List It) : Prop := ∀ j, 0 < j → j < V.length → leI (g V (par j)) (g V j)
theorem HeapL.hole {V : List It} (h : HeapL V) (i : Nat) : Hole V i := by
  refine ⟨fun j h0 h1 _ _ => h j h0 h1, fun c h0 h1 hp hi => ?_⟩
  have h2 := h c h0 h1
  rw [hp] at h2
  exact leI_trans (h i hi (by unfold par at hp; omega)) h2
/-- what stands in the hole makes no difference -/
theorem Hole.set {V : List It} {i : Nat} (h : Hole V i) (hi : i < V.length) (x : It) : Hole (V.set i x) i := by
  refine ⟨fun j h0 h1 h2 h3 => ?_, fun c h0 h1 h2 h3 => ?_⟩
  · rw [g_set hi, g_set hi, if_neg h3, if_neg h2]
    exact h.far j h0 (by simpa using h1) h2 h3
  · rw [g_set hi, g_set hi, if_neg (by unfold par; omega), if_neg (by unfold par at h2; omega)]
    exact h.br c h0 (by simpa using h1) h2 h3
theorem Hole.up {V : List It} {i : Nat} (h : Hole V i) (h0 : 0 < i) (hi : i < V.length) (hx : ltI (g V i) (g V (par i))) : Hole (swp V i (par i)) (par i) := by
  have hp : par i < i := by unfold par; omega
  have hp2 : par i < V.length := by omega
  refine ⟨fun j h1 h2 h3 h4 => ?_, fun c h1 h2 h3 h4 => ?_⟩
  · rw [swp_len] at h2
    rw [swp_g hi hp2, swp_g hi hp2, if_neg h4, if_neg h3]
    by_cases hj : j = i
    · subst hj; exact absurd rfl h4
    · rw [if_neg hj]
      by_cases hpj : par j = i
      · rw [if_pos hpj]; exact h.br j h1 h2 hpj h0
      · rw [if_neg hpj]; exact h.far j h1 h2 hj hpj
  · rw [swp_len] at h2
    have hpp : par (par i) ≠ par i := by unfold par at *; omega
    have hpp2 : par (par i) ≠ i := by unfold par at *; omega
    have hc : c ≠ par i := by intro e; subst e; unfold par at *; omega
    have hA : leI (g V (par (par i))) (g V (par i)) := h.far (par i) h4 hp2 (by omega) hpp2
    rw [swp_g hi hp2, swp_g hi hp2, if_neg hpp, if_neg hpp2, if_neg hc]
    by_cases hci : c = i
    · rw [if_pos hci]; exact hA
    · rw [if_neg hci]
      refine leI_trans hA ?_
      have := h.far c h1 h2 hci (by rw [h3]; omega)
      rwa [h3] at this
theorem Hole.down {V : List It} {i b : Nat} (h : Hole V i) (hi : i < V.length) (hb : b < V.length) (hbp : par b = i) (h0 : 0 < b) (hm : ∀ c, 0 < c → c < V.length → par c = i → leI (g V b) (g V c)) (hx : ltI (g V b) (g V i)) : Hole (swp V i b) b ∧ PO (swp V i b) b := by
  have hib : i < b := by unfold par at hbp; omega
  have hne : i ≠ b := by omega
  refine ⟨⟨fun j h1 h2 h3 h4 => ?_, fun c h1 h2 h3 h4 => ?_⟩, fun _ => ?_⟩
  · rw [swp_len] at h2
    rw [swp_g hi hb, swp_g hi hb, if_neg h4, if_neg h3]
    by_cases hj : j = i
    · subst hj
      have hpj : par j ≠ j := by unfold par; omega
      rw [if_pos rfl, if_neg hpj]
      exact h.br b h0 hb hbp h1
    · rw [if_neg hj]
      by_cases hpj : par j = i
      · rw [if_pos hpj]; exact hm j h1 h2 hpj
      · rw [if_neg hpj]; exact h.far j h1 h2 hj hpj
  · rw [swp_len] at h2
    have hc : c ≠ b := by intro e; subst e; unfold par at h3; omega
    have hci : c ≠ i := by intro e; subst e; unfold par at h3 hbp; omega
    rw [swp_g hi hb, swp_g hi hb, hbp, if_neg hne, if_pos rfl, if_neg hc, if_neg hci]
    have := h.far c h1 h2 hci (by rw [h3]; omega)
    rwa [h3] at this
  · rw [swp_g hi hb, swp_g hi hb, hbp, if_neg hne, if_pos rfl, if_pos rfl]
    exact leI_of_lt hx
theorem Hole.done {V : List It} {i : Nat} (h : Hole V i) (hp : PO V i) (hc : ∀ c, 0 < c → c < V.length → par c = i → leI (g V i) (g V c)) : HeapL V := fun j h0 h1 => by
  by_cases hj : j = i
  · subst hj; exact hp h0
  · by_cases hpj : par j = i
    · rw [hpj]; exact hc j h0 h1 hpj
    · exact h.far j h0 h1 hj hpj
def CO (V : List It) (i : Nat) : Prop := ∀ c, 0 < c → c < V.length → par c = i → leI (g V i) (g V c)
theorem Hole.upC {V : List It} {i : Nat} (h : Hole V i) (h0 : 0 < i) (hi : i < V.length) (hx : ltI (g V i) (g V (par i))) : CO (swp V i (par i)) (par i) := fun c h1 h2 h3 => by
  have hp : par i < i := by unfold par; omega
  have hp2 : par i < V.length := by omega
  rw [swp_len] at h2
  have hc : c ≠ par i := by intro e; subst e; unfold par at *; omega
  rw [swp_g hi hp2, swp_g hi hp2, if_pos rfl, if_neg hc]
  by_cases hci : c = i
  · rw [if_pos hci]; exact leI_of_lt hx
  · rw [if_neg hci]
    have := h.far c h1 h2 hci (by rw [h3]; omega)
    rw [h3] at this
    exact leI_trans (leI_of_lt hx) this
theorem HeapL.top {V : List It} (h : HeapL V) : ∀ j, j < V.length → leI (g V 0) (g V j) := by
  intro j
  induction j using Nat.strongRecOn with
  | _ j ih =>
    intro hj
    by_cases h0 : j = 0
    · subst h0; exact leI_rfl _
    · exact leI_trans (ih (par j) (by unfold par; omega) (by unfold par; omega)) (h j (by omega) hj)
/-! numbers and places -/
def Ids (V : List It) : Prop := ∀ i j, i < V.length → j < V.length → (g V i).id = (g V j).id → i = j
abbrev MF := Int → Option Value
structure MapH (V : List It) (i : Nat) (f : MF) : Prop where
  at_ : ∀ j, j < V.length → j ≠ i → f (g V j).id = some (.int .i64 (j : Int))
  no : ∀ k, (∀ j, j < V.length → (g V j).id ≠ k) → f k = none
structure MapOk (V : List It) (f : MF) : Prop where
  at_ : ∀ j, j < V.length → f (g V j).id = some (.int .i64 (j : Int))
  no : ∀ k, (∀ j, j < V.length → (g V j).id ≠ k) → f k = none
theorem MapOk.hole {V : List It} {f : MF} (h : MapOk V f) (i : Nat) : MapH V i f := ⟨fun j hj _ => h.at_ j hj, h.no⟩
abbrev putF (f : MF) (k : Int) (i : Nat) : MF := fun c => if c = k then some (.int .i64 (i : Int)) else f c
theorem MapH.put {V : List It} {i : Nat} {f : MF} (h : MapH V i f) (hi : i < V.length) (hd : Ids V) : MapOk V (putF f (g V i).id i) := by
  refine ⟨fun j hj => ?_, fun k hk => ?_⟩
  · by_cases e : j = i
    · subst e; exact if_pos rfl
    · show (if _ then _ else _) = _
      rw [if_neg (fun q => e (hd j i hj hi q))]; exact h.at_ j hj e
  · show (if _ then _ else _) = _
    rw [if_neg (fun q => hk i hi q.symm)]; exact h.no k hk
theorem Ids.swp {V : List It} {i j : Nat} (h : Ids V) (hi : i < V.length) (hj : j < V.length) : Ids (swp V i j) := by
  intro a b ha hb e
  rw [swp_len] at ha hb
  rw [swp_g hi hj, swp_g hi hj] at e
  split at e <;> split at e <;> (try split at e) <;> (try split at e) <;> first | omega | (have := h _ _ ‹_› ‹_› e; omega) | (have := h _ _ (by omega) (by omega) e; omega)
theorem MapH.swp {V : List It} {i j : Nat} {f : MF} (h : MapH V i f) (hi : i < V.length) (hj : j < V.length) (hij : i ≠ j) (hd : Ids V) : MapH (swp V i j) j (putF f (g V j).id i) := by
  refine ⟨fun q hq hqj => ?_, fun k hk => ?_⟩
  · rw [swp_len] at hq
    rw [swp_g hi hj, if_neg hqj]
    by_cases e : q = i
    · rw [if_pos e, e]; exact if_pos rfl
    · rw [if_neg e]
      show (if _ then _ else _) = _
      rw [if_neg (fun z => hqj (hd q j hq hj z))]; exact h.at_ q hq e
  · have hk2 : ∀ q, q < V.length → (g V q).id ≠ k := fun q hq e => by
      by_cases e1 : q = j
      · refine hk i (by rw [swp_len]; exact hi) ?_
        rw [swp_g hi hj, if_neg hij, if_pos rfl, ← e1]; exact e
      · by_cases e2 : q = i
        · refine hk j (by rw [swp_len]; exact hj) ?_
          rw [swp_g hi hj, if_pos rfl, ← e2]; exact e
        · refine hk q (by rw [swp_len]; exact hq) ?_
          rw [swp_g hi hj, if_neg e1, if_neg e2]; exact e
    show (if _ then _ else _) = _
    rw [if_neg (fun z => hk2 j hj z.symm)]
    exact h.no k hk2
theorem ids_of {V : List It} (h : (V.map It.id).Nodup) : Ids V := fun i j hi hj e => by
  have h1 : (V.map It.id)[i]? = some (g V i).id := by rw [List.getElem?_map, g_at hi]; rfl
  have h2 : (V.map It.id)[j]? = some (g V j).id := by rw [List.getElem?_map, g_at hj]; rfl
  rw [e] at h1
  have hi' : i < (V.map It.id).length := by simpa using hi
  have hj' : j < (V.map It.id).length := by simpa using hj
  rw [List.getElem?_eq_getElem hi'] at h1
  rw [List.getElem?_eq_getElem hj'] at h2
  have hx := List.pairwise_iff_getElem.1 h
  have he := (Option.some.inj h1).trans (Option.some.inj h2).symm
  rcases Nat.lt_trichotomy i j with q | q | q
  · exact absurd he (hx i j hi' hj' q)
  · exact q
  · exact absurd he.symm (hx j i hj' hi' q)
/-! cells -/
theorem flat_set {V : List It} {i : Nat} {x : It} : i < V.length → (V.flatMap encI).take (i * 3) ++ encI x ++ (V.flatMap encI).drop (i * 3 + 3) = (V.set i x).flatMap encI := by
  induction V generalizing i with
  | nil => intro h; simp at h
  | cons v V ih =>
    intro h
    cases i with
    | zero => simp
    | succ i =>
      have := ih (i := i) (by simpa using h)
      rw [show (i + 1) * 3 = i * 3 + 3 by omega]
      simp only [List.flatMap_cons, List.set_cons_succ]
      rw [← this]
      simp [List.take_append, List.drop_append, Nat.add_sub_cancel]
end Hp
end Go.Proofs.Ytdjoofidicoimaa
