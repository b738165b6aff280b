/-
  The library's sort over a slice that is owned. No program is named here.
-/
import Derived.Test.YtdjoofidicoimaaRxQ
import Derived.Test.YtdjoofidicoimaaRxL
import Derived.Shelf.SlSortCmp.NoneTotal
namespace Go.RX
set_option linter.unusedSimpArgs false
set_option linter.unusedVariables false
set_option linter.unnecessarySimpa false
open Go.Sort Go.Proofs Go.Shelf
section
variable {P : Program}
theorem hp_grow {w : World} {os : Array Obj} : Sub (hp w) (hp (grow w os)) := fun k c e => by
  unfold hp at e ⊢
  have hb : k.1 < w.heap.size := Decidable.byContradiction fun h => by
    rw [Array.getElem?_eq_none (by omega)] at e
    cases k.2 <;> simp [hpo] at e
  show hpo (w.heap ++ os)[k.1]? k.2 = _
  rw [Array.getElem?_append_left hb]; exact e
theorem Sat.grow' {E w : World} {L : List SP} (s : Sat E L w) (os : Array Obj) : Sat E L (grow w os) := ⟨s.1, s.2.1, s.2.2.1, s.2.2.2.up hp_grow⟩
theorem Sat.ahead' {E w : World} {L : List SP} (s : Sat E L w) (n : Nat) : Sat E L (Go.Sort.ahead w n) := ⟨⟨s.1.1, Nat.le_trans s.1.2 (Nat.le_add_right _ _)⟩, s.2⟩
theorem flatK_list {α : Type} [Inhabited α] {enc : α → List Value} {k : Nat} (hk : ∀ x, (enc x).length = k) (hk0 : 0 < k) (xs : List α) : (flatK enc k xs.toArray).toList = xs.flatMap enc := by
  have hfl : (xs.flatMap enc).length = xs.length * k := by
    induction xs with
    | nil => simp
    | cons x xs ih => simp only [List.flatMap_cons, List.length_append, ih, hk, List.length_cons, Nat.succ_mul]; omega
  apply List.ext_getElem?
  intro t
  by_cases ht : t < xs.length * k
  · have h1 : t / k < xs.length := Nat.div_lt_of_lt_mul (by rwa [Nat.mul_comm])
    have h2 : t % k < k := Nat.mod_lt _ hk0
    have h3 : xs[t / k]? = some xs[t / k] := List.getElem?_eq_getElem h1
    have h4 : t % k < (enc xs[t / k]).length := by rw [hk]; exact h2
    have h5 := flat_cells enc k hk h3 (t % k) _ (List.getElem?_eq_getElem h4)
    rw [Nat.div_add_mod'] at h5
    rw [h5]
    have h6 : t < (flatK enc k xs.toArray).size := by simpa using ht
    rw [Array.getElem?_toList, Array.getElem?_eq_getElem h6]
    congr 1
    have := get_flatK enc k xs.toArray t (by simpa using ht)
    rw [getElem!_pos _ t h6] at this
    rw [this]
    simp [h1, h4]
  · rw [List.getElem?_eq_none (by simpa using Nat.le_of_not_lt ht), List.getElem?_eq_none (by rw [hfl]; omega)]
theorem Sat.sortW {α : Type} [Inhabited α] {enc : α → List Value} {k : Nat} (hk : ∀ x, (enc x).length = k) (hk0 : 0 < k) {E w : World} {L : List SP} {b o : Nat} {xs ys : List α} (hl : ys.length = xs.length) (h0 : 0 < xs.length) (s : Sat E (seg b o (xs.flatMap enc) :: L) w) (n : Nat) (os : Array Obj) :
    Sat E (seg b o (ys.flatMap enc) :: L) (sortWorldK enc k w b o n ys.toArray os) := by
  unfold sortWorldK putRowK
  refine Sat.grow' ?_ os
  have s1 := s.ahead' n
  have hfx : (xs.flatMap enc).length = xs.length * k := by rw [← flatK_list hk hk0]; simp
  have hfy : (ys.flatMap enc).length = ys.length * k := by rw [← flatK_list hk hk0]; simp
  obtain ⟨h1, hs, x⟩ := sep.one Pick.here s1.2.2.2
  obtain ⟨cs, e, fz, hb, hc⟩ := seg_at hs x (by rw [hfx]; exact Nat.mul_pos h0 hk0)
  have hsz : ∀ i, i < xs.length * k → o + i < cs.size := fun i hi => by
    have := (hc i _ (List.getElem?_eq_getElem (by rw [hfx]; exact hi))).1
    exact (Array.getElem?_eq_some_iff.1 this).1
  refine Sat.putSeg (cs := cs) (cs' := putCells id o (flatK enc k ys.toArray) cs) (e := e) (fz := fz) s1 .here (by rw [hfx, hfy, hl]) rfl rfl rfl (fun z hz => ?_) hb ?_ (by simp [putCells]) (fun i hi => ?_) (fun i v hi => ?_)
  · show (mapBlock _ _ _).heap[z]? = _
    unfold mapBlock
    simp [Array.getElem?_modify, Ne.symm hz]
  · show (mapBlock _ _ _).heap[b]? = _
    unfold mapBlock
    simp only [Array.getElem?_modify, if_true]
    rw [hb]; rfl
  · unfold putCells
    rw [Array.getElem?_mapIdx]
    cases hcs : cs[i]? with
    | none => rfl
    | some c =>
      simp only [Option.map_some]
      rw [if_neg]
      rw [size_flatK]
      rw [hfx, ← hl] at hi
      simp only [List.size_toArray]
      omega
  · have hi' : i < ys.length * k := by rw [← hfy]; exact (List.getElem?_eq_some_iff.1 hi).1
    have hoi : o + i < cs.size := hsz i (by rw [← hl]; exact hi')
    unfold putCells
    rw [Array.getElem?_mapIdx, Array.getElem?_eq_getElem hoi]
    simp only [Option.map_some]
    rw [if_pos ⟨by omega, by rw [size_flatK]; simp only [List.size_toArray]; omega⟩, show o + i - o = i by omega]
    rw [← flatK_list hk hk0, Array.getElem?_toList] at hi
    have h6 := (Array.getElem?_eq_some_iff.1 hi).1
    rw [Array.getElem?_eq_getElem h6] at hi
    rw [getElem!_pos _ i h6]
    exact hi
theorem Sat.holdsK {α : Type} [Inhabited α] {enc : α → List Value} {k : Nat} (hk : ∀ x, (enc x).length = k) (hk0 : 0 < k) {E w : World} {L : List SP} {b o : Nat} {xs : List α} (h0 : 0 < xs.length) (s : Sat E (seg b o (xs.flatMap enc) :: L) w) : HoldsK enc k w b o xs.toArray ∧ b < w.heap.size := by
  have hfx : (xs.flatMap enc).length = xs.length * k := by rw [← flatK_list hk hk0]; simp
  obtain ⟨h1, hs, x⟩ := sep.one Pick.here s.2.2.2
  obtain ⟨cs, e, fz, hb, hc⟩ := seg_at hs x (by rw [hfx]; exact Nat.mul_pos h0 hk0)
  refine ⟨fun j hj => ?_, (Array.getElem?_eq_some_iff.1 hb).1⟩
  have hj' : j < (xs.flatMap enc).length := by rw [hfx]; simpa using hj
  have hcj := hc j _ (List.getElem?_eq_getElem hj')
  have e1 : (flatK enc k xs.toArray)[j]! = (xs.flatMap enc)[j] := by
    rw [getElem!_pos _ j hj]
    have : (flatK enc k xs.toArray).toList[j]? = (xs.flatMap enc)[j]? := by rw [flatK_list hk hk0]
    rw [Array.getElem?_toList, Array.getElem?_eq_getElem hj, List.getElem?_eq_getElem hj'] at this
    exact Option.some.inj this
  refine ⟨?_, ?_⟩
  · unfold World.cell?
    simp only [hb, Option.isSome_none, Bool.false_eq_true, if_false]
    rw [hcj.1, e1]; rfl
  · unfold World.frozen?
    simp only [hb]
    first | exact hcj.2 | (simpa using hcj.2)
theorem grow_of {W w' : World} (s : Sat W [Old W] w') : ∃ q os', w' = grow (W.drewN q) os' := by
  have hb := below_of_sat s .here
  refine ⟨w'.drawn - W.drawn, w'.heap.extract W.heap.size w'.heap.size, ?_⟩
  have hh : w'.heap = W.heap ++ w'.heap.extract W.heap.size w'.heap.size := by
    apply Array.ext_getElem?
    intro i
    by_cases hi : i < W.heap.size
    · rw [Array.getElem?_append_left hi]; exact hb.block i hi
    · rw [Array.getElem?_append_right (by omega), Array.getElem?_extract]
      by_cases h2 : i < w'.heap.size
      · rw [if_pos (by omega)]; congr 1; omega
      · rw [if_neg (by omega), Array.getElem?_eq_none (by omega)]
  have hd : W.drawn + (w'.drawn - W.drawn) = w'.drawn := by have := s.1.2; omega
  obtain ⟨wh, wt, wd, wo, wu⟩ := w'
  obtain ⟨⟨h1, _⟩, h2, h3, _⟩ := s
  simp only at h1 h2 h3 hh hd
  subst h1; subst h2; subst h3
  unfold grow
  simp [World.drewN, hd, ← hh]
theorem cmpLays_of {α : Type} [Inhabited α] {g : Nat} {enc : α → List Value} {k : Nat} {cf : α → α → Int} {b o size : Nat} {w : World}
    (h : ∀ (L : List SP) x y, Ct P g #[.agg (enc x).toArray, .agg (enc y).toArray] L (fun _ : Unit => .int .i64 (cf x y)) (fun _ => L)) : CmpLays P g #[] enc k cf b o size w := fun m os dk _ x y =>
  (h [Old _] x y _ _ (old_sat _)).mono fun _ _ ⟨_, he, s⟩ => ⟨he, grow_of s⟩
end
end Go.RX
