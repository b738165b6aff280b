/-
  Sets of deadlines in plain words: all items in their order, the queues of common timeouts, and what stands in the heap for them. No program is spoken of.
-/
import Derived.Test.YtdjoofidicoimaaCo0
namespace Go.Proofs.Ytdjoofidicoimaa
set_option linter.unusedSimpArgs false
set_option linter.unusedVariables false
set_option linter.unnecessarySimpa false
open Go.RX Fx Hp
namespace Cm
structure Q where
  af : Int
  l : List It
deriving DecidableEq
/-- the item that stands for queue j's first one -/
def sgn (j : Nat) (x : It) : It := ⟨-1 - (j : Int), x.at_, x.n⟩
structure Ok (qs : List Q) (s : List It) (nx : Int) (hs : List It) (f : MF) : Prop where
  hF : HpF s
  nn : ∀ x ∈ s, 0 ≤ x.id
  nlt : ∀ x ∈ s, x.n < nx
  nin : ∀ x ∈ s, ∀ y ∈ s, x.n = y.n → x = y
  sub : ∀ q ∈ qs, ∀ x ∈ q.l, x ∈ s
  srt : ∀ q ∈ qs, q.l.Pairwise ltI
  fat : ∀ (j : Nat) (q : Q), qs[j]? = some q → ∀ x ∈ q.l, f x.id = some (.int .i64 (j : Int))
  fno : ∀ k, (∀ q ∈ qs, ∀ x ∈ q.l, x.id ≠ k) → f k = none
  hm : ∀ y, y ∈ hs ↔ (y ∈ s ∧ f y.id = none) ∨ ∃ (j : Nat) (q : Q) (x : It) (r : List It), qs[j]? = some q ∧ q.l = x :: r ∧ y = sgn j x
  nx0 : 0 ≤ nx
  ql : qs.length ≤ 32
  qd : (qs.map Q.af).Nodup
theorem Ok.nil : Ok [] [] 0 [] (fun _ => none) where
  hF := ⟨.nil, .nil, by simp⟩
  nn := by simp
  nlt := by simp
  nin := by simp
  sub := by simp
  srt := by simp
  fat := by simp
  fno := by simp
  hm := by simp
  nx0 := Int.le_refl _
  ql := by simp
  qd := by simp
section
variable {qs : List Q} {s hs : List It} {nx : Int} {f : MF}
theorem sgn_id (j : Nat) (x : It) : (sgn j x).id = -1 - (j : Int) := rfl
theorem Ok.uniq (h : Ok qs s nx hs f) {x y : It} (hx : x ∈ s) (hy : y ∈ s) (e : x.id = y.id) : x = y := by
  have h1 := (findI_some h.hF.nd hx rfl).1
  have h2 := (findI_some h.hF.nd hy e.symm).1
  rw [h1] at h2; exact Option.some.inj h2
/-- where an item's number is in a queue -/
theorem Ok.inq (h : Ok qs s nx hs f) {id : Int} (hf : (f id).isSome = true) : ∃ (j : Nat) (q : Q) (x : It), qs[j]? = some q ∧ x ∈ q.l ∧ x.id = id ∧ f id = some (.int .i64 (j : Int)) ∧ findI id s = some x := by
  have : ∃ q ∈ qs, ∃ x ∈ q.l, x.id = id := Classical.byContradiction fun hn => by
    have := h.fno id (fun q hq x hx e => hn ⟨q, hq, x, hx, e⟩)
    rw [this] at hf; cases hf
  obtain ⟨q, hq, x, hx, e⟩ := this
  obtain ⟨j, hj, e2⟩ := List.getElem_of_mem hq
  have hj2 : qs[j]? = some q := by rw [List.getElem?_eq_getElem hj, e2]
  refine ⟨j, q, x, hj2, hx, e, ?_, (findI_some h.hF.nd (h.sub q hq x hx) e).1⟩
  rw [← e]; exact h.fat j q hj2 x hx
theorem Ok.neg (h : Ok qs s nx hs f) {id : Int} (hi : id < 0) : findI id s = none ∧ f id = none := by
  refine ⟨(findI_none fun x hx e => by have := h.nn x hx; omega).1, h.fno id fun q hq x hx e => by have := h.nn x (h.sub q hq x hx); omega⟩
/-- one that is in no queue is in the heap as it is -/
theorem Ok.hfind (h : Ok qs s nx hs f) (hH : HpF hs) {id : Int} (hi : 0 ≤ id) (hf : f id = none) : findI id hs = findI id s := by
  cases hfs : findI id s with
  | some x =>
    have h1 := findI_id hfs
    exact (findI_some hH.nd ((h.hm x).2 (.inl ⟨h1.2, by rw [h1.1]; exact hf⟩)) h1.1).1
  | none =>
    refine (findI_none fun y hy e => ?_).1
    rcases (h.hm y).1 hy with ⟨h1, _⟩ | ⟨j, q, x, r, _, _, rfl⟩
    · rw [(findI_some h.hF.nd h1 e).1] at hfs; cases hfs
    · rw [sgn_id] at e; omega
theorem Ok.hsgn (h : Ok qs s nx hs f) (hH : HpF hs) {j : Nat} {q : Q} (hj : qs[j]? = some q) : findI (-1 - (j : Int)) hs = q.l.head?.map (sgn j) := by
  cases hq : q.l with
  | cons x r => exact (findI_some hH.nd ((h.hm _).2 (.inr ⟨j, q, x, r, hj, hq, rfl⟩)) (sgn_id j x)).1
  | nil =>
    refine (findI_none fun y hy e => ?_).1
    rcases (h.hm y).1 hy with ⟨h1, _⟩ | ⟨j', q', x, r, hj', hq', rfl⟩
    · have := h.nn y h1; omega
    · rw [sgn_id] at e
      obtain rfl : j' = j := by omega
      rw [hj] at hj'; obtain rfl := Option.some.inj hj'
      rw [hq] at hq'; cases hq'
/-- the heap's first one tells the set's first one -/
theorem Ok.top (h : Ok qs s nx hs f) (hH : HpF hs) : (hs = [] ∧ s = []) ∨ ∃ y t, hs = y :: t ∧ ∃ x r, s = x :: r ∧ ((0 ≤ y.id ∧ y = x) ∨ ∃ (j : Nat) (q : Q) (r' : List It), qs[j]? = some q ∧ q.l = x :: r' ∧ y = sgn j x) := by
  have hrep : ∀ x ∈ s, ∃ y ∈ hs, y.at_ ≤ x.at_ ∧ (y.at_ = x.at_ → y.n ≤ x.n) := fun x hx => by
    by_cases hf : (f x.id).isSome = true
    · obtain ⟨j, q, x', hj, hx', e, _, hfi⟩ := h.inq hf
      obtain rfl : x' = x := by
        have := (findI_some h.hF.nd hx rfl).1
        rw [this] at hfi; exact (Option.some.inj hfi).symm
      cases hq : q.l with
      | nil => rw [hq] at hx'; cases hx'
      | cons z r =>
        refine ⟨sgn j z, (h.hm _).2 (.inr ⟨j, q, z, r, hj, hq, rfl⟩), ?_⟩
        have hs2 := h.srt q (List.mem_of_getElem? hj)
        rw [hq] at hx' hs2
        rcases List.mem_cons.1 hx' with rfl | hm
        · exact ⟨Int.le_refl _, fun _ => Int.le_refl _⟩
        · have := (List.pairwise_cons.1 hs2).1 _ hm
          unfold ltI at this
          show z.at_ ≤ x'.at_ ∧ (z.at_ = x'.at_ → z.n ≤ x'.n)
          omega
    · have hf' : f x.id = none := by cases hh : f x.id with | none => rfl | some v => rw [hh] at hf; exact absurd rfl hf
      exact ⟨x, (h.hm x).2 (.inl ⟨hx, hf'⟩), Int.le_refl _, fun _ => Int.le_refl _⟩
  cases hs0 : hs with
  | nil =>
    left
    refine ⟨rfl, List.eq_nil_iff_forall_not_mem.2 fun x hx => ?_⟩
    obtain ⟨y, hy, _⟩ := hrep x hx
    rw [hs0] at hy; cases hy
  | cons y t =>
    right
    refine ⟨y, t, rfl, ?_⟩
    have hle : ∀ z ∈ hs, y.at_ ≤ z.at_ ∧ (y.at_ = z.at_ → y.n ≤ z.n) := fun z hz => by
      have hs2 := hH.srt
      rw [hs0] at hz hs2
      rcases List.mem_cons.1 hz with rfl | hm
      · exact ⟨Int.le_refl _, fun _ => Int.le_refl _⟩
      · have := (List.pairwise_cons.1 hs2).1 _ hm
        unfold ltI at this; omega
    have hy : y ∈ hs := by rw [hs0]; exact List.mem_cons_self
    have key : ∀ x ∈ s, x.at_ = y.at_ → x.n = y.n → ∃ r, s = x :: r := fun x hx e1 e2 => by
      cases hs1 : s with
      | nil => rw [hs1] at hx; cases hx
      | cons z r =>
        have hz : z ∈ s := by rw [hs1]; exact List.mem_cons_self
        obtain ⟨y2, hy2, h1, h2⟩ := hrep z hz
        have h3 := hle y2 hy2
        by_cases hzx : z = x
        · exact ⟨r, by rw [hzx]⟩
        · have hs2 := h.hF.srt
          rw [hs1] at hx hs2
          rcases List.mem_cons.1 hx with e | hm
          · exact absurd e.symm hzx
          · have := (List.pairwise_cons.1 hs2).1 _ hm
            have hnn : z.n ≠ x.n := fun e => hzx (h.nin z hz x (by rw [hs1]; exact hx) e)
            unfold ltI at this; omega
    rcases (h.hm y).1 hy with ⟨h1, _⟩ | ⟨j, q, x, r, hj, hq, rfl⟩
    · obtain ⟨r, e⟩ := key y h1 rfl rfl
      exact ⟨y, r, e, .inl ⟨h.nn y h1, rfl⟩⟩
    · have hx : x ∈ s := h.sub q (List.mem_of_getElem? hj) x (by rw [hq]; exact List.mem_cons_self)
      obtain ⟨r', e⟩ := key x hx rfl rfl
      exact ⟨x, r', e, .inr ⟨j, q, r, hj, hq, rfl⟩⟩
end
end Cm
end Go.Proofs.Ytdjoofidicoimaa
