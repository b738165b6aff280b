/-
  Sets of deadlines in plain words: an item taken out, one put in. No program is spoken of.
-/
import Derived.Test.YtdjoofidicoimaaCo1
namespace Go.Proofs.Ytdjoofidicoimaa
set_option linter.unusedSimpArgs false
set_option linter.unusedVariables false
set_option linter.unnecessarySimpa false
open Go.RX Fx Hp
namespace Cm
theorem nodup_of_ids {s : List It} (h : (s.map It.id).Nodup) : s.Nodup := by
  unfold List.Nodup at *
  exact (List.pairwise_map.1 h).imp fun h e => h (by rw [e])
def cutQ (id : Int) (qs : List Q) : List Q := qs.map fun q => ⟨q.af, remI id q.l⟩
/-- the heap behind 'show' -/
def shw (j : Nat) (l : List It) (hs : List It) : List It := match l with
  | [] => remI (-1 - (j : Int)) hs
  | x :: _ => pushS (remI (-1 - (j : Int)) hs) (sgn j x)
theorem rem_mem {id : Int} {s : List It} {y : It} : y ∈ remI id s ↔ y ∈ s ∧ y.id ≠ id := by
  unfold remI; simp
theorem remI_no {id : Int} {s : List It} (h : ∀ x ∈ s, x.id ≠ id) : remI id s = s := (findI_none h).2
theorem shw_mem {j : Nat} {l hs : List It} {y : It} : y ∈ shw j l hs ↔ (y ∈ hs ∧ y.id ≠ -1 - (j : Int)) ∨ ∃ x r, l = x :: r ∧ y = sgn j x := by
  cases l with
  | nil => show y ∈ remI _ _ ↔ _; rw [rem_mem]; simp
  | cons x r =>
    show y ∈ pushS _ _ ↔ _
    unfold pushS
    rw [show (sgn j x).id = -1 - (j : Int) from rfl, findI_rem]
    show y ∈ insI _ _ ↔ _
    rw [insI_mem, rem_mem]
    constructor
    · rintro (h | h)
      · exact .inr ⟨x, r, rfl, h⟩
      · exact .inl h
    · rintro (h | ⟨x', r', e, h⟩)
      · exact .inr h
      · cases e; exact .inl h
section
variable {qs : List Q} {s hs : List It} {nx : Int} {f : MF}
theorem Ok.hm_show (h : Ok qs s nx hs f) {j : Nat} (hj : j < qs.length) {a : Int} {l s' : List It} {f' : MF} (hown : ∀ y, (y ∈ s' ∧ f' y.id = none) ↔ (y ∈ s ∧ f y.id = none)) :
    ∀ y, y ∈ shw j l hs ↔ (y ∈ s' ∧ f' y.id = none) ∨ ∃ (j' : Nat) (q : Q) (x : It) (r : List It), (qs.set j ⟨a, l⟩)[j']? = some q ∧ q.l = x :: r ∧ y = sgn j' x := by
  intro y
  rw [shw_mem, h.hm, hown]
  constructor
  · rintro (⟨h1 | ⟨j', q, x, r, h1, h2, rfl⟩, h3⟩ | ⟨x, r, e, rfl⟩)
    · exact .inl h1
    · have hne : j ≠ j' := fun e => h3 (by rw [sgn_id, e])
      exact .inr ⟨j', q, x, r, by rw [List.getElem?_set_ne hne]; exact h1, h2, rfl⟩
    · exact .inr ⟨j, ⟨a, l⟩, x, r, by rw [List.getElem?_set_self hj], e, rfl⟩
  · rintro (h1 | ⟨j', q, x, r, h1, h2, rfl⟩)
    · exact .inl ⟨.inl h1, by have := h.nn y h1.1; omega⟩
    · by_cases e : j = j'
      · subst e
        rw [List.getElem?_set_self hj] at h1
        obtain rfl := Option.some.inj h1
        exact .inr ⟨x, r, h2, rfl⟩
      · rw [List.getElem?_set_ne e] at h1
        exact .inl ⟨.inr ⟨j', q, x, r, h1, h2, rfl⟩, by rw [sgn_id]; omega⟩
theorem Ok.cut_no (h : Ok qs s nx hs f) {id : Int} (hf : f id = none) : cutQ id qs = qs := by
  have : ∀ q ∈ qs, (⟨q.af, remI id q.l⟩ : Q) = q := fun q hq => by
    rw [remI_no (s := q.l) (fun x hx e => ?_)]
    obtain ⟨j, hj, e2⟩ := List.getElem_of_mem hq
    have := h.fat j q (by rw [List.getElem?_eq_getElem hj, e2]) x hx
    rw [e, hf] at this; cases this
  unfold cutQ
  exact (List.map_congr_left this).trans (List.map_id' qs)
theorem Ok.cut_at (h : Ok qs s nx hs f) {id : Int} {j : Nat} {q : Q} (hj : qs[j]? = some q) (hf : f id = some (.int .i64 (j : Int))) : cutQ id qs = qs.set j ⟨q.af, remI id q.l⟩ := by
  have hjl := (List.getElem?_eq_some_iff.1 hj).1
  apply List.ext_getElem?
  intro i
  unfold cutQ
  rw [List.getElem?_map]
  by_cases e : j = i
  · subst e; rw [hj, List.getElem?_set_self hjl]; rfl
  · rw [List.getElem?_set_ne e]
    cases hi : qs[i]? with
    | none => rfl
    | some q' =>
      show some (⟨q'.af, remI id q'.l⟩ : Q) = some q'
      rw [remI_no (s := q'.l) (fun x hx e2 => ?_)]
      have := h.fat i q' hi x hx
      rw [e2, hf] at this
      have := Option.some.inj this
      simp at this; omega
theorem hpf_rem (h : HpF s) (id : Int) : HpF (remI id s) := ⟨remI_srt h.srt id, h.nd.sublist (List.Sublist.map _ List.filter_sublist), Nat.le_trans (List.length_filter_le _ _) h.len⟩
theorem hpf_ins (h : HpF s) {x : It} (hx : ∀ y ∈ s, y.id ≠ x.id) (hl : s.length < 1000000) : HpF (insI x s) := by
  refine ⟨insI_srt h.srt (fun y hy e => hx y hy (by rw [e])), ?_, by rw [(insI_perm x s).length_eq]; exact hl⟩
  rw [((insI_perm x s).map It.id).nodup_iff, List.map_cons, List.nodup_cons]
  exact ⟨fun q => by obtain ⟨z, hz, e⟩ := List.mem_map.1 q; exact hx z hz e, h.nd⟩
theorem Ok.q_nd (h : Ok qs s nx hs f) {q : Q} (hq : q ∈ qs) : (q.l.map It.id).Nodup :=
  List.pairwise_map.2 ((h.srt q hq).imp_of_mem fun {a b} ha hb hlt e => by
    have := h.uniq (h.sub q hq a ha) (h.sub q hq b hb) e
    rw [this] at hlt; exact ltI_irrefl _ hlt)
theorem Ok.q_len (h : Ok qs s nx hs f) {q : Q} (hq : q ∈ qs) : q.l.length ≤ s.length := by
  have hn := nodup_of_ids (h.q_nd hq)
  have hp : q.l.Perm (s.filter fun x => decide (x ∈ q.l)) := (List.perm_ext_iff_of_nodup hn ((nodup_of_ids h.hF.nd).sublist List.filter_sublist)).2 fun y => by
    rw [List.mem_filter, decide_eq_true_iff]
    exact ⟨fun hy => ⟨h.sub q hq y hy, hy⟩, fun hy => hy.2⟩
  rw [hp.length_eq]; exact List.length_filter_le _ _
theorem cut_af (id : Int) (qs : List Q) : (cutQ id qs).map Q.af = qs.map Q.af := by unfold cutQ; rw [List.map_map]; rfl
theorem set_af {q : Q} {j : Nat} (hj : qs[j]? = some q) (l : List It) : (qs.set j ⟨q.af, l⟩).map Q.af = qs.map Q.af := by
  rw [List.map_set]
  apply List.ext_getElem?
  intro i
  by_cases e : j = i
  · subst e
    have hjl := (List.getElem?_eq_some_iff.1 hj).1
    rw [List.getElem?_set_self (by simpa using hjl), List.getElem?_map, hj]; rfl
  · rw [List.getElem?_set_ne e]
/-- taken out of a queue -/
theorem Ok.cutA (h : Ok qs s nx hs f) {id : Int} {j : Nat} {q : Q} (hj : qs[j]? = some q) (hf : f id = some (.int .i64 (j : Int))) : Ok (qs.set j ⟨q.af, remI id q.l⟩) (remI id s) nx (shw j (remI id q.l) hs) (delF f id) := by
  have hjl := (List.getElem?_eq_some_iff.1 hj).1
  have hq := List.mem_of_getElem? hj
  have ec := h.cut_at hj hf
  have hmem : ∀ q' ∈ qs.set j ⟨q.af, remI id q.l⟩, ∃ q0 ∈ qs, q'.l = remI id q0.l := fun q' hq' => by
    rw [← ec] at hq'
    obtain ⟨q0, h0, rfl⟩ := List.mem_map.1 hq'
    exact ⟨q0, h0, rfl⟩
  refine ⟨hpf_rem h.hF id, fun x hx => h.nn x (rem_mem.1 hx).1, fun x hx => h.nlt x (rem_mem.1 hx).1, fun x hx y hy => h.nin x (rem_mem.1 hx).1 y (rem_mem.1 hy).1, ?_, ?_, ?_, ?_, ?_, h.nx0, by rw [List.length_set]; exact h.ql, by rw [set_af hj]; exact h.qd⟩
  · intro q' hq' x hx
    obtain ⟨q0, h0, e⟩ := hmem q' hq'
    rw [e] at hx
    exact rem_mem.2 ⟨h.sub q0 h0 x (rem_mem.1 hx).1, (rem_mem.1 hx).2⟩
  · intro q' hq'
    obtain ⟨q0, h0, e⟩ := hmem q' hq'
    rw [e]; exact remI_srt (h.srt q0 h0) id
  · intro i q' hi x hx
    rw [← ec] at hi
    unfold cutQ at hi
    rw [List.getElem?_map] at hi
    cases hi0 : qs[i]? with
    | none => rw [hi0] at hi; cases hi
    | some q0 =>
      rw [hi0] at hi
      obtain rfl := Option.some.inj hi
      have hx' := rem_mem.1 hx
      show (if _ then _ else _) = _
      rw [if_neg hx'.2]
      exact h.fat i q0 hi0 x hx'.1
  · intro k hk
    show (if _ then _ else _) = _
    by_cases e : k = id
    · rw [if_pos e]
    · rw [if_neg e]
      refine h.fno k fun q0 h0 x hx e2 => ?_
      refine hk ⟨q0.af, remI id q0.l⟩ (by rw [← ec]; exact List.mem_map.2 ⟨q0, h0, rfl⟩) x (rem_mem.2 ⟨hx, by rw [e2]; exact e⟩) e2
  · refine h.hm_show hjl (fun y => ?_)
    rw [rem_mem]
    show ((y ∈ s ∧ y.id ≠ id) ∧ (if _ then _ else _) = none) ↔ _
    by_cases e : y.id = id
    · rw [if_pos e, e, hf]; simp
    · rw [if_neg e]; simp [e]
/-- taken out of the heap -/
theorem Ok.cutB (h : Ok qs s nx hs f) {id : Int} (h0 : 0 ≤ id) (hf : f id = none) : Ok qs (remI id s) nx (remI id hs) f := by
  refine ⟨hpf_rem h.hF id, fun x hx => h.nn x (rem_mem.1 hx).1, fun x hx => h.nlt x (rem_mem.1 hx).1, fun x hx y hy => h.nin x (rem_mem.1 hx).1 y (rem_mem.1 hy).1, ?_, h.srt, h.fat, h.fno, ?_, h.nx0, h.ql, h.qd⟩
  · intro q hq x hx
    refine rem_mem.2 ⟨h.sub q hq x hx, fun e => ?_⟩
    obtain ⟨j, hj, e2⟩ := List.getElem_of_mem hq
    have := h.fat j q (by rw [List.getElem?_eq_getElem hj, e2]) x hx
    rw [e, hf] at this; cases this
  · intro y
    rw [rem_mem, rem_mem, h.hm]
    constructor
    · rintro ⟨h1 | h1, h2⟩
      · exact .inl ⟨⟨h1.1, h2⟩, h1.2⟩
      · exact .inr h1
    · rintro (⟨⟨h1, h2⟩, h3⟩ | ⟨j, q, x, r, h1, h2, rfl⟩)
      · exact ⟨.inl ⟨h1, h3⟩, h2⟩
      · exact ⟨.inr ⟨j, q, x, r, h1, h2, rfl⟩, by rw [sgn_id]; omega⟩
/-- put in behind a queue -/
theorem Ok.addA (h : Ok qs s nx hs f) {x : It} (hid : 0 ≤ x.id) (hn : x.n = nx) (hno : ∀ y ∈ s, y.id ≠ x.id) (hl : s.length < 1000000) {j : Nat} {q : Q} (hj : qs[j]? = some q) (hlast : ∀ y ∈ q.l, y.at_ ≤ x.at_) :
    Ok (qs.set j ⟨q.af, q.l ++ [x]⟩) (insI x s) (nx + 1) (shw j (q.l ++ [x]) hs) (putF f x.id j) := by
  have hjl := (List.getElem?_eq_some_iff.1 hj).1
  have hq := List.mem_of_getElem? hj
  have hfx : f x.id = none := h.fno _ fun q hq y hy e => hno y (h.sub q hq y hy) e
  have hmem : ∀ (i : Nat) (q' : Q), (qs.set j ⟨q.af, q.l ++ [x]⟩)[i]? = some q' → (i = j ∧ q' = ⟨q.af, q.l ++ [x]⟩) ∨ (i ≠ j ∧ qs[i]? = some q') := fun i q' hi => by
    by_cases e : j = i
    · subst e; rw [List.getElem?_set_self hjl] at hi; exact .inl ⟨rfl, (Option.some.inj hi).symm⟩
    · rw [List.getElem?_set_ne e] at hi; exact .inr ⟨Ne.symm e, hi⟩
  have hmm : ∀ q' ∈ qs.set j ⟨q.af, q.l ++ [x]⟩, ∃ i : Nat, (qs.set j ⟨q.af, q.l ++ [x]⟩)[i]? = some q' := fun q' hq' => by
    obtain ⟨i, hi, e⟩ := List.getElem_of_mem hq'
    exact ⟨i, by rw [List.getElem?_eq_getElem hi, e]⟩
  refine ⟨hpf_ins h.hF hno hl, ?_, ?_, ?_, ?_, ?_, ?_, ?_, ?_, by have := h.nx0; omega, by rw [List.length_set]; exact h.ql, by rw [set_af hj]; exact h.qd⟩
  · intro y hy; rcases insI_mem.1 hy with rfl | hy
    · exact hid
    · exact h.nn y hy
  · intro y hy; rcases insI_mem.1 hy with rfl | hy
    · omega
    · have := h.nlt y hy; omega
  · intro y hy z hz e
    rcases insI_mem.1 hy with e1 | hy <;> rcases insI_mem.1 hz with e2 | hz
    · rw [e1, e2]
    · have := h.nlt z hz; rw [e1] at e; omega
    · have := h.nlt y hy; rw [e2] at e; omega
    · exact h.nin y hy z hz e
  · intro q' hq' y hy
    obtain ⟨i, hi⟩ := hmm q' hq'
    rcases hmem i q' hi with ⟨_, rfl⟩ | ⟨_, hi⟩
    · rcases List.mem_append.1 hy with hy | hy
      · exact insI_mem.2 (.inr (h.sub q hq y hy))
      · exact insI_mem.2 (.inl (by simpa using hy))
    · exact insI_mem.2 (.inr (h.sub q' (List.mem_of_getElem? hi) y hy))
  · intro q' hq'
    obtain ⟨i, hi⟩ := hmm q' hq'
    rcases hmem i q' hi with ⟨_, rfl⟩ | ⟨_, hi⟩
    · refine List.pairwise_append.2 ⟨h.srt q hq, List.pairwise_singleton _ _, fun y hy z hz => ?_⟩
      obtain rfl : z = x := by simpa using hz
      have h1 := hlast y hy
      have h2 := h.nlt y (h.sub q hq y hy)
      unfold ltI; omega
    · exact h.srt q' (List.mem_of_getElem? hi)
  · intro i q' hi y hy
    show (if _ then _ else _) = _
    rcases hmem i q' hi with ⟨rfl, rfl⟩ | ⟨hne, hi⟩
    · rcases List.mem_append.1 hy with hy | hy
      · rw [if_neg (hno y (h.sub q hq y hy))]; exact h.fat i q hj y hy
      · obtain rfl : y = x := by simpa using hy
        rw [if_pos rfl]
    · rw [if_neg (hno y (h.sub q' (List.mem_of_getElem? hi) y hy))]; exact h.fat i q' hi y hy
  · intro k hk
    show (if _ then _ else _) = _
    have hkx : k ≠ x.id := fun e => hk ⟨q.af, q.l ++ [x]⟩ (List.mem_of_getElem? (List.getElem?_set_self hjl)) x (by simp) e.symm
    rw [if_neg hkx]
    refine h.fno k fun q0 h0 y hy e => ?_
    obtain ⟨i, hi, e2⟩ := List.getElem_of_mem h0
    by_cases e3 : j = i
    · subst e3
      obtain rfl : q0 = q := by rw [List.getElem?_eq_getElem hi, e2] at hj; exact Option.some.inj hj
      exact hk ⟨q0.af, q0.l ++ [x]⟩ (List.mem_of_getElem? (List.getElem?_set_self hjl)) y (by simp [hy]) e
    · exact hk q0 (List.mem_of_getElem? (i := i) (by rw [List.getElem?_set_ne e3, List.getElem?_eq_getElem hi, e2])) y hy e
  · refine h.hm_show hjl (fun y => ?_)
    rw [insI_mem]
    show ((y = x ∨ y ∈ s) ∧ (if _ then _ else _) = none) ↔ _
    by_cases e : y.id = x.id
    · rw [if_pos e]
      constructor
      · rintro ⟨_, h⟩; cases h
      · rintro ⟨h1, _⟩; exact absurd e (hno y h1)
    · rw [if_neg e]
      constructor
      · rintro ⟨rfl | h1, h2⟩
        · exact absurd rfl e
        · exact ⟨h1, h2⟩
      · rintro ⟨h1, h2⟩; exact ⟨.inr h1, h2⟩
/-- put in by itself -/
theorem Ok.addB (h : Ok qs s nx hs f) {x : It} (hid : 0 ≤ x.id) (hn : x.n = nx) (hno : ∀ y ∈ s, y.id ≠ x.id) (hl : s.length < 1000000) : Ok qs (insI x s) (nx + 1) (insI x hs) f := by
  have hfx : f x.id = none := h.fno _ fun q hq y hy e => hno y (h.sub q hq y hy) e
  refine ⟨hpf_ins h.hF hno hl, ?_, ?_, ?_, fun q hq y hy => insI_mem.2 (.inr (h.sub q hq y hy)), h.srt, h.fat, h.fno, ?_, by have := h.nx0; omega, h.ql, h.qd⟩
  · intro y hy; rcases insI_mem.1 hy with rfl | hy
    · exact hid
    · exact h.nn y hy
  · intro y hy; rcases insI_mem.1 hy with rfl | hy
    · omega
    · have := h.nlt y hy; omega
  · intro y hy z hz e
    rcases insI_mem.1 hy with e1 | hy <;> rcases insI_mem.1 hz with e2 | hz
    · rw [e1, e2]
    · have := h.nlt z hz; rw [e1] at e; omega
    · have := h.nlt y hy; rw [e2] at e; omega
    · exact h.nin y hy z hz e
  · intro y
    rw [insI_mem, insI_mem, h.hm]
    constructor
    · rintro (rfl | ⟨h1, h2⟩ | h1)
      · exact .inl ⟨.inl rfl, hfx⟩
      · exact .inl ⟨.inr h1, h2⟩
      · exact .inr h1
    · rintro (⟨rfl | h1, h2⟩ | h1)
      · exact .inl rfl
      · exact .inr (.inl ⟨h1, h2⟩)
      · exact .inr (.inr h1)
/-- a queue more -/
theorem Ok.make (h : Ok qs s nx hs f) {a : Int} (ha : a ∉ qs.map Q.af) (hl : qs.length < 32) : Ok (qs ++ [⟨a, []⟩]) s nx hs f := by
  refine ⟨h.hF, h.nn, h.nlt, h.nin, ?_, ?_, ?_, ?_, ?_, h.nx0, by simp; omega, ?_⟩
  · intro q hq x hx
    rcases List.mem_append.1 hq with hq | hq
    · exact h.sub q hq x hx
    · obtain rfl : q = ⟨a, []⟩ := by simpa using hq
      cases hx
  · intro q hq
    rcases List.mem_append.1 hq with hq | hq
    · exact h.srt q hq
    · obtain rfl : q = ⟨a, []⟩ := by simpa using hq
      exact .nil
  · intro i q hi x hx
    by_cases e : i < qs.length
    · rw [List.getElem?_append_left e] at hi; exact h.fat i q hi x hx
    · rw [List.getElem?_append_right (by omega)] at hi
      have := List.mem_of_getElem? hi
      obtain rfl : q = ⟨a, []⟩ := by simpa using this
      cases hx
  · exact fun k hk => h.fno k fun q hq => hk q (List.mem_append.2 (.inl hq))
  · intro y
    rw [h.hm]
    constructor
    · rintro (h1 | ⟨j, q, x, r, h1, h2⟩)
      · exact .inl h1
      · exact .inr ⟨j, q, x, r, by rw [List.getElem?_append_left (List.getElem?_eq_some_iff.1 h1).1]; exact h1, h2⟩
    · rintro (h1 | ⟨j, q, x, r, h1, h2, h3⟩)
      · exact .inl h1
      · by_cases e : j < qs.length
        · rw [List.getElem?_append_left e] at h1; exact .inr ⟨j, q, x, r, h1, h2, h3⟩
        · rw [List.getElem?_append_right (by omega)] at h1
          have := List.mem_of_getElem? h1
          obtain rfl : q = ⟨a, []⟩ := by simpa using this
          cases h2
  · rw [List.map_append, List.nodup_append]
    refine ⟨h.qd, by simp, fun b hb c hc e => ?_⟩
    obtain rfl : c = a := by simpa using hc
    subst e; exact ha hb
/-- how many stand in the heap -/
def heads (qs : List Q) (i : Nat) : List It := match qs with
  | [] => []
  | q :: t => (match q.l with | [] => [] | x :: _ => [sgn i x]) ++ heads t (i + 1)
theorem heads_mem {y : It} : ∀ {qs : List Q} {i : Nat}, y ∈ heads qs i ↔ ∃ (j : Nat) (q : Q) (x : It) (r : List It), qs[j]? = some q ∧ q.l = x :: r ∧ y = sgn (i + j) x
  | [], i => by simp [heads]
  | q :: t, i => by
    show y ∈ _ ++ heads t (i + 1) ↔ _
    rw [List.mem_append, heads_mem (qs := t) (i := i + 1)]
    constructor
    · rintro (h | ⟨j, q', x, r, h1, h2, h3⟩)
      · cases hq : q.l with
        | nil => rw [hq] at h; cases h
        | cons x r => rw [hq] at h; exact ⟨0, q, x, r, rfl, hq, by simpa using h⟩
      · exact ⟨j + 1, q', x, r, by simpa using h1, h2, by rw [h3]; congr 1; omega⟩
    · rintro ⟨j, q', x, r, h1, h2, h3⟩
      cases j with
      | zero =>
        obtain rfl : q = q' := by simpa using h1
        exact .inl (by rw [h2]; simpa using h3)
      | succ j => exact .inr ⟨j, q', x, r, by simpa using h1, h2, by rw [h3]; congr 1; omega⟩
theorem heads_len : ∀ {qs : List Q} {i : Nat}, (heads qs i).length = (qs.filter fun q => !q.l.isEmpty).length
  | [], _ => rfl
  | q :: t, i => by
    show (_ ++ heads t (i + 1)).length = _
    rw [List.length_append, heads_len, List.filter_cons]
    cases q.l with
    | nil => simp
    | cons x r => simp; omega
theorem heads_nd : ∀ {qs : List Q} {i : Nat}, (heads qs i).Nodup
  | [], _ => .nil
  | q :: t, i => by
    show (_ ++ heads t (i + 1)).Nodup
    rw [List.nodup_append]
    refine ⟨by cases q.l <;> simp, heads_nd, fun a ha b hb e => ?_⟩
    subst e
    obtain ⟨j, q', x, r, _, _, h3⟩ := heads_mem.1 hb
    cases hq : q.l with
    | nil => rw [hq] at ha; cases ha
    | cons z r =>
      rw [hq] at ha
      have ha' : a = sgn i z := by simpa using ha
      have : (sgn i z).id = (sgn (i + 1 + j) x).id := by rw [← ha', h3]
      simp only [sgn_id] at this; omega
def inQ (qs : List Q) (id : Int) : Bool := qs.any fun q => q.l.any fun x => x.id == id
def cnt (qs : List Q) (s : List It) : Nat := (s.filter fun x => !inQ qs x.id).length + (qs.filter fun q => !q.l.isEmpty).length
theorem Ok.f_inQ (h : Ok qs s nx hs f) (id : Int) : (f id).isSome = inQ qs id := by
  unfold inQ
  rw [Bool.eq_iff_iff, List.any_eq_true]
  constructor
  · intro hf
    obtain ⟨j, q, x, hj, hx, e, _⟩ := h.inq hf
    exact ⟨q, List.mem_of_getElem? hj, List.any_eq_true.2 ⟨x, hx, by simp [e]⟩⟩
  · rintro ⟨q, hq, h2⟩
    obtain ⟨x, hx, e⟩ := List.any_eq_true.1 h2
    obtain ⟨j, hj, e2⟩ := List.getElem_of_mem hq
    have e' : x.id = id := by simpa using e
    rw [← e', h.fat j q (by rw [List.getElem?_eq_getElem hj, e2]) x hx]; rfl
theorem Ok.perm (h : Ok qs s nx hs f) (hH : HpF hs) : hs.Perm ((s.filter fun x => !inQ qs x.id) ++ heads qs 0) := by
  have hnd : hs.Nodup := nodup_of_ids hH.nd
  refine (List.perm_ext_iff_of_nodup hnd ?_).2 fun y => ?_
  · rw [List.nodup_append]
    refine ⟨(nodup_of_ids h.hF.nd).sublist List.filter_sublist, heads_nd, fun a ha b hb e => ?_⟩
    subst e
    obtain ⟨j, q, x, r, _, _, h3⟩ := heads_mem.1 hb
    have := h.nn a ((List.mem_filter.1 ha).1)
    rw [h3, sgn_id] at this; omega
  · rw [h.hm, List.mem_append, heads_mem, List.mem_filter]
    have : ∀ id, f id = none ↔ (!inQ qs id) = true := fun id => by
      rw [← h.f_inQ]; cases f id <;> simp
    rw [this]
    simp only [Nat.zero_add]
theorem Ok.len (h : Ok qs s nx hs f) (hH : HpF hs) : hs.length = cnt qs s := by
  rw [(h.perm hH).length_eq, List.length_append, heads_len]; rfl
theorem Ok.len_le (h : Ok qs s nx hs f) (hH : HpF hs) : hs.length ≤ s.length + 32 := by
  rw [h.len hH]; unfold cnt
  have h1 := List.length_filter_le (fun x : It => !inQ qs x.id) s
  have h2 := List.length_filter_le (fun q : Q => !q.l.isEmpty) qs
  have := h.ql
  omega
end
end Cm
end Go.Proofs.Ytdjoofidicoimaa
