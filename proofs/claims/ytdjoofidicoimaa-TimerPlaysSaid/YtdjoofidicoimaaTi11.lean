/-
  The document's timers: a list of numbers, each with its timeout, and its deadline where it is pending; how that list says what timers in plain words say.
-/
import Derived.Test.YtdjoofidicoimaaTi7
namespace Go.Proofs.Ytdjoofidicoimaa
set_option linter.unusedSimpArgs false
set_option linter.unusedVariables false
set_option linter.unnecessarySimpa false
open Go.RX Fx Hp Cm
namespace Tm
set_option maxRecDepth 8000
structure On where
  id : Int
  af : Int
  pn : Bool
  at_ : Int
  n : Int
abbrev encT (x : On) : List Value := [.int .i64 x.id, .int .u64 x.af, .bool x.pn, .int .u64 x.at_, .int .i64 x.n]
theorem encT_one (x : On) : ∀ u ∈ encT x, u.oneCell' = true := by simp [Value.oneCell']
def On.it (x : On) : It := ⟨x.id, x.at_, x.n⟩
def pend (l : List On) : List It := (l.filter On.pn).map On.it
def remO (id : Int) (l : List On) : List On := l.filter fun x => x.id != id
def fO (id : Int) (l : List On) : Option On := l.find? fun x => x.id == id
def offO (x : On) : On := { x with pn := false }
/-- the list says: what is pending, and the timeouts -/
structure RelT (s : List It) (af : AF) (l : List On) : Prop where
  nd : (l.map On.id).Nodup
  af : ∀ k, af k = (fO k l).map On.af
  perm : (pend l).Perm s
theorem RelT.nil : RelT [] (fun _ => none) [] := ⟨.nil, fun _ => rfl, .nil⟩
theorem pend_app (a b : List On) : pend (a ++ b) = pend a ++ pend b := by simp [pend]
theorem pend_mem {l : List On} {y : It} : y ∈ pend l ↔ ∃ x ∈ l, x.pn = true ∧ x.it = y := by
  unfold pend; rw [List.mem_map]
  constructor
  · rintro ⟨x, hx, e⟩; obtain ⟨h1, h2⟩ := List.mem_filter.1 hx; exact ⟨x, h1, h2, e⟩
  · rintro ⟨x, h1, h2, e⟩; exact ⟨x, List.mem_filter.2 ⟨h1, h2⟩, e⟩
theorem pend_one (x : On) : pend [x] = if x.pn then [x.it] else [] := by
  cases h : x.pn <;> simp [pend, h]
theorem remO_no {id : Int} {l : List On} (h : ∀ x ∈ l, x.id ≠ id) : remO id l = l := by unfold remO; exact List.filter_eq_self.2 fun x hx => by simpa using h x hx
theorem remO_mem {id : Int} {l : List On} {y : On} : y ∈ remO id l ↔ y ∈ l ∧ y.id ≠ id := by unfold remO; simp
theorem pend_rem (id : Int) (l : List On) : remI id (pend l) = pend (remO id l) := by
  induction l with
  | nil => rfl
  | cons x l ih =>
    have e1 : pend (x :: l) = pend [x] ++ pend l := pend_app [x] l
    have e2 : remO id (x :: l) = remO id [x] ++ remO id l := by simp [remO, List.filter_cons]; split <;> simp
    rw [e1, e2, pend_app, ← ih]
    unfold remI
    rw [List.filter_append]
    congr 1
    rw [pend_one]
    unfold remO
    by_cases hp : x.pn = true <;> by_cases hi : x.id = id <;> simp [hp, hi, pend, On.it]
theorem splitO {id : Int} : ∀ {l : List On}, id ∈ l.map On.id → ∃ pre x post, l = pre ++ x :: post ∧ x.id = id ∧ ∀ y ∈ pre, y.id ≠ id
  | [], h => by cases h
  | a :: t, h => by
    by_cases e : a.id = id
    · exact ⟨[], a, t, rfl, e, fun y hy => by cases hy⟩
    · have h2 : id ∈ t.map On.id := by
        rcases List.mem_cons.1 h with h | h
        · exact absurd h.symm e
        · exact h
      obtain ⟨pre, x, post, e1, e2, e3⟩ := splitO h2
      refine ⟨a :: pre, x, post, by rw [e1]; rfl, e2, fun y hy => ?_⟩
      rcases List.mem_cons.1 hy with rfl | hy
      · exact e
      · exact e3 y hy
/-- where a number stands -/
structure AtO (id : Int) (l pre : List On) (x : On) (post : List On) : Prop where
  hl : l = pre ++ x :: post
  hid : x.id = id
  hpre : ∀ y ∈ pre, y.id ≠ id
  hpost : ∀ y ∈ post, y.id ≠ id
theorem atO {id : Int} {l : List On} (hnd : (l.map On.id).Nodup) (h : id ∈ l.map On.id) : ∃ pre x post, AtO id l pre x post := by
  obtain ⟨pre, x, post, e, e2, e3⟩ := splitO h
  refine ⟨pre, x, post, e, e2, e3, fun y hy e4 => ?_⟩
  rw [e, List.map_append, List.nodup_append, List.map_cons, List.nodup_cons] at hnd
  exact hnd.2.1.1 (List.mem_map.2 ⟨y, hy, by rw [e4, e2]⟩)
theorem AtO.rem {id : Int} {l pre post : List On} {x : On} (h : AtO id l pre x post) : remO id l = pre ++ post := by
  rw [h.hl]; unfold remO
  rw [List.filter_append, List.filter_cons, if_neg (by simp [h.hid])]
  rw [show pre.filter _ = pre from remO_no h.hpre, show post.filter _ = post from remO_no h.hpost]
theorem AtO.get {id : Int} {l pre post : List On} {x : On} (h : AtO id l pre x post) : l[pre.length]? = some x := by rw [h.hl, List.getElem?_append_right (Nat.le_refl _), Nat.sub_self]; rfl
theorem AtO.set {id : Int} {l pre post : List On} {x : On} (h : AtO id l pre x post) (y : On) : l.set pre.length y = pre ++ y :: post := by rw [h.hl, List.set_append_right _ _ (Nat.le_refl _), Nat.sub_self]; rfl
theorem AtO.ix {id : Int} {l pre post : List On} {x : On} (h : AtO id l pre x post) : idxA id (l.map On.id) 0 = (pre.length : Int) := by
  rw [h.hl, List.map_append, List.map_cons, h.hid, idxA_at (fun q => by
    obtain ⟨y, hy, e⟩ := List.mem_map.1 q
    exact h.hpre y hy e), List.length_map, Nat.zero_add]
theorem fO_no {id : Int} {l : List On} (h : ∀ x ∈ l, x.id ≠ id) : fO id l = none := by unfold fO; exact List.find?_eq_none.2 fun x hx => by simpa using h x hx
theorem fO_app (id : Int) (a b : List On) : fO id (a ++ b) = (fO id a).or (fO id b) := by unfold fO; rw [List.find?_append]
theorem AtO.f {id : Int} {l pre post : List On} {x : On} (h : AtO id l pre x post) : fO id l = some x := by
  rw [h.hl, fO_app, fO_no h.hpre]; unfold fO; simp [h.hid]
theorem AtO.set' {id : Int} {l pre post : List On} {x : On} (h : AtO id l pre x post) {y : On} (hy : y.id = id) : AtO id (pre ++ y :: post) pre y post := ⟨rfl, hy, h.hpre, h.hpost⟩
theorem AtO.f_ne {id k : Int} {l pre post : List On} {x : On} (h : AtO id l pre x post) {y : On} (hy : y.id = id) (hk : k ≠ id) : fO k (pre ++ y :: post) = fO k l := by
  have e : ∀ z : On, z.id = id → fO k (pre ++ z :: post) = (fO k pre).or (fO k post) := fun z hz => by
    rw [fO_app]; congr 1; unfold fO; rw [List.find?_cons_of_neg]; simp [hz, Ne.symm hk]
  rw [h.hl, e y hy, e x h.hid]
theorem AtO.nd {id : Int} {l pre post : List On} {x : On} (h : AtO id l pre x post) {y : On} (hy : y.id = id) : (pre ++ y :: post).map On.id = l.map On.id := by rw [h.hl]; simp [hy, h.hid]
theorem AtO.pend {id : Int} {l pre post : List On} {x : On} (h : AtO id l pre x post) (y : On) : Tm.pend (pre ++ y :: post) = Tm.pend pre ++ (Tm.pend [y] ++ Tm.pend post) := by
  rw [pend_app, show y :: post = [y] ++ post from rfl, pend_app]
theorem noO {id : Int} {l : List On} (h : id ∉ l.map On.id) : ∀ x ∈ l, x.id ≠ id := fun x hx e => h (List.mem_map.2 ⟨x, hx, e⟩)
/-- a number that is there has a timeout -/
theorem RelT.is {s : List It} {af : AF} {l : List On} (h : RelT s af l) (id : Int) : (af id).isSome = decide (idxA id (l.map On.id) 0 ≥ 0) := by
  rw [idxA_mem, h.af]
  by_cases hm : id ∈ l.map On.id
  · obtain ⟨pre, x, post, ha⟩ := atO h.nd hm
    rw [ha.f, decide_eq_true hm]; rfl
  · rw [fO_no (noO hm), decide_eq_false hm]; rfl
/-- put an item in: it is there -/
theorem RelT.putA {s : List It} {af : AF} {l pre post : List On} {x : On} {id : Int} (h : RelT s af l) (ha : AtO id l pre x post) (now a nx : Int) (hid : ¬ id < 0) : RelT (addS s id now a nx) (addF af id a) (l.set pre.length ⟨id, a, true, dl now a, nx⟩) := by
  rw [ha.set]
  refine ⟨by rw [ha.nd rfl]; exact h.nd, fun k => ?_, ?_⟩
  · unfold addF; rw [if_neg hid]
    show (if k = id then _ else _) = _
    split
    · rename_i e; subst e; rw [(ha.set' rfl).f]; rfl
    · rename_i e; rw [ha.f_ne rfl e, h.af]
  · rw [show addS s id now a nx = insI ⟨id, dl now a, nx⟩ (remI id s) by unfold addS; rw [if_neg hid]]
    refine List.Perm.trans ?_ (insI_perm _ _).symm
    rw [ha.pend, pend_one, if_pos rfl]
    have h1 : (remI id (pend l)).Perm (remI id s) := h.perm.filter _
    rw [pend_rem, ha.rem, pend_app] at h1
    refine List.Perm.trans ?_ (h1.cons _)
    exact List.perm_middle
/-- or is not there yet -/
theorem RelT.putB {s : List It} {af : AF} {l : List On} {id : Int} (h : RelT s af l) (hn : id ∉ l.map On.id) (now a nx : Int) (hid : ¬ id < 0) : RelT (addS s id now a nx) (addF af id a) (l ++ [⟨id, a, true, dl now a, nx⟩]) := by
  have hno := noO hn
  refine ⟨?_, fun k => ?_, ?_⟩
  · rw [List.map_append, List.nodup_append]
    refine ⟨h.nd, by simp, fun x hx y hy e => ?_⟩
    obtain rfl : y = id := by simpa using hy
    exact hn (e ▸ hx)
  · unfold addF; rw [if_neg hid, fO_app]
    show (if k = id then _ else _) = _
    split
    · rename_i e; subst e; rw [fO_no hno]; simp [fO]
    · rename_i e; rw [h.af]; have : fO k [(⟨id, a, true, dl now a, nx⟩ : On)] = none := fO_no (by simp; exact Ne.symm e)
      rw [this, Option.or_none]
  · rw [show addS s id now a nx = insI ⟨id, dl now a, nx⟩ (remI id s) by unfold addS; rw [if_neg hid]]
    refine List.Perm.trans ?_ (insI_perm _ _).symm
    have h1 : (remI id (pend l)).Perm (remI id s) := h.perm.filter _
    rw [pend_rem, remO_no hno] at h1
    rw [pend_app, pend_one, if_pos rfl]
    exact (List.perm_append_singleton _ _).trans (h1.cons _)
/-- its deadline is taken away -/
theorem RelT.cutA {s : List It} {af : AF} {l pre post : List On} {x : On} {id : Int} (h : RelT s af l) (ha : AtO id l pre x post) : RelT (remI id s) af (l.set pre.length (offO x)) := by
  rw [ha.set]
  have hx : (offO x).id = id := ha.hid
  refine ⟨by rw [ha.nd hx]; exact h.nd, fun k => ?_, ?_⟩
  · by_cases e : k = id
    · subst e; rw [(ha.set' hx).f, h.af, ha.f]; rfl
    · rw [ha.f_ne hx e, h.af]
  · rw [ha.pend, pend_one, if_neg (by simp [offO])]
    have h1 : (remI id (pend l)).Perm (remI id s) := h.perm.filter _
    rw [pend_rem, ha.rem, pend_app] at h1
    exact h1
theorem RelT.cutB {s : List It} {af : AF} {l : List On} {id : Int} (h : RelT s af l) (hn : ∀ x ∈ l, x.pn = true → x.id ≠ id) : remI id s = s ∧ findI id s = none := by
  have : ∀ y ∈ s, y.id ≠ id := fun y hy => by
    obtain ⟨x, hx, hp, rfl⟩ := pend_mem.1 (h.perm.mem_iff.2 hy)
    exact hn x hx hp
  exact ⟨(findI_none this).2, (findI_none this).1⟩
theorem AtO.off {id : Int} {l pre post : List On} {x : On} (h : AtO id l pre x post) (hp : ¬ x.pn = true) : ∀ y ∈ l, y.pn = true → y.id ≠ id := fun y hy hyp => by
  rw [h.hl] at hy
  rcases List.mem_append.1 hy with hy | hy
  · exact h.hpre y hy
  · rcases List.mem_cons.1 hy with rfl | hy
    · exact absurd hyp hp
    · exact h.hpost y hy
theorem AtO.mem {id : Int} {l pre post : List On} {x : On} (h : AtO id l pre x post) : x ∈ l := by rw [h.hl]; simp
theorem RelT.on {s : List It} {af : AF} {l pre post : List On} {x : On} {id : Int} (h : RelT s af l) (ha : AtO id l pre x post) (hp : x.pn = true) (hnd : (s.map It.id).Nodup) : findI id s = some x.it :=
  (findI_some hnd (h.perm.mem_iff.1 (pend_mem.2 ⟨x, ha.mem, hp, rfl⟩)) ha.hid).1
/-- forgotten -/
theorem RelT.del {s : List It} {af : AF} {l : List On} (h : RelT s af l) (id : Int) : RelT (remI id s) (delA af id) (remO id l) := by
  refine ⟨h.nd.sublist (List.Sublist.map _ List.filter_sublist), fun k => ?_, ?_⟩
  · unfold delA; split
    · rename_i e; subst e; rw [fO_no fun x hx => (remO_mem.1 hx).2]; rfl
    · rename_i e
      rw [h.af]; congr 1
      unfold fO remO; rw [List.find?_filter]
      congr 1; funext x
      by_cases e2 : x.id = k
      · simp [e2, e]
      · simp [e2]
  · have h1 : (remI id (pend l)).Perm (remI id s) := h.perm.filter _
    rwa [pend_rem] at h1
/-- the list's own count -/
theorem RelT.len {s : List It} {af : AF} {l : List On} (h : RelT s af l) : (l.filter On.pn).length = s.length := by
  have := h.perm.length_eq
  unfold pend at this; rwa [List.length_map] at this
/-- what is due -/
def dueO (now : Int) (x : On) : Bool := x.pn && decide (x.at_ ≤ now) && decide (x.at_ ≠ NV)
def befO (x y : On) : Prop := x.at_ < y.at_ ∨ (x.at_ = y.at_ ∧ x.n < y.n)
/-- the first one of those that are due: its place; -1: none is -/
def FSd (now : Int) (l : List On) (a : Int) : Prop :=
  (a = -1 ∧ ∀ x ∈ l, dueO now x = false) ∨ ∃ (j : Nat) (x : On), a = (j : Int) ∧ l[j]? = some x ∧ dueO now x = true ∧ ∀ y ∈ l, dueO now y = true → ¬ befO y x
theorem lt_of_app {α : Type} {l : List α} {i j : Nat} {x : α} (h : (l.take i)[j]? = some x) : l[j]? = some x := by
  have hj := (List.getElem?_eq_some_iff.1 h).1
  rw [List.length_take] at hj
  rwa [List.getElem?_take_of_lt (by omega)] at h
theorem first_due {s : List It} {af : AF} {l : List On} (h : RelT s af l) {now : Int} (hF : HpF s) (hA : AtOk s) (hnin : ∀ x ∈ s, ∀ y ∈ s, x.n = y.n → x = y) {a : Int} (ho : FSd now l a) :
    (a = -1 ∧ du now s = []) ∨ ∃ (j : Nat) (x : On) (r : List It), a = (j : Int) ∧ l[j]? = some x ∧ x.pn = true ∧ s = x.it :: r ∧ du now s = x.it :: du now r := by
  have hdu : ∀ y ∈ s, (y.at_ ≤ min now 18446744073709551614 ↔ y.at_ ≤ now ∧ y.at_ ≠ NV ∧ y.at_ ≤ NV) := fun y hy => by
    show _ ↔ _ ∧ y.at_ ≠ 18446744073709551615 ∧ y.at_ ≤ 18446744073709551615; omega
  rcases ho with ⟨rfl, ho⟩ | ⟨j, x, rfl, hj, hx, hall⟩
  · left; refine ⟨rfl, ?_⟩
    cases hs : s with
    | nil => rfl
    | cons y r =>
      have hy : y ∈ s := by rw [hs]; exact List.mem_cons_self
      obtain ⟨x, hx, hp, rfl⟩ := pend_mem.1 (h.perm.mem_iff.2 hy)
      have := ho x hx
      unfold dueO at this
      rw [hp, Bool.true_and, Bool.and_eq_false_iff, decide_eq_false_iff_not, decide_eq_false_iff_not] at this
      show dueI _ _ = []
      unfold dueI
      rw [List.takeWhile_cons, if_neg]
      rw [decide_eq_true_eq, hdu _ hy]
      intro q
      rcases this with h1 | h1
      · exact h1 q.1
      · exact h1 q.2.1
  · right
    unfold dueO at hx
    rw [Bool.and_eq_true, Bool.and_eq_true, decide_eq_true_eq, decide_eq_true_eq] at hx
    have hxs : x.it ∈ s := h.perm.mem_iff.1 (pend_mem.2 ⟨x, List.mem_of_getElem? hj, hx.1.1, rfl⟩)
    cases hs : s with
    | nil => rw [hs] at hxs; cases hxs
    | cons y r =>
      have hy : y ∈ s := by rw [hs]; exact List.mem_cons_self
      obtain ⟨z, hz, hzp, hzy⟩ := pend_mem.1 (h.perm.mem_iff.2 hy)
      have hyx : y = x.it := by
        refine Decidable.byContradiction fun hne => ?_
        have hlt : ltI y x.it := by
          have hsr := hF.srt
          rw [hs] at hsr hxs
          rcases List.mem_cons.1 hxs with e | hm
          · exact absurd e.symm hne
          · exact (List.pairwise_cons.1 hsr).1 _ hm
        have hnn : y.n ≠ x.it.n := fun e => hne (hnin y hy x.it hxs e)
        have hb : befO z x := by
          rw [← hzy] at hlt hnn
          unfold ltI at hlt; unfold befO
          simp only [On.it] at hlt hnn; omega
        refine hall z hz ?_ hb
        unfold dueO
        rw [hzp, Bool.true_and, Bool.and_eq_true, decide_eq_true_eq, decide_eq_true_eq]
        have h1 := hx.1.2
        have h2 := hx.2
        unfold befO at hb
        refine ⟨by omega, fun e => ?_⟩
        have h3 := hA _ hxs
        simp only [On.it, InK] at h3
        have h4 : x.at_ ≠ 18446744073709551615 := h2
        have h5 : z.at_ = 18446744073709551615 := e
        omega
      subst hyx
      refine ⟨j, x, r, rfl, hj, hx.1.1, rfl, ?_⟩
      show dueI _ _ = _
      unfold dueI
      rw [List.takeWhile_cons, if_pos]
      · rfl
      · have h1 := hx.1.2
        have h2 : x.at_ ≠ 18446744073709551615 := hx.2
        have h3 := hA _ hxs
        simp only [On.it, InK] at h3
        rw [decide_eq_true_eq]
        show x.at_ ≤ _
        omega
theorem take_succ {l : List On} {i : Nat} {x : On} (h : l[i]? = some x) : l.take (i + 1) = l.take i ++ [x] := by rw [List.take_add_one, h]; rfl
theorem FSd.skip {now a : Int} {l : List On} {i : Nat} {x : On} (h : FSd now (l.take i) a) (hi : l[i]? = some x) (hx : dueO now x = false) : FSd now (l.take (i + 1)) a := by
  rw [take_succ hi]
  rcases h with ⟨e, h⟩ | ⟨j, y, e, hj, hy, h⟩
  · refine .inl ⟨e, fun z hz => ?_⟩
    rcases List.mem_append.1 hz with hz | hz
    · exact h z hz
    · obtain rfl : z = x := by simpa using hz
      exact hx
  · refine .inr ⟨j, y, e, ?_, hy, fun z hz hd => ?_⟩
    · rw [List.getElem?_append_left (List.getElem?_eq_some_iff.1 hj).1]; exact hj
    · rcases List.mem_append.1 hz with hz | hz
      · exact h z hz hd
      · obtain rfl : z = x := by simpa using hz
        rw [hx] at hd; cases hd
theorem FSd.put {now a : Int} {l : List On} {i : Nat} {x : On} (h : FSd now (l.take i) a) (hi : l[i]? = some x) (hx : dueO now x = true) (hb : a < 0 ∨ ∃ (k : Nat) (y : On), a = (k : Int) ∧ l[k]? = some y ∧ befO x y) : FSd now (l.take (i + 1)) (i : Int) := by
  have hil := (List.getElem?_eq_some_iff.1 hi).1
  rw [take_succ hi]
  refine .inr ⟨i, x, rfl, ?_, hx, fun z hz hd => ?_⟩
  · have e : (l.take i).length = i := by rw [List.length_take]; omega
    rw [List.getElem?_append_right (by omega), e, Nat.sub_self]; rfl
  · rcases List.mem_append.1 hz with hz | hz
    · rcases h with ⟨e, h⟩ | ⟨j, y, e, hj, hy, h⟩
      · rw [h z hz] at hd; cases hd
      · rcases hb with hb | ⟨k, y', e', hk, hb⟩
        · omega
        · obtain rfl : j = k := by omega
          rw [lt_of_app hj] at hk
          obtain rfl := Option.some.inj hk
          have := h z hz hd
          unfold befO at *; omega
    · obtain rfl : z = x := by simpa using hz
      unfold befO; omega
theorem FSd.keep {now a : Int} {l : List On} {i : Nat} {x : On} (h : FSd now (l.take i) a) (hi : l[i]? = some x) (h0 : ¬ a < 0) (hb : ∀ (k : Nat) (y : On), a = (k : Int) → l[k]? = some y → ¬ befO x y) : FSd now (l.take (i + 1)) a := by
  rw [take_succ hi]
  rcases h with ⟨e, h⟩ | ⟨j, y, e, hj, hy, h⟩
  · omega
  · refine .inr ⟨j, y, e, ?_, hy, fun z hz hd => ?_⟩
    · rw [List.getElem?_append_left (List.getElem?_eq_some_iff.1 hj).1]; exact hj
    · rcases List.mem_append.1 hz with hz | hz
      · exact h z hz hd
      · obtain rfl : z = x := by simpa using hz
        exact hb j y e (lt_of_app hj)
theorem FSd.at {now a : Int} {l : List On} (h : FSd now l a) : ∃ (k : Nat) (y : On), ¬ a < 0 → a = (k : Int) ∧ k < l.length ∧ l[k]? = some y := by
  rcases h with ⟨e, h⟩ | ⟨j, y, e, hj, hy, h⟩
  · exact ⟨0, ⟨0, 0, false, 0, 0⟩, fun h => by omega⟩
  · exact ⟨j, y, fun _ => ⟨e, (List.getElem?_eq_some_iff.1 hj).1, hj⟩⟩
theorem flat_setT : ∀ {V : List On} {i : Nat} {x : On}, i < V.length → (V.flatMap encT).take (i * 5) ++ encT x ++ (V.flatMap encT).drop (i * 5 + 5) = (V.set i x).flatMap encT
  | [], i, x, h => by simp at h
  | y :: V, 0, x, _ => by simp
  | y :: V, i + 1, x, h => by
    have ih := flat_setT (V := V) (i := i) (x := x) (by simpa using h)
    rw [List.set_cons_succ, List.flatMap_cons, List.flatMap_cons, ← ih, show (i + 1) * 5 = i * 5 + 5 by omega]
    simp [List.take_append, List.drop_append]
def gO (V : List On) (j : Nat) : On := V.getD j ⟨0, 0, false, 0, 0⟩
theorem gO_at {V : List On} {j : Nat} (h : j < V.length) : V[j]? = some (gO V j) := by
  unfold gO; rw [List.getD_eq_getElem?_getD, List.getElem?_eq_getElem h]; rfl
theorem flat_lenT (V : List On) : (V.flatMap encT).length = V.length * 5 := by
  induction V with
  | nil => rfl
  | cons v V ih => rw [List.flatMap_cons, List.length_append, ih]; simp; omega
theorem lf_mono {now a b : Int} (h : a ≤ b) (hn : 0 ≤ now) (ha : InK .u64 a) (hb : InK .u64 b) : lf now a ≤ lf now b := by
  simp only [InK] at ha hb
  have e : ∀ d, lf now d = if d = 18446744073709551615 then 18446744073709551615 else if d ≤ now then 0 else d - now := fun d => rfl
  rw [e, e]
  repeat' split
  all_goals omega
end Tm
end Go.Proofs.Ytdjoofidicoimaa
