/-
  Regions that draw their order, where some moves may come late: these are taken first; then what reads, then a chain. No program is named here. Iterators: a range over a function, its rounds, the call of yield; a function that holds one, out of its body's walk. No program is named here. Parts of slices, bytes and strings, made slices, over Rx1's judgement. No program is named here. The two searches (a predicate in a list, a list in a list) as default arguments, so that a text need not spell them out. No program is named here. Regions that draw their order, in which some operations read what the others leave alone: these are taken ahead. No program is named here. Cells of a block from a place on, told from a place ahead of it (fields of a struct that stands within another one). No program is named here. A list of parts of one kind, of which one is taken out and laid back; rows of equal length in one slice. No program is named here. Short forms of what the walks write most, so that a claim is small (tools/bundle.py writes them in). No program is named here. From a contract that answers true and leaves the old memory alone to the law's row. No program is named here. Arguments opened, whatever their shape (numbers, bools, strings, structs, slices, one in the other): a Lean value, its cells, and what can be read of the old memory. No program is named here. Maps whose keys are integers, over Rx1's judgement. No program is named here. Ranges over maps whose keys are integers. No program is named here.
-/
import Derived.OrdersIn
import Derived.ControlIn
import Derived.Scope
import Derived.RangeFuncLeaves
import Derived.RangeFuncRecord
import Derived.Lib.ConvBytes
import Derived.Lib.AppendZerosOnto
import Derived.Laws.BytesString
import Derived.Laws.IdiomStrings
import Derived.Laws.MakeOwn
import Derived.ProofKit
import Derived.Carry
import Derived.Deep.Slices
import Derived.DataElems
import Derived.MapKept
import Derived.Maps.RangeRun
import Derived.Test.YtbfddabjbkohdaaGreatZEplTracesA
namespace Go.RX
set_option linter.unusedSimpArgs false
set_option linter.unusedVariables false
set_option linter.unnecessarySimpa false
section
variable {E : World} {n : Nat} {ds : List Deferred} {st st' : List (Nat × Value)} {L L' : List SP} {r : Option Nat} {P : Program} {Q : Exit → Act → World → Prop} {ops : Array Oper} {rest : List Oper}
variable {d : Nat} {ty t t2 : TypeId} {pos : String} {af : Array Edge} {g : Option (Nat × Bool)} {x y z : Operand} {v u : Value} {k : IntKind} {p q : Bool}
section scope
variable {b : Frame} {a : Act} {k : List Item} {cs : List Frame} {w : World} {F : Fence} {m : Nat}
theorem stepR_scope {c : Code} : step P (lone (b.atR a (.code (.scope c) :: k)) cs w) = .next (lone (b.atR a (.code c :: .inScope c :: k)) cs w) :=
  step_lone_go (by simp [stepG, stepG.exec, Frame.atR])
theorem stepR_inScope {c : Code} : step P (lone (b.atR a (.inScope c :: k)) cs w) = .next (lone (b.atR a k) cs w) :=
  step_lone_go (by simp [stepG, stepG.exec, Frame.atR])
theorem wpIn_scope {c : Code} (h : c.wpIn F m P (Exit.noGoto Q) a w) : (Code.scope c).wpIn F m P Q a w := by
  intro b k cs hro hb hr
  have h0 : (lone (b.atR a (.code (.scope c) :: k)) cs w).fenced P F := fenced_calm hb hr rfl
  obtain ⟨e, a₁, w₁, hq, harr⟩ := h b (.inScope c :: k) cs hro hb hr
  cases e with
  | normal => exact ⟨.normal, a₁, w₁, hq, .head h0 stepR_scope (StepsIn.trans harr (.one (fenced_calm hb hr rfl) stepR_inScope))⟩
  | exit id =>
    have hx : exitTo id (.inScope c :: k) = exitTo id k := by simp [exitTo]
    exact ⟨.exit id, a₁, w₁, hq, fun k' hk => .head h0 stepR_scope (harr.1 k' (by rw [hx]; exact hk)),
      fun hr' hk => let ⟨k₁, h1, h2⟩ := harr.2 hr' (by rw [hx]; exact hk); ⟨k₁, h1, .head h0 stepR_scope h2⟩⟩
  | goto l => exact hq.elim
  | ret => exact ⟨_, a₁, w₁, hq, .of_steps (.one h0 stepR_scope) harr⟩
  | panic ch => exact ⟨_, a₁, w₁, hq, .of_steps (.one h0 stepR_scope) harr⟩
  | outgrown => exact ⟨_, a₁, w₁, hq, .of_steps (.one h0 stepR_scope) harr⟩
end scope
theorem Hd.scope {c : Code} (h : Hd E n ds st L (CW r P c (Exit.noGoto Q))) : Hd E n ds st L (CW r P (.scope c) Q) := fun a w f s => wpIn_scope (h a w f s)
theorem Hd.scNorm (h : Hd E n ds st L (Q .normal)) : Hd E n ds st L ((Exit.noGoto Q) .normal) := h
theorem Hd.scRet (h : Hd E n ds st L (Q .ret)) : Hd E n ds st L ((Exit.noGoto Q) .ret) := h
def noP (Q : Exit → Act → World → Prop) : Exit → Act → World → Prop
  | .panic _, _, _ => False
  | e, a, w => Q e a w
abbrev AW (P : Program) (ops : Array Oper) (Q : Exit → Act → World → Prop) (f : Nat) (listed : Array Bool) : Act → World → Prop := wpAnyIn (FW none) 0 P .any ops (noP Q) f listed
theorem Hd.noPn (h : Hd E n ds st L (Q .normal)) : Hd E n ds st L ((noP Q) .normal) := h
theorem Hd.draws {id : Nat} {l : List Oper} (hm : P.follows .mixedOrders = true) (h : Hd E n ds st L (AW P l.toArray Q l.length (Array.replicate l.length false))) :
    Hd E n ds st L (CW none P (.region id l.toArray true) Q) := fun a w f s => by
  refine Go.wpIn_mono (wpIn_region_any (F := FW none) (Q := noP Q) hm ?_) ?_
  · have := h a _ f s.draw
    simpa using this
  · intro e a' w' hq
    cases e <;> first | exact hq | exact hq.elim
theorem Hd.take (i : Nat) {op : Op} {f : Nat} {listed : Array Bool} (hi : ops[i]? = some ⟨some d, op, ty, pos, af, none⟩) (hs : Region.noSelect ops = true) (hf : Region.free .any ops listed i = true)
    (hr : (Region.ready .any ops listed).contains i = true) (hx : ∀ E, Yv E n ds st [] P ⟨some d, op, ty, pos, af, none⟩ v) (hab : ∀ (a : Act) w, (⟨some d, op, ty, pos, af, none⟩ : Oper).about P w a.eval = none) (K : Hd E n ds ((d, v) :: st) L (AW P ops Q f (listed.setIfInBounds i true))) (hd : d < n := by decide) :
    Hd E n ds st L (AW P ops Q (f + 1) listed) := fun a w fr s => by
  refine wpAnyIn_take rfl hi hs hf hr (fun _ _ _ h => h.elim) ?_ (K _ w (fr.put hd v) s)
  exact ⟨.inl ⟨by simp [Region.wanted], fun w => hx w a w fr ⟨⟨rfl, Nat.le_refl _⟩, rfl, rfl, trivial⟩⟩, fun w => hab a w⟩
theorem Hd.only (i : Nat) {o : Oper} {f : Nat} {listed : Array Bool} (hi : ops[i]? = some o) (hr : Region.ready .any ops listed = [i])
    (h : Hd E n ds st L (LW none P ops (Exit.then (AW P ops Q f (listed.setIfInBounds i true)) (noP Q)) [o])) : Hd E n ds st L (AW P ops Q (f + 1) listed) := fun a w fr s => by
  have h1 := h a w fr s
  refine ⟨fun h0 => (by rw [hr] at h0; cases h0), fun j hj => ?_⟩
  rw [hr] at hj
  obtain rfl : j = i := by simpa using hj
  have h2 : wpListIn (FW none) 0 P ops (Exit.then (AW P ops Q f (listed.setIfInBounds j true)) (noP Q)) [o] a w := h1
  unfold wpOpIn
  simp only [hi]
  unfold wpListIn at h2
  by_cases hw : Region.wanted o (yielded ops a.tmps) = true
  · rw [if_pos hw] at h2 ⊢
    refine ⟨h2.1, ?_⟩
    have h3 := h2.2
    unfold Oper.uponIn at h3 ⊢
    split at h3
    · exact h3
    · exact h3
    · exact h3
    · obtain ⟨hn, hc⟩ := h3
      refine ⟨hn, hc.mono fun e w' he => ?_⟩
      cases e with
      | returned v => exact he
      | panicked ch => exact he.elim
      | outgrown => exact he
    · exact h3
    · obtain ⟨hn, hc⟩ := h3
      refine ⟨hn, RoundIn.mono hc fun e w' he => ?_⟩
      cases e with
      | returned v => exact he
      | panicked ch => exact he.elim
      | outgrown => exact he
    · exact h3.elim
    · exact h3.elim
  · rw [if_neg hw] at h2 ⊢
    exact h2
theorem Hq.unguard {Kq : Act → Prop} {dst : Option Nat} {op : Op} {i gd : Nat} (hi : (ops[i]?).bind (·.dst) = some gd) (hv : look st gd = some (.bool p)) (K : Hq n ds st (QW P ops (Sat E L) Kq (⟨dst, op, ty, pos, af, none⟩ :: rest))) :
    Hq n ds st (QW P ops (Sat E L) Kq (⟨dst, op, ty, pos, af, some (i, p)⟩ :: rest)) := fun a f => by
  have h := K a f
  have h' : wpQuiet P ops (Sat E L) Kq (⟨dst, op, ty, pos, af, none⟩ :: rest) a := h
  show wpQuiet _ _ _ _ _ _
  unfold wpQuiet at h' ⊢
  rw [if_pos (by simp [Region.wanted])] at h'
  rw [if_pos (by simp [Region.wanted, yielded_of hi f hv])]
  exact h'
theorem Hd.quietAt {l : List Oper} {f : Nat} {listed : Array Bool} (k : Nat) (hB : (Region.noSelect l.toArray && Region.lexFrom .any l.toArray (l.length - k) k listed) = true) (hf : f = l.length - k)
    (h : Hq n ds st (QW P l.toArray (Sat E L) (fun a' => ∀ w', Sat E L w' → Q .normal a' w') (l.drop k))) : Hd E n ds st L (AW P l.toArray Q f listed) := fun a w fr s => by
  simp only [Bool.and_eq_true] at hB
  have hl : (l.drop k).length = l.length - k := by simp
  refine wpAnyIn_of_quiet (r := none) (C := Sat E L) (Q := fun a' => ∀ w', Sat E L w' → Q .normal a' w') (Q' := noP Q) (fun _ w' hw' h => h w' hw') f listed a w s ?_
  have := wpAnyQ_lex (P := P) (ops := l.toArray) (C := Sat E L) (md := .any) hB.1 (l.drop k) k listed a (fun j => by simp [List.getElem?_drop]) (by rw [hl]; exact hB.2) (h a fr)
  rw [hl] at this
  rw [hf]; exact this
structure HeadAt (md : Region.Mode) (ops : Array Oper) (m : Nat) (js : List Nat) (listed : Array Bool) : Prop where
  size : listed.size = ops.size
  closed : ∀ j oj, ops[j]? = some oj → listed.getD j false = true → ∀ e ∈ oj.after, Region.binds md e = true → listed.getD e.on false = true
  tail : ∀ t, m ≤ t → t < ops.size → listed.getD t true = true ∨ (t ∈ js ∧ listed.getD t true = false)
  js : ∀ t ∈ js, m ≤ t ∧ t < ops.size ∧ listed.getD t true = false
  sink : ∀ i, i < m → listed.getD i true = false → ((List.range (m + 1)).any fun j => decide (i < j) && Region.waitsFor md ops j i) = true
theorem HeadAt.set {md : Region.Mode} {m i : Nat} {js : List Nat} {listed : Array Bool} (h : HeadAt md ops m js listed) (hi : i ∈ Region.ready md ops listed) (him : i < m) : HeadAt md ops m js (listed.setIfInBounds i true) := by
  obtain ⟨hun, oi, hoi, hall⟩ := mem_ready.1 hi
  refine ⟨by simp [h.size], fun j oj hj hl e he hb => ?_, fun t ht ht' => by rw [getD_set_ne true (by omega)]; exact h.tail t ht ht', fun t ht => ?_, fun j hj hu => h.sink j hj (by
    by_cases hij : i = j
    · subst hij; exact hun
    · rw [getD_set_ne true hij] at hu; exact hu)⟩
  · by_cases hij : i = j
    · subst hij
      have : oj = oi := Option.some.inj (hj.symm.trans hoi)
      subst this
      exact getD_set_true (hall e he hb)
    · rw [getD_set_ne false hij] at hl
      exact getD_set_true (h.closed j oj hj hl e he hb)
  · have := h.js t ht
    exact ⟨this.1, this.2.1, by rw [getD_set_ne true (by omega)]; exact this.2.2⟩
def chainJ (md : Region.Mode) (ops : Array Oper) : List Nat → Bool
  | a :: b :: js => Region.waitsFor md ops b a && chainJ md ops (b :: js)
  | _ => true
theorem chainJ_pred {md : Region.Mode} : ∀ {js : List Nat} {t : Nat}, chainJ md ops js = true → t ∈ js → js.head? = some t ∨ ∃ s ∈ js, Region.waitsFor md ops t s = true
  | [], _, _, h => by cases h
  | [a], t, _, h => by left; simp at h; subst h; rfl
  | a :: b :: js, t, hc, h => by
    simp only [chainJ, Bool.and_eq_true] at hc
    rcases List.mem_cons.1 h with rfl | h
    · exact .inl rfl
    · right
      rcases chainJ_pred hc.2 h with h2 | ⟨s, hs, h2⟩
      · simp at h2; subst h2; exact ⟨a, by simp, hc.1⟩
      · exact ⟨s, List.mem_cons_of_mem _ hs, h2⟩
theorem tail_waitsAt {md : Region.Mode} {m : Nat} {js : List Nat} {listed : Array Bool} (hc : chainJ md ops js = true) (h0 : js.head? = some m) (H : HeadAt md ops m js listed) :
    ∀ (d i : Nat), m - i = d → i < m → listed.getD i true = false → ∀ t, m ≤ t → t ∉ Region.ready md ops listed := by
  intro d
  induction d using Nat.strongRecOn with
  | _ d ih =>
    intro i hd hi hun t ht hr
    obtain ⟨hut, ot, hot, hall⟩ := mem_ready.1 hr
    have htlt : t < ops.size := (Array.getElem?_eq_some_iff.1 hot).1
    have htj : t ∈ js := by
      rcases H.tail t ht htlt with h | h
      · rw [h] at hut; cases hut
      · exact h.1
    rcases chainJ_pred hc htj with hh | ⟨s, hs, hw⟩
    · rw [h0] at hh
      obtain rfl : m = t := by simpa using hh
      obtain ⟨j, hj, hj2⟩ := List.any_eq_true.1 (H.sink i hi hun)
      simp only [Bool.and_eq_true, decide_eq_true_eq] at hj2
      obtain ⟨oj, hoj, e, he, hb, hon⟩ := Region.waitsFor_spec hj2.2
      have hjle : j ≤ m := by have := List.mem_range.1 hj; omega
      by_cases hjt : j = m
      · subst hjt
        have : oj = ot := Option.some.inj (hoj.symm.trans hot)
        subst this
        have h2 := hall e he hb
        rw [hon, getD_both hun] at h2
        cases h2
      · cases hl : listed.getD j false with
        | true =>
          have h2 := H.closed j oj hoj hl e he hb
          rw [hon, getD_both hun] at h2
          cases h2
        | false =>
          have hjs : j < listed.size := by rw [H.size]; omega
          exact ih (m - j) (by omega) j rfl (by omega) (getD_in hjs hl) m (Nat.le_refl _) hr
    · obtain ⟨o', ho', e, he, hb, hon⟩ := Region.waitsFor_spec hw
      have : o' = ot := Option.some.inj (ho'.symm.trans hot)
      subst this
      have h2 := hall e he hb
      rw [hon, getD_both (H.js s hs).2.2] at h2
      cases h2
theorem wpAnyL_firstAt {md : Region.Mode} {w : World} {m i : Nat} {js : List Nat} {oi : Oper} {v : Value} {LL : Array Bool → Act → Prop} (hi : ops[i]? = some oi) (hsel : ∀ (j : Nat) (o : Oper) cs b, ops[j]? = some o → o.op ≠ .select cs b)
    (hc : chainJ md ops js = true) (h0 : js.head? = some m) (him : i < m)
    (hdone : ∀ listed a, LL listed a → ∀ j ∈ Region.ready md ops listed, m ≤ j) :
    ∀ (f : Nat) (listed : Array Bool) (a : Act), HeadAt md ops m js listed →
      (∀ j oj, ops[j]? = some oj → j ≠ i → listed.getD j true = false → (∀ e ∈ oj.after, Region.binds md e = true → e.on ≠ i) → oi.apart ops oj = true) →
      i ∈ Region.ready md ops listed → YieldsAt P ops w oi v a →
      wpAnyL P md ops w m LL f (listed.setIfInBounds i true) (a.put oi.dst v) → wpAnyL P md ops w m LL (f + 1) listed a := by
  intro f
  induction f with
  | zero =>
    intro listed a inv _ hr hy H
    have hun := (mem_ready.1 hr).1
    refine ⟨fun h => (by rw [h] at hr; cases hr), fun j hj => ?_⟩
    have hjn : j < m := by
      rcases Nat.lt_or_ge j m with h | h
      · exact h
      · exact absurd hj (tail_waitsAt hc h0 inv _ i rfl him hun j h)
    refine ⟨hjn, ?_⟩
    by_cases hji : j = i
    · subst hji; exact hy.stOp hi H
    · have := hdone _ _ H j (ready_mono hj hji)
      omega
  | succ f ih =>
    intro listed a inv hfree hr hy H
    have hun := (mem_ready.1 hr).1
    refine ⟨fun h => (by rw [h] at hr; cases hr), fun j hj => ?_⟩
    have hjn : j < m := by
      rcases Nat.lt_or_ge j m with h | h
      · exact h
      · exact absurd hj (tail_waitsAt hc h0 inv _ i rfl him hun j h)
    refine ⟨hjn, ?_⟩
    by_cases hji : j = i
    · subst hji; exact hy.stOp hi H
    · have h1 := (H.2 j (ready_mono hj hji)).2
      obtain ⟨hjun, oj, hoj, hall⟩ := mem_ready.1 hj
      have hnot : ∀ e ∈ oj.after, Region.binds md e = true → e.on ≠ i := fun e he hb heq => by
        have h1 := hall e he hb
        rw [heq, getD_both hun] at h1
        cases h1
      have h2 := stOp_put hoj (hfree j oj hoj hji hjun hnot) (fun cs b => hsel i oi cs b hi) (fun cs b => hsel j oj cs b hoj) hy h1
      have hfree' : ∀ k ok, ops[k]? = some ok → k ≠ i → (listed.setIfInBounds j true).getD k true = false →
          (∀ e ∈ ok.after, Region.binds md e = true → e.on ≠ i) → oi.apart ops ok = true := fun k ok hk hki hun hno => by
        refine hfree k ok hk hki ?_ hno
        by_cases hjk : j = k
        · subst hjk; exact hjun
        · rw [getD_set_ne true hjk] at hun; exact hun
      refine stOp_mono (fun a' h3 => ih (listed.setIfInBounds j true) a' (inv.set hj hjn) hfree' (ready_mono hr (Ne.symm hji)) h3.1 ?_) h2
      rw [Array.setIfInBounds_comm _ _ hji]
      exact h3.2
def seqJ (md : Region.Mode) (ops : Array Oper) : List Nat → Array Bool → Bool
  | [], listed => (Region.ready md ops listed).isEmpty
  | j :: js, listed => decide (Region.ready md ops listed = [j]) && seqJ md ops js (listed.setIfInBounds j true)
def lexAt (md : Region.Mode) (ops : Array Oper) (m : Nat) (js : List Nat) : List Nat → Array Bool → Bool
  | [], listed => seqJ md ops js listed
  | i :: is, listed => decide (i < m) && (Region.ready md ops listed).contains i && Region.free md ops listed i && lexAt md ops m js is (listed.setIfInBounds i true)
theorem seqJ_ready {md : Region.Mode} {js : List Nat} {m : Nat} {listed : Array Bool} (hj : js.head? = some m) (h : seqJ md ops js listed = true) : ∀ j ∈ Region.ready md ops listed, m ≤ j := by
  cases js with
  | nil => cases hj
  | cons a js =>
    simp only [seqJ, Bool.and_eq_true, decide_eq_true_eq] at h
    intro j hr
    rw [h.1] at hr
    simp at hr hj
    omega
theorem wpAnyL_lexAt {md : Region.Mode} {w : World} {m : Nat} {js : List Nat} {Lq : Act → Prop} (hsel : Region.noSelect ops = true) (hc : chainJ md ops js = true) (h0 : js.head? = some m) :
    ∀ (is : List Nat) (l : List Oper) (listed : Array Bool) (a : Act), is.map (fun i => ops[i]?) = l.map some → HeadAt md ops m js listed → lexAt md ops m js is listed = true → wpStill P ops w Lq l a →
    wpAnyL P md ops w m (fun listed' a' => seqJ md ops js listed' = true ∧ Lq a') is.length listed a
  | [], [], listed, a, _, _, hB, h => ⟨hB, h⟩
  | [], _ :: _, _, _, h, _, _, _ => by simp at h
  | _ :: _, [], _, _, h, _, _, _ => by simp at h
  | i :: is, o :: l, listed, a, hl, inv, hB, h => by
    simp only [List.map_cons, List.cons.injEq] at hl
    simp only [lexAt, Bool.and_eq_true, decide_eq_true_eq] at hB
    obtain ⟨⟨⟨him, hr⟩, hf⟩, hB'⟩ := hB
    have hr' : i ∈ Region.ready md ops listed := by simpa using hr
    have hst : stOp P ops w i (wpStill P ops w Lq l) a := by unfold stOp; simp only [hl.1]; exact h
    obtain ⟨v, hy, hK⟩ := yieldsAt_of_stOp hl.1 hst
    exact wpAnyL_firstAt hl.1 (Region.noSelect_spec hsel) hc h0 him (fun listed' a' hL => seqJ_ready h0 hL.1) is.length listed a inv (Region.free_spec hl.1 hf) hr' hy
      (wpAnyL_lexAt hsel hc h0 is l _ _ hl.2 (inv.set hr' him) hB' hK)
theorem wpAnyIn_of_seqJ {md : Region.Mode} {Q' : Exit → Act → World → Prop} : ∀ (js : List Nat) (l : List Oper) (listed : Array Bool) (a : Act) (w : World), js.map (fun i => ops[i]?) = l.map some →
    seqJ md ops js listed = true → wpListIn (FW r) 0 P ops Q' l a w → wpAnyIn (FW r) 0 P md ops Q' js.length listed a w
  | [], [], _, _, _, _, hB, h => ⟨by simpa [seqJ] using hB, h⟩
  | [], _ :: _, _, _, _, h, _, _ => by simp at h
  | _ :: _, [], _, _, _, h, _, _ => by simp at h
  | j :: js, o :: l, listed, a, w, hl, hB, h => by
    simp only [List.map_cons, List.cons.injEq] at hl
    simp only [seqJ, Bool.and_eq_true, decide_eq_true_eq] at hB
    refine ⟨fun h1 => (by rw [hB.1] at h1; cases h1), fun i hi => ?_⟩
    rw [hB.1] at hi
    have hik : i = j := by simpa using hi
    subst hik
    have hw : wpOpIn (FW r) 0 P ops Q' i (wpListIn (FW r) 0 P ops Q' l) a w := by unfold wpOpIn; simp only [hl.1]; exact h
    exact wpOpIn_mono (fun a' w' h' => wpAnyIn_of_seqJ js l _ a' w' hl.2 hB.2 h') hw
def headAtB (md : Region.Mode) (ops : Array Oper) (m : Nat) (js : List Nat) (listed : Array Bool) : Bool :=
  Nat.beq listed.size ops.size && ((List.range ops.size).all fun j => match ops[j]? with | some oj => !(listed.getD j false) || oj.after.all (fun e => !(Region.binds md e) || listed.getD e.on false) | none => true) &&
  ((List.range ops.size).all fun t => decide (t < m) || listed.getD t true || (js.contains t && !(listed.getD t true))) &&
  (js.all fun t => decide (m ≤ t) && decide (t < ops.size) && !(listed.getD t true)) &&
  ((List.range m).all fun i => listed.getD i true || (List.range (m + 1)).any fun j => decide (i < j) && Region.waitsFor md ops j i)
theorem headAt_of {md : Region.Mode} {m : Nat} {js : List Nat} {listed : Array Bool} (h : headAtB md ops m js listed = true) : HeadAt md ops m js listed := by
  simp only [headAtB, Bool.and_eq_true] at h
  obtain ⟨⟨⟨⟨h1, h2⟩, h3⟩, h5⟩, h4⟩ := h
  refine ⟨Nat.eq_of_beq_eq_true h1, fun j oj hj hl e he hb => ?_, fun t ht ht' => ?_, fun t ht => ?_, fun i hi hu => ?_⟩
  · have := List.all_eq_true.1 h2 j (List.mem_range.2 (Array.getElem?_eq_some_iff.1 hj).1)
    simp only [hj, hl, Bool.not_true, Bool.false_or] at this
    have := (Array.all_eq_true'.1 this) e he
    simpa [hb] using this
  · have := List.all_eq_true.1 h3 t (List.mem_range.2 ht')
    simp only [Bool.or_eq_true, Bool.and_eq_true, decide_eq_true_eq, Bool.not_eq_true', List.contains_eq_mem] at this
    rcases this with (h | h) | h
    · omega
    · exact .inl h
    · exact .inr h
  · have := List.all_eq_true.1 h5 t ht
    simp only [Bool.and_eq_true, decide_eq_true_eq, Bool.not_eq_true'] at this
    exact ⟨this.1.1, this.1.2, this.2⟩
  · have := List.all_eq_true.1 h4 i (List.mem_range.2 hi)
    simpa [hu] using this
def tailAtB (ops : Array Oper) (m : Nat) (is js : List Nat) (listed : Array Bool) : Bool :=
  Region.noSelect ops && (js.head? == some m) && chainJ .any ops js && headAtB .any ops m js listed && lexAt .any ops m js is listed
def pk (l : List Oper) : List Nat → List Oper
  | [] => []
  | i :: is => match l[i]? with
    | some o => o :: pk l is
    | none => pk l is
theorem pk_map {l : List Oper} : ∀ {is : List Nat}, (is.all fun i => Nat.blt i l.length) = true → is.map (fun i => l.toArray[i]?) = (pk l is).map some
  | [], _ => rfl
  | i :: is, h => by
    simp only [List.all_cons, Bool.and_eq_true] at h
    have hi : i < l.length := by have := h.1; simpa [Nat.blt_eq] using this
    simp only [pk, List.getElem?_eq_getElem hi, List.map_cons, pk_map h.2]
    simp [hi]
theorem Hd.tailAt {l : List Oper} {f : Nat} {listed : Array Bool} (m : Nat) (is js : List Nat) (h0 : (is.all fun i => Nat.blt i l.length) = true) (h0' : (js.all fun i => Nat.blt i l.length) = true) (hf : f = is.length + js.length) (hB : tailAtB l.toArray m is js listed = true)
    (h : Ht E n ds st L (SW P l.toArray (fun w a' => LW none P l.toArray (noP Q) (pk l js) a' w) (pk l is))) : Hd E n ds st L (AW P l.toArray Q f listed) := fun a w fr s => by
  simp only [tailAtB, Bool.and_eq_true, beq_iff_eq] at hB
  obtain ⟨⟨⟨⟨hsel, hm⟩, hc⟩, hH⟩, hlex⟩ := hB
  have H := wpAnyL_lexAt (P := P) (w := w) (md := .any) (Lq := fun a' => LW none P l.toArray (noP Q) (pk l js) a' w) hsel hc hm is (pk l is) listed a (pk_map h0) (headAt_of hH) hlex (h a w fr s)
  have := wpAnyIn_of_head (r := none) (Q' := noP Q) (gg := js.length) (fun listed a' hL => wpAnyIn_of_seqJ (r := none) (md := .any) (Q' := noP Q) js (pk l js) listed a' w (pk_map h0') hL.1 hL.2) _ _ _ H
  rw [hf]
  exact this
end
section
variable {E : World} {n : Nat} {ds : List Deferred} {st st' : List (Nat × Value)} {L L' : List SP} {r : Option Nat} {P : Program} {Q : Exit → Act → World → Prop} {ops : Array Oper} {rest : List Oper}
variable {d : Nat} {ty t t2 : TypeId} {pos : String} {af : Array Edge} {g : Option (Nat × Bool)} {x y z : Operand} {v u : Value} {k : IntKind} {p q : Bool}
theorem run_callv {f : Fn} {cap : Array Value} {xs : List Operand} {vs : List Value} {tys : Array TypeId} {a : Act} (fr : Fr n ds st a) (hx : evo st x = some (.func f #[] cap)) (hv : xs.map (evo st) = vs.map some) (w : World) :
    (execOp a.eval (⟨some d, .call ⟨.value x, xs.toArray, tys⟩, ty, pos, af, g⟩ : Oper)).run P w = (invoke (.fn f cap) vs.toArray).run P w := by
  simp only [execOp, resolve, List.map_toArray, evs_map fr hv, fr.ev hx, Deferred.ofValue]
  simp
theorem Hd.callv {fid : FuncId} {cap : List Value} {xs : List Operand} {vs : List Value} {tys : Array TypeId} {ι : Type} {val : ι → Value} {post : ι → List SP} (hx : evo st x = some (.func (.func fid) #[] cap.toArray)) (hv : xs.map (evo st) = vs.map some) (hf : fnk P fid = true)
    (hc : Ct P fid (vs ++ cap).toArray L val post) (K : ∀ i, Hd E n ds ((d, val i) :: st) (post i) (LW r P ops Q rest)) (hd : d < n := by decide) :
    Hd E n ds st L (LW r P ops Q (⟨some d, .call ⟨.value x, xs.toArray, tys⟩, ty, pos, af, none⟩ :: rest)) := by
  intro a w f s
  show wpListIn _ _ _ _ _ _ _ _
  unfold wpListIn
  rw [if_pos (by simp [Region.wanted])]
  refine ⟨fun _ _ => trivial, ?_⟩
  rw [Oper.semAt_eq _ _ _ (by simp), run_callv f hx hv]
  have e : (invoke (.fn (.func fid) cap.toArray) vs.toArray).run P w = .ok (.enter fid (vs ++ cap).toArray) w := by
    simp [invoke, run_call hf]
  rw [e]
  refine ⟨fun h => (by cases h), ?_⟩
  refine ((callsIn_wide.2 (hc E w s)).mono fun e w' h => ?_)
  obtain ⟨i, rfl, s'⟩ := h
  exact K i _ _ (f.put hd _) s'
def Yd (P : Program) (l : Nat) {α : Type} (enc : α → List Value) (J X : List α → List SP) (G : List α → Prop) : Prop :=
  ∀ E M pre x w, G (pre ++ [x]) → Sat E (J pre ++ M) w → ∃ fn tmps assign body, (Instr.yield l (enc x).toArray).run P w = .ok (.round l fn tmps assign body) w ∧
    RoundIn (FW none) 0 P l fn tmps assign body w (fun e w' => ∃ b, e = .returned (.bool b) ∧ Sat E ((bif b then J (pre ++ [x]) else X (pre ++ [x])) ++ M) w')
theorem Hd.yield {α : Type} {enc : α → List Value} {J X : List α → List SP} {G : List α → Prop} {l : Nat} {M : List SP} {xs : List Operand} {tys : Array TypeId} (hy : Yd P l enc J X G) (pre : List α) (c : α) (hx : evo st x = some (.func (.yield l) #[] #[]))
    (hv : xs.map (evo st) = (enc c).map some) (hG : G (pre ++ [c])) (hl : ∀ k, sep L k → sep (J pre ++ M) k)
    (K : ∀ b, Hd E n ds ((d, .bool b) :: st) ((bif b then J (pre ++ [c]) else X (pre ++ [c])) ++ M) (LW r P ops Q rest)) (hd : d < n := by decide) :
    Hd E n ds st L (LW r P ops Q (⟨some d, .call ⟨.value x, xs.toArray, tys⟩, ty, pos, af, none⟩ :: rest)) := by
  intro a w f s
  show wpListIn _ _ _ _ _ _ _ _
  unfold wpListIn
  rw [if_pos (by simp [Region.wanted])]
  refine ⟨fun _ _ => trivial, ?_⟩
  rw [Oper.semAt_eq _ _ _ (by simp), run_callv f hx hv]
  obtain ⟨fn, tmps, assign, body, e, hR⟩ := hy E M pre c w hG (s.mp hl)
  have e' : (invoke (.fn (.yield l) #[]) (enc c).toArray).run P w = .ok (.round l fn tmps assign body) w := e
  rw [e']
  refine ⟨fun h => (by cases h), ?_⟩
  refine RoundIn.mono hR fun e w' h => ?_
  obtain ⟨b, rfl, s'⟩ := h
  exact K b _ _ (f.put hd _) s'
def It (P : Program) (gf : FuncId) (cap : List Value) {α : Type} (enc : α → List Value) (S Sp : List α → Prop) (M M' : List SP) : Prop :=
  ∀ l (J X : List α → List SP), Yd P l enc J X Sp → Ct P gf (Value.func (.yield l) #[] #[] :: cap).toArray (J [] ++ M) (fun _ : List α × Bool => .tuple #[])
    (fun i => pu (bif i.2 then S i.1 else Sp i.1) :: (bif i.2 then J i.1 else X i.1) ++ M')
theorem sep_app {M N : List SP} {k : PH} (h : sep (M ++ N) k) : sep (N ++ M) k := by
  obtain ⟨h1, h2, d, a, b, x, y⟩ := sep_append h
  exact sep_join d.sym b a y x
def pz : List Nat → List Value → List (Nat × Value) → List (Nat × Value)
  | t :: ts, v :: vs, st => pz ts vs ((t, v) :: st)
  | _, _, st => st
theorem pz_fr : ∀ (ps : List Nat) (vs : List Value) (st : List (Nat × Value)) (tm : Array Value), (ps.all fun t => Nat.blt t n) = true → tm.size = n → (∀ t v, look st t = some v → tm[t]? = some v) →
    ((ps.zip vs).foldl (fun tmps (t, a) => tmps.setIfInBounds t a) tm).size = n ∧ ∀ t v, look (pz ps vs st) t = some v → ((ps.zip vs).foldl (fun tmps (t, a) => tmps.setIfInBounds t a) tm)[t]? = some v
  | [], _, _, _, _, hs, hl => ⟨by simpa using hs, by simpa [pz] using hl⟩
  | _ :: _, [], _, _, _, hs, hl => ⟨by simpa using hs, by simpa [pz] using hl⟩
  | p :: ps, u :: vs, st, tm, hp, hs, hl => by
    simp only [List.all_cons, Bool.and_eq_true] at hp
    have hpn : p < n := by have := hp.1; simpa [Nat.blt_eq] using this
    simp only [List.zip_cons_cons, List.foldl_cons, pz]
    refine pz_fr ps vs ((p, u) :: st) _ hp.2 (by simpa using hs) fun t v e => ?_
    have := (Fr.put (n := n) (ds := []) (st := st) (a := { tmps := tm, defers := [] }) ⟨hs, rfl, hl⟩ hpn u).at_ t v e
    simpa [Act.put] using this
def mark (r : Nat) : Deferred := { target := .collected r, args := #[] }
def jc : Option Nat → Code
  | none => .ret
  | some id => .exit id
def RE (E : World) (l : Nat) (R : Loop) {α : Type} (I : List α → List SP) (X : Option Nat → List α → List SP) (pre : List α) (N : List SP) : Exit → Act → World → Prop
  | .normal, _, w => Sat E (ob l (.loop { R with state := .busy }) :: I pre ++ N) w
  | .ret, _, w => Sat E (ob l (.loop { R with state := .busy }) :: X none pre ++ N) w
  | .exit id, _, w => Sat E (ob l (.loop { R with state := .busy }) :: X (some id) pre ++ N) w
  | _, _, _ => False
def Bg (P : Program) (l : Nat) (body : Code) (Qb : Exit → Act → World → Prop) : Act → World → Prop := fun a w => ∃ w2, (Instr.beginRound l).run P w = .ok () w2 ∧ CW (some l) P body Qb a w2
theorem Hd.begin {l : Nat} {R : Loop} {body : Code} {Qb : Exit → Act → World → Prop} (hr : R.state = .ready) (hp : Pick L (ob l (.loop R)) L') (h : Hd E n ds st (ob l (.loop { R with state := .busy }) :: L') (CW (some l) P body Qb)) : Hd E n ds st L (Bg P l body Qb) := fun a w f s => by
  have hb := s.ob_at hp
  refine ⟨_, run_beginRound hb hr, h a _ f (Sat.put s hp rfl rfl rfl (fun x hx => World.putObj_heap_other hx) (World.putObj_heap_same (Array.getElem?_eq_some_iff.1 hb).1))⟩
theorem Hd.reN {l : Nat} {R : Loop} {α : Type} {I : List α → List SP} {X : Option Nat → List α → List SP} {pre : List α} {N : List SP} (h : ∀ k, sep L k → sep (ob l (.loop { R with state := .busy }) :: I pre ++ N) k) : Hd E n ds st L (RE E l R I X pre N .normal) := fun _ _ _ s => s.mp h
theorem Hd.reR {l : Nat} {R : Loop} {α : Type} {I : List α → List SP} {X : Option Nat → List α → List SP} {pre : List α} {N : List SP} (h : ∀ k, sep L k → sep (ob l (.loop { R with state := .busy }) :: X none pre ++ N) k) : Hd E n ds st L (RE E l R I X pre N .ret) := fun _ _ _ s => s.mp h
theorem Hd.reX {l : Nat} {R : Loop} {α : Type} {I : List α → List SP} {X : Option Nat → List α → List SP} {pre : List α} {N : List SP} {id : Nat} (h : ∀ k, sep L k → sep (ob l (.loop { R with state := .busy }) :: X (some id) pre ++ N) k) : Hd E n ds st L (RE E l R I X pre N (.exit id)) := fun _ _ _ s => s.mp h
theorem Hd.absurd {K : Act → World → Prop} {p : Prop} (h : ¬p) : Hd E n ds st (pu p :: L) K := Hd.pure fun hp => (h hp).elim
abbrev Rnd (E : World) (n : Nat) (st : List (Nat × Value)) (P : Program) (ps : List Nat) (assign body : Code) {α : Type} (enc : α → List Value) (I : List α → List SP) (X : Option Nat → List α → List SP) (pre : List α) (c : α) (l : Nat) (R : Loop) (N : List SP) : Prop :=
  Hd E n [] (pz ps (enc c) st) (ob l (.loop R) :: I pre ++ N) (CW (some l) P assign (Exit.then (Bg P l body (RE E l R I X (pre ++ [c]) N)) (fun _ _ _ => False)))
theorem yd_of {α : Type} {enc : α → List Value} {Sp : List α → Prop} {I : List α → List SP} {X : Option Nat → List α → List SP} {ps : List Nat} {assign body : Code} {l : Nat} {R : Loop} {tl : List SP} {tm : Array Value}
    (hR : R.state = .ready ∧ R.pending = none ∧ R.tmps = tm ∧ R.params = ps.toArray ∧ R.assign = assign ∧ R.body = body) (hps : ∀ x, (enc x).length = ps.length) (hpn : (ps.all fun t => Nat.blt t n) = true)
    (ht : tm.size = n ∧ ∀ t v, look st t = some v → tm[t]? = some v)
    (hround : ∀ E pre c N, Sp (pre ++ [c]) → Rnd E n st P ps assign body enc I X pre c l R N) :
    Yd P l enc (fun pre => ob l (.loop R) :: (I pre ++ tl)) (fun pre => [fun w => ∃ j, sep (ob l (.loop { R with state := .done, pending := some (jc j) }) :: (X j pre ++ tl)) w]) Sp := by
  obtain ⟨hst, hpe, rfl, hpa, rfl, rfl⟩ := hR
  intro E M pre c w hG s
  have hb : w.heap[l]? = some (.loop R) := s.ob_at .here
  refine ⟨_, _, _, _, run_yield hb (by simp [hpa, hps]), ?_⟩
  have s' : Sat E (ob l (.loop R) :: I pre ++ (tl ++ M)) w := by simpa [List.append_assoc] using s
  have hf := pz_fr (n := n) ps (enc c) st R.tmps hpn ht.1 ht.2
  have hz : (R.params.zip (enc c).toArray).foldl (fun tmps (t, a) => tmps.setIfInBounds t a) R.tmps = (ps.zip (enc c)).foldl (fun tmps (t, a) => tmps.setIfInBounds t a) R.tmps := by
    rw [hpa]; simp [← Array.foldl_toList]
  refine roundIn_of_wpIn (F := FW none) trivial ?_
  rw [hz]
  have h := hround E pre c (tl ++ M) hG { tmps := (ps.zip (enc c)).foldl (fun tmps (t, a) => tmps.setIfInBounds t a) R.tmps, defers := [] } w ⟨hf.1, rfl, hf.2⟩ s'
  refine Go.wpIn_mono h ?_
  intro e a1 w1 hq
  cases e with
  | normal =>
    obtain ⟨w2, hbr, hbody⟩ := hq
    refine ⟨w2, hbr, Go.wpIn_mono hbody ?_⟩
    intro e a3 w3 hq3
    have fin : ∀ (jump : Option Code) (A : List SP), Sat E (ob l (.loop { R with state := .busy }) :: A) w3 →
        ∃ w', (Instr.endRound l jump).run P w3 = .ok (.bool jump.isNone) w' ∧ Sat E (ob l (.loop { R with state := if jump.isNone then .ready else .done, pending := jump }) :: A) w' := fun jump A s3 => by
      have hb3 : w3.heap[l]? = some (.loop { R with state := .busy }) := s3.ob_at .here
      exact ⟨_, run_endRound jump hb3, Sat.put s3 .here rfl rfl rfl (fun x hx => World.putObj_heap_other hx) (World.putObj_heap_same (Array.getElem?_eq_some_iff.1 hb3).1)⟩
    cases e with
    | normal =>
      obtain ⟨w4, e4, s4⟩ := fin none _ hq3
      refine ⟨_, w4, e4, true, rfl, ?_⟩
      have : ({ R with state := LoopState.ready, pending := Option.none } : Loop) = R := by cases R; simp_all
      simp only [Option.isNone_none, if_true] at s4
      rw [this] at s4
      simpa [List.append_assoc] using s4
    | ret =>
      obtain ⟨w4, e4, s4⟩ := fin (some .ret) _ hq3
      refine ⟨_, w4, e4, false, rfl, s4.mp fun k hk => ?_⟩
      have hk' : sep ((ob l (.loop { R with state := .done, pending := some (jc Option.none) }) :: (X Option.none (pre ++ [c]) ++ tl)) ++ M) k := by simpa [List.append_assoc, jc] using hk
      obtain ⟨h1, h2, d, a, b, x, y⟩ := sep_append hk'
      exact ⟨h1, h2, d, a, b, ⟨_, x⟩, y⟩
    | exit id =>
      obtain ⟨w4, e4, s4⟩ := fin (some (.exit id)) _ hq3
      refine ⟨_, w4, e4, false, rfl, s4.mp fun k hk => ?_⟩
      have hk' : sep ((ob l (.loop { R with state := .done, pending := some (jc (some id)) }) :: (X (some id) (pre ++ [c]) ++ tl)) ++ M) k := by simpa [List.append_assoc, jc] using hk
      obtain ⟨h1, h2, d, a, b, x, y⟩ := sep_append hk'
      exact ⟨h1, h2, d, a, b, ⟨_, x⟩, y⟩
    | goto t => exact hq3.elim
    | panic ch => exact hq3.elim
    | outgrown => exact hq3.elim
  | exit id => exact hq
  | goto l => exact hq
  | ret => exact hq
  | panic ch => exact hq
  | outgrown => exact hq
theorem Hd.rangeF {α : Type} {enc : α → List Value} {S Sp : List α → Prop} {ps : List Nat} {assign body : Code} {gf : FuncId} {cap : List Value} {M M' : List SP}
    (I : List α → List SP) (X : Option Nat → List α → List SP) (hg : evo st x = some (.func (.func gf) #[] cap.toArray)) (hf : fnk P gf = true) (hps : ∀ x, (enc x).length = ps.length) (hpn : (ps.all fun t => Nat.blt t n) = true)
    (hit : It P gf cap enc S Sp M M') (h0 : ∀ k, sep L k → sep (I [] ++ M) k)
    (hround : ∀ E l R pre c N, R.state = .ready → Sp (pre ++ [c]) → Rnd E n st P ps assign body enc I X pre c l R N)
    (hdone : ∀ r0 xs, S xs → Hd E n (mark r0 :: ds) st (I xs ++ ob r0 (.deferred (some [])) :: M') (Q .normal))
    (hstop : ∀ r0 j pre, Sp pre → Hd E n (mark r0 :: ds) st (X j pre ++ ob r0 (.deferred (some [])) :: M') (CW none P (jc j) Q)) :
    Hd E n ds st L (CW none P (.rangeFunc x ps.toArray assign body) Q) := by
  intro a w fr s
  refine wpIn_rangeFunc (F := FW none) ?_
  intro fn _
  obtain ⟨w1, hw1⟩ : ∃ w1, w1 = (w.alloc (.deferred (some []))).alloc (.loop { state := .ready, pending := none, fn, tmps := a.tmps, params := ps.toArray, assign, body, defers := w.heap.size }) := ⟨_, rfl⟩
  have s1 : Sat E (ob (w.heap.size + 1) (.loop { state := .ready, pending := none, fn, tmps := a.tmps, params := ps.toArray, assign, body, defers := w.heap.size }) :: ob w.heap.size (.deferred (some [])) :: L) w1 := by
    have := (s.new (.deferred (some []))).new (.loop { state := .ready, pending := none, fn, tmps := a.tmps, params := ps.toArray, assign, body, defers := w.heap.size })
    simp only [Array.size_push] at this
    rw [hw1]
    exact this
  refine ⟨w.heap.size + 1, [mark w.heap.size], w1, { target := .fn (.func gf) cap.toArray, args := #[.func (.yield (w.heap.size + 1)) #[] #[]] }, w1, gf, (Value.func (.yield (w.heap.size + 1)) #[] #[] :: cap).toArray, w1, ?_, ?_, fun _ _ => trivial, ?_, fun h => (by cases h), ?_⟩
  · rw [hw1]; exact run_enterLoop_outer _ _ _ _ _
  · simp only [resolve, fr.ev hg, Deferred.ofValue]
    simp [Act.eval, Sem.run_pure]
  · simp [invoke, run_call hf]
  obtain ⟨R, hR⟩ : ∃ R : Loop, R = { state := .ready, pending := none, fn, tmps := a.tmps, params := ps.toArray, assign, body, defers := w.heap.size } := ⟨_, rfl⟩
  rw [← hR] at s1
  have hyd := yd_of (P := P) (n := n) (st := st) (l := w.heap.size + 1) (R := R) (tl := [ob w.heap.size (.deferred (some []))]) (tm := a.tmps) (enc := enc) (Sp := Sp) (I := I) (X := X) (ps := ps) (assign := assign) (body := body)
    (by subst hR; exact ⟨rfl, rfl, rfl, rfl, rfl, rfl⟩) hps hpn ⟨fr.size, fr.at_⟩ (fun E pre c N hG => hround E _ R pre c N (by rw [hR]) hG)
  have hc := hit _ _ _ hyd E w1 (s1.mp fun k hk => by
    obtain ⟨h1, h2, d, aa, b, x, y⟩ := hk
    obtain ⟨k1, k2, d', a', b', x', y'⟩ := y
    obtain ⟨m1, m2, d2, a2, b2, x2, y2⟩ := sep_append (h0 _ y')
    have hk1 : sep [ob w.heap.size (.deferred (some []))] k1 := ⟨k1, fun _ => none, fun _ => .inr rfl, Sub.rfl', (fun _ _ e => by cases e), x', trivial⟩
    have hj : sep (I [] ++ [ob w.heap.size (.deferred (some []))]) (uni m1 k1) := sep_join (d'.sym.subL a2) Sub.uniL (Sub.uniR (d'.sym.subL a2)) x2 hk1
    have hd1 : Dis h1 (uni m1 k1) := (Dis.uniL (d.sym.subL (a2.tr b')) (d.sym.subL a')).sym
    have hd2 : Dis (uni h1 (uni m1 k1)) m2 := Dis.uniL (d.subR (b2.tr b')) (Dis.uniL d2 (d'.subR b2))
    have hl : sep (ob (w.heap.size + 1) (.loop R) :: (I [] ++ [ob w.heap.size (.deferred (some []))])) (uni h1 (uni m1 k1)) := ⟨h1, uni m1 k1, hd1, Sub.uniL, Sub.uniR hd1, x, hj⟩
    exact sep_join hd2 (Sub.uni aa (Sub.uni (a2.tr (b'.tr b)) (a'.tr b))) (b2.tr (b'.tr b)) hl y2)
  refine (callsIn_wide.2 hc).mono ?_
  rintro e w3 ⟨⟨xs, bb⟩, rfl, s3⟩
  have fin : ∀ (R' : Loop) (A : List SP), R'.state ≠ .busy → Sat E (ob (w.heap.size + 1) (.loop R') :: A) w3 → ∃ w4, (Instr.endLoop (w.heap.size + 1)).run P w3 = .ok R'.pending w4 ∧ Sat E A w4 := fun R' A hb s => by
    have hb3 : w3.heap[w.heap.size + 1]? = some (.loop R') := s.ob_at .here
    refine ⟨_, run_endLoop hb3 hb, ?_⟩
    have := Sat.put (w' := w3.putObj (w.heap.size + 1) (.loop { R' with state := .exhausted })) s .here rfl rfl rfl (fun x hx => World.putObj_heap_other hx) (World.putObj_heap_same (Array.getElem?_eq_some_iff.1 hb3).1)
    exact this.mp fun k ⟨_, _, _, _, b, _, y⟩ => y.up b
  have f2 : Fr n (mark w.heap.size :: ds) st { a with defers := [mark w.heap.size] ++ a.defers } := ⟨fr.size, by simp [fr.defs], fr.at_⟩
  have s3' : (bif bb then S xs else Sp xs) ∧ Sat E ((bif bb then (ob (w.heap.size + 1) (.loop R) :: (I xs ++ [ob w.heap.size (.deferred (some []))])) else [fun w' => ∃ j, sep (ob (w.heap.size + 1) (.loop { R with state := .done, pending := some (jc j) }) :: (X j xs ++ [ob w.heap.size (.deferred (some []))])) w']) ++ M') w3 := by
    obtain ⟨h1, h2, h3, k1, k2, d, a, b, x, y⟩ := s3
    exact ⟨x, h1, h2, h3, y.up b⟩
  obtain ⟨hS, s4⟩ := s3'
  cases bb with
  | true =>
    obtain ⟨w4, e4, s5⟩ := fin R _ (by rw [hR]; simp) s4
    refine ⟨_, w4, e4, ?_⟩
    have : R.pending = none := by rw [hR]
    rw [this]
    exact hdone _ xs hS _ w4 f2 (by simpa [List.append_assoc] using s5)
  | false =>
    obtain ⟨h1, h2, h3, k1, k2, d, aa, b, ⟨j, x⟩, y⟩ := s4
    have hl := sep_join d aa b x y
    obtain ⟨w4, e4, s5⟩ := fin _ _ (by simp) (⟨h1, h2, h3, hl⟩ : Sat E (ob (w.heap.size + 1) (.loop { R with state := .done, pending := some (jc j) }) :: (X j xs ++ [ob w.heap.size (.deferred (some []))]) ++ M') w3)
    refine ⟨_, w4, e4, ?_⟩
    exact hstop _ j xs hS _ w4 f2 (by simpa [List.append_assoc] using s5)
def Lv (E : World) (P : Program) (fn : Func) (tm : Array Value) (ds : List Deferred) (L : List SP) {ι : Type} (val : ι → Value) (post : ι → List SP) : Prop :=
  ∀ w, Sat E L w → LeavesInM (FW none) 0 P fn tm (fun e w' => ∃ i, e = .returned (val i) ∧ Sat E (post i) w') ds .returning w
theorem Lv.mark {fn : Func} {tm : Array Value} {ds : List Deferred} {r0 : Nat} {ι : Type} {val : ι → Value} {post : ι → List SP} (hp : Pick L (ob r0 (.deferred (some []))) L') (h : Lv E P fn tm ds L' val post) : Lv E P fn tm (RX.mark r0 :: ds) L val post := fun w s => by
  have hb := s.ob_at hp
  refine ⟨by simp, .inl ⟨r0, _, rfl, run_takeDeferred hb, h _ ?_⟩⟩
  have := Sat.put (w' := w.putObj r0 (.deferred none)) s hp rfl rfl rfl (fun x hx => World.putObj_heap_other hx) (World.putObj_heap_same (Array.getElem?_eq_some_iff.1 hb).1)
  exact this.mp fun k ⟨_, _, _, _, b, _, y⟩ => y.up b
theorem Lv.end {fn : Func} {tm : Array Value} {ι : Type} {val : ι → Value} {post : ι → List SP} (i : ι) (hr : ∀ w, (results fn tm).run P w = .ok (val i) w) (hl : ∀ k, sep L k → sep (post i) k) : Lv E P fn tm [] L val post := fun w s =>
  ⟨val i, hr w, i, rfl, s.mp hl⟩
abbrev MP (E : World) (P : Program) (fn : Func) {ι : Type} (val : ι → Value) (post : ι → List SP) : Exit → Act → World → Prop := bodyPostM (FW none) 0 P fn (fun e w' => ∃ i, e = .returned (val i) ∧ Sat E (post i) w')
theorem Ct.ofM {fid : FuncId} {fn : Func} {c : Code} {vs : List Value} {ι : Type} {val : ι → Value} {post : ι → List SP} (hf : P.funcs[fid]? = some fn) (hb : fn.body = some c) (hn : Nat.ble vs.length fn.ntmps = true)
    (st : List (Nat × Value)) (hst : subv vs st) (h : ∀ E, Hd E fn.ntmps [] st L (CW none P c (MP E P fn val post))) : Ct P fid vs.toArray L val post := by
  intro E w s
  refine callsIn_wide.1 (callsIn_of_wp_marks (F := FW none) hf hb trivial (h E _ w ⟨by have := Nat.le_of_ble_eq_true hn; simp; omega, rfl, fun t v e => ?_⟩ s))
  have := hst.look t v e
  have hl : t < vs.length := by rcases Nat.lt_or_ge t vs.length with h | h; exact h; rw [List.getElem?_eq_none h] at this; cases this
  rw [Array.getElem?_append_left (by simpa using hl)]; simpa using this
theorem Hd.retM {fn : Func} {ι : Type} {val : ι → Value} {post : ι → List SP} (h : ∀ a, Fr n ds st a → Lv E P fn a.tmps ds L val post) : Hd E n ds st L (MP E P fn val post .ret) := fun a w f s => by
  show LeavesInM _ _ _ _ _ _ a.defers _ _
  rw [f.defs]; exact h a f w s
theorem Lv.end1 {fn : Func} {a : Act} {tt : Nat} {ι : Type} {val : ι → Value} {post : ι → List SP} (fr : Fr n ds st a) (hr : fn.results = #[.tmp tt]) (i : ι) (hv : look st tt = some (val i)) (hl : ∀ k, sep L k → sep (post i) k) : Lv E P fn a.tmps [] L val post :=
  Lv.end i (fun w => by rw [results_tmp hr a.tmps P w]; simp [fr.at_ tt _ hv]) hl
theorem Lv.end2 {fn : Func} {a : Act} {tt tu : Nat} {ι : Type} {val : ι → Value} {post : ι → List SP} (fr : Fr n ds st a) (hr : fn.results = #[.tmp tt, .tmp tu]) (i : ι) (hv : look st tt = some v) (hu : look st tu = some u) (hi : val i = .tuple #[v, u]) (hl : ∀ k, sep L k → sep (post i) k) : Lv E P fn a.tmps [] L val post :=
  Lv.end i (fun w => by rw [results_tmp2 hr a.tmps P w]; simp [fr.at_ tt _ hv, fr.at_ tu _ hu, hi]) hl
theorem Lv.end0 {fn : Func} {a : Act} {ι : Type} {val : ι → Value} {post : ι → List SP} (hr : fn.results = #[]) (i : ι) (hi : val i = .tuple #[]) (hl : ∀ k, sep L k → sep (post i) k) : Lv E P fn a.tmps [] L val post :=
  Lv.end i (fun w => by rw [results_none hr a.tmps P w, hi]) hl
end
section
variable {E : World} {n : Nat} {ds : List Deferred} {st st' : List (Nat × Value)} {L L' : List SP} {r : Option Nat} {P : Program} {Q : Exit → Act → World → Prop} {ops : Array Oper} {rest : List Oper}
variable {d : Nat} {ty t t2 : TypeId} {pos : String} {af : Array Edge} {g : Option (Nat × Bool)} {x y z : Operand} {v u : Value} {k k2 k3 : IntKind} {p q : Bool}
theorem sub_append {a : List (Nat × Value)} : ∀ {b c : List (Nat × Value)}, sub a b → sub a c → sub a (b ++ c)
  | [], _, _, h => h
  | _ :: _, _, ⟨h1, h2⟩, h => ⟨h1, sub_append h2 h⟩
theorem Hd.loopK {c : Code} {ι : Type} (keep : List (Nat × Value)) (S : ι → List (Nat × Value)) (H : ι → List SP) (μ : ι → Nat) (i0 : ι) (hk : sub st keep) (hs : sub st (S i0)) (hh : ∀ k, sep L k → sep (H i0) k)
    (round : ∀ i, Hd E n ds (S i ++ keep) (H i) (CW r P c (Exit.then (fun a w => ∃ j, μ j < μ i ∧ Fr n ds (S j ++ keep) a ∧ Sat E (H j) w) Q))) :
    Hd E n ds st L (CW r P (.loop c) Q) := Hd.loop (fun i => S i ++ keep) H μ i0 (sub_append hs hk) hh round
theorem Hd.cutK {x y : Code} {ι : Type} (keep : List (Nat × Value)) (S : ι → List (Nat × Value)) (H : ι → List SP)
    (hx : Hd E n ds st L (CW r P x (Exit.then (fun a w => ∃ j, Fr n ds (S j ++ keep) a ∧ Sat E (H j) w) Q)))
    (hy : ∀ j, Hd E n ds (S j ++ keep) (H j) (CW r P y Q)) (_hk : sub st keep) : Hd E n ds st L (CW r P (.seq x y) Q) := Hd.cut (fun j => S j ++ keep) H hx hy
def cutA (ad : Option Addr) (sz l m : Nat) : Option Addr := if m = l then ad else ad.map (·.add (l * sz))
theorem cutA_zero (ad : Option Addr) (sz m : Nat) : cutA ad sz 0 m = ad := by
  unfold cutA; split
  · rfl
  · cases ad <;> simp [Addr.add]
theorem run_bound {a : Int} {m : Nat} {c : BoundsCode} (h0 : 0 ≤ a) (h1 : a ≤ m) (w : World) : (Instr.sliceBound (.int k a) m c).run P w = .ok a.toNat w := by
  simp [Instr.sliceBound, asIntOf, h0, h1]
theorem y_slo_oxx {e sz m cap : Nat} {ad : Option Addr} {a : Int} (hu : P.underlying t = some (.slice e)) (hs : szk P e = some sz) (hx : evo st x = some (.slice ad m cap)) (hy : evo st y = some (.int k a)) (h0 : 0 ≤ a) (h1 : a ≤ m) :
    Yv E n ds st L P ⟨some d, .slice t x (some y) none none, ty, pos, af, g⟩ (.slice (cutA ad sz a.toNat cap) (m - a.toNat) (cap - a.toNat)) := fun ac w f _ => by
  simp only [execOp, f.ev hx, Option.map_some, f.ev hy, Option.map_none]
  simp [Instr.sliceAt, Instr.slice, run_underlying hu, Instr.sliceBounds, run_bound h0 h1, run_sizeOf' hs, cutA]
theorem y_slo_xox {e sz m cap : Nat} {ad : Option Addr} {a : Int} (hu : P.underlying t = some (.slice e)) (hs : szk P e = some sz) (hx : evo st x = some (.slice ad m cap)) (hy : evo st y = some (.int k a)) (h0 : 0 ≤ a) (h1 : a ≤ cap) :
    Yv E n ds st L P ⟨some d, .slice t x none (some y) none, ty, pos, af, g⟩ (.slice ad a.toNat cap) := fun ac w f _ => by
  have := cutA_zero ad sz cap
  unfold cutA at this
  simp only [execOp, f.ev hx, Option.map_some, f.ev hy, Option.map_none]
  simp [Instr.sliceAt, Instr.slice, run_underlying hu, Instr.sliceBounds, run_bound h0 h1, run_sizeOf' hs]
  simpa using this
theorem y_slo_oox {e sz m cap : Nat} {ad : Option Addr} {a b : Int} (hu : P.underlying t = some (.slice e)) (hs : szk P e = some sz) (hx : evo st x = some (.slice ad m cap)) (hy : evo st y = some (.int k a)) (hz : evo st z = some (.int k2 b)) (h0 : 0 ≤ a) (h1 : a ≤ b) (h2 : b ≤ cap) :
    Yv E n ds st L P ⟨some d, .slice t x (some y) (some z) none, ty, pos, af, g⟩ (.slice (cutA ad sz a.toNat cap) (b.toNat - a.toNat) (cap - a.toNat)) := fun ac w f _ => by
  have hb := run_bound (P := P) (k := k2) (c := .sliceAcap) (Int.le_trans h0 h1) h2 w
  have ha := run_bound (P := P) (k := k) (c := .sliceB) (m := b.toNat) h0 (by omega) w
  simp only [execOp, f.ev hx, Option.map_some, f.ev hy, f.ev hz, Option.map_none]
  simp [Instr.sliceAt, Instr.slice, run_underlying hu, Instr.sliceBounds, hb, ha, run_sizeOf' hs, cutA]
theorem y_slo_oxxN {e sz m cap j : Nat} {ad : Option Addr} (hu : P.underlying t = some (.slice e)) (hs : szk P e = some sz) (hx : evo st x = some (.slice ad m cap)) (hy : evo st y = some (.int k (Int.ofNat j))) (h1 : j ≤ m) :
    Yv E n ds st L P ⟨some d, .slice t x (some y) none none, ty, pos, af, g⟩ (.slice (cutA ad sz j cap) (m - j) (cap - j)) :=
  y_slo_oxx hu hs hx hy (Int.natCast_nonneg j) (Int.ofNat_le.2 h1)
theorem y_slo_xoxN {e sz m cap j : Nat} {ad : Option Addr} (hu : P.underlying t = some (.slice e)) (hs : szk P e = some sz) (hx : evo st x = some (.slice ad m cap)) (hy : evo st y = some (.int k (Int.ofNat j))) (h1 : j ≤ cap) :
    Yv E n ds st L P ⟨some d, .slice t x none (some y) none, ty, pos, af, g⟩ (.slice ad j cap) :=
  y_slo_xox hu hs hx hy (Int.natCast_nonneg j) (Int.ofNat_le.2 h1)
theorem own_split {e sz m cap l : Nat} {ad : Option Addr} {us1 us2 : List Value} {h : PH} (hl : l ≤ m) (h1 : us1.length = l * sz) (s : sep (own e sz ad m cap (us1 ++ us2) :: L) h) :
    sep (own e sz ad l l us1 :: own e sz (cutA ad sz l cap) (m - l) (cap - l) us2 :: L) h := by
  obtain ⟨g1, g2, d, a, b, ⟨hlen, hv⟩, y⟩ := s
  rcases hv with ⟨rfl, rfl⟩ | ⟨bl, off, sp, rfl, hmc, hcm, hsp, hsg⟩
  · have hl0 : l = 0 := by omega
    subst hl0
    have e1 : us1 = [] := List.eq_nil_of_length_eq_zero (by simpa using h1)
    have e2 : us2 = [] := List.eq_nil_of_length_eq_zero (by simpa [e1] using hlen)
    subst e1; subst e2
    exact sep_own_nil e sz _ (sep_own_nil e sz _ (y.up b))
  · have h2 : us2.length = (m - l) * sz := by rw [Nat.sub_mul]; simp at hlen; omega
    have s2 : sep (seg bl off (us1 ++ (us2 ++ sp)) :: L) h := ⟨g1, g2, d, a, b, by rw [← List.append_assoc]; exact hsg, y⟩
    have s3 := seg_split s2
    refine sep_head (A := seg bl off us1) (Ent.imp' (A := seg bl (off + us1.length) (us2 ++ sp)) (.there .here) (fun k hk => ?_) (fun _ x => x) s3 |> fun x => Pick.sep (.there .here) x) fun k hk => ?_
    · refine ⟨h2, ?_⟩
      by_cases hc : cap = l
      · left; constructor <;> omega
      · right
        refine ⟨bl, off + us1.length, sp, ?_, by omega, by omega, by rw [hsp]; congr 1; omega, hk⟩
        simp [cutA, hc, add_flat, h1]
    · refine ⟨h1, .inr ⟨bl, off, [], rfl, Nat.le_refl _, by omega, by simp, by simpa using hk⟩⟩
theorem own_drop {e sz m cap l : Nat} {ad : Option Addr} {us1 us2 : List Value} {h : PH} (hl : l ≤ m) (h1 : us1.length = l * sz) (s : sep (own e sz ad m cap (us1 ++ us2) :: L) h) :
    sep (own e sz (cutA ad sz l cap) (m - l) (cap - l) us2 :: L) h := by
  obtain ⟨_, _, _, _, b, _, y⟩ := own_split hl h1 s
  exact y.up b
theorem own_take {e sz m cap l : Nat} {ad : Option Addr} {us1 us2 : List Value} {h : PH} (hl : l ≤ m) (h1 : us1.length = l * sz) (o : own e sz ad m cap (us1 ++ us2) h) : own e sz ad l cap us1 h := by
  obtain ⟨hlen, hv⟩ := o
  refine ⟨h1, ?_⟩
  rcases hv with ⟨rfl, rfl⟩ | ⟨bl, off, sp, rfl, hmc, hcm, hsp, hsg⟩
  · left; constructor <;> omega
  · right
    refine ⟨bl, off, us2 ++ sp, rfl, by omega, hcm, ?_, by rw [← List.append_assoc]; exact hsg⟩
    have h2 : us2.length = (m - l) * sz := by rw [Nat.sub_mul]; simp at hlen; omega
    rw [List.length_append, h2, hsp, ← Nat.add_mul]; congr 1; omega
theorem RdS.part {sz m l h mx : Nat} {ad : Option Addr} {us : List Value} (hR : RdS L sz ad m us) (hlh : l ≤ h) (hm : h ≤ m) (hmx : h ≤ mx) : RdS L sz (cutA ad sz l mx) (h - l) ((us.drop (l * sz)).take ((h - l) * sz)) := fun k s => by
  obtain ⟨hl, hv⟩ := hR k s
  refine ⟨?_, ?_⟩
  · have : (h - l) * sz ≤ (m - l) * sz := Nat.mul_le_mul_right _ (by omega)
    rw [List.length_take, List.length_drop, hl, ← Nat.sub_mul]; omega
  · by_cases h0 : h - l = 0
    · exact .inl h0
    · right
      rcases hv with h1 | ⟨b, o, rfl, hc⟩
      · omega
      · refine ⟨b, o + l * sz, by simp [cutA, show mx ≠ l by omega, add_flat], fun j v hj => ?_⟩
        have hj2 : us[l * sz + j]? = some v := by
          rw [List.getElem?_take] at hj
          split at hj
          · rwa [List.getElem?_drop] at hj
          · cases hj
        have := hc _ v hj2
        rwa [← Nat.add_assoc] at this
theorem RdS.tail {sz m l mx : Nat} {ad : Option Addr} {us : List Value} (hR : RdS L sz ad m us) (hl : l ≤ m) (hmx : m ≤ mx) : RdS L sz (cutA ad sz l mx) (m - l) (us.drop (l * sz)) := fun k s => by
  have h1 := RdS.part (mx := mx) hR hl (Nat.le_refl m) hmx k s
  have h2 := (hR k s).1
  rwa [List.take_of_length_le (by rw [List.length_drop, h2, ← Nat.sub_mul]; exact Nat.le_refl _)] at h1
theorem RdS.head {sz m l : Nat} {ad : Option Addr} {us : List Value} (hR : RdS L sz ad m us) (hl : l ≤ m) : RdS L sz ad l (us.take (l * sz)) := by
  have := RdS.part (mx := l) (l := 0) hR (Nat.zero_le _) hl (Nat.le_refl _)
  rw [cutA_zero] at this
  simpa using this
def NeP (P : Program) (L : List SP) (a1 a2 : Addr) : Prop := ∀ E w, Sat E L w → (sameAddr a1 a2).run P w = .ok false w
theorem NeP.same {b o1 o2 : Nat} (h : o1 ≠ o2) : NeP P L ⟨b, o1, none⟩ ⟨b, o2, none⟩ := fun E w s => by
  simp [sameAddr, h]
theorem Hd.callvE {fid : FuncId} {cap : List Value} {xs : List Operand} {vs : List Value} {tys : Array TypeId} {ι : Type} {val : ι → Value} {post : ι → List SP} {L2 : List SP} (hx : evo st x = some (.func (.func fid) #[] cap.toArray)) (hv : xs.map (evo st) = vs.map some) (hf : fnk P fid = true)
    (hc : Ct P fid (vs ++ cap).toArray L2 val post) (he : ∀ k, sep L k → sep L2 k) (K : ∀ i, Hd E n ds ((d, val i) :: st) (post i) (LW r P ops Q rest)) (hd : d < n := by decide) :
    Hd E n ds st L (LW r P ops Q (⟨some d, .call ⟨.value x, xs.toArray, tys⟩, ty, pos, af, none⟩ :: rest)) := Hd.callv hx hv hf (fun E w s => hc E w (s.mp he)) K hd
abbrev B (b : UInt8) : Value := .int .u8 (b.toNat : Int)
@[reducible] def str (l : List UInt8) : ByteArray := ⟨l.toArray⟩
theorem B_one {l : List UInt8} : ∀ u ∈ l.map B, u.oneCell' = true := by simp [Value.oneCell']
def u8t (P : Program) (t : TypeId) : Bool := match P.underlying t with
  | some (.slice e) => (match P.underlying e with | some (.int .u8) => true | _ => false)
  | _ => false
theorem u8t_parts (h : u8t P t = true) : ∃ e, P.underlying t = some (.slice e) ∧ P.underlying e = some (.int .u8) := by
  unfold u8t at h
  split at h
  · rename_i e hu
    refine ⟨e, hu, ?_⟩
    split at h
    · assumption
    · cases h
  · cases h
theorem y_strOf {ad : Option Addr} {m cap : Nat} {l : List UInt8} (hu : u8t P t = true) (hd : P.underlying t2 = some .string) (hx : evo st x = some (.slice ad m cap)) (hR : RdS L 1 ad m (l.map B)) :
    Yv E n ds st L P ⟨some d, .convert t t2 x, ty, pos, af, g⟩ (.string (str l)) := fun a w f s => by
  obtain ⟨e, h1, h2⟩ := u8t_parts hu
  obtain ⟨hl, hv⟩ := hR _ s.2.2.2
  have hl' : l.length = m := by simpa using hl
  subst hl'
  simp only [execOp, f.ev hx]
  cases ad with
  | none =>
    have h0 : l = [] := by
      rcases hv with h | ⟨b, o, h, _⟩
      · exact List.eq_nil_of_length_eq_zero h
      · cases h
    subst h0
    rw [show (convert t t2 (.slice none ([] : List UInt8).length cap)) = _ from rfl]
    simp [run_convert_bytes_string w t t2 e none 0 cap h1 h2 hd, Conv.bytesToString]
    rfl
  | some a' =>
    have := run_convert_bytes_back (P := P) w t t2 e a' cap l h1 h2 hd (fun j hj => by
      rcases hv with h | ⟨b, o, h, hc⟩
      · omega
      · simp only [Option.some.injEq] at h
        subst h
        obtain ⟨fr, hh⟩ := hc j (B l[j]) (by simp [hj])
        rw [add_flat]; exact cell_hp hh)
    simp [this]
theorem y_to {o : Oper} {v v' : Value} (h : Yv E n ds st L P o v) (e : v = v') : Yv E n ds st L P o v' := e ▸ h
theorem Hd.convSS {b m : Nat} {cs : List Value} {e e' : TypeId} (hu : u8t P t = true) (hx : evo st x = some (.slice (some ⟨b, 0, none⟩) m m)) (hp : Pick L (pt b cs e') L') (hl : cs.length = m) (hm : m ≤ maxLen)
    (K : Hd E n ds ((d, .slice (some ⟨b, 0, none⟩) m m) :: st) (own e 1 (some ⟨b, 0, none⟩) m m cs :: L') (LW r P ops Q rest)) (hd : d < n := by decide) :
    Hd E n ds st L (LW r P ops Q (⟨some d, .convert t t x, ty, pos, af, none⟩ :: rest)) :=
  Hd.op rfl (by simp) fun a w f s => by
    obtain ⟨e2, h1, h2⟩ := u8t_parts hu
    have hb := s.pt_at hp
    have hsh : w.shape? b = some (e', cs.length) := by simp [World.shape?, hb]
    refine ⟨_, w.freeze ⟨b, cs.length, none⟩ 1, ?_, K _ _ (f.put hd _) ?_⟩
    · simp only [execOp, f.ev hx]
      simp [convert, run_underlying h1, run_underlying h2, markStringish, hsh]
    · have hk : ∀ x, x ≠ b → (w.freeze ⟨b, cs.length, none⟩ 1).heap[x]? = w.heap[x]? := fun x hx => by
        simp [World.freeze, Array.getElem?_modify, Ne.symm hx]
      have hb' : (w.freeze ⟨b, cs.length, none⟩ 1).heap[b]? = some (.cells cs.toArray e' (cs.length, cs.length + 1)) := by
        simp [World.freeze, Array.getElem?_modify, hb]
      refine ⟨by simpa [World.freeze] using s.1, by simpa [World.freeze] using s.2.1, by simpa [World.freeze] using s.2.2.1, ?_⟩
      have hsep : sep (seg b 0 cs :: L') (RX.hp (w.freeze ⟨b, cs.length, none⟩ 1)) := by
        refine sep_upd (hp.sep s.2.2.2) fun h1 x s1 => ⟨fun z hz => ?_, fun i v hi => ?_⟩
        · obtain ⟨zb, zi⟩ := z
          by_cases hzb : zb = b
          · subst hzb
            cases zi with
            | none => rw [x.kind] at hz; cases hz
            | some i =>
              have hi : cs.length ≤ i := by
                rcases Nat.lt_or_ge i cs.length with hi | hi
                · rw [x.cell i cs[i] (List.getElem?_eq_getElem hi)] at hz; cases hz
                · exact hi
              show hpo (w.freeze ⟨zb, cs.length, none⟩ 1).heap[zb]? _ = hpo w.heap[zb]? _
              rw [hb', hb]
              simp only [hpo]
              rw [Array.getElem?_eq_none (by simpa using hi)]; rfl
          · show hpo _ _ = hpo _ _
            rw [hk zb hzb]
        · rw [Nat.zero_add]
          have hi' : i < cs.length := (List.getElem?_eq_some_iff.1 hi).1
          show (if (h1 (b, some i)).isSome then RX.hp (w.freeze ⟨b, cs.length, none⟩ 1) (b, some i) else none) = _
          rw [x.cell i v hi]
          show hpo (w.freeze ⟨b, cs.length, none⟩ 1).heap[b]? (some i) = _
          rw [hb']
          simp [hpo, hi]
          omega
      exact sep_head hsep fun k x => ⟨by rw [hl]; simp, .inr ⟨b, 0, [], rfl, Nat.le_refl _, hm, by simp, by simpa using x⟩⟩
theorem toList_str (l : List UInt8) : (str l).toList = l := by
  have h : ∀ (s : ByteArray), s.toList = s.data.toList := fun s => by exact ByteArray.toList_eq s
  rw [h]
theorem y_eqlstr {a b : List UInt8} (hx : evo st x = some (.string (str a))) (hy : evo st y = some (.string (str b))) : Yv E n ds st L P ⟨some d, .binOp .eql t x y t2, ty, pos, af, g⟩ (.bool (decide (a = b))) := fun ac w f _ => by
  simp only [execOp, f.ev hx, f.ev hy]
  simp [eqGuard, binOp, Op.stringOp, toList_str]
  rw [Bool.eq_iff_iff]; simp
theorem Hd.mkslice {e sz bytes m cap : Nat} {zs : List Value} {a b : Int} (ht : P.underlying t = some (.slice e)) (hi : tyr P e = some (sz, bytes, sz)) (hz : zrk P e = some zs) (hx : evo st x = some (.int k a)) (hy : evo st y = some (.int k2 b)) (ha : a = (m : Int)) (hb : b = (cap : Int)) (hmc : m ≤ cap) (hbytes : bytes * cap ≤ 281474976710656) (h63 : cap ≤ maxLen)
    (K : ∀ bl cs, cs = (List.range (cap * sz)).map (fun i => zs.getD (i % sz) (.bool false)) → Hd E n ds ((d, .slice (some ⟨bl, 0, none⟩) m cap) :: st) (pt bl cs e :: L) (LW r P ops Q rest)) (hd : d < n := by decide) :
    Hd E n ds st L (LW r P ops Q (⟨some d, .makeSlice t x y, ty, pos, af, none⟩ :: rest)) :=
  Hd.op rfl (by simp) fun ac w f s => by
    subst ha; subst hb
    obtain ⟨i, zv, h1', h2', h3', h4', h5'⟩ := tyr_parts hi
    have hzs : zv.cells.toList = zs := by
      unfold zrk at hz; simp [h1', h2'] at hz; exact hz
    have h63' : (cap : Int) ≤ 9223372036854775807 := by simp only [maxLen] at h63; omega
    have hb' : (i.bytes : Int) * (cap : Int) ≤ 281474976710656 := by
      have h : ((i.bytes * cap : Nat) : Int) ≤ 281474976710656 := by rw [h4']; omega
      rwa [Int.natCast_mul] at h
    have hr := run_make (P := P) w t e i zv ht h1' h2' k k2 m cap (by omega) (by omega) hb' h63'
    simp only [Int.toNat_natCast] at hr
    refine ⟨_, _, ?_, K w.heap.size (madeCells zv.cells (cap * i.size)).toList ?_ _ _ (f.put hd _) (s.newPt _ _)⟩
    · simp only [execOp, f.ev hx, f.ev hy, Sem.run_bind, hr, Result.andThen_ok]
      rfl
    · simp only [madeCells, h3', Array.toList_map, Array.toList_range]
      apply List.map_congr_left
      intro j hj
      have hpos : 0 < sz := by
        have := List.mem_range.1 hj
        rcases Nat.eq_zero_or_pos sz with h | h
        · rw [h] at this; omega
        · exact h
      rw [h5', ← hzs]
      have hlt : j % sz < zv.cells.size := by rw [h5']; exact Nat.mod_lt _ hpos
      simp [List.getD, hlt]
end
theorem pkk {L L' : List SP} {A : SP} (h : Pick L A L' := by repeat (first | with_reducible exact Pick.here | apply Pick.there | with_reducible apply Pick.right)) : Pick L A L' := h
theorem enn {L M : List SP} (h : Ent L M := by repeat (first | with_reducible exact Ent.same | exact Ent.nil | with_reducible exact Ent.left | (apply Ent.pick; focus ((repeat (first | with_reducible exact Pick.here | apply Pick.there | with_reducible apply Pick.right)); done)) | refine Ent.pure (by assumption) ?_ | apply Ent.ownNil | with_reducible apply Ent.right | exact Ent.left | exact Ent.same | refine Ent.skip ?_)) : Ent L M := h
section
variable {E : World} {n : Nat} {ds : List Deferred} {st st' : List (Nat × Value)} {L L' M : List SP} {r : Option Nat} {P : Program} {Q : Exit → Act → World → Prop} {ops : Array Oper} {rest : List Oper}
variable {d : Nat} {ty t t2 : TypeId} {pos : String} {af : Array Edge} {g : Option (Nat × Bool)} {x y z : Operand} {v u : Value} {k : IntKind} {p q : Bool}
variable {md : Region.Mode} {S : World → Prop} {J : Nat → Bool}
def YieldsIn (P : Program) (ops : Array Oper) (S : World → Prop) (o : Oper) (v : Value) (a : Act) : Prop :=
  ((Region.wanted o (yielded ops a.tmps) = true ∧ ∀ w, S w → (execOp a.eval o).run P w = .ok (.value v) w) ∨ (Region.wanted o (yielded ops a.tmps) = false ∧ v = undef)) ∧ ∀ w, o.about P w a.eval = none
theorem YieldsIn.wpOpIn {i : Nat} {o : Oper} {v : Value} {a : Act} (hi : ops[i]? = some o) (hdf : ∀ c, o.op ≠ .defer c) (hy : YieldsIn P ops S o v a) {K : Act → World → Prop} {w : World} (hS : S w) (h : K (a.put o.dst v) w) : wpOpIn (FW r) 0 P ops Q i K a w := by
  unfold Go.wpOpIn
  simp only [hi]
  have hab : ∀ f, o.about P w a.eval = some f → (FW r).fn f := fun f hf => by rw [hy.2 w] at hf; cases hf
  rcases hy.1 with ⟨hw, hv⟩ | ⟨hw, rfl⟩
  · simp only [hw, if_true, Oper.wpIn, Oper.semAt_eq _ _ _ hdf, hv w hS, Oper.uponIn]; exact ⟨hab, h⟩
  · simp only [hw, Bool.false_eq_true, if_false]; exact ⟨hab, h⟩
theorem YieldsIn.of_same {o : Oper} {v : Value} {a a' : Act} (hy : YieldsIn P ops S o v a) (he : execOp a'.eval o = execOp a.eval o)
    (hw : Region.wanted o (yielded ops a'.tmps) = Region.wanted o (yielded ops a.tmps)) (hb : ∀ w, o.about P w a'.eval = o.about P w a.eval) : YieldsIn P ops S o v a' := by
  unfold YieldsIn at *
  rw [he, hw]
  exact ⟨hy.1, fun w => by rw [hb w]; exact hy.2 w⟩
theorem wpOpIn_putIn {j : Nat} {oi oj : Oper} {v : Value} (hj : ops[j]? = some oj) (hdf : ∀ c, oj.op ≠ .defer c) (hap : oi.apart ops oj = true)
    (hsi : ∀ cs b, oi.op ≠ .select cs b) (hsj : ∀ cs b, oj.op ≠ .select cs b) {K : Act → World → Prop} {a : Act} {w : World}
    (hy : YieldsIn P ops S oi v a) (h : wpOpIn (FW r) 0 P ops (noP Q) j K (a.put oi.dst v) w) :
    wpOpIn (FW r) 0 P ops (noP Q) j (fun a' w' => YieldsIn P ops S oi v a' ∧ K (a'.put oi.dst v) w') a w := by
  obtain ⟨h1, h2, h3⟩ := Oper.apart_spec hap
  have keep : ∀ (a : Act), YieldsIn P ops S oi v a → ∀ u, YieldsIn P ops S oi v (a.put oj.dst u) := fun a hy u =>
    hy.of_same (execOp_put oi hsi a oj.dst u h3) (wanted_put oi a oj.dst u h3) (fun w => about_put oi w a oj.dst u h3)
  have keepD : ∀ d, YieldsIn P ops S oi v { a with defers := d :: a.defers } := fun d => hy.of_same rfl rfl (fun _ => rfl)
  unfold wpOpIn at *
  simp only [hj] at *
  rw [wanted_put oj a oi.dst v h1, about_put oj w a oi.dst v h1] at h
  split
  · rename_i hw
    simp only [hw, if_true] at h
    unfold Oper.wpIn at *
    rw [about_put oj w a oi.dst v h1] at h
    refine ⟨h.1, ?_⟩
    have h := h.2
    rw [Oper.semAt_eq _ _ _ hdf, execOp_put oj hsj a oi.dst v h1] at h
    rw [Oper.semAt_eq _ _ _ hdf]
    generalize (execOp a.eval oj).run P w = r at *
    cases r with
    | ok x w' =>
      cases x <;> simp only [Oper.uponIn] at h ⊢
      case value u => exact ⟨keep a hy u, by rw [← Act.put_comm a v u h2]; exact h⟩
      case skip => exact ⟨keep a hy _, by rw [← Act.put_comm a v undef h2]; exact h⟩
      case defer d =>
        refine ⟨keep _ (keepD d) _, ?_⟩
        rw [← Act.put_comm _ v undef h2, ← Act.put_defers]
        exact h
      case enter f args =>
        refine ⟨h.1, CallsIn.mono h.2 fun e w'' he => ?_⟩
        cases e with
        | returned u => exact ⟨keep a hy u, by rw [← Act.put_comm a v u h2]; exact he⟩
        | panicked c => exact he.elim
        | outgrown => exact he
      case row row args => exact ⟨h.1, RowsIn.mono h.2 fun u w'' he => ⟨keep a hy u, by rw [← Act.put_comm a v u h2]; exact he⟩⟩
      case round l f tmps assign body =>
        refine ⟨h.1, RoundIn.mono h.2 fun e w'' he => ?_⟩
        cases e with
        | returned u => exact ⟨keep a hy u, by rw [← Act.put_comm a v u h2]; exact he⟩
        | panicked c => exact he.elim
        | outgrown => exact he
    | halt x w' =>
      cases x <;> simp only [Oper.uponIn] at h ⊢
      case panic u => exact h.elim
  · rename_i hw
    simp only [hw] at h
    exact ⟨h.1, keep a hy _, by rw [← Act.put_comm a v undef h2]; exact h.2⟩
def wpAnyHz (r : Option Nat) (P : Program) (md : Region.Mode) (ops : Array Oper) (Q : Exit → Act → World → Prop) (S : World → Prop) (J : Nat → Bool) : Nat → Array Bool → Act → World → Prop
  | 0, listed, a, w => Region.ready md ops listed = [] ∧ Q .normal a w
  | fuel + 1, listed, a, w =>
    (Region.ready md ops listed = [] → Q .normal a w) ∧
    ∀ i ∈ Region.ready md ops listed, wpOpIn (FW r) 0 P ops (noP Q) i (fun a' w' => (J i = true → S w') ∧ wpAnyHz r P md ops Q S J fuel (listed.setIfInBounds i true) a' w') a w
theorem wpAnyIn_of_heldz : ∀ (fuel : Nat) (listed : Array Bool) (a : Act) (w : World), wpAnyHz r P md ops Q S J fuel listed a w → wpAnyIn (FW r) 0 P md ops (noP Q) fuel listed a w
  | 0, _, _, _, h => h
  | fuel + 1, _, _, _, h => ⟨h.1, fun i hi => wpOpIn_mono (fun a' w' h' => wpAnyIn_of_heldz fuel _ a' w' h'.2) (h.2 i hi)⟩
theorem wpAnyHz_first {i : Nat} {oi : Oper} {v : Value} (hi : ops[i]? = some oi) (hsel : ∀ (j : Nat) (o : Oper) cs b, ops[j]? = some o → o.op ≠ .select cs b)
    (hJ : ∀ (j : Nat) oj, ops[j]? = some oj → (∀ e ∈ oj.after, Region.binds md e = true → e.on ≠ i) → J j = true) (hnd : ∀ (j : Nat) (o : Oper), ops[j]? = some o → ∀ c, o.op ≠ .defer c) :
    ∀ (fuel : Nat) (listed : Array Bool) (a : Act) (w : World),
      (∀ j oj, ops[j]? = some oj → j ≠ i → listed.getD j true = false → (∀ e ∈ oj.after, Region.binds md e = true → e.on ≠ i) → oi.apart ops oj = true) →
      i ∈ Region.ready md ops listed → YieldsIn P ops S oi v a → S w →
      wpAnyHz r P md ops Q S J fuel (listed.setIfInBounds i true) (a.put oi.dst v) w → wpAnyHz r P md ops Q S J (fuel + 1) listed a w := by
  intro fuel
  induction fuel with
  | zero =>
    intro listed a w _ hr hy hS H
    refine ⟨fun h => (by rw [h] at hr; cases hr), fun j hj => ?_⟩
    by_cases hji : j = i
    · subst hji; exact hy.wpOpIn hi (hnd _ _ hi) hS ⟨fun _ => hS, H⟩
    · have := ready_mono hj hji
      rw [H.1] at this
      cases this
  | succ fuel ih =>
    intro listed a w hfree hr hy hS H
    refine ⟨fun h => (by rw [h] at hr; cases hr), fun j hj => ?_⟩
    by_cases hji : j = i
    · subst hji; exact hy.wpOpIn hi (hnd _ _ hi) hS ⟨fun _ => hS, H⟩
    · have h1 := H.2 j (ready_mono hj hji)
      obtain ⟨hjun, oj, hoj, hall⟩ := mem_ready.1 hj
      have hnot : ∀ e ∈ oj.after, Region.binds md e = true → e.on ≠ i := fun e he hb heq => by
        have h1 := hall e he hb
        have h0 := (mem_ready.1 hr).1
        rw [heq] at h1
        rcases Nat.lt_or_ge i listed.size with h' | h'
        · simp [h'] at h0 h1; rw [h0] at h1; cases h1
        · simp [Array.getElem?_eq_none h'] at h1
      have h2 := wpOpIn_putIn hoj (hnd _ _ hoj) (hfree j oj hoj hji hjun hnot) (fun cs b => hsel i oi cs b hi) (fun cs b => hsel j oj cs b hoj) hy h1
      have hfree' : ∀ k ok, ops[k]? = some ok → k ≠ i → (listed.setIfInBounds j true).getD k true = false →
          (∀ e ∈ ok.after, Region.binds md e = true → e.on ≠ i) → oi.apart ops ok = true := fun k ok hk hki hun hno => by
        refine hfree k ok hk hki ?_ hno
        by_cases hjk : j = k
        · subst hjk; exact hjun
        · rw [getD_set_ne true hjk] at hun; exact hun
      have hJj := hJ j oj hoj hnot
      refine wpOpIn_mono (fun a' w' h3 => ⟨fun _ => h3.2.1 hJj, ih (listed.setIfInBounds j true) a' w' hfree' (ready_mono hr (Ne.symm hji)) h3.1 (h3.2.1 hJj) ?_⟩) h2
      rw [Array.setIfInBounds_comm _ _ hji]
      exact h3.2.2
def isDefer : Op → Bool
  | .defer _ => true
  | _ => false
def jOk (md : Region.Mode) (ops : Array Oper) (J : Nat → Bool) (i : Nat) : Bool :=
  (ops.all fun o => !isDefer o.op) && (List.range ops.size).all fun j => J j || match ops[j]? with | some oj => oj.after.any (fun e => Region.binds md e && Nat.beq e.on i) | none => true
theorem jOk_spec {i : Nat} (h : jOk md ops J i = true) : ∀ (j : Nat) oj, ops[j]? = some oj → (∀ e ∈ oj.after, Region.binds md e = true → e.on ≠ i) → J j = true := fun j oj hj hno => by
  simp only [jOk, Bool.and_eq_true] at h
  have := List.all_eq_true.1 h.2 j (List.mem_range.2 (Array.getElem?_eq_some_iff.1 hj).1)
  simp only [hj, Bool.or_eq_true] at this
  rcases this with h | h
  · exact h
  · obtain ⟨e, he, h2⟩ := Array.any_eq_true'.1 h
    simp only [Bool.and_eq_true] at h2
    exact absurd (Nat.eq_of_beq_eq_true h2.2) (hno e he h2.1)
theorem jOk_nd {i : Nat} (h : jOk md ops J i = true) : ∀ (j : Nat) (o : Oper), ops[j]? = some o → ∀ c, o.op ≠ .defer c := fun j o hj c hc => by
  simp only [jOk, Bool.and_eq_true] at h
  have := Array.all_eq_true'.1 h.1 o (Array.mem_of_getElem? hj)
  rw [hc] at this; cases this
abbrev ZW (r : Option Nat) (P : Program) (ops : Array Oper) (Q : Exit → Act → World → Prop) (S : World → Prop) (J : Nat → Bool) (f : Nat) (listed : Array Bool) : Act → World → Prop := wpAnyHz r P .any ops Q S J f listed
theorem Hd.drawsH {id : Nat} {l : List Oper} (M : List SP) (J : Nat → Bool) (hm : P.follows .mixedOrders = true) (h : Hd E n ds st L (ZW r P l.toArray Q (Sat E M) J l.length (Array.replicate l.length false))) :
    Hd E n ds st L (CW r P (.region id l.toArray true) Q) := fun a w f s => by
  refine Go.wpIn_mono (wpIn_region_any (F := FW r) (Q := noP Q) hm ?_) ?_
  · have := wpAnyIn_of_heldz _ _ _ _ (h a _ f s.draw)
    simpa using this
  · intro e a' w' hq
    cases e <;> first | exact hq | exact hq.elim
theorem Hd.takeH (i : Nat) {op : Op} {f : Nat} {listed : Array Bool} (hi : ops[i]? = some ⟨some d, op, ty, pos, af, none⟩) (hs : Region.noSelect ops = true) (hf : Region.free .any ops listed i = true)
    (hr : (Region.ready .any ops listed).contains i = true) (hJ : jOk .any ops J i = true) (hx : Yv E n ds st M P ⟨some d, op, ty, pos, af, none⟩ v) (hab : ∀ (a : Act) w, (⟨some d, op, ty, pos, af, none⟩ : Oper).about P w a.eval = none)
    (hM : ∀ k, sep L k → sep M k) (K : Hd E n ds ((d, v) :: st) L (ZW r P ops Q (Sat E M) J f (listed.setIfInBounds i true))) (hd : d < n := by decide) :
    Hd E n ds st L (ZW r P ops Q (Sat E M) J (f + 1) listed) := fun a w fr s => by
  refine wpAnyHz_first hi (Region.noSelect_spec hs) (jOk_spec hJ) (jOk_nd hJ) f listed a w (Region.free_spec hi hf) (by simpa using hr) ?_ (s.mp hM) (K _ w (fr.put hd v) s)
  exact ⟨.inl ⟨by simp [Region.wanted], fun w sw => hx a w fr sw⟩, fun w => hab a w⟩
theorem Hd.takegH (i : Nat) {op : Op} {j gd : Nat} {f : Nat} {listed : Array Bool} (hi : ops[i]? = some ⟨some d, op, ty, pos, af, some (j, p)⟩) (hs : Region.noSelect ops = true) (hf : Region.free .any ops listed i = true)
    (hr : (Region.ready .any ops listed).contains i = true) (hJ : jOk .any ops J i = true) (hj : (ops[j]?).bind (·.dst) = some gd) (hv : look st gd = some (.bool p)) (hx : Yv E n ds st M P ⟨some d, op, ty, pos, af, some (j, p)⟩ v) (hab : ∀ (a : Act) w, (⟨some d, op, ty, pos, af, some (j, p)⟩ : Oper).about P w a.eval = none)
    (hM : ∀ k, sep L k → sep M k) (K : Hd E n ds ((d, v) :: st) L (ZW r P ops Q (Sat E M) J f (listed.setIfInBounds i true))) (hd : d < n := by decide) :
    Hd E n ds st L (ZW r P ops Q (Sat E M) J (f + 1) listed) := fun a w fr s => by
  refine wpAnyHz_first hi (Region.noSelect_spec hs) (jOk_spec hJ) (jOk_nd hJ) f listed a w (Region.free_spec hi hf) (by simpa using hr) ?_ (s.mp hM) (K _ w (fr.put hd v) s)
  exact ⟨.inl ⟨by simp [Region.wanted, yielded_of hj fr hv], fun w sw => hx a w fr sw⟩, fun w => hab a w⟩
theorem Hd.takenH (i : Nat) {op : Op} {j gd : Nat} {f : Nat} {listed : Array Bool} (hi : ops[i]? = some ⟨some d, op, ty, pos, af, some (j, p)⟩) (hs : Region.noSelect ops = true) (hf : Region.free .any ops listed i = true)
    (hr : (Region.ready .any ops listed).contains i = true) (hJ : jOk .any ops J i = true) (hj : (ops[j]?).bind (·.dst) = some gd) (hv : look st gd = some v) (hb : isb v p = false) (hab : ∀ (a : Act) w, (⟨some d, op, ty, pos, af, some (j, p)⟩ : Oper).about P w a.eval = none)
    (hM : ∀ k, sep L k → sep M k) (K : Hd E n ds ((d, undef) :: st) L (ZW r P ops Q (Sat E M) J f (listed.setIfInBounds i true))) (hd : d < n := by decide) :
    Hd E n ds st L (ZW r P ops Q (Sat E M) J (f + 1) listed) := fun a w fr s => by
  refine wpAnyHz_first hi (Region.noSelect_spec hs) (jOk_spec hJ) (jOk_nd hJ) f listed a w (Region.free_spec hi hf) (by simpa using hr) ?_ (s.mp hM) (K _ w (fr.put hd undef) s)
  refine ⟨.inr ⟨?_, rfl⟩, fun w => hab a w⟩
  simp only [Region.wanted, yielded_of hj fr hv]
  cases v <;> simp_all [isb]
theorem wpOpIn_of_list {i : Nat} {o : Oper} {K : Act → World → Prop} {a : Act} {w : World} (hi : ops[i]? = some o) (h2 : wpListIn (FW r) 0 P ops (Exit.then K (noP Q)) [o] a w) : wpOpIn (FW r) 0 P ops (noP Q) i K a w := by
  unfold wpOpIn
  simp only [hi]
  unfold wpListIn at h2
  by_cases hw : Region.wanted o (yielded ops a.tmps) = true
  · rw [if_pos hw] at h2 ⊢
    refine ⟨h2.1, ?_⟩
    have h3 := h2.2
    unfold Oper.uponIn at h3 ⊢
    split at h3
    · exact h3
    · exact h3
    · exact h3
    · obtain ⟨hn, hc⟩ := h3
      refine ⟨hn, hc.mono fun e w' he => ?_⟩
      cases e with
      | returned v => exact he
      | panicked ch => exact he.elim
      | outgrown => exact he
    · exact h3
    · obtain ⟨hn, hc⟩ := h3
      refine ⟨hn, RoundIn.mono hc fun e w' he => ?_⟩
      cases e with
      | returned v => exact he
      | panicked ch => exact he.elim
      | outgrown => exact he
    · exact h3.elim
    · exact h3.elim
  · rw [if_neg hw] at h2 ⊢
    exact h2
theorem Hd.onlyH (i : Nat) {o : Oper} {f : Nat} {listed : Array Bool} (hi : ops[i]? = some o) (hr : Region.ready .any ops listed = [i])
    (h : Hd E n ds st L (LW r P ops (Exit.then (fun a w => (J i = true → Sat E M w) ∧ ZW r P ops Q (Sat E M) J f (listed.setIfInBounds i true) a w) (noP Q)) [o])) : Hd E n ds st L (ZW r P ops Q (Sat E M) J (f + 1) listed) := fun a w fr s => by
  have h1 := h a w fr s
  refine ⟨fun h0 => (by rw [hr] at h0; cases h0), fun j hj => ?_⟩
  rw [hr] at hj
  obtain rfl : j = i := by simpa using hj
  exact wpOpIn_of_list hi h1
theorem Hd.eitherH (i j : Nat) {o o' : Oper} {f : Nat} {listed : Array Bool} (hi : ops[i]? = some o) (hj : ops[j]? = some o') (hr : Region.ready .any ops listed = [i, j])
    (h : Hd E n ds st L (LW r P ops (Exit.then (fun a w => (J i = true → Sat E M w) ∧ ZW r P ops Q (Sat E M) J f (listed.setIfInBounds i true) a w) (noP Q)) [o]))
    (h' : Hd E n ds st L (LW r P ops (Exit.then (fun a w => (J j = true → Sat E M w) ∧ ZW r P ops Q (Sat E M) J f (listed.setIfInBounds j true) a w) (noP Q)) [o'])) : Hd E n ds st L (ZW r P ops Q (Sat E M) J (f + 1) listed) := fun a w fr s => by
  refine ⟨fun h0 => (by rw [hr] at h0; cases h0), fun q hq => ?_⟩
  rw [hr] at hq
  simp only [List.mem_cons, List.not_mem_nil, or_false] at hq
  rcases hq with rfl | rfl
  · exact wpOpIn_of_list hi (h a w fr s)
  · exact wpOpIn_of_list hj (h' a w fr s)
theorem Hd.heldK {i f : Nat} {listed : Array Bool} (hM : ∀ k, sep L k → sep M k) (K : Hd E n ds st L (ZW r P ops Q (Sat E M) J f listed)) : Hd E n ds st L (fun a w => (J i = true → Sat E M w) ∧ ZW r P ops Q (Sat E M) J f listed a w) :=
  fun a w fr s => ⟨fun _ => s.mp hM, K a w fr s⟩
theorem Hd.heldN {i f : Nat} {listed : Array Bool} (hJ : J i = false) (K : Hd E n ds st L (ZW r P ops Q (Sat E M) J f listed)) : Hd E n ds st L (fun a w => (J i = true → Sat E M w) ∧ ZW r P ops Q (Sat E M) J f listed a w) :=
  fun a w fr s => ⟨fun h => (by rw [hJ] at h; cases h), K a w fr s⟩
theorem Hd.endH {f : Nat} {listed : Array Bool} (hr : Region.ready .any ops listed = []) (h : Hd E n ds st L (Q .normal)) : Hd E n ds st L (ZW r P ops Q (Sat E M) J f listed) := fun a w fr s => by
  cases f with
  | zero => exact ⟨hr, h a w fr s⟩
  | succ f => exact ⟨fun _ => h a w fr s, fun i hi => (by rw [hr] at hi; cases hi)⟩
end
section
variable {P : Program} {E : World} {n : Nat} {ds : List Deferred} {st : List (Nat × Value)} {L L' : List SP} {K : Act → World → Prop}
end
section
variable {E : World} {n : Nat} {ds : List Deferred} {st : List (Nat × Value)} {L L' : List SP} {r : Option Nat} {P : Program} {Q : Exit → Act → World → Prop} {ops : Array Oper} {rest : List Oper}
variable {ty t : TypeId} {pos : String} {af : Array Edge} {x y : Operand} {v : Value}
end
section
variable {P : Program} {E : World} {n : Nat} {ds : List Deferred} {st : List (Nat × Value)} {L L' : List SP}
theorem results_cell {fn : Func} {ta : Nat} {t : TypeId} {b o : Nat} {us : List Value} {tmps : Array Value} {w : World} (hr : fn.results = #[.cell ta t]) (ha : agk P t = some true) (hx : tmps.getD ta undef = .pointer (some ⟨b, o, none⟩))
    (hR : Rd L b o us) (hz : szk P t = some us.length) (s : Sat E L w) : (results fn tmps).run P w = .ok (.agg us.toArray) w := by
  have hc : (loadCells ⟨b, o, none⟩ us.length).run P w = .ok us.toArray w := run_loadCells_list w _ us fun j v e => by
    have := hR.cell s e
    unfold Addr.add
    split
    · rename_i h0; subst h0; simpa using this
    · exact this
  have hv : (loadVar t ⟨b, o, none⟩).run P w = .ok (.agg us.toArray) w := by
    simp only [loadVar, Sem.run_bind, run_isAgg ha, Result.andThen, if_true, run_sizeOf' hz, hc]
    rfl
  have hx2 : tmps[ta]?.getD undef = .pointer (some ⟨b, o, none⟩) := by simpa using hx
  simp [results, hr, hx2, asAddr, hv]
theorem Hd.retC {fn : Func} {ta : Nat} {t : TypeId} {b o : Nat} {us : List Value} {ι : Type} {val : ι → Value} {post : ι → List SP} (hr : fn.results = #[.cell ta t]) (i : ι) (ha : agk P t = some true) (hx : look st ta = some (.pointer (some ⟨b, o, none⟩)))
    (hR : Rd L b o us) (hz : szk P t = some us.length) (hv : val i = .agg us.toArray) (hl : ∀ k, sep L k → sep (post i) k) :
    Hd E n [] st L ((bodyPost P fn fun e w' => ∃ i, e = .returned (val i) ∧ Sat E (post i) w') .ret) := fun a w f s =>
  bodyPost_ret (results_cell hr ha (by simp [f.at_ ta _ hx]) hR hz s) f.defs ⟨i, by rw [hv], s.mp hl⟩
end
section
variable {E : World} {n : Nat} {ds : List Deferred} {st : List (Nat × Value)} {L L' L2 : List SP} {K : Act → World → Prop}
theorem Hd.ownSplit {e sz m cap : Nat} {ad : Option Addr} {us : List Value} (p : Pick L (own e sz ad m cap us) L') (l : Nat) (us1 us2 : List Value) (hl : l ≤ m) (hu : us = us1 ++ us2) (h1 : us1.length = l * sz)
    (h : Hd E n ds st (own e sz ad l l us1 :: own e sz (cutA ad sz l cap) (m - l) (cap - l) us2 :: L') K) : Hd E n ds st L K := Hd.heap _ (fun k s => by subst hu; exact own_split hl h1 (p.sep s)) h
theorem Hd.ownDrop {e sz m cap : Nat} {ad : Option Addr} {us : List Value} (p : Pick L (own e sz ad m cap us) L') (l : Nat) (us1 us2 : List Value) (hl : l ≤ m) (hu : us = us1 ++ us2) (h1 : us1.length = l * sz)
    (h : Hd E n ds st (own e sz (cutA ad sz l cap) (m - l) (cap - l) us2 :: L') K) : Hd E n ds st L K := Hd.heap _ (fun k s => by subst hu; exact own_drop hl h1 (p.sep s)) h
theorem Hd.ownCap {e sz m cap : Nat} {ad : Option Addr} {us : List Value} (p : Pick L (own e sz ad m cap us) L') (h : m ≤ cap → Hd E n ds st L K) : Hd E n ds st L K := fun a w f s => by
  refine h ?_ a w f s
  obtain ⟨h1, s1, x⟩ := sep.one p s.2.2.2
  exact (own_le x).1
end
theorem own_eq3 {e sz m cap m' cap' : Nat} {ad : Option Addr} {us us' : List Value} (h1 : m = m') (h2 : cap = cap') (h3 : us = us') : own e sz ad m cap us = own e sz ad m' cap' us' := by rw [h1, h2, h3]
structure Bag {α : Type} (f : α → SP) (rs : List α) (h : PH) : Prop where
  all : sep (rs.map f) h
section
variable {α : Type} {f : α → SP}
theorem bag_split {a b : List α} {L : List SP} {h : PH} (s : sep (Bag f (a ++ b) :: L) h) : sep (Bag f a :: Bag f b :: L) h := by
  obtain ⟨h1, h2, d, s1, s2, ⟨x⟩, y⟩ := s
  rw [List.map_append] at x
  obtain ⟨k1, k2, d', a', b', x1, x2⟩ := sep_append x
  exact ⟨k1, uni k2 h2, (Dis.uniL d'.sym (d.subL a').sym).sym, a'.tr s1, Sub.uni (b'.tr s1) s2, ⟨x1⟩, k2, h2, d.subL b', Sub.uniL, Sub.uniR (d.subL b'), ⟨x2⟩, y⟩
theorem bag_join {a b : List α} {L : List SP} {h : PH} (s : sep (Bag f a :: Bag f b :: L) h) : sep (Bag f (a ++ b) :: L) h := by
  obtain ⟨h1, h2, d, s1, s2, ⟨x⟩, k1, k2, d', a', b', ⟨x'⟩, y⟩ := s
  refine ⟨uni h1 k1, k2, Dis.uniL (d.subR b') d', Sub.uni s1 (a'.tr s2), b'.tr s2, ⟨?_⟩, y⟩
  rw [List.map_append]
  exact sep_join (d.subR a') Sub.uniL (Sub.uniR (d.subR a')) x x'
theorem bag_one {x : α} {L : List SP} {h : PH} (s : sep (Bag f [x] :: L) h) : sep (f x :: L) h := by
  obtain ⟨h1, h2, d, s1, s2, ⟨k1, k2, d', a', b', x, _⟩, y⟩ := s
  exact ⟨k1, h2, d.subL a', a'.tr s1, s2, x, y⟩
theorem one_bag {x : α} {L : List SP} {h : PH} (s : sep (f x :: L) h) : sep (Bag f [x] :: L) h := by
  obtain ⟨h1, h2, d, s1, s2, x, y⟩ := s
  exact ⟨h1, h2, d, s1, s2, ⟨h1, fun _ => none, fun _ => .inr rfl, Sub.rfl', (fun _ _ e => by cases e), x, trivial⟩, y⟩
theorem bag_nil {L : List SP} {h : PH} (s : sep L h) : sep (Bag f [] :: L) h := ⟨fun _ => none, h, fun _ => .inl rfl, (fun _ _ e => by cases e), Sub.rfl', ⟨trivial⟩, s⟩
theorem bag_tda {rs : List α} {j : Nat} {r : α} (hj : rs[j]? = some r) : rs = rs.take j ++ ([r] ++ rs.drop (j + 1)) := by
  obtain ⟨h, e⟩ := List.getElem?_eq_some_iff.1 hj
  rw [← e]
  show rs = rs.take j ++ rs[j] :: rs.drop (j + 1)
  rw [← List.drop_eq_getElem_cons h, List.take_append_drop]
theorem bag_out {rs : List α} {j : Nat} {x : α} {L : List SP} {h : PH} (hj : rs[j]? = some x) (s : sep (Bag f rs :: L) h) : sep (f x :: Bag f (rs.take j) :: Bag f (rs.drop (j + 1)) :: L) h := by
  rw [bag_tda hj] at s
  exact Pick.sep (.there .here) (by
    have h1 := bag_split s
    have h2 : sep (Bag f ([x] ++ rs.drop (j + 1)) :: Bag f (rs.take j) :: L) h := Pick.sep (.there .here) h1
    have h3 := bag_one (bag_split h2)
    exact Ent.sep (show Ent _ (Bag f (rs.take j) :: f x :: Bag f (rs.drop (j + 1)) :: L) from enn) h h3)
theorem bag_in {rs : List α} {j : Nat} {x : α} {L : List SP} {h : PH} (hj : j < rs.length) (s : sep (f x :: Bag f (rs.take j) :: Bag f (rs.drop (j + 1)) :: L) h) : sep (Bag f (rs.set j x) :: L) h := by
  have e : rs.set j x = rs.take j ++ ([x] ++ rs.drop (j + 1)) := by
    rw [List.set_eq_take_append_cons_drop, if_pos hj]; rfl
  rw [e]
  have h1 := one_bag s
  have h2 : sep (Bag f [x] :: Bag f (rs.drop (j + 1)) :: Bag f (rs.take j) :: L) h := Ent.sep enn h h1
  exact bag_join (Ent.sep enn h (bag_join h2))
theorem bag_add {rs : List α} {x : α} {L : List SP} {h : PH} (s : sep (f x :: Bag f rs :: L) h) : sep (Bag f (rs ++ [x]) :: L) h := bag_join (Pick.sep (.there .here) (one_bag s))
theorem bag_eq {rs rs' : List α} (h : rs.map f = rs'.map f) : Bag f rs = Bag f rs' := by
  funext k
  exact propext ⟨fun ⟨x⟩ => ⟨h ▸ x⟩, fun ⟨x⟩ => ⟨h ▸ x⟩⟩
theorem bag_set {rs : List α} {j : Nat} {x x' : α} (hj : rs[j]? = some x) (h : f x' = f x) : Bag f (rs.set j x') = Bag f rs := by
  refine bag_eq ?_
  rw [List.map_set, h]
  apply List.ext_getElem?
  intro i
  by_cases e : j = i
  · subst e
    rw [List.getElem?_set_self (by rw [List.length_map]; exact (List.getElem?_eq_some_iff.1 hj).1), List.getElem?_map, hj]; rfl
  · rw [List.getElem?_set_ne e]
theorem Hd.bagOut {E : World} {n : Nat} {ds : List Deferred} {st : List (Nat × Value)} {L L' : List SP} {K : Act → World → Prop} {rs : List α} {j : Nat} {x : α} (p : Pick L (Bag f rs) L') (hj : rs[j]? = some x) (h : Hd E n ds st (f x :: Bag f (rs.take j) :: Bag f (rs.drop (j + 1)) :: L') K) : Hd E n ds st L K := Hd.heap _ (fun _ s => bag_out hj (p.sep s)) h
end
section
variable {E : World} {n : Nat} {ds : List Deferred} {st : List (Nat × Value)} {L : List SP} {P : Program} {d : Nat} {ty t : TypeId} {pos : String} {af : Array Edge} {g : Option (Nat × Bool)} {x y : Operand} {k : IntKind}
theorem y_idxAR {o m len j : Nat} {e : TypeId} {ad : Option Addr} (hu : P.underlying t = some (.array len e)) (hs : szk P e = some m) (hx : evo st x = some (.pointer (some ((adr ad).add o))))
    (hy : evo st y = some (.int k (Int.ofNat j))) (hj : j < len) : Yv E n ds st L P ⟨some d, .indexAddr t x y, ty, pos, af, g⟩ (.pointer (some ((adr ad).add (o + j * m)))) := fun a w f s => by
  simp only [execOp, f.ev hx, f.ev hy]
  simp only [Instr.indexAt, asIntOf, Sem.run_bind, run_underlying hu, Result.andThen, Instr.sureAddr, go_sem]
  simp [run_sizeOf' hs, hj, Addr.add_add]
end
section
variable {P : Program} {E : World} {n : Nat} {ds : List Deferred} {st : List (Nat × Value)} {L L' : List SP} {v : Value}
end
section
variable {P : Program} {E : World} {n : Nat} {ds : List Deferred} {st : List (Nat × Value)} {L L' : List SP} {v v2 v3 : Value}
theorem loadVar1 {t : TypeId} {b o : Nat} {w : World} (ha : agk P t = some false) (hR : Rd L b o [v]) (s : Sat E L w) : (loadVar t ⟨b, o, none⟩).run P w = .ok v w := by
  have hc := hR.cell s (j := 0) rfl
  simp only [Nat.add_zero] at hc
  simp [loadVar, run_isAgg ha, hc, go_sem]
theorem results_c3 {fn : Func} {ta tb tc : Nat} {t t2 t3 : TypeId} {b b2 b3 : Nat} {tmps : Array Value} {w : World} (hr : fn.results = #[.cell ta t, .cell tb t2, .cell tc t3]) (ha : agk P t = some false) (ha2 : agk P t2 = some false) (ha3 : agk P t3 = some false)
    (hx : tmps.getD ta undef = .pointer (some ⟨b, 0, none⟩)) (hx2 : tmps.getD tb undef = .pointer (some ⟨b2, 0, none⟩)) (hx3 : tmps.getD tc undef = .pointer (some ⟨b3, 0, none⟩))
    (hR : Rd L b 0 [v]) (hR2 : Rd L b2 0 [v2]) (hR3 : Rd L b3 0 [v3]) (s : Sat E L w) : (results fn tmps).run P w = .ok (.tuple #[v, v2, v3]) w := by
  have h1 := loadVar1 ha hR s
  have h2 := loadVar1 ha2 hR2 s
  have h3 := loadVar1 ha3 hR3 s
  have e1 : tmps[ta]?.getD undef = .pointer (some ⟨b, 0, none⟩) := by simpa using hx
  have e2 : tmps[tb]?.getD undef = .pointer (some ⟨b2, 0, none⟩) := by simpa using hx2
  have e3 : tmps[tc]?.getD undef = .pointer (some ⟨b3, 0, none⟩) := by simpa using hx3
  simp [results, hr, e1, e2, e3, asAddr, h1, h2, h3]
theorem Lv.endC3 {fn : Func} {a : Act} {ta tb tc : Nat} {t t2 t3 : TypeId} {b b2 b3 : Nat} {ι : Type} {val : ι → Value} {post : ι → List SP} (f : Fr n ds st a) (hr : fn.results = #[.cell ta t, .cell tb t2, .cell tc t3]) (i : ι) (ha : agk P t = some false) (ha2 : agk P t2 = some false) (ha3 : agk P t3 = some false)
    (hx : look st ta = some (.pointer (some ⟨b, 0, none⟩))) (hx2 : look st tb = some (.pointer (some ⟨b2, 0, none⟩))) (hx3 : look st tc = some (.pointer (some ⟨b3, 0, none⟩)))
    (hR : Rd L b 0 [v]) (hR2 : Rd L b2 0 [v2]) (hR3 : Rd L b3 0 [v3]) (hv : val i = .tuple #[v, v2, v3]) (hl : ∀ k, sep L k → sep (post i) k) : Lv E P fn a.tmps [] L val post := fun w s =>
  ⟨val i, by rw [results_c3 hr ha ha2 ha3 (by simp [f.at_ ta _ hx]) (by simp [f.at_ tb _ hx2]) (by simp [f.at_ tc _ hx3]) hR hR2 hR3 s, hv], i, rfl, s.mp hl⟩
end
section
variable {E : World} {n : Nat} {ds : List Deferred} {st st' : List (Nat × Value)} {L L' : List SP} {r : Option Nat} {P : Program} {Q : Exit → Act → World → Prop} {ops : Array Oper} {rest : List Oper}
variable {d : Nat} {ty t t2 : TypeId} {pos : String} {af : Array Edge} {g : Option (Nat × Bool)} {x y z : Operand} {v u : Value} {k : IntKind} {p q : Bool}
def ItR (P : Program) (gf : FuncId) (cap : List Value) {α : Type} (enc : α → List Value) (S Sp : List α → Prop) (rb ro : Nat) (ru : List Value) (M M' : List SP) : Prop :=
  ∀ l (J X : List α → List SP), Yd P l enc J X Sp → Rd (J []) rb ro ru → Ct P gf (Value.func (.yield l) #[] #[] :: cap).toArray (J [] ++ M) (fun _ : List α × Bool => .tuple #[])
    (fun i => pu (bif i.2 then S i.1 else Sp i.1) :: (bif i.2 then J i.1 else X i.1) ++ M')
theorem Hd.rangeR {α : Type} {enc : α → List Value} {S Sp : List α → Prop} {ps : List Nat} {assign body : Code} {gf : FuncId} {cap : List Value} {M M' : List SP}
    (I : List α → List SP) (X : Option Nat → List α → List SP) (hg : evo st x = some (.func (.func gf) #[] cap.toArray)) (hf : fnk P gf = true) (hps : ∀ x, (enc x).length = ps.length) (hpn : (ps.all fun t => Nat.blt t n) = true)
    {rb ro : Nat} {ru : List Value} (hit : ItR P gf cap enc S Sp rb ro ru M M') (hRd : Rd (I []) rb ro ru) (h0 : ∀ k, sep L k → sep (I [] ++ M) k)
    (hround : ∀ E l R pre c N, R.state = .ready → Sp (pre ++ [c]) → Rnd E n st P ps assign body enc I X pre c l R N)
    (hdone : ∀ r0 xs, S xs → Hd E n (mark r0 :: ds) st (I xs ++ ob r0 (.deferred (some [])) :: M') (Q .normal))
    (hstop : ∀ r0 j pre, Sp pre → Hd E n (mark r0 :: ds) st (X j pre ++ ob r0 (.deferred (some [])) :: M') (CW none P (jc j) Q)) :
    Hd E n ds st L (CW none P (.rangeFunc x ps.toArray assign body) Q) := by
  intro a w fr s
  refine wpIn_rangeFunc (F := FW none) ?_
  intro fn _
  obtain ⟨w1, hw1⟩ : ∃ w1, w1 = (w.alloc (.deferred (some []))).alloc (.loop { state := .ready, pending := none, fn, tmps := a.tmps, params := ps.toArray, assign, body, defers := w.heap.size }) := ⟨_, rfl⟩
  have s1 : Sat E (ob (w.heap.size + 1) (.loop { state := .ready, pending := none, fn, tmps := a.tmps, params := ps.toArray, assign, body, defers := w.heap.size }) :: ob w.heap.size (.deferred (some [])) :: L) w1 := by
    have := (s.new (.deferred (some []))).new (.loop { state := .ready, pending := none, fn, tmps := a.tmps, params := ps.toArray, assign, body, defers := w.heap.size })
    simp only [Array.size_push] at this
    rw [hw1]
    exact this
  refine ⟨w.heap.size + 1, [mark w.heap.size], w1, { target := .fn (.func gf) cap.toArray, args := #[.func (.yield (w.heap.size + 1)) #[] #[]] }, w1, gf, (Value.func (.yield (w.heap.size + 1)) #[] #[] :: cap).toArray, w1, ?_, ?_, fun _ _ => trivial, ?_, fun h => (by cases h), ?_⟩
  · rw [hw1]; exact run_enterLoop_outer _ _ _ _ _
  · simp only [resolve, fr.ev hg, Deferred.ofValue]
    simp [Act.eval, Sem.run_pure]
  · simp [invoke, run_call hf]
  obtain ⟨R, hR⟩ : ∃ R : Loop, R = { state := .ready, pending := none, fn, tmps := a.tmps, params := ps.toArray, assign, body, defers := w.heap.size } := ⟨_, rfl⟩
  rw [← hR] at s1
  have hyd := yd_of (P := P) (n := n) (st := st) (l := w.heap.size + 1) (R := R) (tl := [ob w.heap.size (.deferred (some []))]) (tm := a.tmps) (enc := enc) (Sp := Sp) (I := I) (X := X) (ps := ps) (assign := assign) (body := body)
    (by subst hR; exact ⟨rfl, rfl, rfl, rfl, rfl, rfl⟩) hps hpn ⟨fr.size, fr.at_⟩ (fun E pre c N hG => hround E _ R pre c N (by rw [hR]) hG)
  have hc := hit _ _ _ hyd (hRd.mono fun k hk => by
    obtain ⟨_, h2, _, _, b, _, y⟩ := hk
    obtain ⟨m1, m2, _, a2, _, x2, _⟩ := sep_append y
    exact (x2.up a2).up b) E w1 (s1.mp fun k hk => by
    obtain ⟨h1, h2, d, aa, b, x, y⟩ := hk
    obtain ⟨k1, k2, d', a', b', x', y'⟩ := y
    obtain ⟨m1, m2, d2, a2, b2, x2, y2⟩ := sep_append (h0 _ y')
    have hk1 : sep [ob w.heap.size (.deferred (some []))] k1 := ⟨k1, fun _ => none, fun _ => .inr rfl, Sub.rfl', (fun _ _ e => by cases e), x', trivial⟩
    have hj : sep (I [] ++ [ob w.heap.size (.deferred (some []))]) (uni m1 k1) := sep_join (d'.sym.subL a2) Sub.uniL (Sub.uniR (d'.sym.subL a2)) x2 hk1
    have hd1 : Dis h1 (uni m1 k1) := (Dis.uniL (d.sym.subL (a2.tr b')) (d.sym.subL a')).sym
    have hd2 : Dis (uni h1 (uni m1 k1)) m2 := Dis.uniL (d.subR (b2.tr b')) (Dis.uniL d2 (d'.subR b2))
    have hl : sep (ob (w.heap.size + 1) (.loop R) :: (I [] ++ [ob w.heap.size (.deferred (some []))])) (uni h1 (uni m1 k1)) := ⟨h1, uni m1 k1, hd1, Sub.uniL, Sub.uniR hd1, x, hj⟩
    exact sep_join hd2 (Sub.uni aa (Sub.uni (a2.tr (b'.tr b)) (a'.tr b))) (b2.tr (b'.tr b)) hl y2)
  refine (callsIn_wide.2 hc).mono ?_
  rintro e w3 ⟨⟨xs, bb⟩, rfl, s3⟩
  have fin : ∀ (R' : Loop) (A : List SP), R'.state ≠ .busy → Sat E (ob (w.heap.size + 1) (.loop R') :: A) w3 → ∃ w4, (Instr.endLoop (w.heap.size + 1)).run P w3 = .ok R'.pending w4 ∧ Sat E A w4 := fun R' A hb s => by
    have hb3 : w3.heap[w.heap.size + 1]? = some (.loop R') := s.ob_at .here
    refine ⟨_, run_endLoop hb3 hb, ?_⟩
    have := Sat.put (w' := w3.putObj (w.heap.size + 1) (.loop { R' with state := .exhausted })) s .here rfl rfl rfl (fun x hx => World.putObj_heap_other hx) (World.putObj_heap_same (Array.getElem?_eq_some_iff.1 hb3).1)
    exact this.mp fun k ⟨_, _, _, _, b, _, y⟩ => y.up b
  have f2 : Fr n (mark w.heap.size :: ds) st { a with defers := [mark w.heap.size] ++ a.defers } := ⟨fr.size, by simp [fr.defs], fr.at_⟩
  have s3' : (bif bb then S xs else Sp xs) ∧ Sat E ((bif bb then (ob (w.heap.size + 1) (.loop R) :: (I xs ++ [ob w.heap.size (.deferred (some []))])) else [fun w' => ∃ j, sep (ob (w.heap.size + 1) (.loop { R with state := .done, pending := some (jc j) }) :: (X j xs ++ [ob w.heap.size (.deferred (some []))])) w']) ++ M') w3 := by
    obtain ⟨h1, h2, h3, k1, k2, d, a, b, x, y⟩ := s3
    exact ⟨x, h1, h2, h3, y.up b⟩
  obtain ⟨hS, s4⟩ := s3'
  cases bb with
  | true =>
    obtain ⟨w4, e4, s5⟩ := fin R _ (by rw [hR]; simp) s4
    refine ⟨_, w4, e4, ?_⟩
    have : R.pending = none := by rw [hR]
    rw [this]
    exact hdone _ xs hS _ w4 f2 (by simpa [List.append_assoc] using s5)
  | false =>
    obtain ⟨h1, h2, h3, k1, k2, d, aa, b, ⟨j, x⟩, y⟩ := s4
    have hl := sep_join d aa b x y
    obtain ⟨w4, e4, s5⟩ := fin _ _ (by simp) (⟨h1, h2, h3, hl⟩ : Sat E (ob (w.heap.size + 1) (.loop { R with state := .done, pending := some (jc j) }) :: (X j xs ++ [ob w.heap.size (.deferred (some []))]) ++ M') w3)
    refine ⟨_, w4, e4, ?_⟩
    exact hstop _ j xs hS _ w4 f2 (by simpa [List.append_assoc] using s5)
end
theorem Ct.to {P : Program} {f : FuncId} {vs : Array Value} {L L' : List SP} {ι ι' : Type} {val : ι → Value} {val' : ι' → Value} {post : ι → List SP} {post' : ι' → List SP} (h : Ct P f vs L val post) (hL : ∀ k, sep L' k → sep L k)
    (hp : ∀ i, ∃ j, val i = val' j ∧ ∀ k, sep (post i) k → sep (post' j) k) : Ct P f vs L' val' post' := fun E w s =>
  Calls.mono (h E w (s.mp hL)) (fun e w' ⟨i, he, hs⟩ => by obtain ⟨j, hv, hj⟩ := hp i; exact ⟨j, by rw [he, hv], hs.mp hj⟩)
theorem Ct.swap {P : Program} {f : FuncId} {vs : Array Value} {L L2 M2 : List SP} {v : Value} (h : Ct P f vs L2 (fun _ : Unit => v) (fun _ => M2)) (a : ∀ k, sep L k → sep L2 k) (b : ∀ k, sep M2 k → sep L k) : Ct P f vs L (fun _ : Unit => v) (fun _ => L) :=
  h.to a fun _ => ⟨(), rfl, b⟩
section
variable {α : Type} {enc : α → List Value} {k : Nat}
theorem rows_len (hk : ∀ x, (enc x).length = k) : ∀ (rs : List α), (rs.flatMap enc).length = rs.length * k
  | [] => by simp
  | x :: t => by rw [List.flatMap_cons, List.length_append, hk, rows_len hk t, List.length_cons, Nat.succ_mul, Nat.add_comm]
theorem rows_set (hk : ∀ x, (enc x).length = k) {x x' : α} {j o : Nat} {v : Value} (hj : j < k) (he : (enc x).set j v = enc x') : ∀ {rs : List α} {n : Nat}, rs[n]? = some x → o = n * k + j → (rs.flatMap enc).set o v = (rs.set n x').flatMap enc
  | [], n, h, _ => by simp at h
  | y :: t, 0, h, ho => by
    obtain rfl : y = x := by simpa using h
    rw [ho, Nat.zero_mul, Nat.zero_add]
    show (enc y ++ t.flatMap enc).set j v = enc x' ++ t.flatMap enc
    rw [List.set_append_left _ _ (by rw [hk]; exact hj), he]
  | y :: t, n + 1, h, ho => by
    have ih := rows_set hk hj he (rs := t) (n := n) (by simpa using h) rfl
    show (enc y ++ t.flatMap enc).set o v = enc y ++ (t.set n x').flatMap enc
    rw [List.set_append_right _ _ (by rw [hk, ho, Nat.succ_mul]; omega), ← ih]
    congr 2
    rw [hk, ho, Nat.succ_mul]; omega
theorem rows_set2 (hk : ∀ x, (enc x).length = k) {x x' : α} {us : List Value} {j m o o2 : Nat} (hm : us.length = m) (hj : j + m ≤ k) (he : (enc x).take j ++ us ++ (enc x).drop (j + m) = enc x') : ∀ {rs : List α} {n : Nat}, rs[n]? = some x → o = n * k + j → o2 = o + m → (rs.flatMap enc).take o ++ us ++ (rs.flatMap enc).drop o2 = (rs.set n x').flatMap enc
  | [], n, h, _, _ => by simp at h
  | y :: t, 0, h, ho, ho2 => by
    obtain rfl : y = x := by simpa using h
    subst ho2
    rw [ho, Nat.zero_mul, Nat.zero_add]
    show (enc y ++ t.flatMap enc).take j ++ us ++ (enc y ++ t.flatMap enc).drop (j + m) = enc x' ++ t.flatMap enc
    have hl := hk y
    rw [List.take_append_of_le_length (by omega), List.drop_append_of_le_length (by omega), ← he]
    simp only [List.append_assoc]
  | y :: t, n + 1, h, ho, ho2 => by
    have ih := rows_set2 hk hm hj he (rs := t) (n := n) (o := n * k + j) (o2 := n * k + j + m) (by simpa using h) rfl rfl
    have hl := hk y
    subst ho2
    show (enc y ++ t.flatMap enc).take o ++ us ++ (enc y ++ t.flatMap enc).drop (o + m) = enc y ++ (t.set n x').flatMap enc
    have e1 : o = k + (n * k + j) := by rw [ho, Nat.succ_mul]; omega
    rw [← ih, e1, List.take_append, List.drop_append, hl, List.take_of_length_le (by omega), List.drop_of_length_le (l := enc y) (by omega)]
    rw [show k + (n * k + j) - k = n * k + j by omega, show k + (n * k + j) + m - k = n * k + j + m by omega]
    simp only [List.append_assoc, List.nil_append]
end
theorem hyA : (∀ (p : Prop) [Decidable p], (decide p = true) = p) ∧ (∀ (p : Prop) [Decidable p], (decide p = false) = ¬p) ∧ (∀ a b : Bool, ((a && b) = true) = (a = true ∧ b = true)) ∧ (∀ a b : Bool, ((a || b) = true) = (a = true ∨ b = true)) ∧ (∀ a b : Bool, ((a && b) = false) = (a = false ∨ b = false)) ∧ (∀ a b : Bool, ((a || b) = false) = (a = false ∧ b = false)) := ⟨fun p _ => by simp, fun p _ => by simp, fun a b => by cases a <;> cases b <;> simp, fun a b => by cases a <;> cases b <;> simp, fun a b => by cases a <;> cases b <;> simp, fun a b => by cases a <;> cases b <;> simp⟩
theorem hyB : (∀ b : Bool, ((!b) = true) = (b = false)) ∧ (∀ b : Bool, ((!b) = false) = (b = true)) ∧ (∀ b : Bool, (¬b = true) = (b = false)) ∧ (∀ b : Bool, (¬b = false) = (b = true)) := ⟨fun b => by simp, fun b => by simp, fun b => by simp, fun b => by simp⟩
theorem hyC : (∀ a b : Int, (¬a < b) = (b ≤ a)) ∧ (∀ a b : Int, (¬a ≤ b) = (b < a)) ∧ (∀ (p : Prop) [Decidable p], (¬¬p) = p) := ⟨fun a b => by simp, fun a b => by simp, fun p _ => by simp⟩
theorem sq {L M : List SP} (h : Ent L M := by exact enn) : ∀ k, sep L k → sep M k := Ent.sep h
theorem sbq {p : Prop} (h : p := by repeat (first | exact trivial | refine ⟨rfl, ?_⟩)) : p := h
theorem kq {p : Prop} (h : p := by kernel_rfl) : p := h
theorem fq {α β : Type} {p : α → β → Prop} (h : ∀ a b, p a b := by exact fun _ _ => rfl) : ∀ a b, p a b := h
section
variable {E : World} {n : Nat} {ds : List Deferred} {st st' : List (Nat × Value)} {L L' : List SP} {K K' : Act → World → Prop} {r : Option Nat} {P : Program} {Q : Exit → Act → World → Prop} {ops : Array Oper} {rest : List Oper}
variable {d : Nat} {ty t t2 : TypeId} {pos : String} {af : Array Edge} {g : Option (Nat × Bool)} {x y z : Operand} {v u : Value} {k : IntKind} {p q : Bool}
theorem Hd.fk (st' : List (Nat × Value)) {R : Exit → Act → World → Prop} (hK : ∀ a w, K' a w → K a w) (h : Hd E n ds st' L K') (hs : sub st st' := by repeat (first | exact trivial | refine ⟨rfl, ?_⟩)) : Hd E n ds st L (LW r P ops (Exit.then K R) []) :=
  Hd.nil (Hd.slots st' hs (Hd.toK hK h))
theorem Hd.sk (st' : List (Nat × Value)) {R : Exit → Act → World → Prop} (hK : ∀ a w, K' a w → K a w) (h : Hd E n ds st' L K') (hs : sub st st' := by repeat (first | exact trivial | refine ⟨rfl, ?_⟩)) : Hd E n ds st L ((Exit.then K R) .normal) :=
  Hd.slots st' hs (Hd.toK hK h)
theorem Hd.sr {id : Nat} {l : List Oper} {c : Code} (h : ∀ K : Act → World → Prop, (∀ a w, CW r P c Q a w → K a w) → Hd E n ds st L (LW r P l.toArray (Exit.then K Q) l)) : Hd E n ds st L (CW r P (.seq (.region id l.toArray false) c) Q) :=
  Hd.seq fun K hK => Hd.region (h K hK)
theorem Hd.y2 {op : Op} {i gd : Nat} (h : Yv E n ds st L P ⟨some d, op, ty, pos, af, some (i, p)⟩ v)
    (K : Hd E n ds ((d, v) :: st) L (LW r P ops Q rest)) (hi : (ops[i]?).bind (·.dst) = some gd := by rfl) (hv : look st gd = some (.bool p) := by rfl) (hd : d < n := by decide) :
    Hd E n ds st L (LW r P ops Q (⟨some d, op, ty, pos, af, some (i, p)⟩ :: rest)) := Hd.yg hi hv h K hd
theorem Hd.n1 {op : Op} {i gd : Nat} (K : Hd E n ds ((d, undef) :: st) L (LW r P ops Q rest)) (hi : (ops[i]?).bind (·.dst) = some gd := by rfl) (hv : look st gd = some v := by rfl) (hb : isb v p = false := by rfl) (hd : d < n := by decide) :
    Hd E n ds st L (LW r P ops Q (⟨some d, op, ty, pos, af, some (i, p)⟩ :: rest)) := Hd.ng hi hv hb K hd
theorem Hd.tH {M : List SP} {J : Nat → Bool} (i : Nat) {op : Op} {f : Nat} {listed : Array Bool} (hi : ops[i]? = some ⟨some d, op, ty, pos, af, none⟩) (hx : Yv E n ds st M P ⟨some d, op, ty, pos, af, none⟩ v)
    (K : Hd E n ds ((d, v) :: st) L (ZW r P ops Q (Sat E M) J f (listed.setIfInBounds i true))) (hs : Region.noSelect ops = true := by kernel_rfl) (hf : Region.free .any ops listed i = true := by kernel_rfl)
    (hr : (Region.ready .any ops listed).contains i = true := by kernel_rfl) (hJ : jOk .any ops J i = true := by kernel_rfl) (hab : ∀ (a : Act) w, (⟨some d, op, ty, pos, af, none⟩ : Oper).about P w a.eval = none := by exact fun _ _ => rfl)
    (hM : Ent L M := by exact enn) (hd : d < n := by decide) :
    Hd E n ds st L (ZW r P ops Q (Sat E M) J (f + 1) listed) := Hd.takeH i hi hs hf hr hJ hx hab (Ent.sep hM) K hd
theorem y_mv (hx : evo st x = some v := by rfl) : Yv E n ds st L P ⟨some d, .move x, ty, pos, af, g⟩ (v) := y_move hx
theorem y_as (hx : evo st x = some v := by rfl) : Yv E n ds st L P ⟨some d, .assign x, ty, pos, af, g⟩ (v) := y_assign hx
theorem y_np {ad : Addr} (hx : evo st x = some (.pointer (some ad)) := by rfl) : Yv E n ds st L P ⟨some d, .nilCheck x, ty, pos, af, g⟩ (.pointer (some ad)) := y_nilp hx
theorem y_ex {vs : Array Value} {i : Nat} (hx : evo st x = some (.tuple vs) := by rfl) (hi : vs[i]? = some v := by rfl) : Yv E n ds st L P ⟨some d, .extract x i, ty, pos, af, g⟩ v := y_extract hx hi
theorem y_f {b o m : Nat} {fs : Array Field} {i : Nat} (q ft : Nat) (hu : P.underlying t = some (.struct fs)) (hs : szk P ft = some m) (hf : (fs[i]?).map (fun f => (f.offset, f.type)) = some (q, ft) := by rfl) (hm : Nat.beq m 0 = false := by rfl)
    (hx : evo st x = some (.pointer (some ⟨b, o, none⟩)) := by rfl) : Yv E n ds st L P ⟨some d, .fieldAddr t x i, ty, pos, af, g⟩ (.pointer (some ⟨b, o + q, none⟩)) := y_field' hu hf hs hm hx
theorem y_fR {o m : Nat} {ad : Option Addr} {fs : Array Field} {i : Nat} (q ft : Nat) (hu : P.underlying t = some (.struct fs)) (hs : szk P ft = some m) (hf : (fs[i]?).map (fun f => (f.offset, f.type)) = some (q, ft) := by rfl) (hm : Nat.beq m 0 = false := by rfl)
    (hx : evo st x = some (.pointer (some ((adr ad).add o))) := by rfl) : Yv E n ds st L P ⟨some d, .fieldAddr t x i, ty, pos, af, g⟩ (.pointer (some ((adr ad).add (o + q)))) := y_fieldR hu hf hs hm hx
theorem y_l1 {b o : Nat} {cs : List Value} {e : TypeId} (ha : agk P t = some false) (hx : evo st x = some (.pointer (some ⟨b, o, none⟩))) (p : Pick L (RX.pt b cs e) L' := by exact pkk) (h : cs[o]? = some v := by rfl) : Yv E n ds st L P ⟨some d, .load t x, ty, pos, af, g⟩ v := y_load1 ha hx (Rd.pt1 p h)
theorem Hd.mq {st' : List (Nat × Value)} (hs : sub st st' := by repeat (first | exact trivial | refine ⟨rfl, ?_⟩)) (hl : Ent L L' := by exact enn) : Hd E n ds st L ((Exit.then (fun a w => Fr n ds st' a ∧ Sat E L' w) Q) .normal) := Hd.mend hs (Ent.sep hl)
end
end Go.RX
namespace Go.RX
set_option linter.unusedSimpArgs false
set_option linter.unusedVariables false
set_option linter.unnecessarySimpa false
open Go.ChangeShapes Go.WideShapes Go.ChangeAt Go.RowKit
theorem old_sat (W : World) : Sat W [Old W] W :=
  ⟨⟨rfl, Nat.le_refl _⟩, rfl, rfl, hp W, fun _ => none, fun _ => .inr rfl, Sub.rfl', (fun _ _ e => by cases e), fun _ _ => rfl, trivial⟩
theorem hpo_up {o : Obj} {y : Option Obj} (h : ∀ q c, hpo (some o) q = some c → hpo y q = some c) : y = some o := by
  cases o with
  | cells cs e fz =>
    have h0 := h none (.blk cs.size e fz) rfl
    obtain ⟨c', rfl, hs⟩ := hpo_blk h0
    congr 2
    apply Array.ext hs
    intro i hi hi'
    have := h (some i) (.cell cs[i] (decide (fz.1 ≤ i) && decide (i < fz.2))) (by simp [hpo, Array.getElem?_eq_getElem hi'])
    simp only [hpo, Array.getElem?_eq_getElem hi, Option.map_some, Option.some.injEq, Ce.cell.injEq, and_true] at this
    exact this
  | _ => exact (hpo_obj (h none _ rfl)).1
theorem below_of_sat {W W' : World} {L : List SP} (s : Sat W L W') {L' : List SP} (p : Pick L (Old W) L') : Below W.heap.size W W' := by
  obtain ⟨h1, s1, x⟩ := sep.one p s.2.2.2
  have hb : ∀ k, k < W.heap.size → W'.heap[k]? = W.heap[k]? := fun k hk => by
    obtain ⟨o, ho⟩ : ∃ o, W.heap[k]? = some o := ⟨_, Array.getElem?_eq_getElem hk⟩
    rw [ho]
    refine hpo_up fun q c hc => ?_
    refine s1 (k, q) c ?_
    rw [x (k, q) hk]
    show hpo W.heap[k]? q = some c
    rw [ho]; exact hc
  refine ⟨s.1.1, s.2.1, s.2.2.1, ?_, hb⟩
  rcases Nat.eq_zero_or_pos W.heap.size with h | h
  · omega
  · have h1 := hb (W.heap.size - 1) (by omega)
    rw [Array.getElem?_eq_getElem (by omega : W.heap.size - 1 < W.heap.size)] at h1
    have := (Array.getElem?_eq_some_iff.1 h1).1
    omega
theorem law_calls {P : Program} {f : FuncId} {args : List Value} {W : World} (h : Ct P f args.toArray [Old W] (fun _ : Unit => .bool true) (fun _ => [Old W])) :
    Calls P f args.toArray W (fun e W' => e = .returned (.bool true) ∧ Below W.heap.size W W') :=
  (h W W (old_sat W)).mono fun e W' ⟨_, he, s⟩ => ⟨he, below_of_sat s .here⟩
section
variable {H : Type} {enc : TypeId × Value → H} {P : Program}
theorem trodAll_below (hl : laidOutB P = true) {W W' : World} (hb : Below W.heap.size W W') : ∀ {ts : List TypeId} {vs : List Value} {ds : List (DataW H)} {ps : List MemPlace},
    (∀ t ∈ ts, P.readableRec t = true ∧ t < P.types.size) → DataW.TrodAll enc P W 0 (fun _ => true) true ts vs ds ps → (∀ x ∈ ps, x.block < W.heap.size) → DataW.TrodAll enc P W' 0 (fun b => decide (b < W.heap.size)) true ts vs ds ps
  | [], [], [], _, _, h, _ => h
  | _ :: _, _ :: _, _ :: _, _, hr, ⟨p, q, h1, h2, e⟩, hlt => ⟨p, q, Below.trod hl (hr _ (by simp)).1 (hr _ (by simp)).2 h1 hb (fun x hx => hlt x (by rw [e]; exact List.mem_append_left _ hx)),
      trodAll_below hl hb (fun t ht => hr t (by simp [ht])) h2 (fun x hx => hlt x (by rw [e]; exact List.mem_append_right _ hx)), e⟩
  | [], _ :: _, _, _, _, h, _ => h.elim
  | [], [], _ :: _, _, _, h, _ => h.elim
  | _ :: _, [], _, _, _, h, _ => h.elim
  | _ :: _, _ :: _, [], _, _, h, _ => h.elim
theorem law_post {fn : Func} {s : ChangeSpec} {tb : TypeId} {W W' : World} {args : Array Value} {ds : List (DataW H)} {p : List MemPlace} (hl : laidOutB P = true)
    (hres : fn.resultTypes = #[tb]) (htb : P.underlying tb = some .bool) (hv : s.vars = []) (hs : s.fn H (ds ++ []) = { results := [.lit (.bool true)], args := ds })
    (hr : ∀ t ∈ fn.params.toList, P.readableRec t = true ∧ t < P.types.size)
    (hW : DataW.Whole enc P fn.params.toList s.vars false W args.toList ds [] p) (hA : DataW.TrodAll enc P W 0 (fun _ => true) true fn.params.toList args.toList ds p) (hb : Below W.heap.size W W') :
    s.post enc P fn false true false false W args (.bool true) W' := by
  have hlt : ∀ x ∈ p, x.block < W.heap.size := fun x hx => by simpa using hW.lt x hx
  refine ⟨ds, [], p, [], p, [], hW, ?_, ?_, ?_, hb.frame _, fun h => by cases h⟩
  · rw [hs, hres]; exact trodAll_mk1 (shut_bool htb true)
  · rw [hs]; exact trodAll_below hl hb hr hA hlt
  · rw [hv, hs]; rfl
end
inductive Sh
  | int (k : IntKind) | bool | str | slice (s : Sh) | struct (l : Sh) | nil | fld (s r : Sh)
structure SL (α : Type) where
  l : List α
  ad : Option Addr
  cap : Nat
@[reducible] def Sh.T : Sh → Type
  | .int _ => Int
  | .bool => Bool
  | .str => ByteArray
  | .slice s => SL s.T
  | .struct l => l.T
  | .nil => Unit
  | .fld s r => s.T × r.T
def Sh.size : Sh → Nat
  | .struct l => l.size
  | .nil => 0
  | .fld s r => s.size + r.size
  | _ => 1
def Sh.enc : (s : Sh) → s.T → List Value
  | .int k, x => [.int k x]
  | .bool, x => [.bool x]
  | .str, x => [.string x]
  | .slice _, x => [.slice x.ad x.l.length x.cap]
  | .struct l, x => l.enc x
  | .nil, _ => []
  | .fld s r, x => s.enc x.1 ++ r.enc x.2
def Sh.ok (W : World) : (s : Sh) → s.T → Prop
  | .int k, x => InK k x
  | .bool, _ => True
  | .str, x => x.size ≤ maxLen
  | .slice s, x => RdS [Old W] s.size x.ad x.l.length (x.l.flatMap s.enc) ∧ x.l.length ≤ x.cap ∧ x.cap ≤ maxLen ∧ (x.ad = none → x.cap = 0) ∧ ∀ y ∈ x.l, s.ok W y
  | .struct l, x => l.ok W x
  | .nil, _ => True
  | .fld s r, x => s.ok W x.1 ∧ r.ok W x.2
mutual
def Sh.fits (P : Program) : Sh → TypeId → Bool
  | .int k, t => match P.underlying t with | some (.int k') => decide (k = k') | _ => false
  | .bool, t => match P.underlying t with | some .bool => true | _ => false
  | .str, t => match P.underlying t with | some .string => true | _ => false
  | .slice s, t => match P.underlying t with | some (.slice e) => s.fits P e && Nat.beq (P.cellsOf e) s.size && Nat.ble 1 s.size | _ => false
  | .struct l, t => match P.underlying t with | some (.struct fs) => l.fitsF P 0 fs.toList && Nat.beq (P.cellsOf t) l.size | _ => false
  | .nil, _ => false
  | .fld _ _, _ => false
def Sh.fitsF (P : Program) : Sh → Nat → List Field → Bool
  | .nil, _, [] => true
  | .fld s r, off, f :: fs => Nat.beq f.offset off && Nat.beq (P.cellsOf f.type) s.size && s.fits P f.type && r.fitsF P (off + s.size) fs
  | _, _, _ => false
end
theorem Sh.enc_len : ∀ (s : Sh) (x : s.T), (s.enc x).length = s.size
  | .int _, _ => rfl
  | .bool, _ => rfl
  | .str, _ => rfl
  | .slice _, _ => rfl
  | .struct l, x => Sh.enc_len l x
  | .nil, _ => rfl
  | .fld s r, x => by simp only [Sh.enc, Sh.size, List.length_append, Sh.enc_len s, Sh.enc_len r]
theorem inK_wf {k : IntKind} {n : Int} (h : (Lit.int k n).wf = true) : InK k n := by
  simp only [Lit.wf, Bool.and_eq_true, decide_eq_true_eq] at h
  cases k <;> simp only [IntKind.min, IntKind.max, IntKind.bits, IntKind.signed, InK] at h ⊢ <;> simp at h <;> omega
theorem pick_list {α : Type} {p : Nat → α → Prop} : ∀ {m : Nat}, (∀ i, i < m → ∃ x, p i x) → ∃ xs : List α, xs.length = m ∧ ∀ i x, xs[i]? = some x → p i x
  | 0, _ => ⟨[], rfl, fun i x h => by simp at h⟩
  | m + 1, h => by
    obtain ⟨xs, hl, hp⟩ := pick_list (m := m) fun i hi => h i (by omega)
    obtain ⟨x, hx⟩ := h m (by omega)
    refine ⟨xs ++ [x], by simp [hl], fun i y hy => ?_⟩
    by_cases hi : i < xs.length
    · rw [List.getElem?_append_left hi] at hy; exact hp i y hy
    · rw [List.getElem?_append_right (by omega)] at hy
      by_cases h0 : i = xs.length
      · subst h0; simp at hy; subst hy; rw [hl]; exact hx
      · rw [List.getElem?_eq_none (by simp; omega)] at hy; cases hy
theorem flat_at {α : Type} (enc : α → List Value) (m : Nat) (hm : ∀ x, (enc x).length = m) (h1 : 1 ≤ m) : ∀ {xs : List α} {j : Nat} {v : Value}, (xs.flatMap enc)[j]? = some v → ∃ x, xs[j / m]? = some x ∧ (enc x)[j % m]? = some v
  | [], _, _, h => by simp at h
  | y :: xs, j, v, h => by
    rw [List.flatMap_cons] at h
    by_cases hj : j < m
    · rw [List.getElem?_append_left (by rw [hm]; exact hj)] at h
      rw [Nat.div_eq_of_lt hj, Nat.mod_eq_of_lt hj]; exact ⟨y, rfl, h⟩
    · rw [List.getElem?_append_right (by rw [hm]; omega), hm] at h
      obtain ⟨x, h2, h3⟩ := flat_at enc m hm h1 h
      refine ⟨x, ?_, ?_⟩
      · rw [show j / m = (j - m) / m + 1 by rw [Nat.div_eq_sub_div (by omega) (by omega)]]; simpa using h2
      · rw [Nat.mod_eq_sub_mod (by omega)]; exact h3
theorem flat1 (k : IntKind) (xs : List Int) : xs.flatMap (Sh.int k).enc = xs.map (Value.int k) := by
  induction xs with
  | nil => rfl
  | cons x xs ih => rw [List.flatMap_cons, ih]; rfl
theorem rd_int {k : IntKind} {W : World} {x : (Sh.slice (.int k)).T} (h : (Sh.slice (.int k)).ok W x) : RdS [Old W] 1 x.ad x.l.length (x.l.map (Value.int k)) := by
  have := h.1; rwa [flat1] at this
section
variable {H : Type} {enc : TypeId × Value → H} {P : Program} {W : World} {held : Bool}
theorem rdS_of {a : Addr} {m sz : Nat} {us : List Value} (hsz : 1 ≤ sz) (hl : us.length = m * sz) (h : ∀ j v, us[j]? = some v → W.cell? (a.add j) = some v) : RdS [Old W] sz (some a) m us := fun k s => by
  refine ⟨hl, ?_⟩
  rcases Nat.eq_zero_or_pos m with h0 | h0
  · exact .inl h0
  right
  have hpos : 0 < us.length := by rw [hl]; exact Nat.mul_pos h0 hsz
  obtain ⟨v0, e0⟩ : ∃ v, us[0]? = some v := ⟨_, List.getElem?_eq_getElem hpos⟩
  have c0 := h 0 v0 e0
  simp only [Addr.add, if_true] at c0
  unfold World.cell? at c0
  split at c0
  · rename_i c e fz hb
    split at c0
    · cases c0
    · rename_i hsp
      have hsp' : a.spot = none := by cases h : a.spot <;> simp_all
      obtain ⟨h1, s1, x⟩ := sep.one .here s
      have hlt : a.block < W.heap.size := (Array.getElem?_eq_some_iff.1 hb).1
      refine ⟨a.block, a.off, by cases a; simp_all, fun j v e => ?_⟩
      have := h j v e
      have h2 : W.cell? ⟨a.block, a.off + j, none⟩ = some v := by
        unfold Addr.add at this
        split at this
        · rename_i h0; subst h0; cases a; simp_all
        · exact this
      obtain ⟨_, fz', hh⟩ := hp_cell h2
      exact ⟨fz', s1 _ _ (by rw [x _ hlt]; exact hh)⟩
  · cases c0
theorem open_all : ∀ (s : Sh),
    (∀ (t : TypeId) (fuel : Nat) (cs : List Value) (x : DataW H × List MemPlace), s.fits P t = true → DataW.trod enc P W 0 (fun _ => true) held fuel t cs = some x → ∃ v : s.T, cs = s.enc v ∧ s.ok W v) ∧
    (∀ (off : Nat) (fs : List Field) (fuel : Nat) (cs : List Value) (xs : List (DataW H × List MemPlace)), s.fitsF P off fs = true → (fs.mapM fun f => DataW.trod enc P W 0 (fun _ => true) held fuel f.type ((cs.drop f.offset).take (P.cellsOf f.type))) = some xs → off + s.size = cs.length →
      ∃ v : s.T, cs.drop off = s.enc v ∧ s.ok W v)
  | .int k => by
    refine ⟨fun t fuel cs x hf h => ?_, fun off fs _ _ _ hf => by simp [Sh.fitsF] at hf⟩
    ·
      simp only [Sh.fits] at hf
      split at hf
      · rename_i k' hu
        have := of_decide_eq_true hf
        subst this
        obtain ⟨m, rfl, rfl, hw⟩ := DataW.trod_int hu h
        exact ⟨m, rfl, inK_wf hw⟩
      · cases hf
  | .bool => by
    refine ⟨fun t fuel cs x hf h => ?_, fun off fs _ _ _ hf => by simp [Sh.fitsF] at hf⟩
    ·
      simp only [Sh.fits] at hf
      split at hf
      · rename_i hu
        cases fuel with
        | zero => simp [DataW.trod] at h
        | succ fuel =>
          unfold DataW.trod at h
          rw [hu] at h
          dsimp only at h
          split at h <;> first | cases h; done | skip
          all_goals first | (exact ⟨_, rfl, trivial⟩) | (simp_all; done)
      · cases hf
  | .str => by
    refine ⟨fun t fuel cs x hf h => ?_, fun off fs _ _ _ hf => by simp [Sh.fitsF] at hf⟩
    ·
      simp only [Sh.fits] at hf
      split at hf
      · rename_i hu
        cases fuel with
        | zero => simp [DataW.trod] at h
        | succ fuel =>
          unfold DataW.trod at h
          rw [hu] at h
          dsimp only at h
          split at h <;> first | cases h; done | skip
          all_goals first | (split at h; · (rename_i hsz; exact ⟨_, rfl, hsz⟩); · cases h) | (simp_all; done) | (simp at h; exact ⟨_, rfl, h.1⟩)
      · cases hf
  | .slice s => by
    refine ⟨fun t fuel cs x hf h => ?_, fun off fs _ _ _ hf => by simp [Sh.fitsF] at hf⟩
    ·
      simp only [Sh.fits] at hf
      split at hf
      · rename_i e hu
        simp only [Bool.and_eq_true] at hf
        have hce := Nat.eq_of_beq_eq_true hf.1.2
        have h1 := Nat.le_of_ble_eq_true hf.2
        rcases Deep.open_slice hu h with ⟨rfl, _⟩ | ⟨a, len, cap, m, n, D, Pl, rfl, hb, hlc, hcm, hm, hx, hall⟩
        · exact ⟨⟨[], none, 0⟩, rfl, RdS.none _ _ _, Nat.le_refl _, by simp, fun _ => rfl, fun y hy => by simp at hy⟩
        · simp only [if_true] at hm
          obtain ⟨xs, hl, hp⟩ := pick_list (α := s.T) (p := fun i x => (∀ j v, (s.enc x)[j]? = some v → W.cell? ((a.add (i * P.cellsOf e)).add j) = some v) ∧ s.ok W x) (m := len) (fun i hi => by
            obtain ⟨cs', e1, e2⟩ := hall i (by omega)
            obtain ⟨v, rfl, ho⟩ := (open_all s).1 _ _ _ _ hf.1.1 e2
            have := (World.cells?_some e1)
            refine ⟨v, fun j u hj => ?_, ho⟩
            have hjl := (List.getElem?_eq_some_iff.1 hj).1
            rw [this.2.2 j (by rw [hce, ← Sh.enc_len s v]; exact hjl)]; exact hj)
          refine ⟨⟨xs, some a, cap⟩, by simp [Sh.enc, hl], ?_, by simpa [hl] using hlc, hcm, (fun h => by cases h), fun y hy => ?_⟩
          · refine rdS_of h1 (flat_len s.enc s.size (Sh.enc_len s) xs) fun j v hj => ?_
            obtain ⟨x, e1, e2⟩ := flat_at s.enc s.size (Sh.enc_len s) h1 hj
            have := (hp _ _ e1).1 _ _ e2
            rw [hce] at this
            rw [show j = j / s.size * s.size + j % s.size by rw [Nat.mul_comm]; exact (Nat.div_add_mod _ _).symm]
            rw [Addr.add_add] at this
            exact this
          · obtain ⟨i, hi⟩ := List.getElem?_of_mem hy
            exact (hp i y hi).2
      · cases hf
  | .struct l => by
    refine ⟨fun t fuel cs x hf h => ?_, fun off fs _ _ _ hf => by simp [Sh.fitsF] at hf⟩
    ·
      simp only [Sh.fits] at hf
      split at hf
      · rename_i fs hu
        simp only [Bool.and_eq_true] at hf
        have hce := Nat.eq_of_beq_eq_true hf.2
        cases fuel with
        | zero => simp [DataW.trod] at h
        | succ fuel =>
          unfold DataW.trod at h
          rw [hu] at h
          dsimp only at h
          split at h
          · rename_i hl
            obtain ⟨xs, hx, _⟩ := Option.map_eq_some_iff.1 h
            obtain ⟨v, hv, ho⟩ := (open_all l).2 0 fs.toList fuel cs xs hf.1 hx (by rw [Nat.zero_add, hl, hce])
            exact ⟨v, hv, ho⟩
          · cases h
      · cases hf
  | .nil => by
    refine ⟨fun t fuel cs x hf => by simp [Sh.fits] at hf, fun off fs fuel cs xs hf h hl => ?_⟩
    ·
      refine ⟨(), ?_, trivial⟩
      simp only [Sh.size] at hl
      rw [List.drop_of_length_le (by omega)]; rfl
  | .fld s r => by
    refine ⟨fun t fuel cs x hf => by simp [Sh.fits] at hf, fun off fs fuel cs xs hf h hl => ?_⟩
    ·
      cases fs with
      | nil => simp [Sh.fitsF] at hf
      | cons f fs =>
        simp only [Sh.fitsF, Bool.and_eq_true] at hf
        have ho := Nat.eq_of_beq_eq_true hf.1.1.1
        have hc := Nat.eq_of_beq_eq_true hf.1.1.2
        simp only [Sh.size] at hl
        simp only [List.mapM_cons, bind, Option.bind_eq_some_iff] at h
        obtain ⟨y, hy, ys, hys, _⟩ := h
        rw [ho, hc] at hy
        obtain ⟨v, hv, hv2⟩ := (open_all s).1 _ _ _ _ hf.1.2 hy
        obtain ⟨u, hu, hu2⟩ := (open_all r).2 (off + s.size) fs fuel cs ys hf.2 hys (by omega)
        refine ⟨(v, u), ?_, hv2, hu2⟩
        show _ = s.enc v ++ r.enc u
        rw [← hv, ← hu, ← List.drop_drop, List.take_append_drop]
theorem open_arg {s : Sh} {t : TypeId} {r : Reach} {b0 : Nat} {v : Value} {d : DataW H} {p : List MemPlace} (hf : s.fits P t = true) (hv : Value.okWide P W r b0 t v) (h : DataW.Trod enc P W 0 (fun _ => true) held t v d p) :
    ∃ x : s.T, v.cells.toList = s.enc x ∧ s.ok W x := by
  obtain ⟨fuel, h⟩ := h
  exact (open_all s).1 _ _ _ _ hf h
def Sh.one : Sh → Bool
  | .int _ | .bool | .str | .slice _ => true
  | _ => false
theorem okW_one {t : TypeId} {r : Reach} {b0 : Nat} {v : Value} {s : Sh} (hf : s.fits P t = true) (ho : s.one = true) (hv : Value.okWide P W r b0 t v) {x : s.T} (h : v.cells.toList = s.enc x) : [v] = s.enc x := by
  cases s <;> simp only [Sh.one] at ho <;> first | cases ho; done | skip
  all_goals
    simp only [Sh.fits] at hf
    split at hf <;> first | cases hf; done | skip
    rename_i hu
    unfold Value.okWide at hv
    rw [hu] at hv
    dsimp only at hv
    unfold Cell.okWide at hv
    rw [hu] at hv
    cases v <;> first | exact h | skip
    all_goals (exfalso; dsimp only at hv; unfold Cell.ok at hv; rw [hu] at hv; exact hv)
theorem okW_agg {t : TypeId} {r : Reach} {b0 : Nat} {v : Value} {l : Sh} (hf : (Sh.struct l).fits P t = true) (hv : Value.okWide P W r b0 t v) {x : l.T} (h : v.cells.toList = l.enc x) : v = .agg (l.enc x).toArray := by
  simp only [Sh.fits] at hf
  split at hf <;> first | cases hf; done | skip
  rename_i fs hu
  unfold Value.okWide at hv
  rw [hu] at hv
  obtain ⟨cs, rfl, _⟩ := hv
  simp only [Value.cells] at h
  rw [← h]
end
end Go.RX
namespace Go.RX
set_option linter.unusedSimpArgs false
set_option linter.unusedVariables false
set_option linter.unnecessarySimpa false
open Go.MapKept
section
variable {E : World} {n : Nat} {ds : List Deferred} {st st' : List (Nat × Value)} {L L' : List SP} {r : Option Nat} {P : Program} {Q : Exit → Act → World → Prop} {ops : Array Oper} {rest : List Oper}
variable {d : Nat} {ty t t2 : TypeId} {pos : String} {af : Array Edge} {g : Option (Nat × Bool)} {x y z : Operand} {v u : Value} {k : IntKind} {p q : Bool}
abbrev KV := Int × Value × Nat
def ent (k : IntKind) (e : KV) : MapEntry := ⟨.int k e.1, e.2.1, e.2.2⟩
def getKV (l : List KV) (a : Int) : Option Value := (l.find? fun e => e.1 == a).map (·.2.1)
def fi (l : List KV) (a : Int) : Nat → Option (Nat × Value) := fun i => match l with
  | [] => none
  | e :: r => if a = e.1 then some (i, e.2.1) else fi r a (i + 1)
theorem findNow_fi (k : IntKind) (a : Int) : ∀ (l : List KV) (i : Nat), Instr.findNow (.int k) (.int k a) (l.map (ent k)) i = some (fi l a i)
  | [], i => rfl
  | e :: r, i => by
    rw [List.map_cons, Instr.findNow]
    have h1 : Instr.sameNow (.int k) (.int k a) (ent k e).key = some (a == e.1) := by simp [Instr.sameNow, ent]
    rw [h1]
    unfold fi
    by_cases h : a = e.1
    · rw [if_pos h]; simp [h, ent]
    · rw [if_neg h]
      have : (a == e.1) = false := by simpa using h
      rw [this]
      exact findNow_fi k a r (i + 1)
theorem fi_get : ∀ (l : List KV) (a : Int) (i : Nat), (fi l a i).map (·.2) = getKV l a
  | [], _, _ => rfl
  | e :: r, a, i => by
    unfold fi getKV
    by_cases h : a = e.1
    · rw [if_pos h]; simp [h]
    · rw [if_neg h, fi_get r a (i + 1)]
      have : (e.1 == a) = false := by simpa using Ne.symm h
      simp [getKV, List.find?_cons, this]
theorem fi_at : ∀ (l : List KV) (a : Int) (i j : Nat) (v : Value), fi l a i = some (j, v) → ∃ b, i ≤ j ∧ l[j - i]? = some (a, v, b)
  | [], _, _, _, _, h => by cases h
  | e :: r, a, i, j, v, h => by
    unfold fi at h
    by_cases hc : a = e.1
    · rw [if_pos hc] at h
      simp only [Option.some.injEq, Prod.mk.injEq] at h
      obtain ⟨rfl, rfl⟩ := h
      exact ⟨e.2.2, Nat.le_refl _, by simp [hc]⟩
    · rw [if_neg hc] at h
      obtain ⟨b, h1, h2⟩ := fi_at r a (i + 1) j v h
      refine ⟨b, by omega, ?_⟩
      rw [show j - i = (j - (i + 1)) + 1 by omega]; simpa using h2
theorem fi_none : ∀ {l : List KV} {a : Int} {i : Nat}, fi l a i = none → ∀ e ∈ l, e.1 ≠ a
  | [], _, _, _ => fun e he => by cases he
  | e :: r, a, i, h => by
    unfold fi at h
    by_cases hc : a = e.1
    · rw [if_pos hc] at h; cases h
    · rw [if_neg hc] at h
      intro e' he'
      rcases List.mem_cons.1 he' with rfl | he'
      · exact Ne.symm hc
      · exact fi_none h e' he'
theorem getKV_none {l : List KV} {a : Int} (h : ∀ e ∈ l, e.1 ≠ a) : getKV l a = none := by
  unfold getKV
  rw [Option.map_eq_none_iff, List.find?_eq_none]
  intro e he; simpa using h e he
theorem getKV_app (l : List KV) (a b : Int) (v : Value) (c : Nat) (h : ∀ e ∈ l, e.1 ≠ a) : getKV (l ++ [(a, v, c)]) b = if b = a then some v else getKV l b := by
  unfold getKV
  rw [List.find?_append]
  by_cases hb : b = a
  · subst hb
    have : l.find? (fun e => e.1 == b) = none := by rw [List.find?_eq_none]; intro e he; simpa using h e he
    rw [this]; simp
  · rw [if_neg hb]
    have : ([(a, v, c)] : List KV).find? (fun e => e.1 == b) = none := by simp [Ne.symm hb]
    rw [this]; simp
theorem modify_get : ∀ (l : List KV) (j : Nat) (a : Int) (u v : Value) (c : Nat), l[j]? = some (a, u, c) → (l.map (·.1)).Nodup → ∀ b, getKV (l.set j (a, v, c)) b = if b = a then some v else getKV l b
  | [], _, _, _, _, _, h, _, _ => by simp at h
  | e :: r, 0, a, u, v, c, h, hn, b => by
    simp only [List.getElem?_cons_zero, Option.some.injEq] at h
    subst h
    simp only [List.set_cons_zero, getKV, List.find?_cons]
    by_cases hb : b = a
    · subst hb; simp
    · have : (a == b) = false := by simpa using Ne.symm hb
      simp [this, hb]
  | e :: r, j + 1, a, u, v, c, h, hn, b => by
    simp only [List.getElem?_cons_succ] at h
    simp only [List.map_cons, List.nodup_cons] at hn
    have ih := modify_get r j a u v c h hn.2 b
    simp only [List.set_cons_succ, getKV, List.find?_cons]
    have hea : e.1 ≠ a := fun he => hn.1 (by rw [he]; exact List.mem_map.2 ⟨_, List.mem_of_getElem? h, rfl⟩)
    by_cases hb : b = a
    · subst hb
      have : (e.1 == b) = false := by simpa using hea
      simp only [this]
      simpa [getKV] using ih
    · cases hc : (e.1 == b) with
      | true => simp [hb]
      | false => simpa [getKV] using ih
theorem erase_get : ∀ (l : List KV) (j : Nat) (a : Int) (u : Value) (c : Nat), l[j]? = some (a, u, c) → (l.map (·.1)).Nodup → ∀ b, getKV (l.eraseIdx j) b = if b = a then none else getKV l b
  | [], _, _, _, _, h, _, _ => by simp at h
  | e :: r, 0, a, u, c, h, hn, b => by
    simp only [List.getElem?_cons_zero, Option.some.injEq] at h
    subst h
    simp only [List.map_cons, List.nodup_cons] at hn
    simp only [List.eraseIdx_cons_zero]
    by_cases hb : b = a
    · subst hb
      rw [if_pos rfl]
      exact getKV_none fun e he h => hn.1 (by rw [← h]; exact List.mem_map.2 ⟨e, he, rfl⟩)
    · have : (a == b) = false := by simpa using Ne.symm hb
      simp [getKV, List.find?_cons, this, hb]
  | e :: r, j + 1, a, u, c, h, hn, b => by
    simp only [List.getElem?_cons_succ] at h
    simp only [List.map_cons, List.nodup_cons] at hn
    have ih := erase_get r j a u c h hn.2 b
    simp only [List.eraseIdx_cons_succ, getKV, List.find?_cons]
    have hea : e.1 ≠ a := fun he => hn.1 (by rw [he]; exact List.mem_map.2 ⟨_, List.mem_of_getElem? h, rfl⟩)
    by_cases hb : b = a
    · subst hb
      have : (e.1 == b) = false := by simpa using hea
      simp only [this]
      simpa [getKV] using ih
    · cases hc : (e.1 == b) with
      | true => simp [hb]
      | false => simpa [getKV] using ih
structure mp (b : Nat) (k : IntKind) (f : Int → Option Value) (m : Nat) (h : PH) : Prop where
  at_ : ∃ (l : List KV) (clock : Nat), h (b, none) = some (.obj (.map (l.map (ent k)).toArray clock)) ∧ (l.map (·.1)).Nodup ∧ l.length = m ∧ (∀ a, f a = getKV l a) ∧ (l.map (·.2.2)).Nodup ∧ ∀ e ∈ l, e.2.2 < clock
theorem Sat.mp_at {f : Int → Option Value} {b m : Nat} {w : World} (s : Sat E L w) (p : Pick L (RX.mp b k f m) L') : ∃ (l : List KV) (clock : Nat), w.heap[b]? = some (.map (l.map (ent k)).toArray clock) ∧ (l.map (·.1)).Nodup ∧ l.length = m ∧ (∀ a, f a = getKV l a) ∧ (l.map (·.2.2)).Nodup ∧ ∀ e ∈ l, e.2.2 < clock := by
  obtain ⟨h1, s1, ⟨l, c, hb, r⟩⟩ := sep.one p s.2.2.2
  exact ⟨l, c, (hpo_obj (s1 _ _ hb)).1, r⟩
theorem Sat.putMp {f f' : Int → Option Value} {b m m' : Nat} {w w' : World} {l' : List KV} {c' : Nat} (s : Sat E L w) (p : Pick L (RX.mp b k f m) L') (hos : (w'.os, w'.drawn) = (w.os, w.drawn)) (ht : w'.tape = w.tape) (ho : w'.output = w.output)
    (hk : ∀ x, x ≠ b → w'.heap[x]? = w.heap[x]?) (hb : w'.heap[b]? = some (.map (l'.map (ent k)).toArray c')) (hn : (l'.map (·.1)).Nodup) (hm : l'.length = m') (hf : ∀ a, f' a = getKV l' a) (hB : (l'.map (·.2.2)).Nodup ∧ ∀ e ∈ l', e.2.2 < c') : Sat E (RX.mp b k f' m' :: L') w' := by
  obtain ⟨l, c, hb0, _⟩ := s.mp_at p
  refine ⟨os_drawn hos s.1, ht.trans s.2.1, ho.trans s.2.2.1, sep_upd (p.sep s.2.2.2) fun h1 x s1 => ⟨fun z hz => ?_, ⟨l', c', ?_, hn, hm, hf, hB⟩⟩⟩
  · obtain ⟨zb, zi⟩ := z
    by_cases hzb : zb = b
    · subst hzb
      obtain ⟨l0, c0, hx, _⟩ := x.at_
      cases zi with
      | none => rw [hx] at hz; cases hz
      | some i =>
        show hpo w'.heap[zb]? _ = hpo w.heap[zb]? _
        rw [hb, hb0]; rfl
    · show hpo _ _ = hpo _ _
      rw [hk zb hzb]
  · obtain ⟨l0, c0, hx, _⟩ := x.at_
    show (if (h1 (b, none)).isSome then RX.hp w' (b, none) else none) = _
    rw [hx]
    show hpo w'.heap[b]? none = _
    rw [hb]; rfl
theorem Hd.makeMap (k : IntKind) (K : ∀ b, Hd E n ds ((d, .map (some b)) :: st) (mp b k (fun _ => none) 0 :: L) (LW r P ops Q rest)) (hd : d < n := by decide) :
    Hd E n ds st L (LW r P ops Q (⟨some d, .makeMap t none, ty, pos, af, none⟩ :: rest)) :=
  Hd.op rfl (by simp) fun a w f s => by
    refine ⟨.map (some w.heap.size), { w with heap := w.heap.push (.map #[] 0) }, ?_, K w.heap.size _ _ (f.put hd _) ?_⟩
    · simp only [execOp]
      simp [Instr.makeMap, newObj, Sem.run, go_sem]
    · exact (s.new (.map #[] 0)).mp fun _ e => sep_head e fun k' x => ⟨[], 0, x.kind, by simp, rfl, fun _ => rfl, by simp, by simp⟩
structure MapT (P : Program) (t : TypeId) (k : IntKind) (zs : Value) : Prop where
  ex : ∃ kt vt i, P.underlying t = some (.map kt vt) ∧ P.underlying kt = some (.int k) ∧ P.info? vt = some i ∧ i.zero = some zs
def mapz (P : Program) (t : TypeId) : Option (IntKind × Value) :=
  match P.underlying t with
  | some (.map kt vt) => (match P.underlying kt with
    | some (.int k) => ((P.info? vt).bind (·.zero)).map fun z => (k, z)
    | _ => none)
  | _ => none
theorem MapT.of {zs : Value} (h : mapz P t = some (k, zs)) : MapT P t k zs := by
  unfold mapz at h
  split at h
  · rename_i kt vt hu
    split at h
    · rename_i k' hk
      cases hi : P.info? vt with
      | none => simp [hi] at h
      | some i =>
        cases hz : i.zero with
        | none => simp [hi, hz] at h
        | some z =>
          simp [hi, hz] at h
          obtain ⟨rfl, rfl⟩ := h
          exact ⟨kt, vt, i, hu, hk, hi, hz⟩
    · cases h
  · cases h
theorem run_lookup {f : Int → Option Value} {b m : Nat} {a : Int} {zs : Value} {w : World} (hT : MapT P t k zs) (s : Sat E L w) (p : Pick L (mp b k f m) L') (ok : Bool) :
    (Instr.lookup t (.map (some b)) (.int k a) ok).run P w = .ok (if ok then .tuple #[(f a).getD zs, .bool (f a).isSome] else (f a).getD zs) w := by
  obtain ⟨kt, vt, i, h1, h2, h3, h4⟩ := hT.ex
  obtain ⟨l, c, hb, hn, hm, hf, hbn, hbl⟩ := s.mp_at p
  have hck := run_checkKey (P := P) (w := w) (kt := kt) (k := .int k a) h2 (by simp [IsKey]) (l.map (ent k)).toArray.isEmpty 9999
  have hfk := run_findKey (P := P) (w := w) (kt := kt) h2 (findNow_fi k a l 0)
  have hg := fi_get l a 0
  rw [← hf] at hg
  simp only [Instr.lookup, Sem.run_bind, run_underlying h1, Result.andThen_ok, MapKept.run_getObj_map hb, hck, hfk, Sem.run_pure]
  cases hfi : fi l a 0 with
  | none =>
    rw [hfi] at hg
    simp only [Option.map_none] at hg
    simp only [zeroValue, typeInfo, Sem.run_bind, Result.andThen_ok]
    rw [← hg]
    cases ok <;> simp [h3, h4]
  | some jv =>
    rw [hfi] at hg
    simp only [Option.map_some] at hg
    rw [← hg]
    cases ok <;> simp
theorem y_lookup {f : Int → Option Value} {b m : Nat} {a : Int} {zs : Value} (hT : MapT P t k zs) (hx : evo st x = some (.map (some b))) (hy : evo st y = some (.int k a)) (p : Pick L (mp b k f m) L') :
    Yv E n ds st L P ⟨some d, .lookup t x y false, ty, pos, af, g⟩ ((f a).getD zs) := fun ac w fr s => by
  simp only [execOp, fr.ev hx, fr.ev hy, Sem.run_bind, run_lookup hT s p false]
  rfl
theorem y_lookup2 {f : Int → Option Value} {b m : Nat} {a : Int} {zs : Value} (hT : MapT P t k zs) (hx : evo st x = some (.map (some b))) (hy : evo st y = some (.int k a)) (p : Pick L (mp b k f m) L') :
    Yv E n ds st L P ⟨some d, .lookup t x y true, ty, pos, af, g⟩ (.tuple #[(f a).getD zs, .bool (f a).isSome]) := fun ac w fr s => by
  simp only [execOp, fr.ev hx, fr.ev hy, Sem.run_bind, run_lookup hT s p true]
  rfl
theorem set_heap {w : World} {b : Nat} {o : Obj} {o0 : Obj} (h : w.heap[b]? = some o0) : ({ w with heap := w.heap.setIfInBounds b o } : World).heap[b]? = some o := by
  have := (Array.getElem?_eq_some_iff.1 h).1
  simp [this]
theorem set_heap_ne {w : World} {b : Nat} {o : Obj} {x : Nat} (h : x ≠ b) : ({ w with heap := w.heap.setIfInBounds b o } : World).heap[x]? = w.heap[x]? := by
  simp [Array.getElem?_setIfInBounds_ne (Ne.symm h)]
theorem Hd.mapUpdate {f : Int → Option Value} {b m : Nat} {a : Int} {zs : Value} (hT : MapT P t k zs) (hx : evo st x = some (.map (some b))) (hy : evo st y = some (.int k a)) (hz : evo st z = some v) (p : Pick L (mp b k f m) L')
    (K : Hd E n ds st (mp b k (fun c => if c = a then some v else f c) (if (f a).isSome then m else m + 1) :: L') (LW r P ops Q rest)) :
    Hd E n ds st L (LW r P ops Q (⟨none, .mapUpdate t x y z, ty, pos, af, none⟩ :: rest)) :=
  Hd.opu rfl (by simp) fun ac w fr s => by
    obtain ⟨kt, vt, i, h1, h2, h3, h4⟩ := hT.ex
    obtain ⟨l, c, hb, hn, hm, hf, hbn, hbl⟩ := s.mp_at p
    have hck := run_checkKey (P := P) (w := w) (kt := kt) (k := .int k a) h2 (by simp [IsKey]) false 9999
    have hfk := run_findKey (P := P) (w := w) (kt := kt) h2 (findNow_fi k a l 0)
    have hg := fi_get l a 0
    rw [← hf] at hg
    have hsb : Instr.sameBits 10000 (.int k a) (.int k a) = true := by simp [Instr.sameBits]
    cases hfi : fi l a 0 with
    | none =>
      rw [hfi] at hg hfk
      simp only [Option.map_none] at hg
      have hno := fi_none hfi
      refine ⟨{ w with heap := w.heap.setIfInBounds b (.map ((l ++ [(a, v, c)]).map (ent k)).toArray (c + 1)) }, ?_, K _ _ fr ?_⟩
      · have e : ((l.map (ent k)).toArray.push { key := .int k a, val := v, born := c }) = ((l ++ [(a, v, c)]).map (ent k)).toArray := by apply Array.ext'; simp [ent]
        simp only [execOp, fr.ev hx, fr.ev hy, fr.ev hz, Instr.mapUpdate, Sem.run_bind, run_underlying h1, Result.andThen_ok, MapKept.run_getObj_map hb, hck, hfk, MapKept.run_setObj_map _ hb, e, Sem.run_pure]
      · refine Sat.putMp s p rfl rfl rfl (fun x hx => set_heap_ne hx) (set_heap hb) ?_ ?_ (fun b' => ?_) ?_
        · rw [List.map_append, List.nodup_append]
          refine ⟨hn, by simp, fun x hx y hy => ?_⟩
          obtain ⟨e, he, rfl⟩ := List.mem_map.1 hx
          simp at hy; subst hy
          exact hno e he
        · rw [← hg]; simp [hm]
        · rw [getKV_app l a b' v c hno, hf]
        · refine ⟨?_, fun e he => ?_⟩
          · rw [List.map_append, List.nodup_append]
            refine ⟨hbn, by simp, fun x hx y hy => ?_⟩
            obtain ⟨e, he, rfl⟩ := List.mem_map.1 hx
            simp at hy; subst hy
            exact Nat.ne_of_lt (hbl e he)
          · rcases List.mem_append.1 he with he | he
            · exact Nat.lt_succ_of_lt (hbl e he)
            · obtain rfl : e = (a, v, c) := by simpa using he
              exact Nat.lt_succ_self c
    | some jv =>
      obtain ⟨j, u⟩ := jv
      rw [hfi] at hg hfk
      simp only [Option.map_some] at hg
      obtain ⟨bo, _, hj⟩ := fi_at l a 0 j u hfi
      rw [Nat.sub_zero] at hj
      have hjl := (List.getElem?_eq_some_iff.1 hj).1
      have hj' : l[j] = (a, u, bo) := by have h := hj; rw [List.getElem?_eq_getElem hjl] at h; simpa using h
      refine ⟨{ w with heap := w.heap.setIfInBounds b (.map ((l.set j (a, v, bo)).map (ent k)).toArray c) }, ?_, K _ _ fr ?_⟩
      · have e0 : (((l.map (ent k)).toArray[j]?).map (·.key)).getD (.int k a) = .int k a := by simp [hj, ent]
        have e : (l.map (ent k)).toArray.modify j (fun e => { e with key := .int k a, val := v }) = ((l.set j (a, v, bo)).map (ent k)).toArray := by
          apply Array.ext'
          rw [Array.toList_modify]
          apply List.ext_getElem?
          intro q
          simp only [List.getElem?_modify, List.getElem?_map, List.getElem?_set]
          by_cases hq : j = q
          · subst hq; simp [hjl, ent, hj']
          · simp [hq]
        simp only [execOp, fr.ev hx, fr.ev hy, fr.ev hz, Instr.mapUpdate, Sem.run_bind, run_underlying h1, Result.andThen_ok, MapKept.run_getObj_map hb, hck, hfk, Instr.keyThatStays, e0, hsb, if_true, Sem.run_pure, MapKept.run_setObj_map _ hb, e]
      · refine Sat.putMp s p rfl rfl rfl (fun x hx => set_heap_ne hx) (set_heap hb) ?_ ?_ (fun b' => ?_) ?_
        · rw [List.map_set]
          have : ((l.map (·.1)).set j a) = l.map (·.1) := by
            apply List.ext_getElem?
            intro q
            rw [List.getElem?_set]
            by_cases hq : j = q
            · subst hq; simp [hjl, hj']
            · rw [if_neg hq]
          rw [this]; exact hn
        · rw [← hg]; simp [hm]
        · rw [modify_get l j a u v bo hj hn, hf]
        · refine ⟨?_, fun e he => ?_⟩
          · rw [List.map_set]
            have : ((l.map (·.2.2)).set j bo) = l.map (·.2.2) := by
              apply List.ext_getElem?
              intro q
              rw [List.getElem?_set]
              by_cases hq : j = q
              · subst hq; simp [hjl, hj']
              · rw [if_neg hq]
            rw [this]; exact hbn
          · rcases List.mem_or_eq_of_mem_set he with he | rfl
            · exact hbl e he
            · exact hbl (a, u, bo) (List.mem_of_getElem? hj)
end
section
variable {E : World} {n : Nat} {ds : List Deferred} {st st' : List (Nat × Value)} {L L' L'' : List SP} {r : Option Nat} {P : Program} {Q : Exit → Act → World → Prop} {ops : Array Oper} {rest : List Oper}
variable {d : Nat} {ty t t2 : TypeId} {pos : String} {af : Array Edge} {g : Option (Nat × Bool)} {x y z : Operand} {v u : Value} {k : IntKind} {p q : Bool}
structure MpI (f : Int → Option Value) (m : Nat) (l : List KV) (c : Nat) : Prop where
  keys : (l.map (·.1)).Nodup
  len : l.length = m
  get : ∀ a, f a = getKV l a
  nd : (l.map (·.2.2)).Nodup
  lt : ∀ e ∈ l, e.2.2 < c
abbrev mo (b : Nat) (k : IntKind) (l : List KV) (c : Nat) : SP := ob b (.map (l.map (ent k)).toArray c)
abbrev io (rb b c : Nat) (seen : List Nat) : SP := ob rb (.mapIter (some b) c seen.toArray c)
theorem mp_in {f : Int → Option Value} {b m c : Nat} {l : List KV} (h : MpI f m l c) : ∀ q, sep (mo b k l c :: L) q → sep (mp b k f m :: L) q := fun _ s => sep_head s fun _ x => ⟨⟨l, c, x.kind, h.keys, h.len, h.get, h.nd, h.lt⟩⟩
theorem Hd.mpOut {f : Int → Option Value} {b m : Nat} {K : Act → World → Prop} (p : Pick L (mp b k f m) L') (h : ∀ l c, MpI f m l c → Hd E n ds st (mo b k l c :: L') K) : Hd E n ds st L K := fun a w fr s => by
  obtain ⟨h1, h2, d, aa, bb, ⟨⟨l, c, hb, x1, x2, x3, x4, x5⟩⟩, y⟩ := p.sep s.2.2.2
  exact h l c ⟨x1, x2, x3, x4, x5⟩ a w fr ⟨s.1, s.2.1, s.2.2.1, h1, h2, d, aa, bb, ⟨hb⟩, y⟩
theorem Hd.rangeMap {b c : Nat} {l : List KV} {kt vt : TypeId} (hu : P.underlying t = some (.map kt vt)) (hx : evo st x = some (.map (some b))) (p : Pick L (mo b k l c) L')
    (K : ∀ rb, Hd E n ds ((d, .pointer (some ⟨rb, 0, none⟩)) :: st) (io rb b c [] :: L) (LW r P ops Q rest)) (hd : d < n := by decide) :
    Hd E n ds st L (LW r P ops Q (⟨some d, .range t x, ty, pos, af, none⟩ :: rest)) :=
  Hd.op rfl (by simp) fun a w f s => by
    have hb := s.ob_at p
    refine ⟨.pointer (some ⟨w.heap.size, 0, none⟩), { w with heap := w.heap.push (.mapIter (some b) c #[] c) }, ?_, K w.heap.size _ _ (f.put hd _) (s.new (.mapIter (some b) c #[] c))⟩
    simp only [execOp, f.ev hx]
    simp [Instr.range, run_underlying hu, getObj, newObj, Sem.run, hb, go_sem]
def tupO (k : IntKind) : Option KV → Value
  | none => .tuple #[.bool false]
  | some e => .tuple #[.bool true, .int k e.1, e.2.1]
def seenO (seen : List Nat) : Option KV → List Nat
  | none => seen
  | some e => seen ++ [e.2.2]
def NxO (l : List KV) (seen : List Nat) : Option KV → Prop
  | none => ∀ e ∈ l, e.2.2 ∈ seen
  | some e => e ∈ l ∧ e.2.2 ∉ seen
theorem Hd.nextMap {rb b c : Nat} {l : List KV} {seen : List Nat} (hx : evo st x = some (.pointer (some ⟨rb, 0, none⟩))) (p : Pick L (io rb b c seen) L') (p2 : Pick L (mo b k l c) L'') (hlt : ∀ e ∈ l, e.2.2 < c)
    (K : ∀ o : Option KV, NxO l seen o → Hd E n ds ((d, tupO k o) :: st) (io rb b c (seenO seen o) :: L') (LW r P ops Q rest)) (hd : d < n := by decide) :
    Hd E n ds st L (LW r P ops Q (⟨some d, .next x false, ty, pos, af, none⟩ :: rest)) :=
  Hd.op rfl (by simp) fun a w f s => by
    have hr := s.ob_at p
    have hb := s.ob_at p2
    rcases run_next_at (P := P) w ty rb b c c seen.toArray (l.map (ent k)).toArray c hr hb (fun e he => by
      obtain ⟨e0, h0, rfl⟩ := List.mem_map.1 (show e ∈ l.map (ent k) from he)
      exact hlt e0 h0) (Nat.le_refl c) with ⟨h0, hrun⟩ | ⟨e, he, w1, hw, hrun⟩
    · refine ⟨_, w, by simp only [execOp, f.ev hx, Sem.run_bind, hrun]; rfl, K none (fun e he => ?_) _ _ (f.put hd _) (s.mp fun _ q => p.sep q)⟩
      have := all_seen (l.map (ent k)).toArray seen.toArray h0 (ent k e) (show ent k e ∈ l.map (ent k) from List.mem_map.2 ⟨e, he, rfl⟩)
      simpa [ent] using this
    · obtain ⟨hem, hes⟩ := mem_left he
      obtain ⟨e0, h0, rfl⟩ := List.mem_map.1 (show e ∈ l.map (ent k) from hem)
      have s1 : Sat E L w1 := by
        rcases hw with rfl | rfl
        · exact s
        · exact s.draw
      have hr1 := s1.ob_at p
      refine ⟨_, _, by simp only [execOp, f.ev hx, Sem.run_bind, hrun]; rfl, K (some e0) ⟨h0, by simpa [ent] using hes⟩ _ _ (f.put hd _) ?_⟩
      have hlt := (Array.getElem?_eq_some_iff.1 hr1).1
      refine Sat.put s1 p rfl rfl rfl (fun x hx => ?_) ?_
      · simp [ChangeMaps.setBlock, Array.getElem?_setIfInBounds_ne (Ne.symm hx)]
      · simp [ChangeMaps.setBlock, hlt, seenO, ent]
theorem y_entry {rb b c : Nat} {l : List KV} {seen : List Nat} {e : KV} (hx : evo st x = some (.pointer (some ⟨rb, 0, none⟩))) (p : Pick L (io rb b c (seen ++ [e.2.2])) L') (p2 : Pick L (mo b k l c) L'') (he : e ∈ l) (hn : (l.map (·.2.2)).Nodup) :
    Yv E n ds st L P ⟨some d, .entry x, ty, pos, af, g⟩ (.tuple #[.int k e.1, e.2.1]) := fun a w f s => by
  have hr := s.ob_at p
  have hb := s.ob_at p2
  have h := run_entry_at (P := P) w rb b c seen.toArray (l.map (ent k)).toArray c (ent k e) (by rw [hr]; simp [ent]) hb (show ent k e ∈ l.map (ent k) from List.mem_map.2 ⟨e, he, rfl⟩) (show ((l.map (ent k)).map (·.born)).Nodup by
    rw [List.map_map]
    exact hn)
  simp only [execOp, f.ev hx, Sem.run_bind, h]
  rfl
structure EsI (l es : List KV) : Prop where
  nd : es.Nodup
  mem : ∀ e ∈ es, e ∈ l
theorem EsI.nil (l : List KV) : EsI l [] := ⟨.nil, fun e h => by cases h⟩
theorem EsI.step {l es : List KV} (h : EsI l es) {e : KV} (he : e ∈ l) (hn : e.2.2 ∉ es.map (·.2.2)) : EsI l (es ++ [e]) :=
  ⟨by rw [List.nodup_append]; exact ⟨h.nd, by simp, fun a ha b hb hab => by
      obtain rfl : b = e := by simpa using hb
      subst hab
      exact hn (List.mem_map.2 ⟨a, ha, rfl⟩)⟩, fun a ha => by
    rcases List.mem_append.1 ha with ha | ha
    · exact h.mem a ha
    · obtain rfl : a = e := by simpa using ha
      exact he⟩
theorem inj_of_map {α β : Type} (f : α → β) : ∀ {l : List α}, (l.map f).Nodup → ∀ a ∈ l, ∀ b ∈ l, f a = f b → a = b
  | [], _, a, ha, _, _, _ => by cases ha
  | x :: l, h, a, ha, b, hb, e => by
    rw [List.map_cons, List.nodup_cons] at h
    rcases List.mem_cons.1 ha with h1 | h1
    · rcases List.mem_cons.1 hb with h2 | h2
      · rw [h1, h2]
      · exact (h.1 (List.mem_map.2 ⟨b, h2, by rw [← e, h1]⟩)).elim
    · rcases List.mem_cons.1 hb with h2 | h2
      · exact (h.1 (List.mem_map.2 ⟨a, h1, by rw [e, h2]⟩)).elim
      · exact inj_of_map f h.2 a h1 b h2 e
structure KeysOf (f : Int → Option Value) (ks : List Int) : Prop where
  nd : ks.Nodup
  mem : ∀ a, a ∈ ks ↔ (f a).isSome = true
theorem getKV_some {l : List KV} {a : Int} : (getKV l a).isSome = true ↔ a ∈ l.map (·.1) := by
  unfold getKV
  rw [Option.isSome_map, List.find?_isSome, List.mem_map]
  constructor
  · rintro ⟨e, he, h⟩; exact ⟨e, he, by simpa using h⟩
  · rintro ⟨e, he, h⟩; exact ⟨e, he, by simpa using h⟩
theorem es_keys {f : Int → Option Value} {m c : Nat} {l es : List KV} (h : MpI f m l c) (hE : EsI l es) (hall : ∀ e ∈ l, e.2.2 ∈ es.map (·.2.2)) : KeysOf f (es.map (·.1)) where
  nd := by
    have hk := h.keys
    have hi := inj_of_map (fun e : KV => e.1) hk
    refine List.pairwise_map.2 (hE.nd.imp_of_mem fun {a b} ha hb hab e => hab (hi a (hE.mem a ha) b (hE.mem b hb) e))
  mem a := by
    rw [h.get a, getKV_some]
    constructor
    · intro ha
      obtain ⟨e, he, rfl⟩ := List.mem_map.1 ha
      exact List.mem_map.2 ⟨e, hE.mem e he, rfl⟩
    · intro ha
      obtain ⟨e, he, rfl⟩ := List.mem_map.1 ha
      obtain ⟨e2, he2, hb⟩ := List.mem_map.1 (hall e he)
      obtain rfl := inj_of_map (fun e : KV => e.2.2) h.nd e2 (hE.mem e2 he2) e he hb
      exact List.mem_map.2 ⟨e2, he2, rfl⟩
theorem es_pre {f : Int → Option Value} {m c : Nat} {l es : List KV} (h : MpI f m l c) (hE : EsI l es) : (es.map (·.1)).Nodup ∧ ∀ a ∈ es.map (·.1), (f a).isSome = true :=
  ⟨List.pairwise_map.2 (hE.nd.imp_of_mem fun {a b} ha hb hab e => hab (inj_of_map (fun e : KV => e.1) h.keys a (hE.mem a ha) b (hE.mem b hb) e)), fun a ha => by
    obtain ⟨e, he, rfl⟩ := List.mem_map.1 ha
    rw [h.get, getKV_some]
    exact List.mem_map.2 ⟨e, hE.mem e he, rfl⟩⟩
end
end Go.RX
