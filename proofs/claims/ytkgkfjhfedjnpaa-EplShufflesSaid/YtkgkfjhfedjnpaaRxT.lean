/-
  Regions that draw their order, where some moves may come late: these are taken first; then what reads, then a chain. No program is named here.
-/
import Derived.Test.YtkgkfjhfedjnpaaRx6
import Derived.OrdersIn
namespace Go.RX
set_option linter.unusedSimpArgs false
set_option linter.unusedVariables false
set_option linter.unnecessarySimpa false
section
variable {E : World} {n : Nat} {ds : List Deferred} {st st' : List (Nat × Value)} {L L' : List SP} {r : Option Nat} {P : Program} {Q : Exit → Act → World → Prop} {ops : Array Oper} {rest : List Oper}
variable {d : Nat} {ty t t2 : TypeId} {pos : String} {af : Array Edge} {g : Option (Nat × Bool)} {x y z : Operand} {v u : Value} {k : IntKind} {p q : Bool}
/-- no way out by a panic -/
def noP (Q : Exit → Act → World → Prop) : Exit → Act → World → Prop
  | .panic _, _, _ => False
  | e, a, w => Q e a w
abbrev AW (P : Program) (ops : Array Oper) (Q : Exit → Act → World → Prop) (f : Nat) (listed : Array Bool) : Act → World → Prop := wpAnyIn (FW none) 0 P .any ops (noP Q) f listed
theorem Hd.noPn (h : Hd E n ds st L (Q .normal)) : Hd E n ds st L ((noP Q) .normal) := h
theorem Hd.draws {id : Nat} {l : List Oper} (hm : P.follows .mixedOrders = true) (h : Hd E n ds st L (AW P l.toArray Q l.length (Array.replicate l.length false))) :
    Hd E n ds st L (CW none P (.region id l.toArray true) Q) := fun a w f s => by
  refine Go.wpIn_mono (wpIn_region_any (F := FW none) (Q := noP Q) hm ?_) ?_
  · have := h a _ f s.draw
    simpa using this
  · intro e a' w' hq
    cases e <;> first | exact hq | exact hq.elim
theorem Hd.take (i : Nat) {f : Nat} {listed : Array Bool} (hi : ops[i]? = some ⟨some d, .move x, ty, pos, af, none⟩) (hs : Region.noSelect ops = true) (hf : Region.free .any ops listed i = true)
    (hr : (Region.ready .any ops listed).contains i = true) (hx : evo st x = some v) (K : Hd E n ds ((d, v) :: st) L (AW P ops Q f (listed.setIfInBounds i true))) (hd : d < n := by decide) :
    Hd E n ds st L (AW P ops Q (f + 1) listed) := fun a w fr s => by
  refine wpAnyIn_take rfl hi hs hf hr (fun _ _ _ h => h.elim) ?_ (K _ w (fr.put hd v) s)
  refine ⟨.inl ⟨by simp [Region.wanted], fun w => by rw [← fr.ev hx]; rfl⟩, fun w => ?_⟩
  rfl
/-- a head of which some is listed -/
structure HeadAt (md : Region.Mode) (ops : Array Oper) (m : Nat) (listed : Array Bool) : Prop where
  inv : HeadInv md ops m listed
  sink : ∀ i, i < m → listed.getD i true = false → ((List.range (m + 1)).any fun j => decide (i < j) && Region.waitsFor md ops j i) = true
theorem HeadAt.set {md : Region.Mode} {m i : Nat} {listed : Array Bool} (h : HeadAt md ops m listed) (hi : i ∈ Region.ready md ops listed) (him : i < m) : HeadAt md ops m (listed.setIfInBounds i true) :=
  ⟨h.inv.set hi him, fun j hj hu => h.sink j hj (by
    by_cases hij : i = j
    · subst hij; exact (mem_ready.1 hi).1
    · rw [getD_set_ne true hij] at hu; exact hu)⟩
theorem tail_waitsAt {md : Region.Mode} {m : Nat} {listed : Array Bool} (hc : Region.chainB md ops m = true) (hm : m < ops.size) (H : HeadAt md ops m listed) :
    ∀ (d i : Nat), m - i = d → i < m → listed.getD i true = false → ∀ t, m ≤ t → t ∉ Region.ready md ops listed := by
  intro d
  induction d using Nat.strongRecOn with
  | _ d ih =>
    intro i hd hi hun t ht hr
    obtain ⟨_, ot, hot, hall⟩ := mem_ready.1 hr
    have htlt : t < ops.size := (Array.getElem?_eq_some_iff.1 hot).1
    by_cases htn : t = m
    · subst htn
      obtain ⟨j, hj, hj2⟩ := List.any_eq_true.1 (H.sink i hi hun)
      simp only [Bool.and_eq_true, decide_eq_true_eq] at hj2
      obtain ⟨oj, hoj, e, he, hb, hon⟩ := Region.waitsFor_spec hj2.2
      have hjle : j ≤ t := by have := List.mem_range.1 hj; omega
      by_cases hjt : j = t
      · subst hjt
        have : oj = ot := Option.some.inj (hoj.symm.trans hot)
        subst this
        have h2 := hall e he hb
        rw [hon, getD_both hun] at h2
        cases h2
      · cases hl : listed.getD j false with
        | true =>
          have h2 := H.inv.closed j oj hoj hl e he hb
          rw [hon, getD_both hun] at h2
          cases h2
        | false =>
          have hjs : j < listed.size := by rw [H.inv.size]; omega
          exact ih (t - j) (by omega) j rfl (by omega) (getD_in hjs hl) t (Nat.le_refl _) hr
    · have h1 := List.all_eq_true.1 hc t (List.mem_range.2 htlt)
      simp only [Bool.or_eq_true, decide_eq_true_eq] at h1
      rcases h1 with h1 | h1
      · omega
      · obtain ⟨o', ho', e, he, hb, hon⟩ := Region.waitsFor_spec h1
        have : o' = ot := Option.some.inj (ho'.symm.trans hot)
        subst this
        have h2 := hall e he hb
        rw [hon, getD_both (H.inv.tail (t - 1) (by omega) (by omega))] at h2
        cases h2
theorem wpAnyL_firstAt {md : Region.Mode} {w : World} {m i : Nat} {oi : Oper} {v : Value} {LL : Array Bool → Act → Prop} (hi : ops[i]? = some oi) (hsel : ∀ (j : Nat) (o : Oper) cs b, ops[j]? = some o → o.op ≠ .select cs b)
    (hc : Region.chainB md ops m = true) (hm : m < ops.size) (him : i < m)
    (hdone : ∀ listed a, LL listed a → ∀ j ∈ Region.ready md ops listed, m ≤ j) :
    ∀ (f : Nat) (listed : Array Bool) (a : Act), HeadAt md ops m listed →
      (∀ j oj, ops[j]? = some oj → j ≠ i → listed.getD j true = false → (∀ e ∈ oj.after, Region.binds md e = true → e.on ≠ i) → oi.apart ops oj = true) →
      i ∈ Region.ready md ops listed → YieldsAt P ops w oi v a →
      wpAnyL P md ops w m LL f (listed.setIfInBounds i true) (a.put oi.dst v) → wpAnyL P md ops w m LL (f + 1) listed a := by
  intro f
  induction f with
  | zero =>
    intro listed a inv _ hr hy H
    have hun := (mem_ready.1 hr).1
    refine ⟨fun h => (by rw [h] at hr; cases hr), fun j hj => ?_⟩
    have hjn : j < m := by
      rcases Nat.lt_or_ge j m with h | h
      · exact h
      · exact absurd hj (tail_waitsAt hc hm inv _ i rfl him hun j h)
    refine ⟨hjn, ?_⟩
    by_cases hji : j = i
    · subst hji; exact hy.stOp hi H
    · have := hdone _ _ H j (ready_mono hj hji)
      omega
  | succ f ih =>
    intro listed a inv hfree hr hy H
    have hun := (mem_ready.1 hr).1
    refine ⟨fun h => (by rw [h] at hr; cases hr), fun j hj => ?_⟩
    have hjn : j < m := by
      rcases Nat.lt_or_ge j m with h | h
      · exact h
      · exact absurd hj (tail_waitsAt hc hm inv _ i rfl him hun j h)
    refine ⟨hjn, ?_⟩
    by_cases hji : j = i
    · subst hji; exact hy.stOp hi H
    · have h1 := (H.2 j (ready_mono hj hji)).2
      obtain ⟨hjun, oj, hoj, hall⟩ := mem_ready.1 hj
      have hnot : ∀ e ∈ oj.after, Region.binds md e = true → e.on ≠ i := fun e he hb heq => by
        have h1 := hall e he hb
        rw [heq, getD_both hun] at h1
        cases h1
      have h2 := stOp_put hoj (hfree j oj hoj hji hjun hnot) (fun cs b => hsel i oi cs b hi) (fun cs b => hsel j oj cs b hoj) hy h1
      have hfree' : ∀ k ok, ops[k]? = some ok → k ≠ i → (listed.setIfInBounds j true).getD k true = false →
          (∀ e ∈ ok.after, Region.binds md e = true → e.on ≠ i) → oi.apart ops ok = true := fun k ok hk hki hun hno => by
        refine hfree k ok hk hki ?_ hno
        by_cases hjk : j = k
        · subst hjk; exact hjun
        · rw [getD_set_ne true hjk] at hun; exact hun
      refine stOp_mono (fun a' h3 => ih (listed.setIfInBounds j true) a' (inv.set hj hjn) hfree' (ready_mono hr (Ne.symm hji)) h3.1 ?_) h2
      rw [Array.setIfInBounds_comm _ _ hji]
      exact h3.2
def lexAt (md : Region.Mode) (ops : Array Oper) (m gg : Nat) : List Nat → Array Bool → Bool
  | [], listed => Region.seqB md ops gg m listed
  | i :: is, listed => decide (i < m) && (Region.ready md ops listed).contains i && Region.free md ops listed i && lexAt md ops m gg is (listed.setIfInBounds i true)
theorem wpAnyL_lexAt {md : Region.Mode} {w : World} {m gg : Nat} {Lq : Act → Prop} (hsel : Region.noSelect ops = true) (hc : Region.chainB md ops m = true) (hm : m < ops.size) :
    ∀ (is : List Nat) (l : List Oper) (listed : Array Bool) (a : Act), is.map (fun i => ops[i]?) = l.map some → HeadAt md ops m listed → lexAt md ops m gg is listed = true → wpStill P ops w Lq l a →
    wpAnyL P md ops w m (fun listed' a' => Region.seqB md ops gg m listed' = true ∧ Lq a') is.length listed a
  | [], [], listed, a, _, _, hB, h => ⟨hB, h⟩
  | [], _ :: _, _, _, h, _, _, _ => by simp at h
  | _ :: _, [], _, _, h, _, _, _ => by simp at h
  | i :: is, o :: l, listed, a, hl, inv, hB, h => by
    simp only [List.map_cons, List.cons.injEq] at hl
    simp only [lexAt, Bool.and_eq_true, decide_eq_true_eq] at hB
    obtain ⟨⟨⟨him, hr⟩, hf⟩, hB'⟩ := hB
    have hr' : i ∈ Region.ready md ops listed := by simpa using hr
    have hst : stOp P ops w i (wpStill P ops w Lq l) a := by unfold stOp; simp only [hl.1]; exact h
    obtain ⟨v, hy, hK⟩ := yieldsAt_of_stOp hl.1 hst
    exact wpAnyL_firstAt hl.1 (Region.noSelect_spec hsel) hc hm him (fun listed' a' hL => seqB_ready hL.1) is.length listed a inv (Region.free_spec hl.1 hf) hr' hy
      (wpAnyL_lexAt hsel hc hm is l _ _ hl.2 (inv.set hr' him) hB' hK)
def headAtB (md : Region.Mode) (ops : Array Oper) (m : Nat) (listed : Array Bool) : Bool :=
  Nat.beq listed.size ops.size && ((List.range ops.size).all fun j => match ops[j]? with | some oj => !(listed.getD j false) || oj.after.all (fun e => !(Region.binds md e) || listed.getD e.on false) | none => true) &&
  ((List.range ops.size).all fun t => decide (t < m) || !(listed.getD t true)) &&
  ((List.range m).all fun i => listed.getD i true || (List.range (m + 1)).any fun j => decide (i < j) && Region.waitsFor md ops j i)
theorem headAt_of {md : Region.Mode} {m : Nat} {listed : Array Bool} (h : headAtB md ops m listed = true) : HeadAt md ops m listed := by
  simp only [headAtB, Bool.and_eq_true] at h
  obtain ⟨⟨⟨h1, h2⟩, h3⟩, h4⟩ := h
  refine ⟨⟨Nat.eq_of_beq_eq_true h1, fun j oj hj hl e he hb => ?_, fun t ht ht' => ?_⟩, fun i hi hu => ?_⟩
  · have := List.all_eq_true.1 h2 j (List.mem_range.2 (Array.getElem?_eq_some_iff.1 hj).1)
    simp only [hj, hl, Bool.not_true, Bool.false_or] at this
    have := (Array.all_eq_true'.1 this) e he
    simpa [hb] using this
  · have := List.all_eq_true.1 h3 t (List.mem_range.2 ht')
    simp only [Bool.or_eq_true, decide_eq_true_eq] at this
    rcases this with h | h
    · omega
    · simpa using h
  · have := List.all_eq_true.1 h4 i (List.mem_range.2 hi)
    simpa [hu] using this
def tailAtB (ops : Array Oper) (m : Nat) (is : List Nat) (listed : Array Bool) : Bool :=
  Region.noSelect ops && decide (m < ops.size) && Region.chainB .any ops m && headAtB .any ops m listed && lexAt .any ops m (ops.size - m) is listed
def pk (l : List Oper) : List Nat → List Oper
  | [] => []
  | i :: is => match l[i]? with
    | some o => o :: pk l is
    | none => pk l is
theorem pk_map {l : List Oper} : ∀ {is : List Nat}, (is.all fun i => Nat.blt i l.length) = true → is.map (fun i => l.toArray[i]?) = (pk l is).map some
  | [], _ => rfl
  | i :: is, h => by
    simp only [List.all_cons, Bool.and_eq_true] at h
    have hi : i < l.length := by have := h.1; simpa [Nat.blt_eq] using this
    simp only [pk, List.getElem?_eq_getElem hi, List.map_cons, pk_map h.2]
    simp [hi]
/-- what is left, behind the moves: operations that read, then a chain -/
theorem Hd.tailAt {l : List Oper} {f : Nat} {listed : Array Bool} (m : Nat) (is : List Nat) (h0 : (is.all fun i => Nat.blt i l.length) = true) (hf : f = is.length + (l.length - m)) (hB : tailAtB l.toArray m is listed = true)
    (h : Ht E n ds st L (SW P l.toArray (fun w a' => LW none P l.toArray (noP Q) (l.drop m) a' w) (pk l is))) : Hd E n ds st L (AW P l.toArray Q f listed) := fun a w fr s => by
  simp only [tailAtB, Bool.and_eq_true, decide_eq_true_eq] at hB
  obtain ⟨⟨⟨⟨hsel, hm⟩, hc⟩, hH⟩, hlex⟩ := hB
  have h1 := pk_map h0
  obtain ⟨l2, h2⟩ : ∃ l2, l2 = l.drop m := ⟨_, rfl⟩
  rw [← h2] at h
  have hdl : l2.length = l.toArray.size - m := by rw [h2]; simp
  have H := wpAnyL_lexAt (P := P) (w := w) (md := .any) (gg := l.toArray.size - m) (Lq := fun a' => LW none P l.toArray (noP Q) l2 a' w) hsel hc hm is (pk l is) listed a h1 (headAt_of hH) hlex (h a w fr s)
  have := wpAnyIn_of_head (r := none) (Q' := noP Q) (gg := l.toArray.size - m) (fun listed a' hL => by
    have := wpAnyIn_of_seq (r := none) (md := .any) (Q' := noP Q) l2 m listed a' w (fun j => by rw [h2]; simp [List.getElem?_drop]) (by rw [hdl]; exact hL.1) hL.2
    rwa [hdl] at this) _ _ _ H
  have h5 : l.length - m = l.toArray.size - m := by simp
  rw [hf, h5]
  exact this
end
end Go.RX
