/-
  Regions that draw their order, where some moves may come late: these are taken first; then what reads, then a chain. No program is named here.
-/
import Derived.Test.YtmpemhbfgbochaaRx6
import Derived.OrdersIn
import Derived.ControlIn
import Derived.Scope
namespace Go.RX
set_option linter.unusedSimpArgs false
set_option linter.unusedVariables false
set_option linter.unnecessarySimpa false
section
variable {E : World} {n : Nat} {ds : List Deferred} {st st' : List (Nat × Value)} {L L' : List SP} {r : Option Nat} {P : Program} {Q : Exit → Act → World → Prop} {ops : Array Oper} {rest : List Oper}
variable {d : Nat} {ty t t2 : TypeId} {pos : String} {af : Array Edge} {g : Option (Nat × Bool)} {x y z : Operand} {v u : Value} {k : IntKind} {p q : Bool}
/-! ### Scopes that are left without a jump -/
section scope
variable {b : Frame} {a : Act} {k : List Item} {cs : List Frame} {w : World} {F : Fence} {m : Nat}
theorem stepR_scope {c : Code} : step P (lone (b.atR a (.code (.scope c) :: k)) cs w) = .next (lone (b.atR a (.code c :: .inScope c :: k)) cs w) :=
  step_lone_go (by simp [stepG, stepG.exec, Frame.atR])
theorem stepR_inScope {c : Code} : step P (lone (b.atR a (.inScope c :: k)) cs w) = .next (lone (b.atR a k) cs w) :=
  step_lone_go (by simp [stepG, stepG.exec, Frame.atR])
theorem wpIn_scope {c : Code} (h : c.wpIn F m P (Exit.noGoto Q) a w) : (Code.scope c).wpIn F m P Q a w := by
  intro b k cs hro hb hr
  have h0 : (lone (b.atR a (.code (.scope c) :: k)) cs w).fenced P F := fenced_calm hb hr rfl
  obtain ⟨e, a₁, w₁, hq, harr⟩ := h b (.inScope c :: k) cs hro hb hr
  cases e with
  | normal => exact ⟨.normal, a₁, w₁, hq, .head h0 stepR_scope (StepsIn.trans harr (.one (fenced_calm hb hr rfl) stepR_inScope))⟩
  | exit id =>
    have hx : exitTo id (.inScope c :: k) = exitTo id k := by simp [exitTo]
    exact ⟨.exit id, a₁, w₁, hq, fun k' hk => .head h0 stepR_scope (harr.1 k' (by rw [hx]; exact hk)),
      fun hr' hk => let ⟨k₁, h1, h2⟩ := harr.2 hr' (by rw [hx]; exact hk); ⟨k₁, h1, .head h0 stepR_scope h2⟩⟩
  | goto l => exact hq.elim
  | ret => exact ⟨_, a₁, w₁, hq, .of_steps (.one h0 stepR_scope) harr⟩
  | panic ch => exact ⟨_, a₁, w₁, hq, .of_steps (.one h0 stepR_scope) harr⟩
  | outgrown => exact ⟨_, a₁, w₁, hq, .of_steps (.one h0 stepR_scope) harr⟩
end scope
theorem Hd.scope {c : Code} (h : Hd E n ds st L (CW r P c (Exit.noGoto Q))) : Hd E n ds st L (CW r P (.scope c) Q) := fun a w f s => wpIn_scope (h a w f s)
theorem Hd.scNorm (h : Hd E n ds st L (Q .normal)) : Hd E n ds st L ((Exit.noGoto Q) .normal) := h
theorem Hd.scRet (h : Hd E n ds st L (Q .ret)) : Hd E n ds st L ((Exit.noGoto Q) .ret) := h
theorem Hd.scExit {id : Nat} (h : Hd E n ds st L (Q (.exit id))) : Hd E n ds st L ((Exit.noGoto Q) (.exit id)) := h
/-- no way out by a panic -/
def noP (Q : Exit → Act → World → Prop) : Exit → Act → World → Prop
  | .panic _, _, _ => False
  | e, a, w => Q e a w
abbrev AW (P : Program) (ops : Array Oper) (Q : Exit → Act → World → Prop) (f : Nat) (listed : Array Bool) : Act → World → Prop := wpAnyIn (FW none) 0 P .any ops (noP Q) f listed
theorem Hd.noPn (h : Hd E n ds st L (Q .normal)) : Hd E n ds st L ((noP Q) .normal) := h
theorem Hd.draws {id : Nat} {l : List Oper} (hm : P.follows .mixedOrders = true) (h : Hd E n ds st L (AW P l.toArray Q l.length (Array.replicate l.length false))) :
    Hd E n ds st L (CW none P (.region id l.toArray true) Q) := fun a w f s => by
  refine Go.wpIn_mono (wpIn_region_any (F := FW none) (Q := noP Q) hm ?_) ?_
  · have := h a _ f s.draw
    simpa using this
  · intro e a' w' hq
    cases e <;> first | exact hq | exact hq.elim
theorem Hd.take (i : Nat) {op : Op} {f : Nat} {listed : Array Bool} (hi : ops[i]? = some ⟨some d, op, ty, pos, af, none⟩) (hs : Region.noSelect ops = true) (hf : Region.free .any ops listed i = true)
    (hr : (Region.ready .any ops listed).contains i = true) (hx : ∀ E, Yv E n ds st [] P ⟨some d, op, ty, pos, af, none⟩ v) (hab : ∀ (a : Act) w, (⟨some d, op, ty, pos, af, none⟩ : Oper).about P w a.eval = none) (K : Hd E n ds ((d, v) :: st) L (AW P ops Q f (listed.setIfInBounds i true))) (hd : d < n := by decide) :
    Hd E n ds st L (AW P ops Q (f + 1) listed) := fun a w fr s => by
  refine wpAnyIn_take rfl hi hs hf hr (fun _ _ _ h => h.elim) ?_ (K _ w (fr.put hd v) s)
  exact ⟨.inl ⟨by simp [Region.wanted], fun w => hx w a w fr ⟨⟨rfl, Nat.le_refl _⟩, rfl, rfl, trivial⟩⟩, fun w => hab a w⟩
/-- the one operation that is ready -/
theorem Hd.only (i : Nat) {o : Oper} {f : Nat} {listed : Array Bool} (hi : ops[i]? = some o) (hr : Region.ready .any ops listed = [i])
    (h : Hd E n ds st L (LW none P ops (Exit.then (AW P ops Q f (listed.setIfInBounds i true)) (noP Q)) [o])) : Hd E n ds st L (AW P ops Q (f + 1) listed) := fun a w fr s => by
  have h1 := h a w fr s
  refine ⟨fun h0 => (by rw [hr] at h0; cases h0), fun j hj => ?_⟩
  rw [hr] at hj
  obtain rfl : j = i := by simpa using hj
  have h2 : wpListIn (FW none) 0 P ops (Exit.then (AW P ops Q f (listed.setIfInBounds j true)) (noP Q)) [o] a w := h1
  unfold wpOpIn
  simp only [hi]
  unfold wpListIn at h2
  by_cases hw : Region.wanted o (yielded ops a.tmps) = true
  · rw [if_pos hw] at h2 ⊢
    refine ⟨h2.1, ?_⟩
    have h3 := h2.2
    unfold Oper.uponIn at h3 ⊢
    split at h3
    · exact h3
    · exact h3
    · exact h3
    · obtain ⟨hn, hc⟩ := h3
      refine ⟨hn, hc.mono fun e w' he => ?_⟩
      cases e with
      | returned v => exact he
      | panicked ch => exact he.elim
      | outgrown => exact he
    · exact h3
    · obtain ⟨hn, hc⟩ := h3
      refine ⟨hn, RoundIn.mono hc fun e w' he => ?_⟩
      cases e with
      | returned v => exact he
      | panicked ch => exact he.elim
      | outgrown => exact he
    · exact h3.elim
    · exact h3.elim
  · rw [if_neg hw] at h2 ⊢
    exact h2
theorem Hd.anyEnd {f : Nat} {listed : Array Bool} (hr : Region.ready .any ops listed = []) (h : Hd E n ds st L (Q .normal)) : Hd E n ds st L (AW P ops Q f listed) := fun a w fr s => wpAnyIn_done (Q := noP Q) hr (show (noP Q) .normal a w from h a w fr s) f
/-- a guarded operation that leaves the world alone is taken ahead: wanted, or not -/
theorem Hd.takeg (i : Nat) {op : Op} {j gd : Nat} {f : Nat} {listed : Array Bool} (hi : ops[i]? = some ⟨some d, op, ty, pos, af, some (j, p)⟩) (hs : Region.noSelect ops = true) (hf : Region.free .any ops listed i = true)
    (hr : (Region.ready .any ops listed).contains i = true) (hj : (ops[j]?).bind (·.dst) = some gd) (hv : look st gd = some (.bool p)) (hx : ∀ E, Yv E n ds st [] P ⟨some d, op, ty, pos, af, some (j, p)⟩ v) (hab : ∀ (a : Act) w, (⟨some d, op, ty, pos, af, some (j, p)⟩ : Oper).about P w a.eval = none) (K : Hd E n ds ((d, v) :: st) L (AW P ops Q f (listed.setIfInBounds i true))) (hd : d < n := by decide) :
    Hd E n ds st L (AW P ops Q (f + 1) listed) := fun a w fr s => by
  refine wpAnyIn_take rfl hi hs hf hr (fun _ _ _ h => h.elim) ?_ (K _ w (fr.put hd v) s)
  exact ⟨.inl ⟨by simp [Region.wanted, yielded_of hj fr hv], fun w => hx w a w fr ⟨⟨rfl, Nat.le_refl _⟩, rfl, rfl, trivial⟩⟩, fun w => hab a w⟩
/-- .. that is not wanted -/
theorem Hd.taken (i : Nat) {op : Op} {j gd : Nat} {f : Nat} {listed : Array Bool} (hi : ops[i]? = some ⟨some d, op, ty, pos, af, some (j, p)⟩) (hs : Region.noSelect ops = true) (hf : Region.free .any ops listed i = true)
    (hr : (Region.ready .any ops listed).contains i = true) (hj : (ops[j]?).bind (·.dst) = some gd) (hv : look st gd = some v) (hb : isb v p = false) (hab : ∀ (a : Act) w, (⟨some d, op, ty, pos, af, some (j, p)⟩ : Oper).about P w a.eval = none) (K : Hd E n ds ((d, undef) :: st) L (AW P ops Q f (listed.setIfInBounds i true))) (hd : d < n := by decide) :
    Hd E n ds st L (AW P ops Q (f + 1) listed) := fun a w fr s => by
  refine wpAnyIn_take rfl hi hs hf hr (fun _ _ _ h => h.elim) ?_ (K _ w (fr.put hd undef) s)
  refine ⟨.inr ⟨?_, rfl⟩, fun w => hab a w⟩
  simp only [Region.wanted, yielded_of hj fr hv]
  cases v <;> simp_all [isb]
theorem Hq.unguard {Kq : Act → Prop} {dst : Option Nat} {op : Op} {i gd : Nat} (hi : (ops[i]?).bind (·.dst) = some gd) (hv : look st gd = some (.bool p)) (K : Hq n ds st (QW P ops (Sat E L) Kq (⟨dst, op, ty, pos, af, none⟩ :: rest))) :
    Hq n ds st (QW P ops (Sat E L) Kq (⟨dst, op, ty, pos, af, some (i, p)⟩ :: rest)) := fun a f => by
  have h := K a f
  have h' : wpQuiet P ops (Sat E L) Kq (⟨dst, op, ty, pos, af, none⟩ :: rest) a := h
  show wpQuiet _ _ _ _ _ _
  unfold wpQuiet at h' ⊢
  rw [if_pos (by simp [Region.wanted])] at h'
  rw [if_pos (by simp [Region.wanted, yielded_of hi f hv])]
  exact h'
/-- the rest of it leaves the list as it is -/
theorem Hd.quietAt {l : List Oper} {f : Nat} {listed : Array Bool} (k : Nat) (hB : (Region.noSelect l.toArray && Region.lexFrom .any l.toArray (l.length - k) k listed) = true) (hf : f = l.length - k)
    (h : Hq n ds st (QW P l.toArray (Sat E L) (fun a' => ∀ w', Sat E L w' → Q .normal a' w') (l.drop k))) : Hd E n ds st L (AW P l.toArray Q f listed) := fun a w fr s => by
  simp only [Bool.and_eq_true] at hB
  have hl : (l.drop k).length = l.length - k := by simp
  refine wpAnyIn_of_quiet (r := none) (C := Sat E L) (Q := fun a' => ∀ w', Sat E L w' → Q .normal a' w') (Q' := noP Q) (fun _ w' hw' h => h w' hw') f listed a w s ?_
  have := wpAnyQ_lex (P := P) (ops := l.toArray) (C := Sat E L) (md := .any) hB.1 (l.drop k) k listed a (fun j => by simp [List.getElem?_drop]) (by rw [hl]; exact hB.2) (h a fr)
  rw [hl] at this
  rw [hf]; exact this
/-- a head of which some is listed, and a chain js behind it -/
structure HeadAt (md : Region.Mode) (ops : Array Oper) (m : Nat) (js : List Nat) (listed : Array Bool) : Prop where
  size : listed.size = ops.size
  closed : ∀ j oj, ops[j]? = some oj → listed.getD j false = true → ∀ e ∈ oj.after, Region.binds md e = true → listed.getD e.on false = true
  tail : ∀ t, m ≤ t → t < ops.size → listed.getD t true = true ∨ (t ∈ js ∧ listed.getD t true = false)
  js : ∀ t ∈ js, m ≤ t ∧ t < ops.size ∧ listed.getD t true = false
  sink : ∀ i, i < m → listed.getD i true = false → ((List.range (m + 1)).any fun j => decide (i < j) && Region.waitsFor md ops j i) = true
theorem HeadAt.set {md : Region.Mode} {m i : Nat} {js : List Nat} {listed : Array Bool} (h : HeadAt md ops m js listed) (hi : i ∈ Region.ready md ops listed) (him : i < m) : HeadAt md ops m js (listed.setIfInBounds i true) := by
  obtain ⟨hun, oi, hoi, hall⟩ := mem_ready.1 hi
  refine ⟨by simp [h.size], fun j oj hj hl e he hb => ?_, fun t ht ht' => by rw [getD_set_ne true (by omega)]; exact h.tail t ht ht', fun t ht => ?_, fun j hj hu => h.sink j hj (by
    by_cases hij : i = j
    · subst hij; exact hun
    · rw [getD_set_ne true hij] at hu; exact hu)⟩
  · by_cases hij : i = j
    · subst hij
      have : oj = oi := Option.some.inj (hj.symm.trans hoi)
      subst this
      exact getD_set_true (hall e he hb)
    · rw [getD_set_ne false hij] at hl
      exact getD_set_true (h.closed j oj hj hl e he hb)
  · have := h.js t ht
    exact ⟨this.1, this.2.1, by rw [getD_set_ne true (by omega)]; exact this.2.2⟩
/-- each waits for the one ahead of it -/
def chainJ (md : Region.Mode) (ops : Array Oper) : List Nat → Bool
  | a :: b :: js => Region.waitsFor md ops b a && chainJ md ops (b :: js)
  | _ => true
theorem chainJ_pred {md : Region.Mode} : ∀ {js : List Nat} {t : Nat}, chainJ md ops js = true → t ∈ js → js.head? = some t ∨ ∃ s ∈ js, Region.waitsFor md ops t s = true
  | [], _, _, h => by cases h
  | [a], t, _, h => by left; simp at h; subst h; rfl
  | a :: b :: js, t, hc, h => by
    simp only [chainJ, Bool.and_eq_true] at hc
    rcases List.mem_cons.1 h with rfl | h
    · exact .inl rfl
    · right
      rcases chainJ_pred hc.2 h with h2 | ⟨s, hs, h2⟩
      · simp at h2; subst h2; exact ⟨a, by simp, hc.1⟩
      · exact ⟨s, List.mem_cons_of_mem _ hs, h2⟩
theorem tail_waitsAt {md : Region.Mode} {m : Nat} {js : List Nat} {listed : Array Bool} (hc : chainJ md ops js = true) (h0 : js.head? = some m) (H : HeadAt md ops m js listed) :
    ∀ (d i : Nat), m - i = d → i < m → listed.getD i true = false → ∀ t, m ≤ t → t ∉ Region.ready md ops listed := by
  intro d
  induction d using Nat.strongRecOn with
  | _ d ih =>
    intro i hd hi hun t ht hr
    obtain ⟨hut, ot, hot, hall⟩ := mem_ready.1 hr
    have htlt : t < ops.size := (Array.getElem?_eq_some_iff.1 hot).1
    have htj : t ∈ js := by
      rcases H.tail t ht htlt with h | h
      · rw [h] at hut; cases hut
      · exact h.1
    rcases chainJ_pred hc htj with hh | ⟨s, hs, hw⟩
    · rw [h0] at hh
      obtain rfl : m = t := by simpa using hh
      obtain ⟨j, hj, hj2⟩ := List.any_eq_true.1 (H.sink i hi hun)
      simp only [Bool.and_eq_true, decide_eq_true_eq] at hj2
      obtain ⟨oj, hoj, e, he, hb, hon⟩ := Region.waitsFor_spec hj2.2
      have hjle : j ≤ m := by have := List.mem_range.1 hj; omega
      by_cases hjt : j = m
      · subst hjt
        have : oj = ot := Option.some.inj (hoj.symm.trans hot)
        subst this
        have h2 := hall e he hb
        rw [hon, getD_both hun] at h2
        cases h2
      · cases hl : listed.getD j false with
        | true =>
          have h2 := H.closed j oj hoj hl e he hb
          rw [hon, getD_both hun] at h2
          cases h2
        | false =>
          have hjs : j < listed.size := by rw [H.size]; omega
          exact ih (m - j) (by omega) j rfl (by omega) (getD_in hjs hl) m (Nat.le_refl _) hr
    · obtain ⟨o', ho', e, he, hb, hon⟩ := Region.waitsFor_spec hw
      have : o' = ot := Option.some.inj (ho'.symm.trans hot)
      subst this
      have h2 := hall e he hb
      rw [hon, getD_both (H.js s hs).2.2] at h2
      cases h2
theorem wpAnyL_firstAt {md : Region.Mode} {w : World} {m i : Nat} {js : List Nat} {oi : Oper} {v : Value} {LL : Array Bool → Act → Prop} (hi : ops[i]? = some oi) (hsel : ∀ (j : Nat) (o : Oper) cs b, ops[j]? = some o → o.op ≠ .select cs b)
    (hc : chainJ md ops js = true) (h0 : js.head? = some m) (him : i < m)
    (hdone : ∀ listed a, LL listed a → ∀ j ∈ Region.ready md ops listed, m ≤ j) :
    ∀ (f : Nat) (listed : Array Bool) (a : Act), HeadAt md ops m js listed →
      (∀ j oj, ops[j]? = some oj → j ≠ i → listed.getD j true = false → (∀ e ∈ oj.after, Region.binds md e = true → e.on ≠ i) → oi.apart ops oj = true) →
      i ∈ Region.ready md ops listed → YieldsAt P ops w oi v a →
      wpAnyL P md ops w m LL f (listed.setIfInBounds i true) (a.put oi.dst v) → wpAnyL P md ops w m LL (f + 1) listed a := by
  intro f
  induction f with
  | zero =>
    intro listed a inv _ hr hy H
    have hun := (mem_ready.1 hr).1
    refine ⟨fun h => (by rw [h] at hr; cases hr), fun j hj => ?_⟩
    have hjn : j < m := by
      rcases Nat.lt_or_ge j m with h | h
      · exact h
      · exact absurd hj (tail_waitsAt hc h0 inv _ i rfl him hun j h)
    refine ⟨hjn, ?_⟩
    by_cases hji : j = i
    · subst hji; exact hy.stOp hi H
    · have := hdone _ _ H j (ready_mono hj hji)
      omega
  | succ f ih =>
    intro listed a inv hfree hr hy H
    have hun := (mem_ready.1 hr).1
    refine ⟨fun h => (by rw [h] at hr; cases hr), fun j hj => ?_⟩
    have hjn : j < m := by
      rcases Nat.lt_or_ge j m with h | h
      · exact h
      · exact absurd hj (tail_waitsAt hc h0 inv _ i rfl him hun j h)
    refine ⟨hjn, ?_⟩
    by_cases hji : j = i
    · subst hji; exact hy.stOp hi H
    · have h1 := (H.2 j (ready_mono hj hji)).2
      obtain ⟨hjun, oj, hoj, hall⟩ := mem_ready.1 hj
      have hnot : ∀ e ∈ oj.after, Region.binds md e = true → e.on ≠ i := fun e he hb heq => by
        have h1 := hall e he hb
        rw [heq, getD_both hun] at h1
        cases h1
      have h2 := stOp_put hoj (hfree j oj hoj hji hjun hnot) (fun cs b => hsel i oi cs b hi) (fun cs b => hsel j oj cs b hoj) hy h1
      have hfree' : ∀ k ok, ops[k]? = some ok → k ≠ i → (listed.setIfInBounds j true).getD k true = false →
          (∀ e ∈ ok.after, Region.binds md e = true → e.on ≠ i) → oi.apart ops ok = true := fun k ok hk hki hun hno => by
        refine hfree k ok hk hki ?_ hno
        by_cases hjk : j = k
        · subst hjk; exact hjun
        · rw [getD_set_ne true hjk] at hun; exact hun
      refine stOp_mono (fun a' h3 => ih (listed.setIfInBounds j true) a' (inv.set hj hjn) hfree' (ready_mono hr (Ne.symm hji)) h3.1 ?_) h2
      rw [Array.setIfInBounds_comm _ _ hji]
      exact h3.2
def seqJ (md : Region.Mode) (ops : Array Oper) : List Nat → Array Bool → Bool
  | [], listed => (Region.ready md ops listed).isEmpty
  | j :: js, listed => decide (Region.ready md ops listed = [j]) && seqJ md ops js (listed.setIfInBounds j true)
def lexAt (md : Region.Mode) (ops : Array Oper) (m : Nat) (js : List Nat) : List Nat → Array Bool → Bool
  | [], listed => seqJ md ops js listed
  | i :: is, listed => decide (i < m) && (Region.ready md ops listed).contains i && Region.free md ops listed i && lexAt md ops m js is (listed.setIfInBounds i true)
theorem seqJ_ready {md : Region.Mode} {js : List Nat} {m : Nat} {listed : Array Bool} (hj : js.head? = some m) (h : seqJ md ops js listed = true) : ∀ j ∈ Region.ready md ops listed, m ≤ j := by
  cases js with
  | nil => cases hj
  | cons a js =>
    simp only [seqJ, Bool.and_eq_true, decide_eq_true_eq] at h
    intro j hr
    rw [h.1] at hr
    simp at hr hj
    omega
theorem wpAnyL_lexAt {md : Region.Mode} {w : World} {m : Nat} {js : List Nat} {Lq : Act → Prop} (hsel : Region.noSelect ops = true) (hc : chainJ md ops js = true) (h0 : js.head? = some m) :
    ∀ (is : List Nat) (l : List Oper) (listed : Array Bool) (a : Act), is.map (fun i => ops[i]?) = l.map some → HeadAt md ops m js listed → lexAt md ops m js is listed = true → wpStill P ops w Lq l a →
    wpAnyL P md ops w m (fun listed' a' => seqJ md ops js listed' = true ∧ Lq a') is.length listed a
  | [], [], listed, a, _, _, hB, h => ⟨hB, h⟩
  | [], _ :: _, _, _, h, _, _, _ => by simp at h
  | _ :: _, [], _, _, h, _, _, _ => by simp at h
  | i :: is, o :: l, listed, a, hl, inv, hB, h => by
    simp only [List.map_cons, List.cons.injEq] at hl
    simp only [lexAt, Bool.and_eq_true, decide_eq_true_eq] at hB
    obtain ⟨⟨⟨him, hr⟩, hf⟩, hB'⟩ := hB
    have hr' : i ∈ Region.ready md ops listed := by simpa using hr
    have hst : stOp P ops w i (wpStill P ops w Lq l) a := by unfold stOp; simp only [hl.1]; exact h
    obtain ⟨v, hy, hK⟩ := yieldsAt_of_stOp hl.1 hst
    exact wpAnyL_firstAt hl.1 (Region.noSelect_spec hsel) hc h0 him (fun listed' a' hL => seqJ_ready h0 hL.1) is.length listed a inv (Region.free_spec hl.1 hf) hr' hy
      (wpAnyL_lexAt hsel hc h0 is l _ _ hl.2 (inv.set hr' him) hB' hK)
theorem wpAnyIn_of_seqJ {md : Region.Mode} {Q' : Exit → Act → World → Prop} : ∀ (js : List Nat) (l : List Oper) (listed : Array Bool) (a : Act) (w : World), js.map (fun i => ops[i]?) = l.map some →
    seqJ md ops js listed = true → wpListIn (FW r) 0 P ops Q' l a w → wpAnyIn (FW r) 0 P md ops Q' js.length listed a w
  | [], [], _, _, _, _, hB, h => ⟨by simpa [seqJ] using hB, h⟩
  | [], _ :: _, _, _, _, h, _, _ => by simp at h
  | _ :: _, [], _, _, _, h, _, _ => by simp at h
  | j :: js, o :: l, listed, a, w, hl, hB, h => by
    simp only [List.map_cons, List.cons.injEq] at hl
    simp only [seqJ, Bool.and_eq_true, decide_eq_true_eq] at hB
    refine ⟨fun h1 => (by rw [hB.1] at h1; cases h1), fun i hi => ?_⟩
    rw [hB.1] at hi
    have hik : i = j := by simpa using hi
    subst hik
    have hw : wpOpIn (FW r) 0 P ops Q' i (wpListIn (FW r) 0 P ops Q' l) a w := by unfold wpOpIn; simp only [hl.1]; exact h
    exact wpOpIn_mono (fun a' w' h' => wpAnyIn_of_seqJ js l _ a' w' hl.2 hB.2 h') hw
def headAtB (md : Region.Mode) (ops : Array Oper) (m : Nat) (js : List Nat) (listed : Array Bool) : Bool :=
  Nat.beq listed.size ops.size && ((List.range ops.size).all fun j => match ops[j]? with | some oj => !(listed.getD j false) || oj.after.all (fun e => !(Region.binds md e) || listed.getD e.on false) | none => true) &&
  ((List.range ops.size).all fun t => decide (t < m) || listed.getD t true || (js.contains t && !(listed.getD t true))) &&
  (js.all fun t => decide (m ≤ t) && decide (t < ops.size) && !(listed.getD t true)) &&
  ((List.range m).all fun i => listed.getD i true || (List.range (m + 1)).any fun j => decide (i < j) && Region.waitsFor md ops j i)
theorem headAt_of {md : Region.Mode} {m : Nat} {js : List Nat} {listed : Array Bool} (h : headAtB md ops m js listed = true) : HeadAt md ops m js listed := by
  simp only [headAtB, Bool.and_eq_true] at h
  obtain ⟨⟨⟨⟨h1, h2⟩, h3⟩, h5⟩, h4⟩ := h
  refine ⟨Nat.eq_of_beq_eq_true h1, fun j oj hj hl e he hb => ?_, fun t ht ht' => ?_, fun t ht => ?_, fun i hi hu => ?_⟩
  · have := List.all_eq_true.1 h2 j (List.mem_range.2 (Array.getElem?_eq_some_iff.1 hj).1)
    simp only [hj, hl, Bool.not_true, Bool.false_or] at this
    have := (Array.all_eq_true'.1 this) e he
    simpa [hb] using this
  · have := List.all_eq_true.1 h3 t (List.mem_range.2 ht')
    simp only [Bool.or_eq_true, Bool.and_eq_true, decide_eq_true_eq, Bool.not_eq_true', List.contains_eq_mem] at this
    rcases this with (h | h) | h
    · omega
    · exact .inl h
    · exact .inr h
  · have := List.all_eq_true.1 h5 t ht
    simp only [Bool.and_eq_true, decide_eq_true_eq, Bool.not_eq_true'] at this
    exact ⟨this.1.1, this.1.2, this.2⟩
  · have := List.all_eq_true.1 h4 i (List.mem_range.2 hi)
    simpa [hu] using this
def tailAtB (ops : Array Oper) (m : Nat) (is js : List Nat) (listed : Array Bool) : Bool :=
  Region.noSelect ops && (js.head? == some m) && chainJ .any ops js && headAtB .any ops m js listed && lexAt .any ops m js is listed
def pk (l : List Oper) : List Nat → List Oper
  | [] => []
  | i :: is => match l[i]? with
    | some o => o :: pk l is
    | none => pk l is
theorem pk_map {l : List Oper} : ∀ {is : List Nat}, (is.all fun i => Nat.blt i l.length) = true → is.map (fun i => l.toArray[i]?) = (pk l is).map some
  | [], _ => rfl
  | i :: is, h => by
    simp only [List.all_cons, Bool.and_eq_true] at h
    have hi : i < l.length := by have := h.1; simpa [Nat.blt_eq] using this
    simp only [pk, List.getElem?_eq_getElem hi, List.map_cons, pk_map h.2]
    simp [hi]
/-- what is left, behind what was taken: operations that read, then a chain -/
theorem Hd.tailAt {l : List Oper} {f : Nat} {listed : Array Bool} (m : Nat) (is js : List Nat) (h0 : (is.all fun i => Nat.blt i l.length) = true) (h0' : (js.all fun i => Nat.blt i l.length) = true) (hf : f = is.length + js.length) (hB : tailAtB l.toArray m is js listed = true)
    (h : Ht E n ds st L (SW P l.toArray (fun w a' => LW none P l.toArray (noP Q) (pk l js) a' w) (pk l is))) : Hd E n ds st L (AW P l.toArray Q f listed) := fun a w fr s => by
  simp only [tailAtB, Bool.and_eq_true, beq_iff_eq] at hB
  obtain ⟨⟨⟨⟨hsel, hm⟩, hc⟩, hH⟩, hlex⟩ := hB
  have H := wpAnyL_lexAt (P := P) (w := w) (md := .any) (Lq := fun a' => LW none P l.toArray (noP Q) (pk l js) a' w) hsel hc hm is (pk l is) listed a (pk_map h0) (headAt_of hH) hlex (h a w fr s)
  have := wpAnyIn_of_head (r := none) (Q' := noP Q) (gg := js.length) (fun listed a' hL => wpAnyIn_of_seqJ (r := none) (md := .any) (Q' := noP Q) js (pk l js) listed a' w (pk_map h0') hL.1 hL.2) _ _ _ H
  rw [hf]
  exact this
end
end Go.RX
