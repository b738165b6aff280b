/-
  Regions that draw their order, in which some operations read what the others leave alone: these are taken ahead. No program is named here.
-/
import Derived.Test.YtmpemhbfgbochaaRxT
namespace Go.RX
set_option linter.unusedSimpArgs false
set_option linter.unusedVariables false
set_option linter.unnecessarySimpa false
section
variable {E : World} {n : Nat} {ds : List Deferred} {st st' : List (Nat × Value)} {L L' M : List SP} {r : Option Nat} {P : Program} {Q : Exit → Act → World → Prop} {ops : Array Oper} {rest : List Oper}
variable {d : Nat} {ty t t2 : TypeId} {pos : String} {af : Array Edge} {g : Option (Nat × Bool)} {x y z : Operand} {v u : Value} {k : IntKind} {p q : Bool}
variable {md : Region.Mode} {S : World → Prop} {J : Nat → Bool}
/-- in every world that meets S the operation leaves v in its slot, does nothing else, and calls nobody -/
def YieldsIn (P : Program) (ops : Array Oper) (S : World → Prop) (o : Oper) (v : Value) (a : Act) : Prop :=
  ((Region.wanted o (yielded ops a.tmps) = true ∧ ∀ w, S w → (execOp a.eval o).run P w = .ok (.value v) w) ∨ (Region.wanted o (yielded ops a.tmps) = false ∧ v = undef)) ∧ ∀ w, o.about P w a.eval = none
theorem YieldsIn.wpOpIn {i : Nat} {o : Oper} {v : Value} {a : Act} (hi : ops[i]? = some o) (hdf : ∀ c, o.op ≠ .defer c) (hy : YieldsIn P ops S o v a) {K : Act → World → Prop} {w : World} (hS : S w) (h : K (a.put o.dst v) w) : wpOpIn (FW r) 0 P ops Q i K a w := by
  unfold Go.wpOpIn
  simp only [hi]
  have hab : ∀ f, o.about P w a.eval = some f → (FW r).fn f := fun f hf => by rw [hy.2 w] at hf; cases hf
  rcases hy.1 with ⟨hw, hv⟩ | ⟨hw, rfl⟩
  · simp only [hw, if_true, Oper.wpIn, Oper.semAt_eq _ _ _ hdf, hv w hS, Oper.uponIn]; exact ⟨hab, h⟩
  · simp only [hw, Bool.false_eq_true, if_false]; exact ⟨hab, h⟩
theorem YieldsIn.of_same {o : Oper} {v : Value} {a a' : Act} (hy : YieldsIn P ops S o v a) (he : execOp a'.eval o = execOp a.eval o)
    (hw : Region.wanted o (yielded ops a'.tmps) = Region.wanted o (yielded ops a.tmps)) (hb : ∀ w, o.about P w a'.eval = o.about P w a.eval) : YieldsIn P ops S o v a' := by
  unfold YieldsIn at *
  rw [he, hw]
  exact ⟨hy.1, fun w => by rw [hb w]; exact hy.2 w⟩
theorem wpOpIn_putIn {j : Nat} {oi oj : Oper} {v : Value} (hj : ops[j]? = some oj) (hdf : ∀ c, oj.op ≠ .defer c) (hap : oi.apart ops oj = true)
    (hsi : ∀ cs b, oi.op ≠ .select cs b) (hsj : ∀ cs b, oj.op ≠ .select cs b) {K : Act → World → Prop} {a : Act} {w : World}
    (hy : YieldsIn P ops S oi v a) (h : wpOpIn (FW r) 0 P ops (noP Q) j K (a.put oi.dst v) w) :
    wpOpIn (FW r) 0 P ops (noP Q) j (fun a' w' => YieldsIn P ops S oi v a' ∧ K (a'.put oi.dst v) w') a w := by
  obtain ⟨h1, h2, h3⟩ := Oper.apart_spec hap
  have keep : ∀ (a : Act), YieldsIn P ops S oi v a → ∀ u, YieldsIn P ops S oi v (a.put oj.dst u) := fun a hy u =>
    hy.of_same (execOp_put oi hsi a oj.dst u h3) (wanted_put oi a oj.dst u h3) (fun w => about_put oi w a oj.dst u h3)
  have keepD : ∀ d, YieldsIn P ops S oi v { a with defers := d :: a.defers } := fun d => hy.of_same rfl rfl (fun _ => rfl)
  unfold wpOpIn at *
  simp only [hj] at *
  rw [wanted_put oj a oi.dst v h1, about_put oj w a oi.dst v h1] at h
  split
  · rename_i hw
    simp only [hw, if_true] at h
    unfold Oper.wpIn at *
    rw [about_put oj w a oi.dst v h1] at h
    refine ⟨h.1, ?_⟩
    have h := h.2
    rw [Oper.semAt_eq _ _ _ hdf, execOp_put oj hsj a oi.dst v h1] at h
    rw [Oper.semAt_eq _ _ _ hdf]
    generalize (execOp a.eval oj).run P w = r at *
    cases r with
    | ok x w' =>
      cases x <;> simp only [Oper.uponIn] at h ⊢
      case value u => exact ⟨keep a hy u, by rw [← Act.put_comm a v u h2]; exact h⟩
      case skip => exact ⟨keep a hy _, by rw [← Act.put_comm a v undef h2]; exact h⟩
      case defer d =>
        refine ⟨keep _ (keepD d) _, ?_⟩
        rw [← Act.put_comm _ v undef h2, ← Act.put_defers]
        exact h
      case enter f args =>
        refine ⟨h.1, CallsIn.mono h.2 fun e w'' he => ?_⟩
        cases e with
        | returned u => exact ⟨keep a hy u, by rw [← Act.put_comm a v u h2]; exact he⟩
        | panicked c => exact he.elim
        | outgrown => exact he
      case row row args => exact ⟨h.1, RowsIn.mono h.2 fun u w'' he => ⟨keep a hy u, by rw [← Act.put_comm a v u h2]; exact he⟩⟩
      case round l f tmps assign body =>
        refine ⟨h.1, RoundIn.mono h.2 fun e w'' he => ?_⟩
        cases e with
        | returned u => exact ⟨keep a hy u, by rw [← Act.put_comm a v u h2]; exact he⟩
        | panicked c => exact he.elim
        | outgrown => exact he
    | halt x w' =>
      cases x <;> simp only [Oper.uponIn] at h ⊢
      case panic u => exact h.elim
  · rename_i hw
    simp only [hw] at h
    exact ⟨h.1, keep a hy _, by rw [← Act.put_comm a v undef h2]; exact h.2⟩
/-- Whatever order is picked from here on, S holds behind each operation of J. -/
def wpAnyHz (r : Option Nat) (P : Program) (md : Region.Mode) (ops : Array Oper) (Q : Exit → Act → World → Prop) (S : World → Prop) (J : Nat → Bool) : Nat → Array Bool → Act → World → Prop
  | 0, listed, a, w => Region.ready md ops listed = [] ∧ Q .normal a w
  | fuel + 1, listed, a, w =>
    (Region.ready md ops listed = [] → Q .normal a w) ∧
    ∀ i ∈ Region.ready md ops listed, wpOpIn (FW r) 0 P ops (noP Q) i (fun a' w' => (J i = true → S w') ∧ wpAnyHz r P md ops Q S J fuel (listed.setIfInBounds i true) a' w') a w
theorem wpAnyIn_of_heldz : ∀ (fuel : Nat) (listed : Array Bool) (a : Act) (w : World), wpAnyHz r P md ops Q S J fuel listed a w → wpAnyIn (FW r) 0 P md ops (noP Q) fuel listed a w
  | 0, _, _, _, h => h
  | fuel + 1, _, _, _, h => ⟨h.1, fun i hi => wpOpIn_mono (fun a' w' h' => wpAnyIn_of_heldz fuel _ a' w' h'.2) (h.2 i hi)⟩
theorem wpAnyHz_first {i : Nat} {oi : Oper} {v : Value} (hi : ops[i]? = some oi) (hsel : ∀ (j : Nat) (o : Oper) cs b, ops[j]? = some o → o.op ≠ .select cs b)
    (hJ : ∀ (j : Nat) oj, ops[j]? = some oj → (∀ e ∈ oj.after, Region.binds md e = true → e.on ≠ i) → J j = true) (hnd : ∀ (j : Nat) (o : Oper), ops[j]? = some o → ∀ c, o.op ≠ .defer c) :
    ∀ (fuel : Nat) (listed : Array Bool) (a : Act) (w : World),
      (∀ j oj, ops[j]? = some oj → j ≠ i → listed.getD j true = false → (∀ e ∈ oj.after, Region.binds md e = true → e.on ≠ i) → oi.apart ops oj = true) →
      i ∈ Region.ready md ops listed → YieldsIn P ops S oi v a → S w →
      wpAnyHz r P md ops Q S J fuel (listed.setIfInBounds i true) (a.put oi.dst v) w → wpAnyHz r P md ops Q S J (fuel + 1) listed a w := by
  intro fuel
  induction fuel with
  | zero =>
    intro listed a w _ hr hy hS H
    refine ⟨fun h => (by rw [h] at hr; cases hr), fun j hj => ?_⟩
    by_cases hji : j = i
    · subst hji; exact hy.wpOpIn hi (hnd _ _ hi) hS ⟨fun _ => hS, H⟩
    · have := ready_mono hj hji
      rw [H.1] at this
      cases this
  | succ fuel ih =>
    intro listed a w hfree hr hy hS H
    refine ⟨fun h => (by rw [h] at hr; cases hr), fun j hj => ?_⟩
    by_cases hji : j = i
    · subst hji; exact hy.wpOpIn hi (hnd _ _ hi) hS ⟨fun _ => hS, H⟩
    · have h1 := H.2 j (ready_mono hj hji)
      obtain ⟨hjun, oj, hoj, hall⟩ := mem_ready.1 hj
      have hnot : ∀ e ∈ oj.after, Region.binds md e = true → e.on ≠ i := fun e he hb heq => by
        have h1 := hall e he hb
        have h0 := (mem_ready.1 hr).1
        rw [heq] at h1
        rcases Nat.lt_or_ge i listed.size with h' | h'
        · simp [h'] at h0 h1; rw [h0] at h1; cases h1
        · simp [Array.getElem?_eq_none h'] at h1
      have h2 := wpOpIn_putIn hoj (hnd _ _ hoj) (hfree j oj hoj hji hjun hnot) (fun cs b => hsel i oi cs b hi) (fun cs b => hsel j oj cs b hoj) hy h1
      have hfree' : ∀ k ok, ops[k]? = some ok → k ≠ i → (listed.setIfInBounds j true).getD k true = false →
          (∀ e ∈ ok.after, Region.binds md e = true → e.on ≠ i) → oi.apart ops ok = true := fun k ok hk hki hun hno => by
        refine hfree k ok hk hki ?_ hno
        by_cases hjk : j = k
        · subst hjk; exact hjun
        · rw [getD_set_ne true hjk] at hun; exact hun
      have hJj := hJ j oj hoj hnot
      refine wpOpIn_mono (fun a' w' h3 => ⟨fun _ => h3.2.1 hJj, ih (listed.setIfInBounds j true) a' w' hfree' (ready_mono hr (Ne.symm hji)) h3.1 (h3.2.1 hJj) ?_⟩) h2
      rw [Array.setIfInBounds_comm _ _ hji]
      exact h3.2.2
def isDefer : Op → Bool
  | .defer _ => true
  | _ => false
/-- all that do not wait for i are in J; none is a defer -/
def jOk (md : Region.Mode) (ops : Array Oper) (J : Nat → Bool) (i : Nat) : Bool :=
  (ops.all fun o => !isDefer o.op) && (List.range ops.size).all fun j => J j || match ops[j]? with | some oj => oj.after.any (fun e => Region.binds md e && Nat.beq e.on i) | none => true
theorem jOk_spec {i : Nat} (h : jOk md ops J i = true) : ∀ (j : Nat) oj, ops[j]? = some oj → (∀ e ∈ oj.after, Region.binds md e = true → e.on ≠ i) → J j = true := fun j oj hj hno => by
  simp only [jOk, Bool.and_eq_true] at h
  have := List.all_eq_true.1 h.2 j (List.mem_range.2 (Array.getElem?_eq_some_iff.1 hj).1)
  simp only [hj, Bool.or_eq_true] at this
  rcases this with h | h
  · exact h
  · obtain ⟨e, he, h2⟩ := Array.any_eq_true'.1 h
    simp only [Bool.and_eq_true] at h2
    exact absurd (Nat.eq_of_beq_eq_true h2.2) (hno e he h2.1)
theorem jOk_nd {i : Nat} (h : jOk md ops J i = true) : ∀ (j : Nat) (o : Oper), ops[j]? = some o → ∀ c, o.op ≠ .defer c := fun j o hj c hc => by
  simp only [jOk, Bool.and_eq_true] at h
  have := Array.all_eq_true'.1 h.1 o (Array.mem_of_getElem? hj)
  rw [hc] at this; cases this
abbrev ZW (r : Option Nat) (P : Program) (ops : Array Oper) (Q : Exit → Act → World → Prop) (S : World → Prop) (J : Nat → Bool) (f : Nat) (listed : Array Bool) : Act → World → Prop := wpAnyHz r P .any ops Q S J f listed
theorem Hd.drawsH {id : Nat} {l : List Oper} (M : List SP) (J : Nat → Bool) (hm : P.follows .mixedOrders = true) (h : Hd E n ds st L (ZW r P l.toArray Q (Sat E M) J l.length (Array.replicate l.length false))) :
    Hd E n ds st L (CW r P (.region id l.toArray true) Q) := fun a w f s => by
  refine Go.wpIn_mono (wpIn_region_any (F := FW r) (Q := noP Q) hm ?_) ?_
  · have := wpAnyIn_of_heldz _ _ _ _ (h a _ f s.draw)
    simpa using this
  · intro e a' w' hq
    cases e <;> first | exact hq | exact hq.elim
theorem Hd.takeH (i : Nat) {op : Op} {f : Nat} {listed : Array Bool} (hi : ops[i]? = some ⟨some d, op, ty, pos, af, none⟩) (hs : Region.noSelect ops = true) (hf : Region.free .any ops listed i = true)
    (hr : (Region.ready .any ops listed).contains i = true) (hJ : jOk .any ops J i = true) (hx : Yv E n ds st M P ⟨some d, op, ty, pos, af, none⟩ v) (hab : ∀ (a : Act) w, (⟨some d, op, ty, pos, af, none⟩ : Oper).about P w a.eval = none)
    (hM : ∀ k, sep L k → sep M k) (K : Hd E n ds ((d, v) :: st) L (ZW r P ops Q (Sat E M) J f (listed.setIfInBounds i true))) (hd : d < n := by decide) :
    Hd E n ds st L (ZW r P ops Q (Sat E M) J (f + 1) listed) := fun a w fr s => by
  refine wpAnyHz_first hi (Region.noSelect_spec hs) (jOk_spec hJ) (jOk_nd hJ) f listed a w (Region.free_spec hi hf) (by simpa using hr) ?_ (s.mp hM) (K _ w (fr.put hd v) s)
  exact ⟨.inl ⟨by simp [Region.wanted], fun w sw => hx a w fr sw⟩, fun w => hab a w⟩
theorem Hd.takegH (i : Nat) {op : Op} {j gd : Nat} {f : Nat} {listed : Array Bool} (hi : ops[i]? = some ⟨some d, op, ty, pos, af, some (j, p)⟩) (hs : Region.noSelect ops = true) (hf : Region.free .any ops listed i = true)
    (hr : (Region.ready .any ops listed).contains i = true) (hJ : jOk .any ops J i = true) (hj : (ops[j]?).bind (·.dst) = some gd) (hv : look st gd = some (.bool p)) (hx : Yv E n ds st M P ⟨some d, op, ty, pos, af, some (j, p)⟩ v) (hab : ∀ (a : Act) w, (⟨some d, op, ty, pos, af, some (j, p)⟩ : Oper).about P w a.eval = none)
    (hM : ∀ k, sep L k → sep M k) (K : Hd E n ds ((d, v) :: st) L (ZW r P ops Q (Sat E M) J f (listed.setIfInBounds i true))) (hd : d < n := by decide) :
    Hd E n ds st L (ZW r P ops Q (Sat E M) J (f + 1) listed) := fun a w fr s => by
  refine wpAnyHz_first hi (Region.noSelect_spec hs) (jOk_spec hJ) (jOk_nd hJ) f listed a w (Region.free_spec hi hf) (by simpa using hr) ?_ (s.mp hM) (K _ w (fr.put hd v) s)
  exact ⟨.inl ⟨by simp [Region.wanted, yielded_of hj fr hv], fun w sw => hx a w fr sw⟩, fun w => hab a w⟩
theorem Hd.takenH (i : Nat) {op : Op} {j gd : Nat} {f : Nat} {listed : Array Bool} (hi : ops[i]? = some ⟨some d, op, ty, pos, af, some (j, p)⟩) (hs : Region.noSelect ops = true) (hf : Region.free .any ops listed i = true)
    (hr : (Region.ready .any ops listed).contains i = true) (hJ : jOk .any ops J i = true) (hj : (ops[j]?).bind (·.dst) = some gd) (hv : look st gd = some v) (hb : isb v p = false) (hab : ∀ (a : Act) w, (⟨some d, op, ty, pos, af, some (j, p)⟩ : Oper).about P w a.eval = none)
    (hM : ∀ k, sep L k → sep M k) (K : Hd E n ds ((d, undef) :: st) L (ZW r P ops Q (Sat E M) J f (listed.setIfInBounds i true))) (hd : d < n := by decide) :
    Hd E n ds st L (ZW r P ops Q (Sat E M) J (f + 1) listed) := fun a w fr s => by
  refine wpAnyHz_first hi (Region.noSelect_spec hs) (jOk_spec hJ) (jOk_nd hJ) f listed a w (Region.free_spec hi hf) (by simpa using hr) ?_ (s.mp hM) (K _ w (fr.put hd undef) s)
  refine ⟨.inr ⟨?_, rfl⟩, fun w => hab a w⟩
  simp only [Region.wanted, yielded_of hj fr hv]
  cases v <;> simp_all [isb]
theorem wpOpIn_of_list {i : Nat} {o : Oper} {K : Act → World → Prop} {a : Act} {w : World} (hi : ops[i]? = some o) (h2 : wpListIn (FW r) 0 P ops (Exit.then K (noP Q)) [o] a w) : wpOpIn (FW r) 0 P ops (noP Q) i K a w := by
  unfold wpOpIn
  simp only [hi]
  unfold wpListIn at h2
  by_cases hw : Region.wanted o (yielded ops a.tmps) = true
  · rw [if_pos hw] at h2 ⊢
    refine ⟨h2.1, ?_⟩
    have h3 := h2.2
    unfold Oper.uponIn at h3 ⊢
    split at h3
    · exact h3
    · exact h3
    · exact h3
    · obtain ⟨hn, hc⟩ := h3
      refine ⟨hn, hc.mono fun e w' he => ?_⟩
      cases e with
      | returned v => exact he
      | panicked ch => exact he.elim
      | outgrown => exact he
    · exact h3
    · obtain ⟨hn, hc⟩ := h3
      refine ⟨hn, RoundIn.mono hc fun e w' he => ?_⟩
      cases e with
      | returned v => exact he
      | panicked ch => exact he.elim
      | outgrown => exact he
    · exact h3.elim
    · exact h3.elim
  · rw [if_neg hw] at h2 ⊢
    exact h2
/-- the one operation that is ready -/
theorem Hd.onlyH (i : Nat) {o : Oper} {f : Nat} {listed : Array Bool} (hi : ops[i]? = some o) (hr : Region.ready .any ops listed = [i])
    (h : Hd E n ds st L (LW r P ops (Exit.then (fun a w => (J i = true → Sat E M w) ∧ ZW r P ops Q (Sat E M) J f (listed.setIfInBounds i true) a w) (noP Q)) [o])) : Hd E n ds st L (ZW r P ops Q (Sat E M) J (f + 1) listed) := fun a w fr s => by
  have h1 := h a w fr s
  refine ⟨fun h0 => (by rw [hr] at h0; cases h0), fun j hj => ?_⟩
  rw [hr] at hj
  obtain rfl : j = i := by simpa using hj
  exact wpOpIn_of_list hi h1
/-- one of two that are ready -/
theorem Hd.eitherH (i j : Nat) {o o' : Oper} {f : Nat} {listed : Array Bool} (hi : ops[i]? = some o) (hj : ops[j]? = some o') (hr : Region.ready .any ops listed = [i, j])
    (h : Hd E n ds st L (LW r P ops (Exit.then (fun a w => (J i = true → Sat E M w) ∧ ZW r P ops Q (Sat E M) J f (listed.setIfInBounds i true) a w) (noP Q)) [o]))
    (h' : Hd E n ds st L (LW r P ops (Exit.then (fun a w => (J j = true → Sat E M w) ∧ ZW r P ops Q (Sat E M) J f (listed.setIfInBounds j true) a w) (noP Q)) [o'])) : Hd E n ds st L (ZW r P ops Q (Sat E M) J (f + 1) listed) := fun a w fr s => by
  refine ⟨fun h0 => (by rw [hr] at h0; cases h0), fun q hq => ?_⟩
  rw [hr] at hq
  simp only [List.mem_cons, List.not_mem_nil, or_false] at hq
  rcases hq with rfl | rfl
  · exact wpOpIn_of_list hi (h a w fr s)
  · exact wpOpIn_of_list hj (h' a w fr s)
theorem Hd.heldK {i f : Nat} {listed : Array Bool} (hM : ∀ k, sep L k → sep M k) (K : Hd E n ds st L (ZW r P ops Q (Sat E M) J f listed)) : Hd E n ds st L (fun a w => (J i = true → Sat E M w) ∧ ZW r P ops Q (Sat E M) J f listed a w) :=
  fun a w fr s => ⟨fun _ => s.mp hM, K a w fr s⟩
theorem Hd.heldN {i f : Nat} {listed : Array Bool} (hJ : J i = false) (K : Hd E n ds st L (ZW r P ops Q (Sat E M) J f listed)) : Hd E n ds st L (fun a w => (J i = true → Sat E M w) ∧ ZW r P ops Q (Sat E M) J f listed a w) :=
  fun a w fr s => ⟨fun h => (by rw [hJ] at h; cases h), K a w fr s⟩
theorem Hd.endH {f : Nat} {listed : Array Bool} (hr : Region.ready .any ops listed = []) (h : Hd E n ds st L (Q .normal)) : Hd E n ds st L (ZW r P ops Q (Sat E M) J f listed) := fun a w fr s => by
  cases f with
  | zero => exact ⟨hr, h a w fr s⟩
  | succ f => exact ⟨fun _ => h a w fr s, fun i hi => (by rw [hr] at hi; cases hi)⟩
end
end Go.RX
