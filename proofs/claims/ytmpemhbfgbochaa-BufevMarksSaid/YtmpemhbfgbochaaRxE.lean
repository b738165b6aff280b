/-
  Values of nested structs and arrays (of plain fields) compared. No program is named here.
-/
import Derived.Test.YtmpemhbfgbochaaRxQ
import Derived.ChangeKeysEq
namespace Go.RX
set_option linter.unusedSimpArgs false
set_option linter.unusedVariables false
set_option linter.unnecessarySimpa false
section
variable {P : Program}
/-- the fields one behind the other, from a place on -/
def flF (P : Program) (g : TypeId → Option (List TypeDesc)) : Nat → List Field → Option (List TypeDesc)
  | _, [] => some []
  | off, f :: fs => bif f.name != "_" && Nat.beq f.offset off then
      match g f.type with
      | some sh => bif decide (szk P f.type = some sh.length) then
          match flF P g (off + sh.length) fs with
          | some r => some (sh ++ r)
          | none => none
        else none
      | none => none
    else none
/-- a type's cells, as plain types -/
def eqfl (P : Program) : Nat → TypeId → Option (List TypeDesc)
  | 0, _ => none
  | d + 1, t => match P.underlying t with
    | some (.struct _) => bif P.stoodInHeld t then none else bif decide (agk P t = some true) then flF P (eqfl P d) 0 (P.fieldsOf t).toList else none
    | some (.array n e) => bif decide (agk P t = some true) then (match eqfl P d e, P.info? e with
      | some sh, some _ => bif decide (szk P e = some sh.length) && Nat.beq (P.cellsOf e) sh.length then some (List.replicate n sh).flatten else none
      | _, _ => none) else none
    | some u => bif decide (agk P t = some false) then some [u] else none
    | none => none
/-- a value of the type whose cells these are -/
def VOf (P : Program) (t : TypeId) (xs : List Value) (x : Value) : Prop := (agk P t = some true ∧ x = .agg xs.toArray) ∨ (agk P t = some false ∧ xs = [x])
theorem fits_app {s1 s2 : List TypeDesc} : ∀ {a c b d : List Value}, a.length = s1.length → c.length = s1.length → fits (s1 ++ s2) (a ++ b) (c ++ d) = true → fits s1 a c = true ∧ fits s2 b d = true := by
  induction s1 with
  | nil => intro a c b d h1 h2 h; obtain rfl := List.eq_nil_of_length_eq_zero h1; obtain rfl := List.eq_nil_of_length_eq_zero h2; exact ⟨rfl, h⟩
  | cons u s ih =>
    intro a c b d h1 h2 h
    cases a with
    | nil => simp at h1
    | cons x a =>
      cases c with
      | nil => simp at h2
      | cons y c =>
        simp only [List.cons_append, fits, Bool.and_eq_true] at h ⊢
        have := ih (by simpa using h1) (by simpa using h2) h.2
        exact ⟨⟨h.1, this.1⟩, this.2⟩
theorem allEq_app : ∀ {a c b d : List Value}, a.length = c.length → allEq (a ++ b) (c ++ d) = (allEq a c && allEq b d) := by
  intro a
  induction a with
  | nil => intro c b d h; obtain rfl := List.eq_nil_of_length_eq_zero h.symm; simp [allEq]
  | cons x a ih =>
    intro c b d h
    cases c with
    | nil => simp at h
    | cons y c => simp only [List.cons_append, allEq]; rw [ih (by simpa using h), Bool.and_assoc]
theorem part_of {t : TypeId} {X : List Value} {off m : Nat} (ha : ∃ b, agk P t = some b) (hz : szk P t = some m) (hm : agk P t = some false → m = 1) (hl : off + m ≤ X.length) (w : World) :
    ∃ x, (part t X.toArray off).run P w = .ok x w ∧ VOf P t ((X.drop off).take m) x := by
  obtain ⟨b, hb⟩ := ha
  cases b with
  | true =>
    refine ⟨_, run_partn hb hz w, .inl ⟨hb, ?_⟩⟩
    simp [List.extract_eq_take_drop]
  | false =>
    obtain rfl := hm hb
    have h1 : off < X.length := by omega
    refine ⟨X[off], run_part1 hb (by simp [h1]) w, .inr ⟨hb, ?_⟩⟩
    rw [List.drop_eq_getElem_cons h1]; rfl
theorem eqfl_ag {d : Nat} {t : TypeId} {sh : List TypeDesc} (h : eqfl P d t = some sh) : ∃ b, agk P t = some b ∧ (b = false → sh.length = 1) := by
  cases d with
  | zero => cases h
  | succ d =>
    unfold eqfl at h
    split at h
    · cases hs : P.stoodInHeld t <;> rw [hs] at h
      · by_cases ha : agk P t = some true
        · exact ⟨true, ha, fun e => by cases e⟩
        · simp [ha] at h
      · cases h
    · by_cases ha : agk P t = some true
      · exact ⟨true, ha, fun e => by cases e⟩
      · simp [ha] at h
    · by_cases ha : agk P t = some false
      · simp [ha] at h; subst h; exact ⟨false, ha, fun _ => rfl⟩
      · simp [ha] at h
    · cases h
theorem eqF_run {g : TypeId → Option (List TypeDesc)} {D : Nat} (hg : ∀ t sh, g t = some sh → (∃ b, agk P t = some b ∧ (b = false → sh.length = 1)) ∧ ∀ xs ys x y w, xs.length = sh.length → ys.length = sh.length → fits sh xs ys = true → VOf P t xs x → VOf P t ys y → (Op.equalIn D t x y).run P w = .ok (allEq xs ys) w) (X Y : List Value) :
    ∀ (fs : List Field) (off : Nat) (sh : List TypeDesc) (w : World), flF P g off fs = some sh → (X.drop off).length = sh.length → (Y.drop off).length = sh.length → fits sh (X.drop off) (Y.drop off) = true → off ≤ X.length → off ≤ Y.length →
      (Op.eqFields D X.toArray Y.toArray fs).run P w = .ok (allEq (X.drop off) (Y.drop off)) w
  | [], off, sh, w, h, hx, hy, _, _, _ => by
    simp only [flF, Option.some.injEq] at h
    subst h
    obtain h1 := List.eq_nil_of_length_eq_zero hx
    rw [h1]; simp [Op.eqFields, allEq]
  | f :: fs, off, sh, w, h, hx, hy, hf, hox, hoy => by
    unfold flF at h
    cases hb : (f.name != "_" && Nat.beq f.offset off) with
    | false => rw [hb] at h; cases h
    | true =>
      rw [hb, cond_true] at h
      simp only [Bool.and_eq_true, bne_iff_ne, ne_eq] at hb
      have ho := Nat.eq_of_beq_eq_true hb.2
      split at h
      · rename_i s1 hs1
        by_cases hz : szk P f.type = some s1.length
        · simp only [hz, decide_true, cond_true] at h
          split at h
          · rename_i r hr
            simp only [Option.some.injEq] at h
            subst h
            rw [List.length_append] at hx hy
            rw [List.length_drop] at hx hy
            obtain ⟨⟨b, ha, hb1⟩, hrun⟩ := hg _ _ hs1
            have hm : agk P f.type = some false → s1.length = 1 := fun e => hb1 (by rw [ha] at e; exact Option.some.inj e)
            obtain ⟨x, px, vx⟩ := part_of (X := X) (off := off) ⟨b, ha⟩ hz hm (by omega) w
            obtain ⟨y, py, vy⟩ := part_of (X := Y) (off := off) ⟨b, ha⟩ hz hm (by omega) w
            have ex : X.drop off = (X.drop off).take s1.length ++ X.drop (off + s1.length) := by rw [← List.drop_drop, List.take_append_drop]
            have ey : Y.drop off = (Y.drop off).take s1.length ++ Y.drop (off + s1.length) := by rw [← List.drop_drop, List.take_append_drop]
            have lx : ((X.drop off).take s1.length).length = s1.length := by rw [List.length_take, List.length_drop]; omega
            have ly : ((Y.drop off).take s1.length).length = s1.length := by rw [List.length_take, List.length_drop]; omega
            have hf2 := hf
            rw [ex, ey] at hf2
            obtain ⟨f1, f2⟩ := fits_app lx ly hf2
            have e1 := hrun _ _ x y w lx ly f1 vx vy
            have ih := eqF_run hg X Y fs (off + s1.length) r w hr (by rw [List.length_drop]; omega) (by rw [List.length_drop]; omega) f2 (by omega) (by omega)
            have hall : allEq (X.drop off) (Y.drop off) = (allEq ((X.drop off).take s1.length) ((Y.drop off).take s1.length) && allEq (X.drop (off + s1.length)) (Y.drop (off + s1.length))) := by
              rw [← allEq_app (by rw [lx, ly]), ← ex, ← ey]
            rw [hall]
            rw [← ho] at px py
            simp only [Op.eqFields, hb.1, not_false_eq_true, if_true, ne_eq, Sem.run_bind, px, py, Result.andThen_ok, e1]
            cases he : allEq ((X.drop off).take s1.length) ((Y.drop off).take s1.length) with
            | true => simpa using ih
            | false => simp
          · cases h
        · simp [hz] at h
      · cases h
theorem eqI_run {D : Nat} {e : TypeId} {sh : List TypeDesc} (hc : P.cellsOf e = sh.length) (hz : szk P e = some sh.length) (ha : ∃ b, agk P e = some b ∧ (b = false → sh.length = 1))
    (hg : ∀ xs ys x y w, xs.length = sh.length → ys.length = sh.length → fits sh xs ys = true → VOf P e xs x → VOf P e ys y → (Op.equalIn D e x y).run P w = .ok (allEq xs ys) w) (X Y : List Value) :
    ∀ (n i : Nat) (w : World), (X.drop (i * sh.length)).length = n * sh.length → (Y.drop (i * sh.length)).length = n * sh.length → fits (List.replicate n sh).flatten (X.drop (i * sh.length)) (Y.drop (i * sh.length)) = true → i * sh.length ≤ X.length → i * sh.length ≤ Y.length →
      (Op.eqItems D e (P.cellsOf e) X.toArray Y.toArray (List.range' i n)).run P w = .ok (allEq (X.drop (i * sh.length)) (Y.drop (i * sh.length))) w
  | 0, i, w, hx, hy, _, _, _ => by
    have h1 : X.drop (i * sh.length) = [] := List.eq_nil_of_length_eq_zero (by rw [hx]; simp)
    rw [h1]; simp [Op.eqItems, allEq]
  | n + 1, i, w, hx, hy, hf, hox, hoy => by
    obtain ⟨b, hab, hb1⟩ := ha
    have hm : agk P e = some false → sh.length = 1 := fun q => hb1 (by rw [hab] at q; exact Option.some.inj q)
    have hx' := hx
    have hy' := hy
    rw [Nat.succ_mul, List.length_drop] at hx hy
    obtain ⟨x, px, vx⟩ := part_of (X := X) (off := i * sh.length) ⟨b, hab⟩ hz hm (by omega) w
    obtain ⟨y, py, vy⟩ := part_of (X := Y) (off := i * sh.length) ⟨b, hab⟩ hz hm (by omega) w
    have ex : X.drop (i * sh.length) = (X.drop (i * sh.length)).take sh.length ++ X.drop ((i + 1) * sh.length) := by rw [Nat.succ_mul, ← List.drop_drop, List.take_append_drop]
    have ey : Y.drop (i * sh.length) = (Y.drop (i * sh.length)).take sh.length ++ Y.drop ((i + 1) * sh.length) := by rw [Nat.succ_mul, ← List.drop_drop, List.take_append_drop]
    have lx : ((X.drop (i * sh.length)).take sh.length).length = sh.length := by rw [List.length_take, List.length_drop]; omega
    have ly : ((Y.drop (i * sh.length)).take sh.length).length = sh.length := by rw [List.length_take, List.length_drop]; omega
    have hf2 := hf
    rw [List.replicate_succ, List.flatten_cons, ex, ey] at hf2
    obtain ⟨f1, f2⟩ := fits_app lx ly hf2
    have e1 := hg _ _ x y w lx ly f1 vx vy
    have hs : (i + 1) * sh.length = i * sh.length + sh.length := Nat.succ_mul _ _
    have ih := eqI_run hc hz ⟨b, hab, hb1⟩ hg X Y n (i + 1) w (by rw [List.length_drop, hs]; omega) (by rw [List.length_drop, hs]; omega) f2 (by omega) (by omega)
    have hall : allEq (X.drop (i * sh.length)) (Y.drop (i * sh.length)) = (allEq ((X.drop (i * sh.length)).take sh.length) ((Y.drop (i * sh.length)).take sh.length) && allEq (X.drop ((i + 1) * sh.length)) (Y.drop ((i + 1) * sh.length))) := by
      rw [← allEq_app (by rw [lx, ly]), ← ex, ← ey]
    rw [hall]
    rw [hc] at ih ⊢
    simp only [List.range'_succ, Op.eqItems, Sem.run_bind, px, py, Result.andThen_ok, e1]
    cases he : allEq ((X.drop (i * sh.length)).take sh.length) ((Y.drop (i * sh.length)).take sh.length) with
    | true => simpa using ih
    | false => simp
theorem eqfl_run : ∀ (d : Nat) (t : TypeId) (sh : List TypeDesc), eqfl P d t = some sh → ∀ (D : Nat), d ≤ D → ∀ xs ys x y w, xs.length = sh.length → ys.length = sh.length → fits sh xs ys = true → VOf P t xs x → VOf P t ys y →
    (Op.equalIn D t x y).run P w = .ok (allEq xs ys) w
  | 0, _, _, h => by cases h
  | d + 1, t, sh, h => fun D hD xs ys x y w hlx hly hf vx vy => by
    obtain ⟨D, rfl⟩ : ∃ D', D = D' + 1 := ⟨D - 1, by omega⟩
    have ih : ∀ t sh, eqfl P d t = some sh → (∃ b, agk P t = some b ∧ (b = false → sh.length = 1)) ∧ ∀ xs ys x y w, xs.length = sh.length → ys.length = sh.length → fits sh xs ys = true → VOf P t xs x → VOf P t ys y → (Op.equalIn D t x y).run P w = .ok (allEq xs ys) w :=
      fun t sh h => ⟨eqfl_ag h, fun xs ys x y w => eqfl_run d t sh h D (by omega) xs ys x y w⟩
    unfold eqfl at h
    split at h
    · rename_i fs hu
      cases hs : P.stoodInHeld t <;> rw [hs] at h
      · by_cases ha : agk P t = some true
        · simp only [ha, decide_true, cond_true, cond_false] at h
          have hu' : P.underlying t = some (.struct (P.fieldsOf t)) := by
            have : P.fieldsOf t = fs := by unfold Program.fieldsOf; rw [hu]
            rw [this]; exact hu
          rcases vx with ⟨_, rfl⟩ | ⟨q, _⟩
          · rcases vy with ⟨_, rfl⟩ | ⟨q, _⟩
            · rw [run_equalIn_struct w D t _ _ hu' hs]
              have := eqF_run ih xs ys _ 0 sh w h (by simpa using hlx) (by simpa using hly) (by simpa using hf) (Nat.zero_le _) (Nat.zero_le _)
              simpa using this
            · rw [ha] at q; cases q
          · rw [ha] at q; cases q
        · simp [ha] at h
      · cases h
    · rename_i n e hu
      by_cases ha : agk P t = some true
      · simp only [ha, decide_true, cond_true] at h
        split at h
        · rename_i s1 inf hs1 hinf
          cases hcz : (decide (szk P e = some s1.length) && Nat.beq (P.cellsOf e) s1.length) <;> rw [hcz] at h
          · cases h
          · simp only [cond_true, Option.some.injEq] at h
            subst h
            simp only [Bool.and_eq_true, decide_eq_true_eq] at hcz
            have hc := Nat.eq_of_beq_eq_true hcz.2
            have hfl : ((List.replicate n s1).flatten).length = n * s1.length := by simp
            rw [hfl] at hlx hly
            rcases vx with ⟨_, rfl⟩ | ⟨q, _⟩
            · rcases vy with ⟨_, rfl⟩ | ⟨q, _⟩
              · rw [run_equalIn_array w D _ _ hu hinf, List.range_eq_range']
                have := eqI_run (D := D) hc hcz.1 (ih _ _ hs1).1 (ih _ _ hs1).2 xs ys n 0 w (by simpa using hlx) (by simpa using hly) (by simpa using hf) (by simp) (by simp)
                simpa using this
              · rw [ha] at q; cases q
            · rw [ha] at q; cases q
        · cases h
      · simp [ha] at h
    · rename_i u h1 h2 hu
      by_cases ha : agk P t = some false
      · simp only [ha, decide_true, cond_true, Option.some.injEq] at h
        subst h
        rcases vx with ⟨q, _⟩ | ⟨_, rfl⟩
        · rw [ha] at q; cases q
        rcases vy with ⟨q, _⟩ | ⟨_, rfl⟩
        · rw [ha] at q; cases q
        simp only [fits, Bool.and_true] at hf
        rw [run_equalIn_fit hu hf w]
        simp [allEq]
      · simp [ha] at h
    · cases h
structure EqN (P : Program) (t : TypeId) (sh : List TypeDesc) : Prop where
  shape : eqfl P 8 t = some sh
  ag : agk P t = some true
  guard : P.eqGuardType P.depth t = false
end
section
variable {P : Program} {E : World} {n : Nat} {ds : List Deferred} {st : List (Nat × Value)} {L : List SP} {d : Nat} {t t2 ty : TypeId} {x y : Operand} {pos : String} {af : Array Edge} {g : Option (Nat × Bool)}
theorem y_eql_nest {sh : List TypeDesc} {xs ys : List Value} (hx : evo st x = some (.agg xs.toArray)) (hy : evo st y = some (.agg ys.toArray)) (ht : EqN P t sh) (hf : fits sh xs ys = true) (hl : xs.length = sh.length ∧ ys.length = sh.length) :
    Yv E n ds st L P ⟨some d, .binOp .eql t x y t2, ty, pos, af, g⟩ (.bool (allEq xs ys)) := fun a w f _ => by
  have := eqfl_run 8 t sh ht.shape 10000 (by omega) xs ys _ _ w hl.1 hl.2 hf (.inl ⟨ht.ag, rfl⟩) (.inl ⟨ht.ag, rfl⟩)
  simp only [execOp, f.ev hx, f.ev hy, Sem.run_bind, run_eqGuard_agg w _ _ _ _ _ _ ht.guard, Result.andThen_ok, run_eql_struct, this, Sem.run_pure]
theorem y_neq_nest {sh : List TypeDesc} {xs ys : List Value} (hx : evo st x = some (.agg xs.toArray)) (hy : evo st y = some (.agg ys.toArray)) (ht : EqN P t sh) (hf : fits sh xs ys = true) (hl : xs.length = sh.length ∧ ys.length = sh.length) :
    Yv E n ds st L P ⟨some d, .binOp .neq t x y t2, ty, pos, af, g⟩ (.bool (!allEq xs ys)) := fun a w f _ => by
  have := eqfl_run 8 t sh ht.shape 10000 (by omega) xs ys _ _ w hl.1 hl.2 hf (.inl ⟨ht.ag, rfl⟩) (.inl ⟨ht.ag, rfl⟩)
  simp only [execOp, f.ev hx, f.ev hy, Sem.run_bind, run_eqGuard_agg w _ _ _ _ _ _ ht.guard, Result.andThen_ok, run_neq_struct, this, Sem.run_pure]
end
end Go.RX
