/- Bytes that are read, or written, in steps of one each are those of one step of as many: the law BufevParts answers true, whatever its input, and its arguments read behind the call as before. No condition. -/
import Derived.ChangeKeysEq
import Derived.Lib.SmallJoins
import Derived.Test.YtmpemhbfgbochaaZBufevPartsG
namespace Go.RX
set_option linter.unusedSimpArgs false
set_option linter.unusedVariables false
set_option linter.unnecessarySimpa false
section
variable {P : Program}
def flF (P : Program) (g : TypeId → Option (List TypeDesc)) : Nat → List Field → Option (List TypeDesc)
  | _, [] => some []
  | off, f :: fs => bif f.name != "_" && Nat.beq f.offset off then
      match g f.type with
      | some sh => bif decide (szk P f.type = some sh.length) then
          match flF P g (off + sh.length) fs with
          | some r => some (sh ++ r)
          | none => none
        else none
      | none => none
    else none
def eqfl (P : Program) : Nat → TypeId → Option (List TypeDesc)
  | 0, _ => none
  | d + 1, t => match P.underlying t with
    | some (.struct _) => bif P.stoodInHeld t then none else bif decide (agk P t = some true) then flF P (eqfl P d) 0 (P.fieldsOf t).toList else none
    | some (.array n e) => bif decide (agk P t = some true) then (match eqfl P d e, P.info? e with
      | some sh, some _ => bif decide (szk P e = some sh.length) && Nat.beq (P.cellsOf e) sh.length then some (List.replicate n sh).flatten else none
      | _, _ => none) else none
    | some u => bif decide (agk P t = some false) then some [u] else none
    | none => none
def VOf (P : Program) (t : TypeId) (xs : List Value) (x : Value) : Prop := (agk P t = some true ∧ x = .agg xs.toArray) ∨ (agk P t = some false ∧ xs = [x])
theorem fits_app {s1 s2 : List TypeDesc} : ∀ {a c b d : List Value}, a.length = s1.length → c.length = s1.length → fits (s1 ++ s2) (a ++ b) (c ++ d) = true → fits s1 a c = true ∧ fits s2 b d = true := by
  induction s1 with
  | nil => intro a c b d h1 h2 h; obtain rfl := List.eq_nil_of_length_eq_zero h1; obtain rfl := List.eq_nil_of_length_eq_zero h2; exact ⟨rfl, h⟩
  | cons u s ih =>
    intro a c b d h1 h2 h
    cases a with
    | nil => simp at h1
    | cons x a =>
      cases c with
      | nil => simp at h2
      | cons y c =>
        simp only [List.cons_append, fits, Bool.and_eq_true] at h ⊢
        have := ih (by simpa using h1) (by simpa using h2) h.2
        exact ⟨⟨h.1, this.1⟩, this.2⟩
theorem allEq_app : ∀ {a c b d : List Value}, a.length = c.length → allEq (a ++ b) (c ++ d) = (allEq a c && allEq b d) := by
  intro a
  induction a with
  | nil => intro c b d h; obtain rfl := List.eq_nil_of_length_eq_zero h.symm; simp [allEq]
  | cons x a ih =>
    intro c b d h
    cases c with
    | nil => simp at h
    | cons y c => simp only [List.cons_append, allEq]; rw [ih (by simpa using h), Bool.and_assoc]
theorem part_of {t : TypeId} {X : List Value} {off m : Nat} (ha : ∃ b, agk P t = some b) (hz : szk P t = some m) (hm : agk P t = some false → m = 1) (hl : off + m ≤ X.length) (w : World) :
    ∃ x, (part t X.toArray off).run P w = .ok x w ∧ VOf P t ((X.drop off).take m) x := by
  obtain ⟨b, hb⟩ := ha
  cases b with
  | true =>
    refine ⟨_, run_partn hb hz w, .inl ⟨hb, ?_⟩⟩
    simp [List.extract_eq_take_drop]
  | false =>
    obtain rfl := hm hb
    have h1 : off < X.length := by omega
    refine ⟨X[off], run_part1 hb (by simp [h1]) w, .inr ⟨hb, ?_⟩⟩
    rw [List.drop_eq_getElem_cons h1]; rfl
theorem eqfl_ag {d : Nat} {t : TypeId} {sh : List TypeDesc} (h : eqfl P d t = some sh) : ∃ b, agk P t = some b ∧ (b = false → sh.length = 1) := by
  cases d with
  | zero => cases h
  | succ d =>
    unfold eqfl at h
    split at h
    · cases hs : P.stoodInHeld t <;> rw [hs] at h
      · by_cases ha : agk P t = some true
        · exact ⟨true, ha, fun e => by cases e⟩
        · simp [ha] at h
      · cases h
    · by_cases ha : agk P t = some true
      · exact ⟨true, ha, fun e => by cases e⟩
      · simp [ha] at h
    · by_cases ha : agk P t = some false
      · simp [ha] at h; subst h; exact ⟨false, ha, fun _ => rfl⟩
      · simp [ha] at h
    · cases h
theorem eqF_run {g : TypeId → Option (List TypeDesc)} {D : Nat} (hg : ∀ t sh, g t = some sh → (∃ b, agk P t = some b ∧ (b = false → sh.length = 1)) ∧ ∀ xs ys x y w, xs.length = sh.length → ys.length = sh.length → fits sh xs ys = true → VOf P t xs x → VOf P t ys y → (Op.equalIn D t x y).run P w = .ok (allEq xs ys) w) (X Y : List Value) :
    ∀ (fs : List Field) (off : Nat) (sh : List TypeDesc) (w : World), flF P g off fs = some sh → (X.drop off).length = sh.length → (Y.drop off).length = sh.length → fits sh (X.drop off) (Y.drop off) = true → off ≤ X.length → off ≤ Y.length →
      (Op.eqFields D X.toArray Y.toArray fs).run P w = .ok (allEq (X.drop off) (Y.drop off)) w
  | [], off, sh, w, h, hx, hy, _, _, _ => by
    simp only [flF, Option.some.injEq] at h
    subst h
    obtain h1 := List.eq_nil_of_length_eq_zero hx
    rw [h1]; simp [Op.eqFields, allEq]
  | f :: fs, off, sh, w, h, hx, hy, hf, hox, hoy => by
    unfold flF at h
    cases hb : (f.name != "_" && Nat.beq f.offset off) with
    | false => rw [hb] at h; cases h
    | true =>
      rw [hb, cond_true] at h
      simp only [Bool.and_eq_true, bne_iff_ne, ne_eq] at hb
      have ho := Nat.eq_of_beq_eq_true hb.2
      split at h
      · rename_i s1 hs1
        by_cases hz : szk P f.type = some s1.length
        · simp only [hz, decide_true, cond_true] at h
          split at h
          · rename_i r hr
            simp only [Option.some.injEq] at h
            subst h
            rw [List.length_append] at hx hy
            rw [List.length_drop] at hx hy
            obtain ⟨⟨b, ha, hb1⟩, hrun⟩ := hg _ _ hs1
            have hm : agk P f.type = some false → s1.length = 1 := fun e => hb1 (by rw [ha] at e; exact Option.some.inj e)
            obtain ⟨x, px, vx⟩ := part_of (X := X) (off := off) ⟨b, ha⟩ hz hm (by omega) w
            obtain ⟨y, py, vy⟩ := part_of (X := Y) (off := off) ⟨b, ha⟩ hz hm (by omega) w
            have ex : X.drop off = (X.drop off).take s1.length ++ X.drop (off + s1.length) := by rw [← List.drop_drop, List.take_append_drop]
            have ey : Y.drop off = (Y.drop off).take s1.length ++ Y.drop (off + s1.length) := by rw [← List.drop_drop, List.take_append_drop]
            have lx : ((X.drop off).take s1.length).length = s1.length := by rw [List.length_take, List.length_drop]; omega
            have ly : ((Y.drop off).take s1.length).length = s1.length := by rw [List.length_take, List.length_drop]; omega
            have hf2 := hf
            rw [ex, ey] at hf2
            obtain ⟨f1, f2⟩ := fits_app lx ly hf2
            have e1 := hrun _ _ x y w lx ly f1 vx vy
            have ih := eqF_run hg X Y fs (off + s1.length) r w hr (by rw [List.length_drop]; omega) (by rw [List.length_drop]; omega) f2 (by omega) (by omega)
            have hall : allEq (X.drop off) (Y.drop off) = (allEq ((X.drop off).take s1.length) ((Y.drop off).take s1.length) && allEq (X.drop (off + s1.length)) (Y.drop (off + s1.length))) := by
              rw [← allEq_app (by rw [lx, ly]), ← ex, ← ey]
            rw [hall]
            rw [← ho] at px py
            simp only [Op.eqFields, hb.1, not_false_eq_true, if_true, ne_eq, Sem.run_bind, px, py, Result.andThen_ok, e1]
            cases he : allEq ((X.drop off).take s1.length) ((Y.drop off).take s1.length) with
            | true => simpa using ih
            | false => simp
          · cases h
        · simp [hz] at h
      · cases h
theorem eqI_run {D : Nat} {e : TypeId} {sh : List TypeDesc} (hc : P.cellsOf e = sh.length) (hz : szk P e = some sh.length) (ha : ∃ b, agk P e = some b ∧ (b = false → sh.length = 1))
    (hg : ∀ xs ys x y w, xs.length = sh.length → ys.length = sh.length → fits sh xs ys = true → VOf P e xs x → VOf P e ys y → (Op.equalIn D e x y).run P w = .ok (allEq xs ys) w) (X Y : List Value) :
    ∀ (n i : Nat) (w : World), (X.drop (i * sh.length)).length = n * sh.length → (Y.drop (i * sh.length)).length = n * sh.length → fits (List.replicate n sh).flatten (X.drop (i * sh.length)) (Y.drop (i * sh.length)) = true → i * sh.length ≤ X.length → i * sh.length ≤ Y.length →
      (Op.eqItems D e (P.cellsOf e) X.toArray Y.toArray (List.range' i n)).run P w = .ok (allEq (X.drop (i * sh.length)) (Y.drop (i * sh.length))) w
  | 0, i, w, hx, hy, _, _, _ => by
    have h1 : X.drop (i * sh.length) = [] := List.eq_nil_of_length_eq_zero (by rw [hx]; simp)
    rw [h1]; simp [Op.eqItems, allEq]
  | n + 1, i, w, hx, hy, hf, hox, hoy => by
    obtain ⟨b, hab, hb1⟩ := ha
    have hm : agk P e = some false → sh.length = 1 := fun q => hb1 (by rw [hab] at q; exact Option.some.inj q)
    have hx' := hx
    have hy' := hy
    rw [Nat.succ_mul, List.length_drop] at hx hy
    obtain ⟨x, px, vx⟩ := part_of (X := X) (off := i * sh.length) ⟨b, hab⟩ hz hm (by omega) w
    obtain ⟨y, py, vy⟩ := part_of (X := Y) (off := i * sh.length) ⟨b, hab⟩ hz hm (by omega) w
    have ex : X.drop (i * sh.length) = (X.drop (i * sh.length)).take sh.length ++ X.drop ((i + 1) * sh.length) := by rw [Nat.succ_mul, ← List.drop_drop, List.take_append_drop]
    have ey : Y.drop (i * sh.length) = (Y.drop (i * sh.length)).take sh.length ++ Y.drop ((i + 1) * sh.length) := by rw [Nat.succ_mul, ← List.drop_drop, List.take_append_drop]
    have lx : ((X.drop (i * sh.length)).take sh.length).length = sh.length := by rw [List.length_take, List.length_drop]; omega
    have ly : ((Y.drop (i * sh.length)).take sh.length).length = sh.length := by rw [List.length_take, List.length_drop]; omega
    have hf2 := hf
    rw [List.replicate_succ, List.flatten_cons, ex, ey] at hf2
    obtain ⟨f1, f2⟩ := fits_app lx ly hf2
    have e1 := hg _ _ x y w lx ly f1 vx vy
    have hs : (i + 1) * sh.length = i * sh.length + sh.length := Nat.succ_mul _ _
    have ih := eqI_run hc hz ⟨b, hab, hb1⟩ hg X Y n (i + 1) w (by rw [List.length_drop, hs]; omega) (by rw [List.length_drop, hs]; omega) f2 (by omega) (by omega)
    have hall : allEq (X.drop (i * sh.length)) (Y.drop (i * sh.length)) = (allEq ((X.drop (i * sh.length)).take sh.length) ((Y.drop (i * sh.length)).take sh.length) && allEq (X.drop ((i + 1) * sh.length)) (Y.drop ((i + 1) * sh.length))) := by
      rw [← allEq_app (by rw [lx, ly]), ← ex, ← ey]
    rw [hall]
    rw [hc] at ih ⊢
    simp only [List.range'_succ, Op.eqItems, Sem.run_bind, px, py, Result.andThen_ok, e1]
    cases he : allEq ((X.drop (i * sh.length)).take sh.length) ((Y.drop (i * sh.length)).take sh.length) with
    | true => simpa using ih
    | false => simp
theorem eqfl_run : ∀ (d : Nat) (t : TypeId) (sh : List TypeDesc), eqfl P d t = some sh → ∀ (D : Nat), d ≤ D → ∀ xs ys x y w, xs.length = sh.length → ys.length = sh.length → fits sh xs ys = true → VOf P t xs x → VOf P t ys y →
    (Op.equalIn D t x y).run P w = .ok (allEq xs ys) w
  | 0, _, _, h => by cases h
  | d + 1, t, sh, h => fun D hD xs ys x y w hlx hly hf vx vy => by
    obtain ⟨D, rfl⟩ : ∃ D', D = D' + 1 := ⟨D - 1, by omega⟩
    have ih : ∀ t sh, eqfl P d t = some sh → (∃ b, agk P t = some b ∧ (b = false → sh.length = 1)) ∧ ∀ xs ys x y w, xs.length = sh.length → ys.length = sh.length → fits sh xs ys = true → VOf P t xs x → VOf P t ys y → (Op.equalIn D t x y).run P w = .ok (allEq xs ys) w :=
      fun t sh h => ⟨eqfl_ag h, fun xs ys x y w => eqfl_run d t sh h D (by omega) xs ys x y w⟩
    unfold eqfl at h
    split at h
    · rename_i fs hu
      cases hs : P.stoodInHeld t <;> rw [hs] at h
      · by_cases ha : agk P t = some true
        · simp only [ha, decide_true, cond_true, cond_false] at h
          have hu' : P.underlying t = some (.struct (P.fieldsOf t)) := by
            have : P.fieldsOf t = fs := by unfold Program.fieldsOf; rw [hu]
            rw [this]; exact hu
          rcases vx with ⟨_, rfl⟩ | ⟨q, _⟩
          · rcases vy with ⟨_, rfl⟩ | ⟨q, _⟩
            · rw [run_equalIn_struct w D t _ _ hu' hs]
              have := eqF_run ih xs ys _ 0 sh w h (by simpa using hlx) (by simpa using hly) (by simpa using hf) (Nat.zero_le _) (Nat.zero_le _)
              simpa using this
            · rw [ha] at q; cases q
          · rw [ha] at q; cases q
        · simp [ha] at h
      · cases h
    · rename_i n e hu
      by_cases ha : agk P t = some true
      · simp only [ha, decide_true, cond_true] at h
        split at h
        · rename_i s1 inf hs1 hinf
          cases hcz : (decide (szk P e = some s1.length) && Nat.beq (P.cellsOf e) s1.length) <;> rw [hcz] at h
          · cases h
          · simp only [cond_true, Option.some.injEq] at h
            subst h
            simp only [Bool.and_eq_true, decide_eq_true_eq] at hcz
            have hc := Nat.eq_of_beq_eq_true hcz.2
            have hfl : ((List.replicate n s1).flatten).length = n * s1.length := by simp
            rw [hfl] at hlx hly
            rcases vx with ⟨_, rfl⟩ | ⟨q, _⟩
            · rcases vy with ⟨_, rfl⟩ | ⟨q, _⟩
              · rw [run_equalIn_array w D _ _ hu hinf, List.range_eq_range']
                have := eqI_run (D := D) hc hcz.1 (ih _ _ hs1).1 (ih _ _ hs1).2 xs ys n 0 w (by simpa using hlx) (by simpa using hly) (by simpa using hf) (by simp) (by simp)
                simpa using this
              · rw [ha] at q; cases q
            · rw [ha] at q; cases q
        · cases h
      · simp [ha] at h
    · rename_i u h1 h2 hu
      by_cases ha : agk P t = some false
      · simp only [ha, decide_true, cond_true, Option.some.injEq] at h
        subst h
        rcases vx with ⟨q, _⟩ | ⟨_, rfl⟩
        · rw [ha] at q; cases q
        rcases vy with ⟨q, _⟩ | ⟨_, rfl⟩
        · rw [ha] at q; cases q
        simp only [fits, Bool.and_true] at hf
        rw [run_equalIn_fit hu hf w]
        simp [allEq]
      · simp [ha] at h
    · cases h
structure EqN (P : Program) (t : TypeId) (sh : List TypeDesc) : Prop where
  shape : eqfl P 8 t = some sh
  ag : agk P t = some true
  guard : P.eqGuardType P.depth t = false
end
section
variable {P : Program} {E : World} {n : Nat} {ds : List Deferred} {st : List (Nat × Value)} {L : List SP} {d : Nat} {t t2 ty : TypeId} {x y : Operand} {pos : String} {af : Array Edge} {g : Option (Nat × Bool)}
theorem y_eql_nest {sh : List TypeDesc} {xs ys : List Value} (hx : evo st x = some (.agg xs.toArray)) (hy : evo st y = some (.agg ys.toArray)) (ht : EqN P t sh) (hf : fits sh xs ys = true) (hl : xs.length = sh.length ∧ ys.length = sh.length) :
    Yv E n ds st L P ⟨some d, .binOp .eql t x y t2, ty, pos, af, g⟩ (.bool (allEq xs ys)) := fun a w f _ => by
  have := eqfl_run 8 t sh ht.shape 10000 (by omega) xs ys _ _ w hl.1 hl.2 hf (.inl ⟨ht.ag, rfl⟩) (.inl ⟨ht.ag, rfl⟩)
  simp only [execOp, f.ev hx, f.ev hy, Sem.run_bind, run_eqGuard_agg w _ _ _ _ _ _ ht.guard, Result.andThen_ok, run_eql_struct, this, Sem.run_pure]
end
end Go.RX
namespace Go.Proofs.Ytmpemhbfgbochaa
set_option linter.unusedSimpArgs false
set_option linter.unusedVariables false
set_option linter.unnecessarySimpa false
open Go.RX Fx
namespace Bu
open Wo
set_option maxRecDepth 8000
def SOk (s : SdA) : Prop := (InK .u64 s.after ∧ InK .u64 s.at_) ∧ (0 ≤ s.low ∧ s.low ≤ 1048576) ∧ 0 ≤ s.high ∧ s.high ≤ 1048576
def BOk (x : BfA) : Prop := ∀ k, k < 2 → SOk (x.s k)
theorem BOk.tm {x : BfA} (h : BOk x) : TmOk x := fun k hk => (h k hk).1
theorem BOk.hi {x : BfA} (h : BOk x) : InK .i64 (x.s 0).high := by
  have := (h 0 (by omega)).2.2
  simp only [InK]; omega
theorem bok_up {x : BfA} (h : BOk x) {k : Nat} {f : SdA → SdA} (hf : ∀ s, SOk s → SOk (f s)) : BOk (x.up k f) := fun j hj => by
  by_cases e : j = k
  · subst e; rw [bup_at]; exact hf _ (h j hj)
  · rw [bup_ne _ _ e]; exact h j hj
theorem bok_eff {f : Nat → SdA → SdA} {x : BfA} (h : BOk x) (hf : ∀ k s, SOk s → SOk (f k s)) (ks : List Nat) : BOk (effB f x ks) := fun j hj => by
  show SOk (if j ∈ ks then f j (x.s j) else x.s j)
  split
  · exact hf _ _ (h j hj)
  · exact h j hj
theorem sok_nv {s : SdA} (h : SOk s) (on en : Bool) : SOk { s with on := on, ended := en, at_ := NV } := ⟨⟨h.1.1, by show InK .u64 18446744073709551615; simp [InK]⟩, h.2⟩
theorem sok_set {s : SdA} (h : SOk s) (k : Nat) {now : Int} (hn : InK .u64 now) (on : Bool) (c : List UInt8) : SOk (setA k now { s with on := on, c := c }) := ⟨⟨h.1.1, atV_in (s := { s with on := on, c := c }) hn h.1.1⟩, h.2⟩
theorem bok_new (fd : Int) : BOk (newB fd) := fun k hk => ⟨tm_new fd k hk, ⟨Int.le_refl 0, by show (0 : Int) ≤ _; omega⟩, Int.le_refl 0, by show (0 : Int) ≤ _; omega⟩
theorem bok_en {x : BfA} (h : BOk x) {now : Int} (hn : InK .u64 now) (sides : Int) : BOk (enB x now sides) := by
  unfold enB
  split
  · refine bok_eff h (fun k s hs => ?_) _
    show SOk (if s.on = true then s else setA k now { s with on := true })
    split
    · exact hs
    · exact sok_set hs k hn true s.c
  · exact h
theorem bok_mrk {x : BfA} (h : BOk x) (side low high : Int) : BOk (mrkB x side low high) := by
  unfold mrkB
  split
  · exact h
  · rename_i hb
    refine bok_eff (f := mrkF low high) h (fun k s hs => ⟨hs.1, ?_⟩) _
    unfold mrkBad at hb
    simp only [Bool.or_eq_true, Bool.and_eq_true, decide_eq_true_eq] at hb
    show (0 ≤ low ∧ low ≤ 1048576) ∧ 0 ≤ high ∧ high ≤ 1048576
    omega
theorem bok_read {σ : StA} (h : BOk σ.x) {now : Int} (hn : InK .u64 now) (most : Int) : BOk (readS σ now most).x := by
  unfold readS rdP
  repeat' split
  all_goals first
    | exact h
    | exact bok_up h fun s hs => sok_nv hs false true
    | exact bok_up h fun s hs => sok_set hs 0 hn s.on _
theorem bok_write {σ : StA} (h : BOk σ.x) {now : Int} (hn : InK .u64 now) (much : Int) : BOk (writeS σ now much).x := by
  unfold writeS wrP
  repeat' split
  all_goals first
    | exact h
    | exact bok_up h fun s hs => sok_nv hs false true
    | exact bok_up h fun s hs => sok_set hs 1 hn s.on _
theorem bok_stepR {x : BfA} (h : BOk x) {now : Int} (hn : InK .u64 now) (w : WA) (flags most : Int) : BOk (stepR x w now flags most).x := by
  unfold stepR
  split
  · exact bok_read h hn most
  · exact h
theorem bok_step {x : BfA} (h : BOk x) {now : Int} (hn : InK .u64 now) (w : WA) (flags most much : Int) : BOk (stepS x w now flags most much).x := by
  unfold stepS
  split
  · exact bok_write (bok_stepR h hn w flags most) hn much
  · exact bok_stepR h hn w flags most
theorem bok_put {x : BfA} (h : BOk x) {now : Int} (hn : InK .u64 now) (bs : List UInt8) : BOk (wrB x now bs) := by
  unfold wrB
  repeat' split
  · exact h
  · exact bok_up h fun s hs => sok_set hs 1 hn s.on _
  · exact bok_up h fun s hs => hs
theorem bok_get {x : BfA} (h : BOk x) (n : Int) : BOk (readB x n) := by
  unfold readB
  split
  · exact h
  · exact bok_up h fun s hs => hs
abbrev abc : List UInt8 := [97, 98, 99]
abbrev pairA (n : Nat) : WA := mkW newA 2 (halfW n 2)
abbrev alX1 : BfA := enB (newB 0) 0 2
abbrev alX2 : BfA := mrkB alX1 2 2 4
abbrev alW : WA := (writeR (pairA 8) 1 abc).2
abbrev alS : StA := stepS alX2 alW 0 2 99 99
theorem al_op : (readyR (pairA 8) 0).op = true := by decide +kernel
theorem al_3 : wantsA alX2 = 2 := by decide +kernel
theorem al_4 : encT alS.t = [.bool true, .bool false, .int .i64 0, .int .i64 0, .int .i64 3, .int .i64 0] := by rfl
theorem al_5 : wantsA alS.x = 2 := by decide +kernel
theorem al_k1 : BOk alX1 := bok_en (bok_new 0) (by simp [InK]) 2
theorem al_k2 : BOk alX2 := bok_mrk al_k1 2 2 4
set_option maxHeartbeats 2000000 in
theorem alive_ct (L : List SP) : Ct Try.prog 8 #[] (L) (fun _ : Unit => .bool true) (fun _ : Unit => L) := by
  refine Ct.of (vs := []) Try.func8 rfl rfl [] (by repeat (first | exact trivial | refine ⟨rfl, ?_⟩)) ?_
  intro E
  show Hd E 52 _ _ _ _
  refine Hd.seq (fun K1 hK1 => ?_)
  refine Hd.region ?_
  refine Hd.yv (y_assign rfl) ?_
  refine Hd.nil ?_
  refine Hd.slots [] trivial ?_
  refine Hd.toK hK1 ?_
  refine Hd.seq (fun K2 hK2 => ?_)
  refine Hd.region ?_
  refine Hd.callE rfl fk10 (wnew_ct _) (Ent.sep enn) ?_
  intro wb
  refine Hd.yv (y_assign rfl) ?_
  refine Hd.nil ?_
  refine Hd.slots [(1, _)] ⟨rfl, trivial⟩ ?_
  refine Hd.toK hK2 ?_
  refine Hd.seq (fun K3 hK3 => ?_)
  refine Hd.region ?_
  refine Hd.yv (y_move rfl) ?_
  refine Hd.callE rfl fk11 (pair_ct _ wb newA 8 (by decide) (by decide)) (Ent.sep enn) ?_
  intro _
  refine Hd.nil ?_
  refine Hd.slots [(1, _)] ⟨rfl, trivial⟩ ?_
  refine Hd.toK hK3 ?_
  refine Hd.seq (fun K4 hK4 => ?_)
  refine Hd.region ?_
  refine Hd.yv (y_move rfl) ?_
  refine Hd.callE rfl fk12 (bnew_ct _ wb (pairA 8) 0 al_op) (Ent.sep enn) ?_
  intro b
  refine Hd.yv (y_move rfl) ?_
  refine Hd.yv (y_extract rfl rfl) ?_
  refine Hd.yv (y_extract rfl rfl) ?_
  refine Hd.yv (y_assign rfl) ?_
  refine Hd.yv (y_assign rfl) ?_
  refine Hd.nil ?_
  refine Hd.slots [(1, _), (2, _), (3, _)] ⟨rfl, rfl, rfl, trivial⟩ ?_
  refine Hd.toK hK4 ?_
  refine Hd.seq (fun K5 hK5 => ?_)
  refine Hd.region ?_
  refine Hd.yv (y_move rfl) ?_
  refine Hd.callE rfl fk14 (enable_ct _ b wb (newB 0) (tm_new 0) 0 2 (by simp [InK])) (Ent.sep enn) ?_
  intro _
  refine Hd.yv (y_assign rfl) ?_
  refine Hd.nil ?_
  refine Hd.slots [(1, _), (2, _), (3, _), (4, _)] ⟨rfl, rfl, rfl, rfl, trivial⟩ ?_
  refine Hd.toK hK5 ?_
  refine Hd.seq (fun K6 hK6 => ?_)
  refine Hd.region ?_
  refine Hd.yv (y_move rfl) ?_
  refine Hd.callE rfl fk13 (marks_ct _ b wb alX1 2 2 4) (Ent.sep enn) ?_
  intro _
  refine Hd.yv (y_assign rfl) ?_
  refine Hd.nil ?_
  refine Hd.slots [(1, _), (2, _), (3, _), (4, _), (5, _)] ⟨rfl, rfl, rfl, rfl, rfl, trivial⟩ ?_
  refine Hd.toK hK6 ?_
  refine Hd.seq (fun K7 hK7 => ?_)
  refine Hd.region ?_
  refine Hd.yv (y_move rfl) ?_
  refine Hd.bslice (vs := [(0, _), (1, _), (2, _)]) rfl (by first | exact bs8_21 .. | kernel_rfl) (fun b21 => ?_)
  refine Hd.convSS (e := 5) (by kernel_rfl) rfl pkk rfl (by first | decide | (simp [maxLen])) ?_
  refine Hd.callE rfl fk24 (wwrite_ct _ wb (pairA 8) 1 (some ⟨b21, 0, none⟩) 3 3 abc rfl ?hD (by decide) (by decide)) (Ent.sep enn) ?_
  case hD => exact RdS.own (m := 3) (us := [.int .u8 97, .int .u8 98, .int .u8 99]) pkk
  intro _
  refine Hd.nil ?_
  refine Hd.slots [(2, _), (3, _), (4, _), (5, _)] ⟨rfl, rfl, rfl, rfl, trivial⟩ ?_
  refine Hd.toK hK7 ?_
  refine Hd.seq (fun K8 hK8 => ?_)
  refine Hd.region ?_
  refine Hd.yv (y_move rfl) ?_
  refine Hd.callE rfl fk26 (wants_ct _ b wb alX2) (Ent.sep enn) ?_
  intro _
  rw [al_3]
  refine Hd.yv (y_assign rfl) ?_
  refine Hd.nil ?_
  refine Hd.slots [(2, _), (3, _), (4, _), (5, _), (6, _)] ⟨rfl, rfl, rfl, rfl, rfl, trivial⟩ ?_
  refine Hd.toK hK8 ?_
  refine Hd.seq (fun K9 hK9 => ?_)
  refine Hd.region ?_
  refine Hd.yv (y_move rfl) ?_
  refine Hd.callE rfl fk18 (step_ct _ b wb alX2 alW al_k2.tm al_k2.hi 0 2 99 99 (by simp [InK]) (by decide) (by simp [InK])) (Ent.sep enn) ?_
  intro _
  rw [al_4]
  refine Hd.alloc zr49 (fun b7 => ?_)
  refine Hd.storeA (us := [.bool true, .bool false, .int .i64 0, .int .i64 0, .int .i64 3, .int .i64 0]) sz49 rfl rfl rfl (by simp [Value.oneCell']) pkk (by exact rfl) ?_
  refine Hd.nil ?_
  refine Hd.slots [(2, _), (3, _), (4, _), (5, _), (6, _), (7, _)] ⟨rfl, rfl, rfl, rfl, rfl, rfl, trivial⟩ ?_
  refine Hd.toK hK9 ?_
  refine Hd.seq (fun K10 hK10 => ?_)
  refine Hd.region ?_
  refine Hd.yv (y_move rfl) ?_
  first | (refine Hd.yv (y_eqlT rfl rfl) ?_) | (refine Hd.yv (y_eql rfl rfl) ?_)
  refine Hd.yv (y_to (v' := .bool true) (y_move rfl) (by rfl)) ?_
  refine Hd.yg rfl rfl (y_move rfl) ?_
  first | (refine Hd.yg rfl rfl (y_eqlT rfl rfl) ?_) | (refine Hd.yg rfl rfl (y_eql rfl rfl) ?_)
  first | (refine Hd.yv (y_pickT rfl rfl) ?_) | (refine Hd.yv (y_pickF rfl rfl) ?_) | (refine Hd.yv (y_pickb rfl rfl rfl) ?_) | (refine Hd.yv (y_pick rfl rfl rfl) ?_)
  refine Hd.yv (y_move rfl) ?_
  refine Hd.yg rfl rfl (y_move rfl) ?_
  first | (refine Hd.yg rfl rfl (y_eqlT rfl rfl) ?_) | (refine Hd.yg rfl rfl (y_eql rfl rfl) ?_)
  first | (refine Hd.yv (y_pickT rfl rfl) ?_) | (refine Hd.yv (y_pickF rfl rfl) ?_) | (refine Hd.yv (y_pickb rfl rfl rfl) ?_) | (refine Hd.yv (y_pick rfl rfl rfl) ?_)
  refine Hd.yv (y_move rfl) ?_
  refine Hd.yg rfl rfl (y_move rfl) ?_
  first | (refine Hd.yg rfl rfl (y_eqlT rfl rfl) ?_) | (refine Hd.yg rfl rfl (y_eql rfl rfl) ?_)
  first | (refine Hd.yv (y_pickT rfl rfl) ?_) | (refine Hd.yv (y_pickF rfl rfl) ?_) | (refine Hd.yv (y_pickb rfl rfl rfl) ?_) | (refine Hd.yv (y_pick rfl rfl rfl) ?_)
  refine Hd.yv (y_move rfl) ?_
  refine Hd.yg rfl rfl (y_loadn (us := [.bool true, .bool false, .int .i64 0, .int .i64 0, .int .i64 3, .int .i64 0]) ag49 rfl (Rd.pt pkk (fun j v e => by rw [Nat.zero_add]; exact e)) (by exact sz49)) ?_
  refine Hd.yg rfl rfl (y_build (vs := [(0, _), (4, _)]) rfl (by first | exact bd8_44 .. | kernel_rfl)) ?_
  refine Hd.yg rfl rfl (y_eql_agg rfl rfl eqt49 rfl ⟨rfl, rfl⟩) ?_
  first | (refine Hd.yv (y_pickT rfl rfl) ?_) | (refine Hd.yv (y_pickF rfl rfl) ?_) | (refine Hd.yv (y_pickb rfl rfl rfl) ?_) | (refine Hd.yv (y_pick rfl rfl rfl) ?_)
  refine Hd.yv (y_move rfl) ?_
  refine Hd.yg rfl rfl (y_move rfl) ?_
  refine Hd.unguard rfl rfl ?_
  refine Hd.callE rfl fk26 (wants_ct _ b wb alS.x) (Ent.sep enn) ?_
  intro _
  rw [al_5]
  first | (refine Hd.yg rfl rfl (y_eqlT rfl rfl) ?_) | (refine Hd.yg rfl rfl (y_eql rfl rfl) ?_)
  first | (refine Hd.yv (y_pickT rfl rfl) ?_) | (refine Hd.yv (y_pickF rfl rfl) ?_) | (refine Hd.yv (y_pickb rfl rfl rfl) ?_) | (refine Hd.yv (y_pick rfl rfl rfl) ?_)
  refine Hd.yv (y_assign rfl) ?_
  refine Hd.nil ?_
  refine Hd.slots [(0, _)] ⟨rfl, trivial⟩ ?_
  refine Hd.toK hK10 ?_
  refine Hd.ret ?_
  clear hK1 hK2 hK3 hK4 hK5 hK6 hK7 hK8 hK9 hK10
  exact Hd.ret1 rfl () (by first | rfl | (simp only [*]; done) | (simp [*]; done)) (Ent.sep enn)
end Bu
end Go.Proofs.Ytmpemhbfgbochaa
namespace Go.Proofs.Ytmpemhbfgbochaa
set_option linter.unusedSimpArgs false
set_option linter.unusedVariables false
set_option linter.unnecessarySimpa false
open Go.RX Fx
namespace Bu
open Wo
set_option maxRecDepth 8000
def PrE (n : Nat) (x : WireA) (l : Nat → List UInt8) : Prop := x.cap = n ∧ x.rs = false ∧ ∀ k, k < 2 → (x.e k).what = 1 ∧ (x.e k).fd = (k : Int) ∧ (x.e k).rd = true ∧ (x.e k).wr = true ∧ (x.e k).shut = false ∧ (x.e k).b = l k
def PrW (n : Nat) (w : WA) (l : Nat → List UInt8) : Prop := ∃ x, w.ws = [x] ∧ PrE n x l
def updL (l : Nat → List UInt8) (k : Nat) (v : List UInt8) : Nat → List UInt8 := fun j => if j = k then v else l j
theorem updL_at (l : Nat → List UInt8) (k : Nat) (v : List UInt8) : updL l k v k = v := if_pos rfl
theorem updL_ne (l : Nat → List UInt8) {k j : Nat} (v : List UInt8) (h : j ≠ k) : updL l k v j = l j := if_neg h
theorem pr_new (n : Nat) : PrW n (pairA n) (fun _ => []) := by
  have h1 : mkOk newA 2 = true := by decide +kernel
  have h2 : (frees newA.at).take 2 = [0, 1] := by decide +kernel
  refine ⟨openW (halfW n 2) [0, 1] 2, ?_, rfl, rfl, fun k hk => ?_⟩
  · show (mkW newA 2 (halfW n 2)).ws = _
    unfold mkW
    rw [if_pos h1, h2]; rfl
  · rcases (show k = 0 ∨ k = 1 by omega) with rfl | rfl <;> exact ⟨rfl, rfl, rfl, rfl, rfl, rfl⟩
theorem pr_at {n : Nat} {w : WA} {l : Nat → List UInt8} {x : WireA} (hx : w.ws = [x]) (h : PrE n x l) {k : Nat} (hk : k < 2) : w.at (k : Int) = some (0, k) := by
  show atW w.ws 0 (k : Int) = _
  rw [hx]
  have h0 := h.2.2 0 (by omega)
  have h1 := h.2.2 1 (by omega)
  have e : atE x (k : Int) = some k := by
    unfold atE
    rcases (show k = 0 ∨ k = 1 by omega) with rfl | rfl
    · rw [if_pos ⟨h0.1, h0.2.1⟩]
    · rw [if_neg (fun h => by have := h0.2.1; rw [this] at h; exact absurd h.2 (by decide)), if_pos ⟨h1.1, h1.2.1⟩]
  show (match atE x (k : Int) with | some k => some (0, k) | none => none) = _
  rw [e]
theorem pr_up {n : Nat} {x : WireA} {l : Nat → List UInt8} (h : PrE n x l) {j k : Nat} (f : List UInt8 → List UInt8) (i o : Bool) : PrE n ((x.up j fun e => { e with b := f e.b }).up k (riseE i o)) (updL l j (f (l j))) := by
  refine ⟨h.1, h.2.1, fun m hm => ?_⟩
  have hx := h.2.2 m hm
  have h1 : ((x.up j fun e => { e with b := f e.b }).e m).what = 1 ∧ ((x.up j fun e => { e with b := f e.b }).e m).fd = (m : Int) ∧ ((x.up j fun e => { e with b := f e.b }).e m).rd = true ∧ ((x.up j fun e => { e with b := f e.b }).e m).wr = true ∧ ((x.up j fun e => { e with b := f e.b }).e m).shut = false ∧ ((x.up j fun e => { e with b := f e.b }).e m).b = updL l j (f (l j)) m := by
    by_cases e : m = j
    · subst e; rw [up_at, updL_at]; exact ⟨hx.1, hx.2.1, hx.2.2.1, hx.2.2.2.1, hx.2.2.2.2.1, by show f (x.e m).b = _; rw [hx.2.2.2.2.2]⟩
    · rw [up_ne _ _ e, updL_ne _ _ e]; exact hx
  by_cases e : m = k
  · subst e; rw [up_at]; exact h1
  · rw [up_ne _ _ e]; exact h1
def rdV (b : List UInt8) (m : Int) : List UInt8 × Bool × Int := if m < 1 then ([], false, 2) else if b = [] then ([], false, 113) else (b.take m.toNat, false, 0)
theorem updL_id {l : Nat → List UInt8} {k : Nat} {v : List UInt8} (h : v = l k) : updL l k v = l := by
  funext j; unfold updL; split
  · rename_i e; subst e; exact h
  · rfl
theorem readR_pr {n : Nat} {w : WA} {l : Nat → List UInt8} (h : PrW n w l) {k : Nat} (hk : k < 2) (m : Int) : (readR w (k : Int) m).1 = rdV (l k) m ∧ PrW n (readR w (k : Int) m).2 (updL l k ((l k).drop m.toNat)) := by
  obtain ⟨x, hx, hp⟩ := h
  have hat := pr_at hx hp hk
  have hxk := hp.2.2 k hk
  have hxj := hp.2.2 (1 - k) (by omega)
  have hs : silentW x k = false := by unfold silentW; rw [hxj.1, hxj.2.2.2.2.1]; rfl
  have hr : readR w (k : Int) m = if m < 1 then (([], false, 2), w) else if l k ≠ [] then (((l k).take m.toNat, false, 0), w.setW 0 (takeW x k m.toNat)) else (([], false, 113), w) := by
    unfold readR; rw [hat]; dsimp only
    rw [hx]; dsimp only [List.getElem?_cons_zero]
    rw [if_neg (by rw [hxk.2.2.1]; simp), hxk.2.2.2.2.2, hs, hp.2.1]
    simp
  rw [hr]
  unfold rdV
  by_cases h1 : m < 1
  · rw [if_pos h1, if_pos h1]
    exact ⟨rfl, x, hx, by rw [updL_id (by rw [show m.toNat = 0 by omega]; rfl)]; exact hp⟩
  · rw [if_neg h1, if_neg h1]
    by_cases h2 : l k = []
    · rw [if_neg (by simpa using h2), if_pos h2]
      exact ⟨rfl, x, hx, by rw [updL_id (by rw [h2, List.drop_nil])]; exact hp⟩
    · rw [if_pos h2, if_neg h2]
      refine ⟨rfl, takeW x k m.toNat, ?_, pr_up hp (fun b => b.drop m.toNat) _ _⟩
      show w.ws.set 0 _ = _
      rw [hx]; rfl
def wrV (n : Nat) (b bs : List UInt8) : Int × Int := if bs.length = 0 then (0, 0) else if min bs.length (n - b.length) = 0 then (0, 113) else ((((min bs.length (n - b.length) : Nat)) : Int), 0)
theorem writeR_pr {n : Nat} {w : WA} {l : Nat → List UInt8} (h : PrW n w l) {k : Nat} (hk : k < 2) (bs : List UInt8) : (writeR w (k : Int) bs).1 = wrV n (l (1 - k)) bs ∧ PrW n (writeR w (k : Int) bs).2 (updL l (1 - k) (l (1 - k) ++ bs.take (n - (l (1 - k)).length))) := by
  obtain ⟨x, hx, hp⟩ := h
  have hat := pr_at hx hp hk
  have hxk := hp.2.2 k hk
  have hxj := hp.2.2 (1 - k) (by omega)
  have hpn : putN x k bs = min bs.length (n - (l (1 - k)).length) := by unfold putN; rw [hp.1, hxj.2.2.2.2.2]
  have hr : writeR w (k : Int) bs = if bs.length = 0 then ((0, 0), w) else if putN x k bs = 0 then ((0, 113), w) else ((((putN x k bs : Nat) : Int), 0), w.setW 0 (putW x k bs)) := by
    unfold writeR; rw [hat]; dsimp only
    rw [hx]; dsimp only [List.getElem?_cons_zero]
    rw [if_neg (by rw [hxk.2.2.2.1]; simp), if_neg (by rw [hp.2.1]; simp), if_neg (by rw [hxk.2.2.2.2.1, hxj.1]; simp)]
  rw [hr, hpn]
  unfold wrV
  by_cases h1 : bs.length = 0
  · rw [if_pos h1, if_pos h1]
    exact ⟨rfl, x, hx, by rw [updL_id (by rw [List.length_eq_zero_iff.1 h1]; simp)]; exact hp⟩
  · rw [if_neg h1, if_neg h1]
    by_cases h2 : min bs.length (n - (l (1 - k)).length) = 0
    · rw [if_pos h2, if_pos h2]
      exact ⟨rfl, x, hx, by rw [updL_id (by rw [show n - (l (1 - k)).length = 0 by omega]; simp)]; exact hp⟩
    · rw [if_neg h2, if_neg h2]
      refine ⟨rfl, putW x k bs, ?_, ?_⟩
      · show w.ws.set 0 _ = _
        rw [hx]; rfl
      · unfold putW
        rw [hpn]
        have e : bs.take (n - (l (1 - k)).length) = bs.take (min bs.length (n - (l (1 - k)).length)) := by
          rcases Nat.le_total bs.length (n - (l (1 - k)).length) with hle | hle
          · rw [Nat.min_eq_left hle, List.take_length, List.take_of_length_le hle]
          · rw [Nat.min_eq_right hle]
        rw [e]
        exact pr_up hp (fun b => b ++ bs.take (min bs.length (n - (l (1 - k)).length))) _ _
end Bu
end Go.Proofs.Ytmpemhbfgbochaa
namespace Go.Proofs.Ytmpemhbfgbochaa
set_option linter.unusedSimpArgs false
set_option linter.unusedVariables false
set_option linter.unnecessarySimpa false
open Go.RX Fx
namespace Bu
open Wo
set_option maxRecDepth 8000
def gotB (s : SdA) (b : List UInt8) (most : Int) : List UInt8 := b.take (rdN s most).toNat
theorem rdN_le (s : SdA) (most : Int) : rdN s most ≤ 1048576 - (s.c.length : Int) ∧ rdN s most ≤ most ∧ rdN s most ≤ 4096 ∧ (s.high > 0 → rdN s most ≤ s.high - (s.c.length : Int)) := by
  unfold rdN; split <;> omega
theorem readS_pr {n : Nat} {x : BfA} {w : WA} {l : Nat → List UInt8} (h : PrW n w l) (hf : x.fd = 0) (t : ToA) (now most : Int) :
    (readS ⟨x, w, t⟩ now most).x = (if gotB (x.s 0) (l 0) most = [] then x else x.up 0 fun s => setA 0 now { s with c := s.c ++ gotB (x.s 0) (l 0) most }) ∧
    (readS ⟨x, w, t⟩ now most).t = (if gotB (x.s 0) (l 0) most = [] then t else { t with i := ((gotB (x.s 0) (l 0) most).length : Int), r := decide ((((x.s 0).c ++ gotB (x.s 0) (l 0) most).length : Int) ≥ (x.s 0).low) }) ∧
    PrW n (readS ⟨x, w, t⟩ now most).w (updL l 0 ((l 0).drop (gotB (x.s 0) (l 0) most).length)) := by
  have hn := rdN_le (x.s 0) most
  unfold readS
  dsimp only
  by_cases h1 : rdN (x.s 0) most < 1
  · have hg : gotB (x.s 0) (l 0) most = [] := by unfold gotB; rw [show (rdN (x.s 0) most).toNat = 0 by omega]; rfl
    rw [if_pos h1, hg]
    exact ⟨rfl, rfl, by rw [updL_id (by rfl)]; exact h⟩
  · rw [if_neg h1, hf]
    have hr := readR_pr h (k := 0) (by omega) (rdN (x.s 0) most)
    rw [show ((0 : Nat) : Int) = 0 from rfl] at hr
    obtain ⟨⟨⟨bs, eo, ec⟩, w'⟩, hq⟩ : ∃ rr, readR w 0 (rdN (x.s 0) most) = rr := ⟨_, rfl⟩
    rw [hq] at hr ⊢
    dsimp only at hr
    unfold rdV at hr
    rw [if_neg h1] at hr
    by_cases h2 : l 0 = []
    · rw [if_pos h2] at hr
      have hg : gotB (x.s 0) (l 0) most = [] := by unfold gotB; rw [h2, List.take_nil]
      simp only [Prod.mk.injEq] at hr
      obtain ⟨⟨rfl, rfl, rfl⟩, hw⟩ := hr
      rw [hg]
      refine ⟨rfl, rfl, ?_⟩
      rw [h2, List.drop_nil] at hw ⊢
      exact hw
    · rw [if_neg h2] at hr
      simp only [Prod.mk.injEq] at hr
      obtain ⟨⟨hb, rfl, rfl⟩, hw⟩ := hr
      have hg : bs = gotB (x.s 0) (l 0) most := hb
      have hne : ¬ gotB (x.s 0) (l 0) most = [] := by
        unfold gotB
        rw [List.take_eq_nil_iff]
        intro h; rcases h with h | h
        · omega
        · exact h2 h
      rw [if_neg hne, if_neg hne, ← hg]
      have hlen : bs.length ≤ (rdN (x.s 0) most).toNat := by rw [hg]; unfold gotB; rw [List.length_take]; omega
      have ha : addA (x.s 0).c bs = (x.s 0).c ++ bs := by unfold addA; exact if_pos (by omega)
      have hd : (l 0).drop (rdN (x.s 0) most).toNat = (l 0).drop bs.length := by
        rw [hg]; unfold gotB; rw [List.length_take]
        rcases Nat.le_total (rdN (x.s 0) most).toNat (l 0).length with h | h
        · rw [Nat.min_eq_left h]
        · rw [Nat.min_eq_right h, List.drop_length, List.drop_of_length_le h]
      rw [hd] at hw
      have hp : rdP ⟨x, w, t⟩ now ((bs, false, 0), w') = ⟨x.up 0 (getF now bs), w', { t with i := (bs.length : Int), r := decide (((addA (x.s 0).c bs).length : Int) ≥ (x.s 0).low) }⟩ := rfl
      rw [hp]
      refine ⟨?_, ?_, hw⟩
      · show BfA.mk _ _ = BfA.mk _ _
        congr 1
        funext j
        show (if j = 0 then getF now bs (x.s j) else x.s j) = if j = 0 then setA 0 now { x.s j with c := (x.s j).c ++ bs } else x.s j
        by_cases e : j = 0
        · subst e; rw [if_pos rfl, if_pos rfl]; show setA 0 now { x.s 0 with c := addA (x.s 0).c bs } = _; rw [ha]
        · rw [if_neg e, if_neg e]
      · rw [ha]
def wentB (n : Nat) (s : SdA) (b : List UInt8) (much : Int) : List UInt8 := (offA s much).take (n - b.length)
theorem offA_pre (s : SdA) (much : Int) : offA s much = s.c.take (min much 4096).toNat := by
  unfold offA Bc.cpy
  split
  · rw [show (min much 4096).toNat = 0 by omega]; rfl
  · rfl
theorem went_pre (n : Nat) (s : SdA) (b : List UInt8) (much : Int) : wentB n s b much ++ s.c.drop (wentB n s b much).length = s.c := by
  have : wentB n s b much = s.c.take (min (n - b.length) (min much 4096).toNat) := by unfold wentB; rw [offA_pre, List.take_take]
  rw [this, List.length_take]
  rcases Nat.le_total (min (n - b.length) (min much 4096).toNat) s.c.length with h | h
  · rw [Nat.min_eq_left h, List.take_append_drop]
  · rw [Nat.min_eq_right h, List.drop_length, List.take_of_length_le h, List.append_nil]
theorem got_pre (s : SdA) (b : List UInt8) (most : Int) : gotB s b most ++ b.drop (gotB s b most).length = b := by
  unfold gotB
  rw [List.length_take]
  rcases Nat.le_total (rdN s most).toNat b.length with h | h
  · rw [Nat.min_eq_left h, List.take_append_drop]
  · rw [Nat.min_eq_right h, List.drop_length, List.take_of_length_le h, List.append_nil]
theorem writeS_pr {n : Nat} {x : BfA} {w : WA} {l : Nat → List UInt8} (h : PrW n w l) (hf : x.fd = 0) (t : ToA) (now much : Int) :
    (writeS ⟨x, w, t⟩ now much).x = (if wentB n (x.s 1) (l 1) much = [] then x else x.up 1 fun s => setA 1 now { s with c := s.c.drop (wentB n (x.s 1) (l 1) much).length }) ∧
    (writeS ⟨x, w, t⟩ now much).t = (if wentB n (x.s 1) (l 1) much = [] then t else { t with o := ((wentB n (x.s 1) (l 1) much).length : Int), w := decide (((((x.s 1).c.drop (wentB n (x.s 1) (l 1) much).length).length : Nat) : Int) ≤ (x.s 1).low) }) ∧
    PrW n (writeS ⟨x, w, t⟩ now much).w (updL l 1 (l 1 ++ wentB n (x.s 1) (l 1) much)) := by
  unfold writeS
  dsimp only
  by_cases h1 : (offA (x.s 1) much).length = 0
  · have hg : wentB n (x.s 1) (l 1) much = [] := by unfold wentB; rw [List.length_eq_zero_iff.1 h1]; simp
    rw [if_pos h1, hg]
    exact ⟨rfl, rfl, by rw [updL_id (by simp)]; exact h⟩
  · rw [if_neg h1, hf]
    have hr := writeR_pr h (k := 0) (by omega) (offA (x.s 1) much)
    rw [show ((0 : Nat) : Int) = 0 from rfl] at hr
    obtain ⟨⟨⟨m, ec⟩, w'⟩, hq⟩ : ∃ rr, writeR w 0 (offA (x.s 1) much) = rr := ⟨_, rfl⟩
    rw [hq] at hr ⊢
    dsimp only [Nat.sub_zero] at hr
    unfold wrV at hr
    rw [if_neg h1] at hr
    have hwl : (wentB n (x.s 1) (l 1) much).length = min (offA (x.s 1) much).length (n - (l 1).length) := by unfold wentB; rw [List.length_take, Nat.min_comm]
    by_cases h2 : min (offA (x.s 1) much).length (n - (l 1).length) = 0
    · rw [if_pos h2] at hr
      simp only [Prod.mk.injEq] at hr
      obtain ⟨⟨rfl, rfl⟩, hw⟩ := hr
      have hg : wentB n (x.s 1) (l 1) much = [] := List.length_eq_zero_iff.1 (by rw [hwl, h2])
      rw [if_pos hg, if_pos hg]
      exact ⟨rfl, rfl, hw⟩
    · rw [if_neg h2] at hr
      simp only [Prod.mk.injEq] at hr
      obtain ⟨⟨rfl, rfl⟩, hw⟩ := hr
      have hne : ¬ wentB n (x.s 1) (l 1) much = [] := fun e => by rw [e] at hwl; simp only [List.length_nil] at hwl; omega
      rw [if_neg hne, if_neg hne, ← hwl]
      refine ⟨rfl, rfl, hw⟩
end Bu
end Go.Proofs.Ytmpemhbfgbochaa
namespace Go.Proofs.Ytmpemhbfgbochaa
set_option linter.unusedSimpArgs false
set_option linter.unusedVariables false
set_option linter.unnecessarySimpa false
open Go.RX Fx
namespace Bu
open Wo
set_option maxRecDepth 8000
def SmS (s s' : SdA) (c : List UInt8) : Prop := s'.c = c ∧ s'.on = s.on ∧ s'.ended = s.ended ∧ s'.low = s.low ∧ s'.high = s.high ∧ s'.after = s.after
theorem SmS.same {s : SdA} {c : List UInt8} (h : c = s.c) : SmS s s c := ⟨h.symm, rfl, rfl, rfl, rfl, rfl⟩
def mvL (l : Nat → List UInt8) (got went : List UInt8) : Nat → List UInt8 := updL (updL l 0 ((l 0).drop got.length)) 1 (l 1 ++ went)
def rdO (x : BfA) (flags : Int) : Bool := decide (bits .and .i64 (stepM x flags) 2 ≠ 0)
def wrO (x : BfA) (flags : Int) : Bool := decide (bits .and .i64 (stepM x flags) 4 ≠ 0)
def stG (x : BfA) (l : Nat → List UInt8) (flags most : Int) : List UInt8 := if rdO x flags = true then gotB (x.s 0) (l 0) most else []
def stW (n : Nat) (x : BfA) (l : Nat → List UInt8) (flags much : Int) : List UInt8 := if wrO x flags = true then wentB n (x.s 1) (l 1) much else []
def stT1 (x : BfA) (got : List UInt8) (t : ToA) : ToA := if got = [] then t else { t with i := (got.length : Int), r := decide ((((x.s 0).c ++ got).length : Int) ≥ (x.s 0).low) }
def stT2 (x : BfA) (went : List UInt8) (t : ToA) : ToA := if went = [] then t else { t with o := (went.length : Int), w := decide (((((x.s 1).c.drop went.length).length : Nat) : Int) ≤ (x.s 1).low) }
structure StepOk (n : Nat) (x : BfA) (l : Nat → List UInt8) (σ : StA) (got went : List UInt8) : Prop where
  s0 : SmS (x.s 0) (σ.x.s 0) ((x.s 0).c ++ got)
  s1 : SmS (x.s 1) (σ.x.s 1) ((x.s 1).c.drop went.length)
  fd : σ.x.fd = x.fd
  w : PrW n σ.w (mvL l got went)
  t : σ.t = stT2 x went (stT1 x got noT)
theorem stepR_pr {n : Nat} {x : BfA} {w : WA} {l : Nat → List UInt8} (h : PrW n w l) (hf : x.fd = 0) (now flags most : Int) :
    SmS (x.s 0) ((stepR x w now flags most).x.s 0) ((x.s 0).c ++ stG x l flags most) ∧ (stepR x w now flags most).x.s 1 = x.s 1 ∧ (stepR x w now flags most).x.fd = x.fd ∧
    PrW n (stepR x w now flags most).w (updL l 0 ((l 0).drop (stG x l flags most).length)) ∧ (stepR x w now flags most).t = stT1 x (stG x l flags most) noT := by
  unfold stepR stG rdO
  simp only [decide_eq_true_eq]
  by_cases h1 : bits .and .i64 (stepM x flags) 2 ≠ 0
  · rw [if_pos h1, if_pos h1]
    obtain ⟨e1, e2, e3⟩ := readS_pr h hf noT now most
    rw [e1, e2]
    unfold stT1
    by_cases h2 : gotB (x.s 0) (l 0) most = []
    · rw [if_pos h2, if_pos h2]
      exact ⟨.same (by rw [h2, List.append_nil]), rfl, rfl, e3, rfl⟩
    · rw [if_neg h2, if_neg h2]
      refine ⟨?_, bup_ne _ _ (by decide), rfl, e3, rfl⟩
      rw [bup_at]
      exact ⟨rfl, rfl, rfl, rfl, rfl, rfl⟩
  · rw [if_neg h1, if_neg h1]
    exact ⟨.same (by rw [List.append_nil]), rfl, rfl, by rw [updL_id (by rfl)]; exact h, rfl⟩
theorem step_pr {n : Nat} {x : BfA} {w : WA} {l : Nat → List UInt8} (h : PrW n w l) (hf : x.fd = 0) (now flags most much : Int) : StepOk n x l (stepS x w now flags most much) (stG x l flags most) (stW n x l flags much) := by
  obtain ⟨a1, a2, a3, a4, a5⟩ := stepR_pr h hf now flags most
  unfold stepS stW wrO
  simp only [decide_eq_true_eq]
  by_cases h1 : bits .and .i64 (stepM x flags) 4 ≠ 0
  · rw [if_pos h1, if_pos h1]
    have hl1 : updL l 0 ((l 0).drop (stG x l flags most).length) 1 = l 1 := updL_ne _ _ (by decide)
    obtain ⟨e1, e2, e3⟩ := writeS_pr a4 (a3.trans hf) (stepR x w now flags most).t now much
    rw [hl1, a2] at e1 e2 e3
    have q : writeS (stepR x w now flags most) now much = writeS ⟨(stepR x w now flags most).x, (stepR x w now flags most).w, (stepR x w now flags most).t⟩ now much := rfl
    rw [q]
    refine ⟨?_, ?_, ?_, e3, ?_⟩
    · rw [e1]
      split
      · exact a1
      · rw [bup_ne _ _ (by decide)]; exact a1
    · rw [e1]
      split
      · rename_i h2; rw [a2, h2]; exact .same rfl
      · rw [bup_at, a2]; exact ⟨rfl, rfl, rfl, rfl, rfl, rfl⟩
    · rw [e1]
      split
      · exact a3
      · exact a3
    · rw [e2, a5]; rfl
  · rw [if_neg h1, if_neg h1]
    refine ⟨a1, by rw [a2]; exact .same rfl, a3, ?_, by rw [a5]; rfl⟩
    unfold mvL
    rw [updL_id (by rw [List.append_nil, updL_ne _ _ (by decide)])]
    exact a4
theorem mvL_0 (l : Nat → List UInt8) (got went : List UInt8) : mvL l got went 0 = (l 0).drop got.length := by unfold mvL; rw [updL_ne _ _ (by decide), updL_at]
theorem mvL_1 (l : Nat → List UInt8) (got went : List UInt8) : mvL l got went 1 = l 1 ++ went := by unfold mvL; rw [updL_at]
theorem stG_pre (x : BfA) (l : Nat → List UInt8) (flags most : Int) : stG x l flags most ++ (l 0).drop (stG x l flags most).length = l 0 := by
  unfold stG
  split
  · exact got_pre _ _ _
  · rfl
theorem stW_pre (n : Nat) (x : BfA) (l : Nat → List UInt8) (flags much : Int) : stW n x l flags much ++ (x.s 1).c.drop (stW n x l flags much).length = (x.s 1).c := by
  unfold stW
  split
  · exact went_pre _ _ _ _
  · rfl
end Bu
end Go.Proofs.Ytmpemhbfgbochaa
namespace Go.Proofs.Ytmpemhbfgbochaa
set_option linter.unusedSimpArgs false
set_option linter.unusedVariables false
set_option linter.unnecessarySimpa false
open Go.RX Fx
namespace Bu
open Wo
set_option maxRecDepth 8000
abbrev PpP (pb wb : Nat) (Q R : List UInt8) : SP := pt pb [.pointer (some ⟨wb, 0, none⟩), .string (str Q), .string (str R)] 38
def roomB (n : Nat) (b bs : List UInt8) : List UInt8 := bs.take (n - b.length)
theorem roomB_len (n : Nat) (b bs : List UInt8) : (roomB n b bs).length ≤ bs.length := by unfold roomB; rw [List.length_take]; omega
theorem roomB_wr (n : Nat) (b bs : List UInt8) (h : (wrV n b bs).2 = 0) : (wrV n b bs).1 = ((roomB n b bs).length : Int) := by
  unfold wrV at h ⊢
  unfold roomB
  rw [List.length_take]
  split
  · rename_i h1; simp [h1]
  · rename_i h1
    rw [if_neg h1] at h
    split
    · rename_i h2; rw [if_pos h2] at h; exact absurd h (by decide)
    · show ((min bs.length (n - b.length) : Nat) : Int) = _
      rw [Nat.min_comm]
theorem roomB_no (n : Nat) (b bs : List UInt8) (h : ¬ (wrV n b bs).2 = 0) : roomB n b bs = [] := by
  unfold wrV at h
  unfold roomB
  split at h
  · exact absurd rfl h
  · rename_i h1
    split at h
    · rename_i h2
      rw [show n - b.length = 0 by omega]; rfl
    · exact absurd rfl h
theorem roomB_tk (n : Nat) (b bs : List UInt8) : bs.take (roomB n b bs).length = roomB n b bs := by
  unfold roomB
  rw [List.length_take]
  rcases Nat.le_total (n - b.length) bs.length with h | h
  · rw [Nat.min_eq_left h]
  · rw [Nat.min_eq_right h, List.take_length, List.take_of_length_le h]
theorem rd_room {L : List SP} {ad : Option Addr} {n : Nat} {b bs : List UInt8} (h : RdS L 1 ad bs.length (bsl bs)) : RdS L 1 ad (roomB n b bs).length (bsl (roomB n b bs)) := by
  have := h.head (roomB_len n b bs)
  rw [Nat.mul_one, bsl_take, roomB_tk] at this
  exact this
set_option maxHeartbeats 2000000 in
theorem put_ct (L : List SP) (pb wb n : Nat) (w : WA) (l : Nat → List UInt8) (hw : PrW n w l) (Q R : List UInt8) (ad : Option Addr) (m cap : Nat) (bs : List UInt8) (hl : bs.length = m) (hD : RdS L 1 ad m (bsl bs)) (hmc : m ≤ cap) (hm : m ≤ 70368744177664) (hq : Q.length ≤ 70368744177664) : Ct Try.prog 15 #[.pointer (some ⟨pb, 0, none⟩), .slice ad m cap] (PpP pb wb Q R :: WorldP wb w :: L) (fun _ : Unit => .tuple #[]) (fun _ : Unit => PpP pb wb (Q ++ roomB n (l 0) bs) R :: WorldP wb (writeR w 1 bs).2 :: L) := by
  refine Ct.of (vs := [.pointer (some ⟨pb, 0, none⟩), .slice ad m cap]) Try.func15 rfl rfl [(0, .pointer (some ⟨pb, 0, none⟩)), (1, .slice ad m cap)] (by repeat (first | exact trivial | refine ⟨rfl, ?_⟩)) ?_
  intro E
  show Hd E 35 _ _ _ _
  subst hl
  have hr := (writeR_pr hw (k := 1) (by omega) bs).1
  rw [show ((1 : Nat) : Int) = 1 from rfl, show 1 - 1 = 0 from rfl] at hr
  have hrl := roomB_len n (l 0) bs
  have hrw := roomB_wr n (l 0) bs
  have hrn := roomB_no n (l 0) bs
  have hrt := roomB_tk n (l 0) bs
  refine Hd.seq (fun K1 hK1 => ?_)
  refine Hd.region ?_
  refine Hd.yv (y_move rfl) ?_
  refine Hd.yv (y_nilp rfl) ?_
  first | (refine Hd.yv (y_field' (q := 0) (ft := 25) Try.underlying38 rfl sz25 rfl rfl) ?_) | (refine Hd.yv (y_fieldR (q := 0) (ft := 25) Try.underlying38 rfl sz25 rfl rfl) ?_)
  first | (refine Hd.yv (y_load1 ag25 rfl (Rd.pt1 pkk (by (first | rfl)))) ?_) | (refine Hd.yv (y_load1 ag25 rfl (Rd.seg1 pkk (by (first | rfl)))) ?_) | (refine Hd.yv (y_loadR1 ag25 rfl (by (first | exact RdS.own pkk | exact rd_room (RdS.mono hD (Ent.sep enn)))) (by (first | rfl))) ?_)
  refine Hd.yv (y_move rfl) ?_
  refine Hd.callE rfl fk24 (wwrite_ct _ wb w 1 ad bs.length cap bs rfl ?hD hm hmc) (Ent.sep enn) ?_
  case hD => exact RdS.mono hD (Ent.sep enn)
  intro _
  rw [hr]
  refine Hd.yv (y_move rfl) ?_
  refine Hd.yv (y_extract rfl rfl) ?_
  refine Hd.yv (y_extract rfl rfl) ?_
  refine Hd.yv (y_assign rfl) ?_
  refine Hd.yv (y_assign rfl) ?_
  refine Hd.nil ?_
  refine Hd.slots [(0, _), (1, _), (4, _), (5, _)] ⟨rfl, rfl, rfl, rfl, trivial⟩ ?_
  refine Hd.toK hK1 ?_
  refine Hd.seq (fun K2 hK2 => ?_)
  refine Hd.region ?_
  refine Hd.yv (y_move rfl) ?_
  first | (refine Hd.yv (y_eqlT rfl rfl) ?_) | (refine Hd.yv (y_eql rfl rfl) ?_)
  refine Hd.yv (y_move rfl) ?_
  apply Hd.andg 5 17 22 [(0, _), (1, _), (4, _)] rfl ⟨rfl, rfl, rfl, trivial⟩
  · intro hg1_17
    try simp only [decide_eq_true_eq, decide_eq_false_iff_not, Bool.and_eq_true, Bool.or_eq_true, Bool.and_eq_false_iff, Bool.or_eq_false_iff, Bool.not_eq_true', Bool.not_eq_false', Bool.not_eq_true, Bool.not_eq_false, Int.not_lt, Int.not_le, Decidable.not_not, ne_eq] at hg1_17
    simp only [List.take]
    refine Hd.yg rfl rfl (y_move rfl) ?_
    refine Hd.yg rfl rfl (y_move rfl) ?_
    refine Hd.yg rfl rfl (y_len Try.underlying39 rfl) ?_
    refine Hd.yg rfl rfl (y_leq rfl rfl) ?_
    first | (refine Hd.yv (y_pickT rfl rfl) ?_) | (refine Hd.yv (y_pickF rfl rfl) ?_) | (refine Hd.yv (y_pickb rfl rfl rfl) ?_) | (refine Hd.yv (y_pick rfl rfl rfl) ?_)
    refine Hd.nil ?_
    exact Hd.mend (by repeat (first | exact trivial | refine ⟨rfl, ?_⟩)) (Ent.sep enn)
  · intro hg1_17
    try simp only [decide_eq_true_eq, decide_eq_false_iff_not, Bool.and_eq_true, Bool.or_eq_true, Bool.and_eq_false_iff, Bool.or_eq_false_iff, Bool.not_eq_true', Bool.not_eq_false', Bool.not_eq_true, Bool.not_eq_false, Int.not_lt, Int.not_le, Decidable.not_not, ne_eq] at hg1_17
    simp only [List.take]
    refine Hd.ng rfl rfl rfl ?_
    refine Hd.ng rfl rfl rfl ?_
    refine Hd.ng rfl rfl rfl ?_
    refine Hd.ng rfl rfl rfl ?_
    first | (refine Hd.yv (y_pickT rfl rfl) ?_) | (refine Hd.yv (y_pickF rfl rfl) ?_) | (refine Hd.yv (y_pickb rfl rfl rfl) ?_) | (refine Hd.yv (y_pick rfl rfl rfl) ?_)
    refine Hd.nil ?_
    exact Hd.mend (by repeat (first | exact trivial | refine ⟨rfl, ?_⟩)) (Ent.sep enn)
  simp only [List.drop]
  refine Hd.nil ?_
  refine Hd.slots [(0, _), (1, _), (4, _), (22, _)] ⟨rfl, rfl, rfl, rfl, trivial⟩ ?_
  refine Hd.toK hK2 ?_
  refine Hd.cond rfl (fun hc0 => ?_) (fun hc0 => ?_)
  ·
    try simp only [decide_eq_true_eq, decide_eq_false_iff_not, Bool.and_eq_true, Bool.or_eq_true, Bool.and_eq_false_iff, Bool.or_eq_false_iff, Bool.not_eq_true', Bool.not_eq_false', Bool.not_eq_true, Bool.not_eq_false, Int.not_lt, Int.not_le, Decidable.not_not, ne_eq] at hc0
    have hv := hrw hc0.1
    rw [hv]
    refine Hd.drawsH (PpP pb wb Q R :: L) (fun j => !([12].contains j)) mixed ?_
    simp only [List.length, Nat.zero_add, Nat.reduceAdd]
    refine Hd.takeH 0 rfl (by kernel_rfl) (by kernel_rfl) (by kernel_rfl) (by kernel_rfl) (y_move rfl) (fun _ _ => rfl) (Ent.sep enn) ?_
    refine Hd.takeH 1 rfl (by kernel_rfl) (by kernel_rfl) (by kernel_rfl) (by kernel_rfl) (y_move rfl) (fun _ _ => rfl) (Ent.sep enn) ?_
    refine Hd.takeH 2 rfl (by kernel_rfl) (by kernel_rfl) (by kernel_rfl) (by kernel_rfl) (y_nilp rfl) (fun _ _ => rfl) (Ent.sep enn) ?_
    first | (refine Hd.takeH 3 rfl (by kernel_rfl) (by kernel_rfl) (by kernel_rfl) (by kernel_rfl) (y_field' (q := 1) (ft := 9) Try.underlying38 rfl sz9 rfl rfl) (fun _ _ => rfl) (Ent.sep enn) ?_) | (refine Hd.takeH 3 rfl (by kernel_rfl) (by kernel_rfl) (by kernel_rfl) (by kernel_rfl) (y_fieldR (q := 1) (ft := 9) Try.underlying38 rfl sz9 rfl rfl) (fun _ _ => rfl) (Ent.sep enn) ?_)
    first | (refine Hd.takeH 4 rfl (by kernel_rfl) (by kernel_rfl) (by kernel_rfl) (by kernel_rfl) (y_load1 ag9 rfl (Rd.pt1 pkk (by (first | rfl)))) (fun _ _ => rfl) (Ent.sep enn) ?_) | (refine Hd.takeH 4 rfl (by kernel_rfl) (by kernel_rfl) (by kernel_rfl) (by kernel_rfl) (y_load1 ag9 rfl (Rd.seg1 pkk (by (first | rfl)))) (fun _ _ => rfl) (Ent.sep enn) ?_) | (refine Hd.takeH 4 rfl (by kernel_rfl) (by kernel_rfl) (by kernel_rfl) (by kernel_rfl) (y_loadR1 ag9 rfl (by (first | exact RdS.own pkk | exact rd_room (RdS.mono hD (Ent.sep enn)))) (by (first | rfl))) (fun _ _ => rfl) (Ent.sep enn) ?_)
    refine Hd.takeH 5 rfl (by kernel_rfl) (by kernel_rfl) (by kernel_rfl) (by kernel_rfl) (y_move rfl) (fun _ _ => rfl) (Ent.sep enn) ?_
    refine Hd.takeH 6 rfl (by kernel_rfl) (by kernel_rfl) (by kernel_rfl) (by kernel_rfl) (y_move rfl) (fun _ _ => rfl) (Ent.sep enn) ?_
    first | (refine Hd.takeH 7 rfl (by kernel_rfl) (by kernel_rfl) (by kernel_rfl) (by kernel_rfl) (y_slo_xoxN Try.underlying39 sz5 rfl rfl (by first | omega | (simp; done) | decide)) (fun _ _ => rfl) (Ent.sep enn) ?_) | (refine Hd.takeH 7 rfl (by kernel_rfl) (by kernel_rfl) (by kernel_rfl) (by kernel_rfl) (y_slo_xox Try.underlying39 sz5 rfl rfl (by first | omega | (simp; done) | decide) (by first | omega | (simp; done) | decide)) (fun _ _ => rfl) (Ent.sep enn) ?_)
    refine Hd.takeH 8 rfl (by kernel_rfl) (by kernel_rfl) (by kernel_rfl) (by kernel_rfl) (y_strOf (l := roomB n (l 0) bs) (by kernel_rfl) Try.underlying9 rfl (by (first | exact RdS.own pkk | exact rd_room (RdS.mono hD (Ent.sep enn))))) (fun _ _ => rfl) (Ent.sep enn) ?_
    refine Hd.takeH 9 rfl (by kernel_rfl) (by kernel_rfl) (by kernel_rfl) (by kernel_rfl) (y_addstr rfl rfl (by first | omega | (omega) | (simp; omega) | (simp only [List.length_append, List.length_take, List.length_drop, List.length_cons, List.length_nil]; omega))) (fun _ _ => rfl) (Ent.sep enn) ?_
    refine Hd.onlyH 10 rfl (by kernel_rfl) ?_
    refine Hd.yv (y_nilp rfl) ?_
    refine Hd.nil ?_
    refine Hd.thenN ?_
    refine Hd.heldK (J := (fun j => !([12].contains j))) (i := 10) (Ent.sep enn) ?_
    first | (refine Hd.takeH 11 rfl (by kernel_rfl) (by kernel_rfl) (by kernel_rfl) (by kernel_rfl) (y_field' (q := 1) (ft := 9) Try.underlying38 rfl sz9 rfl rfl) (fun _ _ => rfl) (Ent.sep enn) ?_) | (refine Hd.takeH 11 rfl (by kernel_rfl) (by kernel_rfl) (by kernel_rfl) (by kernel_rfl) (y_fieldR (q := 1) (ft := 9) Try.underlying38 rfl sz9 rfl rfl) (fun _ _ => rfl) (Ent.sep enn) ?_)
    refine Hd.onlyH 12 rfl (by kernel_rfl) ?_
    first | (refine Hd.store1 sz9 rfl rfl rfl pkk (by first | decide | (simp; done) | (simp; omega)) ?_) | (refine Hd.storeG1 sz9 rfl rfl rfl pkk (by first | decide | (simp; done) | (simp; omega)) ?_) | (refine Hd.storeO1 sz9 rfl rfl rfl pkk (by first | omega | (simp; done) | (simp; omega)) ?_)
    try simp only [List.set_cons_zero, List.set_cons_succ]
    refine Hd.nil ?_
    refine Hd.thenN ?_
    refine Hd.heldN (J := (fun j => !([12].contains j))) (i := 12) rfl ?_
    refine Hd.endH (by kernel_rfl) ?_
    refine Hd.slots [] trivial ?_
    clear hK1 hK2
    exact Hd.end0 rfl () rfl (Ent.sep enn)
  ·
    try simp only [decide_eq_true_eq, decide_eq_false_iff_not, Bool.and_eq_true, Bool.or_eq_true, Bool.and_eq_false_iff, Bool.or_eq_false_iff, Bool.not_eq_true', Bool.not_eq_false', Bool.not_eq_true, Bool.not_eq_false, Int.not_lt, Int.not_le, Decidable.not_not, ne_eq] at hc0
    refine Hd.skip ?_
    clear hK1 hK2
    have hv : ¬ (wrV n (l 0) bs).2 = 0 := fun h => by
      rcases hc0 with h2 | h2
      · exact h2 h
      · rw [hrw h] at h2; omega
    rw [show Q ++ roomB n (l 0) bs = Q by rw [hrn hv, List.append_nil]]
    exact Hd.end0 rfl () rfl (Ent.sep enn)
set_option maxHeartbeats 2000000 in
theorem take_ct (L : List SP) (pb wb n : Nat) (w : WA) (l : Nat → List UInt8) (hw : PrW n w l) (Q R : List UInt8) (m : Int) (hq : R.length + (l 1).length ≤ 70368744177664) : Ct Try.prog 30 #[.pointer (some ⟨pb, 0, none⟩), .int .i64 m] (PpP pb wb Q R :: WorldP wb w :: L) (fun _ : Unit => .tuple #[]) (fun _ : Unit => PpP pb wb Q (R ++ (l 1).take m.toNat) :: WorldP wb (readR w 1 m).2 :: L) := by
  refine Ct.of (vs := [.pointer (some ⟨pb, 0, none⟩), .int .i64 m]) Try.func30 rfl rfl [(0, .pointer (some ⟨pb, 0, none⟩)), (1, .int .i64 m)] (by repeat (first | exact trivial | refine ⟨rfl, ?_⟩)) ?_
  intro E
  show Hd E 29 _ _ _ _
  have hr := (readR_pr hw (k := 1) (by omega) m).1
  rw [show ((1 : Nat) : Int) = 1 from rfl] at hr
  have hlen : ((l 1).take m.toNat).length ≤ (l 1).length := by rw [List.length_take]; omega
  have h0 : (rdV (l 1) m).2.2 = 0 → (rdV (l 1) m).1 = (l 1).take m.toNat := fun h => by
    unfold rdV at h ⊢
    split
    · rename_i h1; rw [if_pos h1] at h; exact absurd h (by decide)
    · rename_i h1
      rw [if_neg h1] at h
      split
      · rename_i h2; rw [h2, List.take_nil]
      · rfl
  have h1 : ¬ (rdV (l 1) m).2.2 = 0 → (l 1).take m.toNat = [] := fun h => by
    unfold rdV at h
    split at h
    · rw [show m.toNat = 0 by omega]; rfl
    · split at h
      · rename_i h2; rw [h2, List.take_nil]
      · exact absurd rfl h
  refine Hd.seq (fun K1 hK1 => ?_)
  refine Hd.region ?_
  refine Hd.yv (y_move rfl) ?_
  refine Hd.yv (y_nilp rfl) ?_
  first | (refine Hd.yv (y_field' (q := 0) (ft := 25) Try.underlying38 rfl sz25 rfl rfl) ?_) | (refine Hd.yv (y_fieldR (q := 0) (ft := 25) Try.underlying38 rfl sz25 rfl rfl) ?_)
  first | (refine Hd.yv (y_load1 ag25 rfl (Rd.pt1 pkk (by (first | rfl)))) ?_) | (refine Hd.yv (y_load1 ag25 rfl (Rd.seg1 pkk (by (first | rfl)))) ?_) | (refine Hd.yv (y_loadR1 ag25 rfl (by (first | exact RdS.own pkk)) (by (first | rfl))) ?_)
  refine Hd.yv (y_move rfl) ?_
  refine Hd.callE rfl fk25 (wread_ct _ wb w 1 m) (Ent.sep enn) ?_
  rintro ⟨ad, c⟩
  rw [hr]
  dsimp only
  refine Hd.yv (y_move rfl) ?_
  refine Hd.yv (y_extract rfl rfl) ?_
  refine Hd.yv (y_extract rfl rfl) ?_
  refine Hd.yv (y_extract rfl rfl) ?_
  refine Hd.yv (y_assign rfl) ?_
  refine Hd.yv (y_assign rfl) ?_
  refine Hd.yv (y_assign rfl) ?_
  refine Hd.nil ?_
  refine Hd.slots [(0, _), (4, _), (6, _)] ⟨rfl, rfl, rfl, trivial⟩ ?_
  refine Hd.toK hK1 ?_
  refine Hd.seq (fun K2 hK2 => ?_)
  refine Hd.region ?_
  refine Hd.yv (y_move rfl) ?_
  first | (refine Hd.yv (y_eqlT rfl rfl) ?_) | (refine Hd.yv (y_eql rfl rfl) ?_)
  refine Hd.nil ?_
  refine Hd.slots [(0, _), (4, _), (18, _)] ⟨rfl, rfl, rfl, trivial⟩ ?_
  refine Hd.toK hK2 ?_
  refine Hd.cond rfl (fun hc0 => ?_) (fun hc0 => ?_)
  ·
    try simp only [decide_eq_true_eq, decide_eq_false_iff_not, Bool.and_eq_true, Bool.or_eq_true, Bool.and_eq_false_iff, Bool.or_eq_false_iff, Bool.not_eq_true', Bool.not_eq_false', Bool.not_eq_true, Bool.not_eq_false, Int.not_lt, Int.not_le, Decidable.not_not, ne_eq] at hc0
    rw [h0 hc0]
    refine Hd.drawsH ([PpP pb wb Q R, own 5 1 ad ((l 1).take m.toNat).length c (bsl ((l 1).take m.toNat))]) (fun j => !([10].contains j)) mixed ?_
    simp only [List.length, Nat.zero_add, Nat.reduceAdd]
    refine Hd.takeH 0 rfl (by kernel_rfl) (by kernel_rfl) (by kernel_rfl) (by kernel_rfl) (y_move rfl) (fun _ _ => rfl) (Ent.sep enn) ?_
    refine Hd.takeH 1 rfl (by kernel_rfl) (by kernel_rfl) (by kernel_rfl) (by kernel_rfl) (y_move rfl) (fun _ _ => rfl) (Ent.sep enn) ?_
    refine Hd.takeH 2 rfl (by kernel_rfl) (by kernel_rfl) (by kernel_rfl) (by kernel_rfl) (y_nilp rfl) (fun _ _ => rfl) (Ent.sep enn) ?_
    first | (refine Hd.takeH 3 rfl (by kernel_rfl) (by kernel_rfl) (by kernel_rfl) (by kernel_rfl) (y_field' (q := 2) (ft := 9) Try.underlying38 rfl sz9 rfl rfl) (fun _ _ => rfl) (Ent.sep enn) ?_) | (refine Hd.takeH 3 rfl (by kernel_rfl) (by kernel_rfl) (by kernel_rfl) (by kernel_rfl) (y_fieldR (q := 2) (ft := 9) Try.underlying38 rfl sz9 rfl rfl) (fun _ _ => rfl) (Ent.sep enn) ?_)
    first | (refine Hd.takeH 4 rfl (by kernel_rfl) (by kernel_rfl) (by kernel_rfl) (by kernel_rfl) (y_load1 ag9 rfl (Rd.pt1 pkk (by (first | rfl)))) (fun _ _ => rfl) (Ent.sep enn) ?_) | (refine Hd.takeH 4 rfl (by kernel_rfl) (by kernel_rfl) (by kernel_rfl) (by kernel_rfl) (y_load1 ag9 rfl (Rd.seg1 pkk (by (first | rfl)))) (fun _ _ => rfl) (Ent.sep enn) ?_) | (refine Hd.takeH 4 rfl (by kernel_rfl) (by kernel_rfl) (by kernel_rfl) (by kernel_rfl) (y_loadR1 ag9 rfl (by (first | exact RdS.own pkk)) (by (first | rfl))) (fun _ _ => rfl) (Ent.sep enn) ?_)
    refine Hd.takeH 5 rfl (by kernel_rfl) (by kernel_rfl) (by kernel_rfl) (by kernel_rfl) (y_move rfl) (fun _ _ => rfl) (Ent.sep enn) ?_
    refine Hd.takeH 6 rfl (by kernel_rfl) (by kernel_rfl) (by kernel_rfl) (by kernel_rfl) (y_strOf (l := _) (by kernel_rfl) Try.underlying9 rfl (by (first | exact RdS.own pkk))) (fun _ _ => rfl) (Ent.sep enn) ?_
    refine Hd.takeH 7 rfl (by kernel_rfl) (by kernel_rfl) (by kernel_rfl) (by kernel_rfl) (y_addstr rfl rfl (by first | omega | (omega) | (simp; omega) | (simp only [List.length_append, List.length_take, List.length_drop, List.length_cons, List.length_nil]; omega))) (fun _ _ => rfl) (Ent.sep enn) ?_
    refine Hd.onlyH 8 rfl (by kernel_rfl) ?_
    refine Hd.yv (y_nilp rfl) ?_
    refine Hd.nil ?_
    refine Hd.thenN ?_
    refine Hd.heldK (J := (fun j => !([10].contains j))) (i := 8) (Ent.sep enn) ?_
    first | (refine Hd.takeH 9 rfl (by kernel_rfl) (by kernel_rfl) (by kernel_rfl) (by kernel_rfl) (y_field' (q := 2) (ft := 9) Try.underlying38 rfl sz9 rfl rfl) (fun _ _ => rfl) (Ent.sep enn) ?_) | (refine Hd.takeH 9 rfl (by kernel_rfl) (by kernel_rfl) (by kernel_rfl) (by kernel_rfl) (y_fieldR (q := 2) (ft := 9) Try.underlying38 rfl sz9 rfl rfl) (fun _ _ => rfl) (Ent.sep enn) ?_)
    refine Hd.onlyH 10 rfl (by kernel_rfl) ?_
    first | (refine Hd.store1 sz9 rfl rfl rfl pkk (by first | decide | (simp; done) | (simp; omega)) ?_) | (refine Hd.storeG1 sz9 rfl rfl rfl pkk (by first | decide | (simp; done) | (simp; omega)) ?_) | (refine Hd.storeO1 sz9 rfl rfl rfl pkk (by first | omega | (simp; done) | (simp; omega)) ?_)
    try simp only [List.set_cons_zero, List.set_cons_succ]
    refine Hd.nil ?_
    refine Hd.thenN ?_
    refine Hd.heldN (J := (fun j => !([10].contains j))) (i := 10) rfl ?_
    refine Hd.endH (by kernel_rfl) ?_
    refine Hd.slots [] trivial ?_
    clear hK1 hK2
    exact Hd.end0 rfl () rfl (Ent.sep enn)
  ·
    try simp only [decide_eq_true_eq, decide_eq_false_iff_not, Bool.and_eq_true, Bool.or_eq_true, Bool.and_eq_false_iff, Bool.or_eq_false_iff, Bool.not_eq_true', Bool.not_eq_false', Bool.not_eq_true, Bool.not_eq_false, Int.not_lt, Int.not_le, Decidable.not_not, ne_eq] at hc0
    refine Hd.skip ?_
    clear hK1 hK2
    rw [show R ++ (l 1).take m.toNat = R by rw [h1 hc0, List.append_nil]]
    exact Hd.end0 rfl () rfl (Ent.sep enn)
end Bu
end Go.Proofs.Ytmpemhbfgbochaa
namespace Go.Proofs.Ytmpemhbfgbochaa
set_option linter.unusedSimpArgs false
set_option linter.unusedVariables false
set_option linter.unnecessarySimpa false
open Go.RX Fx
namespace Bu
open Wo
set_option maxRecDepth 8000
theorem op_pr {n : Nat} {w : WA} {l : Nat → List UInt8} (h : PrW n w l) : (readyR w 0).op = true := by
  obtain ⟨x, hx, hp⟩ := h
  have hat := pr_at hx hp (k := 0) (by omega)
  unfold readyR
  rw [show (0 : Int) = ((0 : Nat) : Int) from rfl, hat]
  dsimp only
  rw [hx]
  show (readyW x 0).op = true
  unfold readyW
  split <;> rfl
structure MkI (n : Nat) (low high : Int) (x : BfA) (w : WA) (l : Nat → List UInt8) : Prop where
  ok : BOk x
  fd : x.fd = 0
  lo : (x.s 0).low = low
  hi : (x.s 0).high = high
  w : PrW n w l
  le : high > 0 → ((x.s 0).c.length : Int) ≤ high
theorem MkI.put {n : Nat} {low high : Int} {x : BfA} {w : WA} {l : Nat → List UInt8} (h : MkI n low high x w l) (bs : List UInt8) : MkI n low high x (writeR w 1 bs).2 (updL l 0 (l 0 ++ roomB n (l 0) bs)) :=
  ⟨h.ok, h.fd, h.lo, h.hi, (writeR_pr h.w (k := 1) (by omega) bs).2, h.le⟩
theorem stG_le (x : BfA) (l : Nat → List UInt8) (flags most : Int) : ((stG x l flags most).length : Int) ≤ max 0 most ∧ ((x.s 0).high > 0 → ((x.s 0).c.length : Int) ≤ (x.s 0).high → ((x.s 0).c.length : Int) + ((stG x l flags most).length : Int) ≤ (x.s 0).high) ∧ (stG x l flags most).length ≤ 4096 := by
  have hn := rdN_le (x.s 0) most
  unfold stG
  split
  · unfold gotB
    rw [List.length_take]
    omega
  · simp only [List.length_nil]
    omega
theorem stT_i (x : BfA) (got went : List UInt8) : (stT2 x went (stT1 x got noT)).i = (got.length : Int) ∧ (stT2 x went (stT1 x got noT)).r = (decide (got.length > 0) && decide ((((x.s 0).c ++ got).length : Int) ≥ (x.s 0).low)) := by
  have h1 : (stT2 x went (stT1 x got noT)).i = (stT1 x got noT).i ∧ (stT2 x went (stT1 x got noT)).r = (stT1 x got noT).r := by
    unfold stT2; split <;> exact ⟨rfl, rfl⟩
  rw [h1.1, h1.2]
  unfold stT1
  split
  · rename_i h; subst h; exact ⟨rfl, rfl⟩
  · rename_i h
    have : got.length > 0 := List.length_pos_iff.2 h
    refine ⟨rfl, ?_⟩
    rw [decide_eq_true this, Bool.true_and]
theorem MkI.step {n : Nat} {low high : Int} {x : BfA} {w : WA} {l : Nat → List UInt8} (h : MkI n low high x w l) {now : Int} (hn : InK .u64 now) (flags most much : Int) :
    MkI n low high (stepS x w now flags most much).x (stepS x w now flags most much).w (mvL l (stG x l flags most) (stW n x l flags much)) ∧
    ((stepS x w now flags most much).x.s 0).c = (x.s 0).c ++ stG x l flags most ∧
    (stepS x w now flags most much).t.i = ((stG x l flags most).length : Int) ∧
    (stepS x w now flags most much).t.r = (decide ((stG x l flags most).length > 0) && decide ((((x.s 0).c ++ stG x l flags most).length : Int) ≥ low)) ∧
    ((stG x l flags most).length : Int) ≤ max 0 most ∧ (stG x l flags most).length ≤ 4096 := by
  have hs := step_pr h.w h.fd now flags most much
  have ht := stT_i x (stG x l flags most) (stW n x l flags much)
  have hg := stG_le x l flags most
  have h0 := hs.s0
  refine ⟨⟨bok_step h.ok hn w flags most much, hs.fd.trans h.fd, h0.2.2.2.1.trans h.lo, h0.2.2.2.2.1.trans h.hi, hs.w, fun hh => ?_⟩, h0.1, by rw [hs.t]; exact ht.1, by rw [hs.t, ht.2, h.lo], hg.1, hg.2.2⟩
  have h1 := h.le hh
  have h2 := hg.2.1
  rw [h.hi] at h2
  rw [h0.1, List.length_append]
  have := h2 hh h1
  omega
end Bu
end Go.Proofs.Ytmpemhbfgbochaa
namespace Go.Proofs.Ytmpemhbfgbochaa
set_option linter.unusedSimpArgs false
set_option linter.unusedVariables false
set_option linter.unnecessarySimpa false
open Go.RX Fx
namespace Bu
open Wo
set_option maxRecDepth 8000
theorem sd6 : sidesA 6 = [0, 1] := by decide +kernel
theorem onM2 (x : BfA) : onM x (sidesA 6) = if (x.s 1).on = true then bits .or .i64 (if (x.s 0).on = true then bits .or .i64 0 (flagA 0) else 0) (flagA 1) else (if (x.s 0).on = true then bits .or .i64 0 (flagA 0) else 0) := by rw [sd6]; rfl
end Bu
end Go.Proofs.Ytmpemhbfgbochaa
namespace Go.Proofs.Ytmpemhbfgbochaa
set_option linter.unusedSimpArgs false
set_option linter.unusedVariables false
set_option linter.unnecessarySimpa false
open Go.RX Fx
namespace Bu
open Wo
set_option maxRecDepth 8000
structure ByA where
  x : BfA
  w : WA
  l : Nat → List UInt8
  h : List UInt8
  r : List UInt8
  q : List UInt8
  v : List UInt8
structure ByI (n : Nat) (s : ByA) : Prop where
  ok : BOk s.x
  fd : s.x.fd = 0
  run : ∀ k, k < 2 → (s.x.s k).ended = false
  w : PrW n s.w s.l
  cap : ∀ k, k < 2 → (s.l k).length ≤ n
  inn : s.h ++ (s.x.s 0).c ++ s.l 0 = s.q
  out : s.r ++ s.l 1 ++ (s.x.s 1).c = s.v
def ByB (i : Nat) (s : ByA) : Prop := s.q.length ≤ 300 * i ∧ s.v.length ≤ 300 * i
theorem ByB.up {i : Nat} {s : ByA} (h : ByB i s) : ByB (i + 1) s := ⟨by have := h.1; omega, by have := h.2; omega⟩
theorem ByI.len {n : Nat} {s : ByA} (h : ByI n s) : s.h.length + (s.x.s 0).c.length + (s.l 0).length = s.q.length ∧ s.r.length + (s.l 1).length + (s.x.s 1).c.length = s.v.length := by
  rw [← h.inn, ← h.out]; simp [Nat.add_assoc]
def SmC (x x' : BfA) : Prop := x'.fd = x.fd ∧ ∀ k, k < 2 → (x'.s k).c = (x.s k).c ∧ (x'.s k).ended = (x.s k).ended
theorem SmC.rfl' (x : BfA) : SmC x x := ⟨rfl, fun _ _ => ⟨rfl, rfl⟩⟩
theorem ByI.same {n : Nat} {s : ByA} (h : ByI n s) {x' : BfA} (hx : SmC s.x x') (hok : BOk x') : ByI n { s with x := x' } :=
  ⟨hok, hx.1.trans h.fd, fun k hk => (hx.2 k hk).2.trans (h.run k hk), h.w, h.cap, by show _ ++ (x'.s 0).c ++ _ = _; rw [(hx.2 0 (by omega)).1]; exact h.inn, by show _ ++ _ ++ (x'.s 1).c = _; rw [(hx.2 1 (by omega)).1]; exact h.out⟩
abbrev byPut (n : Nat) (s : ByA) (bs : List UInt8) : ByA := { s with w := (writeR s.w 1 bs).2, l := updL s.l 0 (s.l 0 ++ roomB n (s.l 0) bs), q := s.q ++ roomB n (s.l 0) bs }
theorem byPut_l1 (n : Nat) (s : ByA) (bs : List UInt8) : (byPut n s bs).l 1 = s.l 1 := updL_ne (k := 0) (j := 1) s.l (s.l 0 ++ roomB n (s.l 0) bs) (by decide)
theorem ByI.put {n : Nat} {s : ByA} (h : ByI n s) (bs : List UInt8) : ByI n (byPut n s bs) := by
  refine ⟨h.ok, h.fd, h.run, (writeR_pr h.w (k := 1) (by omega) bs).2, fun k hk => ?_, ?_, ?_⟩
  · show (updL s.l 0 (s.l 0 ++ roomB n (s.l 0) bs) k).length ≤ n
    have h0 := h.cap k hk
    by_cases e : k = 0
    · subst e
      rw [updL_at, List.length_append]
      unfold roomB
      rw [List.length_take]; omega
    · rw [updL_ne _ _ e]; exact h0
  · show s.h ++ (s.x.s 0).c ++ updL s.l 0 (s.l 0 ++ roomB n (s.l 0) bs) 0 = s.q ++ roomB n (s.l 0) bs
    rw [updL_at, ← h.inn]; simp [List.append_assoc]
  · have e := byPut_l1 n s bs
    rw [e]; exact h.out
theorem ByB.put {n i : Nat} {s : ByA} (h : ByB i s) {bs : List UInt8} (hb : bs.length ≤ 300) : ByB (i + 1) (byPut n s bs) := by
  have := h.1
  have h2 := h.2
  have h3 := roomB_len n (s.l 0) bs
  refine ⟨?_, by show s.v.length ≤ _; omega⟩
  show (s.q ++ roomB n (s.l 0) bs).length ≤ _
  rw [List.length_append]; omega
abbrev byWr (s : ByA) (now : Int) (bs : List UInt8) : ByA := { s with x := wrB s.x now bs, v := if wrE s.x bs = 0 then s.v ++ bs else s.v }
theorem wrB_c (x : BfA) (now : Int) (bs : List UInt8) : (wrB x now bs).fd = x.fd ∧ ((wrB x now bs).s 0).c = (x.s 0).c ∧ ((wrB x now bs).s 1).c = (if wrE x bs = 0 then (x.s 1).c ++ bs else (x.s 1).c) ∧ ∀ k, k < 2 → ((wrB x now bs).s k).ended = (x.s k).ended := by
  have ha : wrE x bs = 0 → addA (x.s 1).c bs = (x.s 1).c ++ bs := fun h => by
    unfold wrE addE at h
    unfold addA
    split at h
    · rename_i h1; exact if_pos h1
    · exact absurd h (by decide)
  unfold wrB
  by_cases h0 : wrE x bs = 0
  · rw [if_neg (show ¬ addE (x.s 1).c bs ≠ 0 from fun h => h h0), if_pos h0]
    split
    · refine ⟨rfl, by rw [bup_ne _ _ (by decide)], by rw [bup_at]; exact ha h0, fun k hk => ?_⟩
      rcases (show k = 0 ∨ k = 1 by omega) with rfl | rfl
      · rw [bup_ne _ _ (by decide)]
      · rw [bup_at]
    · refine ⟨rfl, by rw [bup_ne _ _ (by decide)], by rw [bup_at]; exact ha h0, fun k hk => ?_⟩
      rcases (show k = 0 ∨ k = 1 by omega) with rfl | rfl
      · rw [bup_ne _ _ (by decide)]
      · rw [bup_at]
  · rw [if_pos (show addE (x.s 1).c bs ≠ 0 from h0), if_neg h0]
    exact ⟨rfl, rfl, rfl, fun _ _ => rfl⟩
theorem ByI.wr {n : Nat} {s : ByA} (h : ByI n s) {now : Int} (hn : InK .u64 now) (bs : List UInt8) : ByI n (byWr s now bs) := by
  obtain ⟨h1, h2, h3, h4⟩ := wrB_c s.x now bs
  refine ⟨bok_put h.ok hn bs, h1.trans h.fd, fun k hk => (h4 k hk).trans (h.run k hk), h.w, h.cap, ?_, ?_⟩
  · show s.h ++ ((wrB s.x now bs).s 0).c ++ s.l 0 = s.q
    rw [h2]; exact h.inn
  · show s.r ++ s.l 1 ++ ((wrB s.x now bs).s 1).c = if wrE s.x bs = 0 then s.v ++ bs else s.v
    rw [h3]
    split
    · rw [← h.out]; simp [List.append_assoc]
    · exact h.out
abbrev byRd (s : ByA) (m : Int) : ByA := { s with x := readB s.x m, h := s.h ++ readA s.x m }
theorem readB_c (x : BfA) (m : Int) : (readB x m).fd = x.fd ∧ ((readB x m).s 0).c = (x.s 0).c.drop m.toNat ∧ ((readB x m).s 1).c = (x.s 1).c ∧ (∀ k, k < 2 → ((readB x m).s k).ended = (x.s k).ended) ∧ readA x m = (x.s 0).c.take m.toNat ∧ ∀ k, k < 2 → ((readB x m).s k).on = (x.s k).on ∧ ((readB x m).s k).high = (x.s k).high := by
  unfold readB readA
  split
  · rename_i h
    rw [show m.toNat = 0 by omega]
    exact ⟨rfl, rfl, rfl, fun _ _ => rfl, rfl, fun _ _ => ⟨rfl, rfl⟩⟩
  · refine ⟨rfl, by rw [bup_at], by rw [bup_ne _ _ (by decide)], fun k hk => ?_, rfl, fun k hk => ?_⟩
    · rcases (show k = 0 ∨ k = 1 by omega) with rfl | rfl
      · rw [bup_at]
      · rw [bup_ne _ _ (by decide)]
    · rcases (show k = 0 ∨ k = 1 by omega) with rfl | rfl
      · rw [bup_at]; exact ⟨rfl, rfl⟩
      · rw [bup_ne _ _ (by decide)]; exact ⟨rfl, rfl⟩
theorem ByI.rd {n : Nat} {s : ByA} (h : ByI n s) (m : Int) : ByI n (byRd s m) := by
  obtain ⟨h1, h2, h3, h4, h5, _⟩ := readB_c s.x m
  refine ⟨bok_get h.ok m, h1.trans h.fd, fun k hk => (h4 k hk).trans (h.run k hk), h.w, h.cap, ?_, ?_⟩
  · show s.h ++ readA s.x m ++ ((readB s.x m).s 0).c ++ s.l 0 = s.q
    rw [h2, h5, List.append_assoc s.h, List.take_append_drop]; exact h.inn
  · show s.r ++ s.l 1 ++ ((readB s.x m).s 1).c = s.v
    rw [h3]; exact h.out
abbrev byTk (s : ByA) (m : Int) : ByA := { s with w := (readR s.w 1 m).2, l := updL s.l 1 ((s.l 1).drop m.toNat), r := s.r ++ (s.l 1).take m.toNat }
theorem byTk_l0 (s : ByA) (m : Int) : (byTk s m).l 0 = s.l 0 := updL_ne (k := 1) (j := 0) s.l ((s.l 1).drop m.toNat) (by decide)
theorem ByI.tk {n : Nat} {s : ByA} (h : ByI n s) (m : Int) : ByI n (byTk s m) := by
  refine ⟨h.ok, h.fd, h.run, (readR_pr h.w (k := 1) (by omega) m).2, fun k hk => ?_, ?_, ?_⟩
  · show (updL s.l 1 ((s.l 1).drop m.toNat) k).length ≤ n
    have h0 := h.cap k hk
    by_cases e : k = 1
    · subst e
      rw [updL_at, List.length_drop]; omega
    · rw [updL_ne _ _ e]; exact h0
  · have e := byTk_l0 s m
    rw [e]; exact h.inn
  · show s.r ++ (s.l 1).take m.toNat ++ updL s.l 1 ((s.l 1).drop m.toNat) 1 ++ (s.x.s 1).c = s.v
    rw [updL_at, List.append_assoc s.r, List.take_append_drop]; exact h.out
abbrev bySt (n : Nat) (s : ByA) (now flags most much : Int) : ByA := { s with x := (stepS s.x s.w now flags most much).x, w := (stepS s.x s.w now flags most much).w, l := mvL s.l (stG s.x s.l flags most) (stW n s.x s.l flags much) }
theorem stW_len (n : Nat) (x : BfA) (l : Nat → List UInt8) (flags much : Int) (h : (l 1).length ≤ n) : (l 1).length + (stW n x l flags much).length ≤ n := by
  unfold stW
  split
  · unfold wentB
    rw [List.length_take]; omega
  · simpa using h
theorem bySt_l0 (n : Nat) (s : ByA) (now flags most much : Int) : (bySt n s now flags most much).l 0 = (s.l 0).drop (stG s.x s.l flags most).length := mvL_0 s.l (stG s.x s.l flags most) (stW n s.x s.l flags much)
theorem bySt_l1 (n : Nat) (s : ByA) (now flags most much : Int) : (bySt n s now flags most much).l 1 = s.l 1 ++ stW n s.x s.l flags much := mvL_1 s.l (stG s.x s.l flags most) (stW n s.x s.l flags much)
theorem ByI.st {n : Nat} {s : ByA} (h : ByI n s) {now : Int} (hn : InK .u64 now) (flags most much : Int) : ByI n (bySt n s now flags most much) := by
  have hs := step_pr h.w h.fd now flags most much
  have e0 := hs.s0
  have e1 := hs.s1
  refine ⟨bok_step h.ok hn s.w flags most much, hs.fd.trans h.fd, fun k hk => ?_, hs.w, fun k hk => ?_, ?_, ?_⟩
  · rcases (show k = 0 ∨ k = 1 by omega) with rfl | rfl
    · exact e0.2.2.1.trans (h.run 0 hk)
    · exact e1.2.2.1.trans (h.run 1 hk)
  · rcases (show k = 0 ∨ k = 1 by omega) with rfl | rfl
    · have := h.cap 0 hk
      have e := bySt_l0 n s now flags most much
      rw [e, List.length_drop]; omega
    · have e := bySt_l1 n s now flags most much
      rw [e, List.length_append]
      exact stW_len n s.x s.l flags much (h.cap 1 hk)
  · have e := bySt_l0 n s now flags most much
    rw [e]
    show s.h ++ ((stepS s.x s.w now flags most much).x.s 0).c ++ _ = s.q
    rw [e0.1, ← List.append_assoc, List.append_assoc _ (stG s.x s.l flags most), stG_pre]; exact h.inn
  · have e := bySt_l1 n s now flags most much
    rw [e]
    show s.r ++ _ ++ ((stepS s.x s.w now flags most much).x.s 1).c = s.v
    rw [e1.1, ← List.append_assoc, List.append_assoc _ (stW n s.x s.l flags much), stW_pre]; exact h.out
structure LpI (n : Nat) (s : ByA) : Prop where
  i : ByI n s
  on : ∀ k, k < 2 → (s.x.s k).on = true
  high : (s.x.s 0).high = 0
  c : (s.x.s 0).c = []
theorem or6 : bits .or .i64 (bits .or .i64 0 (flagA 0)) (flagA 1) = 6 := by decide +kernel
theorem on6 {x : BfA} (h : ∀ k, k < 2 → (x.s k).on = true) : onM x (sidesA 6) = 6 := by
  rw [onM2, if_pos (h 0 (by omega)), if_pos (h 1 (by omega))]; exact or6
theorem LpI.wants {n : Nat} {s : ByA} (h : LpI n s) : wantsA s.x = if (s.x.s 1).c = [] then 2 else 6 := by
  have h0 : wantK s.x 0 = true := by unfold wantK; rw [h.i.run 0 (by omega), h.high]; rfl
  have h1 : wantK s.x 1 = decide (((s.x.s 1).c.length : Int) > 0) := by unfold wantK; rw [h.i.run 1 (by omega)]; simp
  unfold wantsA
  rw [on6 h.on, sd6]
  unfold waM
  simp only [List.foldl_cons, List.foldl_nil]
  rw [h0, if_pos rfl, h1]
  by_cases hc : (s.x.s 1).c = []
  · rw [if_pos hc, hc]; decide +kernel
  · have hl : (s.x.s 1).c.length > 0 := List.length_pos_iff.2 hc
    rw [if_neg hc, if_pos (by simp; omega)]; exact or6
theorem LpI.got {n : Nat} {s : ByA} (h : LpI n s) (hn : n ≤ 500) : stG s.x s.l 6 4096 = s.l 0 := by
  unfold stG rdO stepM
  rw [h.wants]
  have hr : rdN (s.x.s 0) 4096 = 4096 := by unfold rdN; rw [h.high, h.c]; rfl
  have hc := h.i.cap 0 (by omega)
  rw [if_pos (by split <;> decide +kernel)]
  unfold gotB
  rw [hr]
  exact List.take_of_length_le (by simp; omega)
theorem LpI.went {n : Nat} {s : ByA} (h : LpI n s) : stW n s.x s.l 6 4096 = ((s.x.s 1).c.take 4096).take (n - (s.l 1).length) := by
  unfold stW wrO stepM
  rw [h.wants]
  by_cases hc : (s.x.s 1).c = []
  · rw [if_pos hc, hc, if_neg (by decide +kernel)]; simp
  · rw [if_neg hc, if_pos (by decide +kernel)]
    unfold wentB
    rw [offA_pre]; rfl
abbrev lpS (n : Nat) (s : ByA) : ByA := bySt n s 0 6 4096 4096
abbrev lpR (n : Nat) (s : ByA) : ByA := byRd (lpS n s) (((lpS n s).x.s 0).c.length : Int)
abbrev lpN (n : Nat) (s : ByA) : ByA := byTk (lpR n s) 500
theorem LpI.next {n : Nat} {s : ByA} (h : LpI n s) (hn : n ≤ 500) : LpI n (lpN n s) := by
  have hs := step_pr h.i.w h.i.fd 0 6 4096 4096
  obtain ⟨r1, r2, r3, r4, r5, r6⟩ := readB_c (lpS n s).x (((lpS n s).x.s 0).c.length : Int)
  refine ⟨(((h.i.st (by simp [InK]) 6 4096 4096).rd _).tk 500), fun k hk => ?_, ?_, ?_⟩
  · show ((readB (lpS n s).x _).s k).on = true
    rw [(r6 k hk).1]
    rcases (show k = 0 ∨ k = 1 by omega) with rfl | rfl
    · exact hs.s0.2.1.trans (h.on 0 hk)
    · exact hs.s1.2.1.trans (h.on 1 hk)
  · show ((readB (lpS n s).x _).s 0).high = 0
    rw [(r6 0 (by omega)).2]
    exact hs.s0.2.2.2.2.1.trans h.high
  · show ((readB (lpS n s).x _).s 0).c = []
    rw [r2, Int.toNat_natCast]; exact List.drop_length
end Bu
end Go.Proofs.Ytmpemhbfgbochaa
namespace Go.Proofs.Ytmpemhbfgbochaa
set_option linter.unusedSimpArgs false
set_option linter.unusedVariables false
set_option linter.unnecessarySimpa false
open Go.RX Fx
namespace Bu
open Wo
set_option maxRecDepth 8000
structure PtI (n : Nat) (a o : List UInt8) (m : Nat) (x : BfA) (w : WA) (l : Nat → List UInt8) : Prop where
  ok : BOk x
  fd : x.fd = 0
  on : ∀ k, k < 2 → (x.s k).on = true
  run : ∀ k, k < 2 → (x.s k).ended = false
  high : (x.s 0).high = 0
  w : PrW n w l
  c0 : (x.s 0).c = a.take m
  l0 : l 0 = a.drop m
  l1 : l 1 = o.take (min m n)
  c1 : (x.s 1).c = o.drop (min m n)
theorem PtI.wants {n : Nat} {a o : List UInt8} {m : Nat} {x : BfA} {w : WA} {l : Nat → List UInt8} (h : PtI n a o m x w l) : wantsA x = if (x.s 1).c = [] then 2 else 6 := by
  have h0 : wantK x 0 = true := by unfold wantK; rw [h.run 0 (by omega), h.high]; rfl
  have h1 : wantK x 1 = decide (((x.s 1).c.length : Int) > 0) := by unfold wantK; rw [h.run 1 (by omega)]; simp
  unfold wantsA
  rw [on6 h.on, sd6]
  unfold waM
  simp only [List.foldl_cons, List.foldl_nil]
  rw [h0, if_pos rfl, h1]
  by_cases hc : (x.s 1).c = []
  · rw [if_pos hc, hc]; decide +kernel
  · have hl : (x.s 1).c.length > 0 := List.length_pos_iff.2 hc
    rw [if_neg hc, if_pos (by simp; omega)]; exact or6
theorem PtI.step {n : Nat} {a o : List UInt8} {m : Nat} {x : BfA} {w : WA} {l : Nat → List UInt8} (h : PtI n a o m x w l) (ha : a.length ≤ 300) (j : Nat) (hj : j ≤ 255) :
    PtI n a o (m + j) (stepS x w 0 6 (j : Int) (j : Int)).x (stepS x w 0 6 (j : Int) (j : Int)).w (mvL l (stG x l 6 (j : Int)) (stW n x l 6 (j : Int))) := by
  have hs := step_pr h.w h.fd 0 6 (j : Int) (j : Int)
  have hc0 : (x.s 0).c.length ≤ 300 := by rw [h.c0, List.length_take]; omega
  have hg : stG x l 6 (j : Int) = (a.drop m).take j := by
    unfold stG rdO stepM
    rw [h.wants]
    have hr : rdN (x.s 0) (j : Int) = (j : Int) := by unfold rdN; rw [h.high, if_neg (by omega)]; omega
    rw [if_pos (by split <;> decide +kernel)]
    unfold gotB
    rw [hr, h.l0, Int.toNat_natCast]
  have hw : stW n x l 6 (j : Int) = ((x.s 1).c.take j).take (n - (l 1).length) := by
    unfold stW wrO stepM
    rw [h.wants]
    by_cases hc : (x.s 1).c = []
    · rw [if_pos hc, hc, if_neg (by decide +kernel)]; simp
    · rw [if_neg hc, if_pos (by decide +kernel)]
      unfold wentB
      rw [offA_pre, show (min (j : Int) 4096).toNat = j by omega]
  have hw2 : (l 1 ++ stW n x l 6 (j : Int)) = o.take (min (m + j) n) ∧ (x.s 1).c.drop (stW n x l 6 (j : Int)).length = o.drop (min (m + j) n) := by
    rw [hw, h.l1, h.c1, List.take_take]
    by_cases hlen : o.length ≤ min m n
    · rw [List.drop_of_length_le hlen, List.take_nil, List.append_nil, List.take_of_length_le hlen, List.take_of_length_le (by omega), List.drop_nil, List.drop_of_length_le (by omega)]
      exact ⟨rfl, rfl⟩
    · have e1 : (o.take (min m n)).length = min m n := by rw [List.length_take]; omega
      rw [e1]
      have e2 : min (m + j) n = min m n + min (n - min m n) j := by omega
      refine ⟨by rw [e2, List.take_add], ?_⟩
      rw [List.drop_drop]
      rw [List.length_take, List.length_drop]
      rcases Nat.le_total (min (n - min m n) j) (o.length - min m n) with hle | hle
      · rw [Nat.min_eq_left hle, e2]
      · rw [Nat.min_eq_right hle, List.drop_of_length_le (by omega), List.drop_of_length_le (by omega)]
  refine ⟨bok_step h.ok (by simp [InK]) w 6 _ _, hs.fd.trans h.fd, fun k hk => ?_, fun k hk => ?_, hs.s0.2.2.2.2.1.trans h.high, hs.w, ?_, ?_, ?_, ?_⟩
  · rcases (show k = 0 ∨ k = 1 by omega) with rfl | rfl
    · exact hs.s0.2.1.trans (h.on 0 hk)
    · exact hs.s1.2.1.trans (h.on 1 hk)
  · rcases (show k = 0 ∨ k = 1 by omega) with rfl | rfl
    · exact hs.s0.2.2.1.trans (h.run 0 hk)
    · exact hs.s1.2.2.1.trans (h.run 1 hk)
  · rw [hs.s0.1, hg, h.c0, List.take_add]
  · rw [mvL_0, hg, h.l0, List.length_take, List.length_drop]
    rw [List.drop_drop]
    rcases Nat.le_total j (a.length - m) with hle | hle
    · rw [Nat.min_eq_left hle]
    · rw [Nat.min_eq_right hle, List.drop_of_length_le (by omega), List.drop_of_length_le (by omega)]
  · rw [mvL_1]; exact hw2.1
  · rw [hs.s1.1]; exact hw2.2
abbrev ptX (o : List UInt8) : BfA := wrB (enB (newB 0) 0 2) 0 o
abbrev ptW (n : Nat) (a : List UInt8) : WA := (writeR (pairA n) 1 a).2
abbrev ptL (n : Nat) (a : List UInt8) : Nat → List UInt8 := updL (fun _ => []) 0 ([] ++ a.take (n - ([] : List UInt8).length))
theorem pt_new {n : Nat} {a o : List UInt8} (ho : o.length ≤ 300) : PtI n (a.take n) o 0 (ptX o) (ptW n a) (ptL n a) := by
  have h0 : (enB (newB 0) 0 2).s 0 = ⟨[], true, false, 0, 0, 0, NV⟩ := by rfl
  have h1 : (enB (newB 0) 0 2).s 1 = ⟨[], true, false, 0, 0, 0, NV⟩ := by rfl
  have ha : addE ((enB (newB 0) 0 2).s 1).c o = 0 := by rw [h1]; unfold addE; exact if_pos (by show o.length ≤ 1048576 - 0; omega)
  have hb : addA ((enB (newB 0) 0 2).s 1).c o = o := by rw [h1]; unfold addA; exact if_pos (by show o.length ≤ 1048576 - 0; omega)
  have hx : ptX o = (enB (newB 0) 0 2).up 1 fun s => setA 1 0 { s with c := addA s.c o } := by
    unfold ptX wrB
    rw [if_neg (fun h => h ha), if_pos (by rw [h1])]
  have e0 : (ptX o).s 0 = ⟨[], true, false, 0, 0, 0, NV⟩ := by rw [hx, bup_ne _ _ (by decide), h0]
  have e1 : ((ptX o).s 1).c = o ∧ ((ptX o).s 1).on = true ∧ ((ptX o).s 1).ended = false := by
    rw [hx, bup_at]
    exact ⟨hb, by rw [h1], by rw [h1]⟩
  refine ⟨bok_put (bok_en (bok_new 0) (by simp [InK]) 2) (by simp [InK]) o, by rw [hx]; rfl, fun k hk => ?_, fun k hk => ?_, by rw [e0], (writeR_pr (pr_new n) (k := 1) (by omega) a).2, by rw [e0]; rfl, ?_, ?_, ?_⟩
  · rcases (show k = 0 ∨ k = 1 by omega) with rfl | rfl
    · rw [e0]
    · exact e1.2.1
  · rcases (show k = 0 ∨ k = 1 by omega) with rfl | rfl
    · rw [e0]
    · exact e1.2.2
  · exact updL_at _ _ _
  · show ptL n a 1 = _
    rw [show min 0 n = 0 by omega]
    exact updL_ne (k := 0) (j := 1) (fun _ => []) _ (by decide)
  · rw [e1.1, show min 0 n = 0 by omega]; rfl
theorem eqn59 : EqN Try.prog 59 [.int .i64, .int .i64] := ⟨by kernel_rfl, by kernel_rfl, by kernel_rfl⟩
abbrev two (k : Nat) (v z : Value) : List Value := [if 0 < k then v else z, if 1 < k then v else z]
theorem two_set {k : Nat} (hk : k < 2) (v z : Value) : (two k v z).set (0 + k * 1) v = two (k + 1) v z := by
  rcases (show k = 0 ∨ k = 1 by omega) with rfl | rfl <;> rfl
abbrev two2 (k : Nat) (v u : Value) : List Value := [if 0 < k then v else .int .i64 0, if 0 < k then u else .int .i64 0, if 1 < k then v else .int .i64 0, if 1 < k then u else .int .i64 0]
theorem two2_set {k : Nat} (hk : k < 2) (v u : Value) : (two2 k v u).take (0 + k * 2) ++ [v, u] ++ (two2 k v u).drop (0 + k * 2 + [v, u].length) = two2 (k + 1) v u := by
  rcases (show k = 0 ∨ k = 1 by omega) with rfl | rfl <;> rfl
end Bu
end Go.Proofs.Ytmpemhbfgbochaa
namespace Go.Proofs.Ytmpemhbfgbochaa
set_option linter.unusedSimpArgs false
set_option linter.unusedVariables false
set_option linter.unnecessarySimpa false
open Go.RX Fx
namespace Bu
open Wo
set_option maxRecDepth 8000
set_option maxHeartbeats 2000000 in
theorem bparts_ct (L : List SP) (cp : Int) (ia : Option Addr) (ic : Nat) (ins : List UInt8) (hI : RdS L 1 ia ins.length (bsl ins)) (hic : ins.length ≤ ic) (oa : Option Addr) (oc : Nat) (outs : List UInt8) (hO : RdS L 1 oa outs.length (bsl outs)) (hoc : outs.length ≤ oc) (nn : Int) (hnn : InK .u8 nn) : Ct Try.prog 5 #[.int .i64 cp, .slice ia ins.length ic, .slice oa outs.length oc, .int .u8 nn] (L) (fun _ : Unit => .bool true) (fun _ : Unit => L) := by
  refine Ct.of (vs := [.int .i64 cp, .slice ia ins.length ic, .slice oa outs.length oc, .int .u8 nn]) Try.func5 rfl rfl [(0, .int .i64 cp), (1, .slice ia ins.length ic), (2, .slice oa outs.length oc), (3, .int .u8 nn)] (by repeat (first | exact trivial | refine ⟨rfl, ?_⟩)) ?_
  intro E
  show Hd E 135 _ _ _ _
  refine Hd.seq (fun K1 hK1 => ?_)
  refine Hd.region ?_
  refine Hd.yv (y_assign rfl) ?_
  refine Hd.nil ?_
  refine Hd.slots [(0, _), (1, _), (2, _), (3, _)] ⟨rfl, rfl, rfl, rfl, trivial⟩ ?_
  refine Hd.toK hK1 ?_
  refine Hd.seq (fun K2 hK2 => ?_)
  refine Hd.region ?_
  refine Hd.callE rfl fk8 (alive_ct _) (Ent.sep enn) ?_
  intro _
  refine Hd.yv (y_assign rfl) ?_
  refine Hd.nil ?_
  refine Hd.slots [(0, _), (1, _), (2, _), (3, _), (9, _)] ⟨rfl, rfl, rfl, rfl, rfl, trivial⟩ ?_
  refine Hd.toK hK2 ?_
  refine Hd.seq (fun K3 hK3 => ?_)
  refine Hd.seq (fun K4 hK4 => ?_)
  refine Hd.region ?_
  refine Hd.yv (y_move rfl) ?_
  refine Hd.yv (y_lss rfl rfl) ?_
  refine Hd.yv (y_move rfl) ?_
  apply Hd.org 3 26 29 [(0, _), (1, _), (2, _), (3, _), (9, _)] rfl ⟨rfl, rfl, rfl, rfl, rfl, trivial⟩
  · intro hg2_26
    try simp only [decide_eq_true_eq, decide_eq_false_iff_not, Bool.and_eq_true, Bool.or_eq_true, Bool.and_eq_false_iff, Bool.or_eq_false_iff, Bool.not_eq_true', Bool.not_eq_false', Bool.not_eq_true, Bool.not_eq_false, Int.not_lt, Int.not_le, Decidable.not_not, ne_eq] at hg2_26
    simp only [List.take]
    refine Hd.ng rfl rfl rfl ?_
    refine Hd.ng rfl rfl rfl ?_
    first | (refine Hd.yv (y_pickT rfl rfl) ?_) | (refine Hd.yv (y_pickF rfl rfl) ?_) | (refine Hd.yv (y_pickb rfl rfl rfl) ?_) | (refine Hd.yv (y_pick rfl rfl rfl) ?_)
    refine Hd.nil ?_
    exact Hd.mend (by repeat (first | exact trivial | refine ⟨rfl, ?_⟩)) (Ent.sep enn)
  · intro hg2_26
    try simp only [decide_eq_true_eq, decide_eq_false_iff_not, Bool.and_eq_true, Bool.or_eq_true, Bool.and_eq_false_iff, Bool.or_eq_false_iff, Bool.not_eq_true', Bool.not_eq_false', Bool.not_eq_true, Bool.not_eq_false, Int.not_lt, Int.not_le, Decidable.not_not, ne_eq] at hg2_26
    simp only [List.take]
    refine Hd.yg rfl rfl (y_move rfl) ?_
    refine Hd.yg rfl rfl (y_gtr rfl rfl) ?_
    first | (refine Hd.yv (y_pickT rfl rfl) ?_) | (refine Hd.yv (y_pickF rfl rfl) ?_) | (refine Hd.yv (y_pickb rfl rfl rfl) ?_) | (refine Hd.yv (y_pick rfl rfl rfl) ?_)
    refine Hd.nil ?_
    exact Hd.mend (by repeat (first | exact trivial | refine ⟨rfl, ?_⟩)) (Ent.sep enn)
  simp only [List.drop]
  refine Hd.yv (y_move rfl) ?_
  apply Hd.org 4 30 34 [(0, _), (1, _), (2, _), (3, _), (9, _)] rfl ⟨rfl, rfl, rfl, rfl, rfl, trivial⟩
  · intro hg2_30
    try simp only [decide_eq_true_eq, decide_eq_false_iff_not, Bool.and_eq_true, Bool.or_eq_true, Bool.and_eq_false_iff, Bool.or_eq_false_iff, Bool.not_eq_true', Bool.not_eq_false', Bool.not_eq_true, Bool.not_eq_false, Int.not_lt, Int.not_le, Decidable.not_not, ne_eq] at hg2_30
    simp only [List.take]
    refine Hd.ng rfl rfl rfl ?_
    refine Hd.ng rfl rfl rfl ?_
    refine Hd.ng rfl rfl rfl ?_
    first | (refine Hd.yv (y_pickT rfl rfl) ?_) | (refine Hd.yv (y_pickF rfl rfl) ?_) | (refine Hd.yv (y_pickb rfl rfl rfl) ?_) | (refine Hd.yv (y_pick rfl rfl rfl) ?_)
    refine Hd.nil ?_
    exact Hd.mend (by repeat (first | exact trivial | refine ⟨rfl, ?_⟩)) (Ent.sep enn)
  · intro hg2_30
    try simp only [decide_eq_true_eq, decide_eq_false_iff_not, Bool.and_eq_true, Bool.or_eq_true, Bool.and_eq_false_iff, Bool.or_eq_false_iff, Bool.not_eq_true', Bool.not_eq_false', Bool.not_eq_true, Bool.not_eq_false, Int.not_lt, Int.not_le, Decidable.not_not, ne_eq] at hg2_30
    simp only [List.take]
    refine Hd.yg rfl rfl (y_move rfl) ?_
    refine Hd.yg rfl rfl (y_len Try.underlying39 rfl) ?_
    refine Hd.yg rfl rfl (y_gtr rfl rfl) ?_
    first | (refine Hd.yv (y_pickT rfl rfl) ?_) | (refine Hd.yv (y_pickF rfl rfl) ?_) | (refine Hd.yv (y_pickb rfl rfl rfl) ?_) | (refine Hd.yv (y_pick rfl rfl rfl) ?_)
    refine Hd.nil ?_
    exact Hd.mend (by repeat (first | exact trivial | refine ⟨rfl, ?_⟩)) (Ent.sep enn)
  simp only [List.drop]
  refine Hd.yv (y_move rfl) ?_
  apply Hd.org 4 35 39 [(0, _), (1, _), (2, _), (3, _), (9, _)] rfl ⟨rfl, rfl, rfl, rfl, rfl, trivial⟩
  · intro hg2_35
    try simp only [decide_eq_true_eq, decide_eq_false_iff_not, Bool.and_eq_true, Bool.or_eq_true, Bool.and_eq_false_iff, Bool.or_eq_false_iff, Bool.not_eq_true', Bool.not_eq_false', Bool.not_eq_true, Bool.not_eq_false, Int.not_lt, Int.not_le, Decidable.not_not, ne_eq] at hg2_35
    simp only [List.take]
    refine Hd.ng rfl rfl rfl ?_
    refine Hd.ng rfl rfl rfl ?_
    refine Hd.ng rfl rfl rfl ?_
    first | (refine Hd.yv (y_pickT rfl rfl) ?_) | (refine Hd.yv (y_pickF rfl rfl) ?_) | (refine Hd.yv (y_pickb rfl rfl rfl) ?_) | (refine Hd.yv (y_pick rfl rfl rfl) ?_)
    refine Hd.nil ?_
    exact Hd.mend (by repeat (first | exact trivial | refine ⟨rfl, ?_⟩)) (Ent.sep enn)
  · intro hg2_35
    try simp only [decide_eq_true_eq, decide_eq_false_iff_not, Bool.and_eq_true, Bool.or_eq_true, Bool.and_eq_false_iff, Bool.or_eq_false_iff, Bool.not_eq_true', Bool.not_eq_false', Bool.not_eq_true, Bool.not_eq_false, Int.not_lt, Int.not_le, Decidable.not_not, ne_eq] at hg2_35
    simp only [List.take]
    refine Hd.yg rfl rfl (y_move rfl) ?_
    refine Hd.yg rfl rfl (y_len Try.underlying39 rfl) ?_
    refine Hd.yg rfl rfl (y_gtr rfl rfl) ?_
    first | (refine Hd.yv (y_pickT rfl rfl) ?_) | (refine Hd.yv (y_pickF rfl rfl) ?_) | (refine Hd.yv (y_pickb rfl rfl rfl) ?_) | (refine Hd.yv (y_pick rfl rfl rfl) ?_)
    refine Hd.nil ?_
    exact Hd.mend (by repeat (first | exact trivial | refine ⟨rfl, ?_⟩)) (Ent.sep enn)
  simp only [List.drop]
  refine Hd.yv (y_move rfl) ?_
  apply Hd.org 3 40 43 [(0, _), (1, _), (2, _), (3, _), (9, _)] rfl ⟨rfl, rfl, rfl, rfl, rfl, trivial⟩
  · intro hg2_40
    try simp only [decide_eq_true_eq, decide_eq_false_iff_not, Bool.and_eq_true, Bool.or_eq_true, Bool.and_eq_false_iff, Bool.or_eq_false_iff, Bool.not_eq_true', Bool.not_eq_false', Bool.not_eq_true, Bool.not_eq_false, Int.not_lt, Int.not_le, Decidable.not_not, ne_eq] at hg2_40
    simp only [List.take]
    refine Hd.ng rfl rfl rfl ?_
    refine Hd.ng rfl rfl rfl ?_
    first | (refine Hd.yv (y_pickT rfl rfl) ?_) | (refine Hd.yv (y_pickF rfl rfl) ?_) | (refine Hd.yv (y_pickb rfl rfl rfl) ?_) | (refine Hd.yv (y_pick rfl rfl rfl) ?_)
    refine Hd.nil ?_
    exact Hd.mend (by repeat (first | exact trivial | refine ⟨rfl, ?_⟩)) (Ent.sep enn)
  · intro hg2_40
    try simp only [decide_eq_true_eq, decide_eq_false_iff_not, Bool.and_eq_true, Bool.or_eq_true, Bool.and_eq_false_iff, Bool.or_eq_false_iff, Bool.not_eq_true', Bool.not_eq_false', Bool.not_eq_true, Bool.not_eq_false, Int.not_lt, Int.not_le, Decidable.not_not, ne_eq] at hg2_40
    simp only [List.take]
    refine Hd.yg rfl rfl (y_move rfl) ?_
    refine Hd.yg rfl rfl (y_not rfl) ?_
    first | (refine Hd.yv (y_pickT rfl rfl) ?_) | (refine Hd.yv (y_pickF rfl rfl) ?_) | (refine Hd.yv (y_pickb rfl rfl rfl) ?_) | (refine Hd.yv (y_pick rfl rfl rfl) ?_)
    refine Hd.nil ?_
    exact Hd.mend (by repeat (first | exact trivial | refine ⟨rfl, ?_⟩)) (Ent.sep enn)
  simp only [List.drop]
  refine Hd.nil ?_
  refine Hd.slots [(0, _), (1, _), (2, _), (3, _), (9, _), (43, _)] ⟨rfl, rfl, rfl, rfl, rfl, rfl, trivial⟩ ?_
  refine Hd.toK hK4 ?_
  refine Hd.cond rfl (fun hc0 => ?_) (fun hc0 => ?_)
  ·
    try simp only [decide_eq_true_eq, decide_eq_false_iff_not, Bool.and_eq_true, Bool.or_eq_true, Bool.and_eq_false_iff, Bool.or_eq_false_iff, Bool.not_eq_true', Bool.not_eq_false', Bool.not_eq_true, Bool.not_eq_false, Int.not_lt, Int.not_le, Decidable.not_not, ne_eq] at hc0
    refine Hd.seq (fun K5 hK5 => ?_)
    refine Hd.region ?_
    refine Hd.yv (y_move rfl) ?_
    refine Hd.yv (y_assign rfl) ?_
    refine Hd.nil ?_
    refine Hd.slots [(8, _)] ⟨rfl, trivial⟩ ?_
    refine Hd.toK hK5 ?_
    refine Hd.ret ?_
    refine Hd.thenRet ?_
    clear hK1 hK2 hK3 hK4 hK5
    exact Hd.ret1 rfl () (by first | rfl | (simp only [*]; done) | (simp [*]; done)) (Ent.sep enn)
  ·
    try simp only [decide_eq_true_eq, decide_eq_false_iff_not, Bool.and_eq_true, Bool.or_eq_true, Bool.and_eq_false_iff, Bool.or_eq_false_iff, Bool.not_eq_true', Bool.not_eq_false', Bool.not_eq_true, Bool.not_eq_false, Int.not_lt, Int.not_le, Decidable.not_not, ne_eq] at hc0
    simp only [InK] at hnn
    have hcp : (1 ≤ cp ∧ cp ≤ 500) ∧ ins.length ≤ 300 ∧ outs.length ≤ 300 := by omega
    clear hc0
    obtain ⟨⟨hc1a, hc1b⟩, hil, hol⟩ := hcp
    obtain ⟨n, rfl⟩ : ∃ n : Nat, cp = (n : Int) := ⟨cp.toNat, by omega⟩
    obtain ⟨N, rfl⟩ : ∃ N : Nat, nn = (N : Int) := ⟨nn.toNat, by omega⟩
    have hN : N ≤ 255 := by omega
    obtain ⟨A, hA⟩ : ∃ A, A = ins.take n := ⟨_, rfl⟩
    have hAl : A.length ≤ 300 := by rw [hA, List.length_take]; omega
    have hP0 : PtI n A outs 0 (ptX outs) (ptW n ins) (ptL n ins) := by rw [hA]; exact pt_new hol
    have hgl : (A.take N).length ≤ 300 := by rw [List.length_take]; omega
    have hwl : (outs.take (min N n)).length ≤ 300 := by rw [List.length_take]; omega
    have hg5 : (A.take N).take 500 = A.take N := List.take_of_length_le (by omega)
    have hw5 : (outs.take (min N n)).take 500 = outs.take (min N n) := List.take_of_length_le (by omega)
    refine Hd.skip ?_
    refine Hd.toK hK3 ?_
    refine Hd.seq (fun K6 hK6 => ?_)
    refine Hd.region ?_
    refine Hd.alloc zr58 (fun b10 => ?_)
    refine Hd.nil ?_
    refine Hd.slots [(0, _), (1, _), (2, _), (3, _), (9, _), (10, _)] ⟨rfl, rfl, rfl, rfl, rfl, rfl, trivial⟩ ?_
    refine Hd.toK hK6 ?_
    refine Hd.seq (fun K7 hK7 => ?_)
    refine Hd.region ?_
    refine Hd.alloc zr58 (fun b11 => ?_)
    refine Hd.nil ?_
    refine Hd.slots [(0, _), (1, _), (2, _), (3, _), (9, _), (10, _), (11, _)] ⟨rfl, rfl, rfl, rfl, rfl, rfl, rfl, trivial⟩ ?_
    refine Hd.toK hK7 ?_
    refine Hd.seq (fun K8 hK8 => ?_)
    refine Hd.region ?_
    refine Hd.alloc zr60 (fun b12 => ?_)
    refine Hd.nil ?_
    refine Hd.slots [(0, _), (1, _), (2, _), (3, _), (9, _), (10, _), (11, _), (12, _)] ⟨rfl, rfl, rfl, rfl, rfl, rfl, rfl, rfl, trivial⟩ ?_
    refine Hd.toK hK8 ?_
    refine Hd.seq (fun K9 hK9 => ?_)
    refine Hd.seq (fun K10 hK10 => ?_)
    refine Hd.region ?_
    refine Hd.yv (y_assign rfl) ?_
    refine Hd.nil ?_
    refine Hd.slots [(0, _), (1, _), (2, _), (3, _), (9, _), (10, _), (11, _), (12, _), (13, _)] ⟨rfl, rfl, rfl, rfl, rfl, rfl, rfl, rfl, rfl, trivial⟩ ?_
    refine Hd.toK hK10 ?_
    refine Hd.block ?_
    refine Hd.loopK (ι := Nat) [(0, _), (1, _), (2, _), (3, _), (9, _), (10, _), (11, _), (12, _)] (fun k => [(13, .int .i64 (k : Int))]) (fun k => pu (k ≤ 2) :: pt b10 (two k (.string (str (A.take N))) (.string (str []))) 58 :: pt b11 (two k (.string (str (outs.take (min N n)))) (.string (str []))) 58 :: pt b12 (two2 k (.int .i64 ((A.take N).length : Int)) (.int .i64 ((outs.drop (min N n)).length : Int))) 60 :: L) (fun k => 2 - k) 0 (by repeat (first | exact trivial | refine ⟨rfl, ?_⟩)) (by repeat (first | exact trivial | refine ⟨rfl, ?_⟩)) (fun k' s => Ent.sep (.pure (by decide) (.eq pkk (pt_eq (by rfl)) (.eq pkk (pt_eq (by rfl)) (.eq pkk (pt_eq (by rfl)) enn)))) k' s) ?_
    intro k
    try dsimp only
    refine Hd.pure (fun hp0 => ?_)
    try dsimp only at hp0
    refine Hd.seq (fun K11 hK11 => ?_)
    refine Hd.seq (fun K12 hK12 => ?_)
    refine Hd.region ?_
    refine Hd.yv (y_move rfl) ?_
    refine Hd.yv (y_lss rfl rfl) ?_
    refine Hd.nil ?_
    refine Hd.slots [(0, _), (1, _), (2, _), (3, _), (9, _), (10, _), (11, _), (12, _), (13, _), (46, _)] ⟨rfl, rfl, rfl, rfl, rfl, rfl, rfl, rfl, rfl, rfl, trivial⟩ ?_
    refine Hd.toK hK12 ?_
    refine Hd.cond rfl (fun hc1 => ?_) (fun hc1 => ?_)
    ·
      try simp only [decide_eq_true_eq, decide_eq_false_iff_not, Bool.and_eq_true, Bool.or_eq_true, Bool.and_eq_false_iff, Bool.or_eq_false_iff, Bool.not_eq_true', Bool.not_eq_false', Bool.not_eq_true, Bool.not_eq_false, Int.not_lt, Int.not_le, Decidable.not_not, ne_eq] at hc1
      have hk : k < 2 := by omega
      refine Hd.skip ?_
      refine Hd.toK hK11 ?_
      refine Hd.seq (fun K13 hK13 => ?_)
      refine Hd.block ?_
      refine Hd.seq (fun K14 hK14 => ?_)
      refine Hd.region ?_
      refine Hd.callE rfl fk10 (wnew_ct _) (Ent.sep enn) ?_
      intro wb
      refine Hd.yv (y_assign rfl) ?_
      refine Hd.nil ?_
      refine Hd.slots [(0, _), (1, _), (2, _), (3, _), (9, _), (10, _), (11, _), (12, _), (13, _), (14, _)] ⟨rfl, rfl, rfl, rfl, rfl, rfl, rfl, rfl, rfl, rfl, trivial⟩ ?_
      refine Hd.toK hK14 ?_
      refine Hd.seq (fun K15 hK15 => ?_)
      refine Hd.region ?_
      refine Hd.yv (y_move rfl) ?_
      refine Hd.yv (y_move rfl) ?_
      refine Hd.callE rfl fk11 (pair_ct _ wb newA n (by omega) (by omega)) (Ent.sep enn) ?_
      intro _
      refine Hd.nil ?_
      refine Hd.slots [(0, _), (1, _), (2, _), (3, _), (9, _), (10, _), (11, _), (12, _), (13, _), (14, _)] ⟨rfl, rfl, rfl, rfl, rfl, rfl, rfl, rfl, rfl, rfl, trivial⟩ ?_
      refine Hd.toK hK15 ?_
      refine Hd.seq (fun K16 hK16 => ?_)
      refine Hd.region ?_
      refine Hd.yv (y_move rfl) ?_
      refine Hd.callE rfl fk12 (bnew_ct _ wb (pairA n) 0 (op_pr (pr_new n))) (Ent.sep enn) ?_
      intro b
      refine Hd.yv (y_move rfl) ?_
      refine Hd.yv (y_extract rfl rfl) ?_
      refine Hd.yv (y_extract rfl rfl) ?_
      refine Hd.yv (y_assign rfl) ?_
      refine Hd.yv (y_assign rfl) ?_
      refine Hd.nil ?_
      refine Hd.slots [(0, _), (1, _), (2, _), (3, _), (9, _), (10, _), (11, _), (12, _), (13, _), (14, _), (15, _), (16, _)] ⟨rfl, rfl, rfl, rfl, rfl, rfl, rfl, rfl, rfl, rfl, rfl, rfl, trivial⟩ ?_
      refine Hd.toK hK16 ?_
      refine Hd.seq (fun K17 hK17 => ?_)
      refine Hd.seq (fun K18 hK18 => ?_)
      refine Hd.region ?_
      refine Hd.yv (y_move rfl) ?_
      refine Hd.yv (y_to (y_neq rfl rfl) (congrArg Value.bool (decide_eq_false ((by simp))))) ?_
      refine Hd.nil ?_
      refine Hd.slots [(0, _), (1, _), (2, _), (3, _), (9, _), (10, _), (11, _), (12, _), (13, _), (14, _), (15, _), (59, _)] ⟨rfl, rfl, rfl, rfl, rfl, rfl, rfl, rfl, rfl, rfl, rfl, rfl, trivial⟩ ?_
      refine Hd.toK hK18 ?_
      refine Hd.condF rfl ?_
      refine Hd.skip ?_
      refine Hd.toK hK17 ?_
      refine Hd.seq (fun K19 hK19 => ?_)
      refine Hd.region ?_
      refine Hd.yv (y_move rfl) ?_
      refine Hd.callE rfl fk14 (enable_ct _ b wb (newB 0) (tm_new 0) 0 2 (by simp [InK])) (Ent.sep enn) ?_
      intro _
      refine Hd.nil ?_
      refine Hd.slots [(0, _), (1, _), (2, _), (3, _), (9, _), (10, _), (11, _), (12, _), (13, _), (14, _), (15, _)] ⟨rfl, rfl, rfl, rfl, rfl, rfl, rfl, rfl, rfl, rfl, rfl, trivial⟩ ?_
      refine Hd.toK hK19 ?_
      refine Hd.seq (fun K20 hK20 => ?_)
      refine Hd.region ?_
      refine Hd.yv (y_move rfl) ?_
      refine Hd.yv (y_move rfl) ?_
      refine Hd.callE rfl fk24 (wwrite_ct _ wb (pairA n) 1 ia ins.length ic ins rfl ?hI (by omega) hic) (Ent.sep enn) ?_
      case hI => exact RdS.mono hI (Ent.sep enn)
      intro _
      refine Hd.nil ?_
      refine Hd.slots [(0, _), (1, _), (2, _), (3, _), (9, _), (10, _), (11, _), (12, _), (13, _), (14, _), (15, _)] ⟨rfl, rfl, rfl, rfl, rfl, rfl, rfl, rfl, rfl, rfl, rfl, trivial⟩ ?_
      refine Hd.toK hK20 ?_
      refine Hd.seq (fun K21 hK21 => ?_)
      refine Hd.region ?_
      refine Hd.yv (y_move rfl) ?_
      refine Hd.yv (y_move rfl) ?_
      refine Hd.callE rfl fk19 (bwrite_ct _ b wb (enB (newB 0) 0 2) (bok_en (bok_new 0) (by simp [InK]) 2).tm 0 (by simp [InK]) oa outs.length oc outs rfl ?hO hoc (by omega)) (Ent.sep enn) ?_
      case hO => exact RdS.mono hO (Ent.sep enn)
      intro _
      refine Hd.nil ?_
      refine Hd.slots [(0, _), (1, _), (2, _), (3, _), (9, _), (10, _), (11, _), (12, _), (13, _), (14, _), (15, _)] ⟨rfl, rfl, rfl, rfl, rfl, rfl, rfl, rfl, rfl, rfl, rfl, trivial⟩ ?_
      refine Hd.toK hK21 ?_
      refine Hd.cutK (ι := BfA × WA × (Nat → List UInt8)) [(0, _), (1, _), (2, _), (3, _), (9, _), (10, _), (11, _), (12, _), (13, _), (14, _), (15, _)] (fun _ => []) (fun j => pu (PtI n A outs (if k = 0 then N else 0) j.1 j.2.1 j.2.2) :: BufP b wb j.1 :: WorldP wb j.2.1 :: pt b10 (two k (.string (str (A.take N))) (.string (str []))) 58 :: pt b11 (two k (.string (str (outs.take (min N n)))) (.string (str []))) 58 :: pt b12 (two2 k (.int .i64 ((A.take N).length : Int)) (.int .i64 ((outs.drop (min N n)).length : Int))) 60 :: L) ?_ ?_ ⟨rfl, rfl, rfl, rfl, rfl, rfl, rfl, rfl, rfl, rfl, rfl, trivial⟩
      ·
        refine Hd.seq (fun K22 hK22 => ?_)
        refine Hd.region ?_
        refine Hd.yv (y_move rfl) ?_
        first | (refine Hd.yv (y_eqlT rfl rfl) ?_) | (refine Hd.yv (y_eql rfl rfl) ?_)
        refine Hd.nil ?_
        refine Hd.slots [(0, _), (1, _), (2, _), (3, _), (9, _), (10, _), (11, _), (12, _), (13, _), (14, _), (15, _), (69, _)] ⟨rfl, rfl, rfl, rfl, rfl, rfl, rfl, rfl, rfl, rfl, rfl, rfl, trivial⟩ ?_
        refine Hd.toK hK22 ?_
        refine Hd.cond rfl (fun hc3 => ?_) (fun hc3 => ?_)
        ·
          try simp only [decide_eq_true_eq, decide_eq_false_iff_not, Bool.and_eq_true, Bool.or_eq_true, Bool.and_eq_false_iff, Bool.or_eq_false_iff, Bool.not_eq_true', Bool.not_eq_false', Bool.not_eq_true, Bool.not_eq_false, Int.not_lt, Int.not_le, Decidable.not_not, ne_eq] at hc3
          refine Hd.region ?_
          refine Hd.yv (y_move rfl) ?_
          refine Hd.yv (y_move rfl) ?_
          first | (refine Hd.yv (y_convn rfl Try.underlying5 Try.underlying3 (by simp only [InK]; omega)) ?_) | (refine Hd.yv (y_conv rfl Try.underlying5 Try.underlying3) ?_)
          refine Hd.yv (y_move rfl) ?_
          first | (refine Hd.yv (y_convn rfl Try.underlying5 Try.underlying3 (by simp only [InK]; omega)) ?_) | (refine Hd.yv (y_conv rfl Try.underlying5 Try.underlying3) ?_)
          refine Hd.callE rfl fk18 (step_ct _ b wb (ptX outs) (ptW n ins) hP0.ok.tm hP0.ok.hi 0 6 (N : Int) (N : Int) (by simp [InK]) (by omega) (by simp only [InK]; omega)) (Ent.sep enn) ?_
          intro _
          refine Hd.nil ?_
          refine Hd.slots [(0, _), (1, _), (2, _), (3, _), (9, _), (10, _), (11, _), (12, _), (13, _), (14, _), (15, _)] ⟨rfl, rfl, rfl, rfl, rfl, rfl, rfl, rfl, rfl, rfl, rfl, trivial⟩ ?_
          clear hK1 hK2 hK3 hK4 hK6 hK7 hK8 hK9 hK10 hK11 hK12 hK13 hK14 hK15 hK16 hK17 hK18 hK19 hK20 hK21 hK22
          refine Hd.thenN ?_
          have hk0 : k = 0 := by omega
          have h1 := hP0.step hAl N hN
          rw [Nat.zero_add] at h1
          exact Hd.meet (_, _, _) (by repeat (first | exact trivial | refine ⟨rfl, ?_⟩)) (Ent.sep (.pure (by rw [if_pos hk0]; exact h1) enn))
        ·
          try simp only [decide_eq_true_eq, decide_eq_false_iff_not, Bool.and_eq_true, Bool.or_eq_true, Bool.and_eq_false_iff, Bool.or_eq_false_iff, Bool.not_eq_true', Bool.not_eq_false', Bool.not_eq_true, Bool.not_eq_false, Int.not_lt, Int.not_le, Decidable.not_not, ne_eq] at hc3
          refine Hd.skip ?_
          clear hK1 hK2 hK3 hK4 hK6 hK7 hK8 hK9 hK10 hK11 hK12 hK13 hK14 hK15 hK16 hK17 hK18 hK19 hK20 hK21 hK22
          refine Hd.thenN ?_
          have hk0 : ¬ k = 0 := by omega
          exact Hd.meet (ptX outs, ptW n ins, ptL n ins) (by repeat (first | exact trivial | refine ⟨rfl, ?_⟩)) (Ent.sep (.pure (by rw [if_neg hk0]; exact hP0) enn))
      ·
        rintro ⟨x, w, l⟩
        dsimp only
        refine Hd.pure (fun hP => ?_)
        refine Hd.seq (fun K23 hK23 => ?_)
        refine Hd.seq (fun K24 hK24 => ?_)
        refine Hd.region ?_
        refine Hd.yv (y_assign rfl) ?_
        refine Hd.nil ?_
        refine Hd.slots [(0, _), (1, _), (2, _), (3, _), (9, _), (10, _), (11, _), (12, _), (13, _), (14, _), (15, _), (17, _)] ⟨rfl, rfl, rfl, rfl, rfl, rfl, rfl, rfl, rfl, rfl, rfl, rfl, trivial⟩ ?_
        refine Hd.toK hK24 ?_
        refine Hd.block ?_
        refine Hd.loopK (ι := Nat × BfA × WA × (Nat → List UInt8)) [(0, _), (1, _), (2, _), (3, _), (9, _), (10, _), (11, _), (12, _), (13, _), (14, _), (15, _)] (fun q_ => [(17, .int .i64 (q_.1 : Int))]) (fun q_ => pu (PtI n A outs (if k = 0 then N else q_.1) q_.2.1 q_.2.2.1 q_.2.2.2 ∧ q_.1 ≤ N) :: BufP b wb q_.2.1 :: WorldP wb q_.2.2.1 :: pt b10 (two k (.string (str (A.take N))) (.string (str []))) 58 :: pt b11 (two k (.string (str (outs.take (min N n)))) (.string (str []))) 58 :: pt b12 (two2 k (.int .i64 ((A.take N).length : Int)) (.int .i64 ((outs.drop (min N n)).length : Int))) 60 :: L) (fun q_ => N - q_.1) (0, x, w, l) (by repeat (first | exact trivial | refine ⟨rfl, ?_⟩)) (by repeat (first | exact trivial | refine ⟨rfl, ?_⟩)) (Ent.sep (.pure ⟨hP, Nat.zero_le _⟩ enn)) ?_
        rintro ⟨i, y, v, u⟩
        try dsimp only
        refine Hd.pure (fun hp1 => ?_)
        try dsimp only at hp1
        refine Hd.seq (fun K25 hK25 => ?_)
        refine Hd.seq (fun K26 hK26 => ?_)
        refine Hd.region ?_
        refine Hd.yv (y_move rfl) ?_
        refine Hd.yv (y_move rfl) ?_
        first | (refine Hd.yv (y_convn rfl Try.underlying5 Try.underlying3 (by simp only [InK]; omega)) ?_) | (refine Hd.yv (y_conv rfl Try.underlying5 Try.underlying3) ?_)
        refine Hd.yv (y_lss rfl rfl) ?_
        refine Hd.yv (y_move rfl) ?_
        apply Hd.andg 3 80 83 [(0, _), (1, _), (2, _), (3, _), (9, _), (10, _), (11, _), (12, _), (13, _), (14, _), (15, _), (17, _)] rfl ⟨rfl, rfl, rfl, rfl, rfl, rfl, rfl, rfl, rfl, rfl, rfl, rfl, trivial⟩
        · intro hg21_80
          try simp only [decide_eq_true_eq, decide_eq_false_iff_not, Bool.and_eq_true, Bool.or_eq_true, Bool.and_eq_false_iff, Bool.or_eq_false_iff, Bool.not_eq_true', Bool.not_eq_false', Bool.not_eq_true, Bool.not_eq_false, Int.not_lt, Int.not_le, Decidable.not_not, ne_eq] at hg21_80
          simp only [List.take]
          refine Hd.yg rfl rfl (y_move rfl) ?_
          first | (refine Hd.yg rfl rfl (y_eqlT rfl rfl) ?_) | (refine Hd.yg rfl rfl (y_eql rfl rfl) ?_)
          first | (refine Hd.yv (y_pickT rfl rfl) ?_) | (refine Hd.yv (y_pickF rfl rfl) ?_) | (refine Hd.yv (y_pickb rfl rfl rfl) ?_) | (refine Hd.yv (y_pick rfl rfl rfl) ?_)
          refine Hd.nil ?_
          exact Hd.mend (by repeat (first | exact trivial | refine ⟨rfl, ?_⟩)) (Ent.sep enn)
        · intro hg21_80
          try simp only [decide_eq_true_eq, decide_eq_false_iff_not, Bool.and_eq_true, Bool.or_eq_true, Bool.and_eq_false_iff, Bool.or_eq_false_iff, Bool.not_eq_true', Bool.not_eq_false', Bool.not_eq_true, Bool.not_eq_false, Int.not_lt, Int.not_le, Decidable.not_not, ne_eq] at hg21_80
          simp only [List.take]
          refine Hd.ng rfl rfl rfl ?_
          refine Hd.ng rfl rfl rfl ?_
          first | (refine Hd.yv (y_pickT rfl rfl) ?_) | (refine Hd.yv (y_pickF rfl rfl) ?_) | (refine Hd.yv (y_pickb rfl rfl rfl) ?_) | (refine Hd.yv (y_pick rfl rfl rfl) ?_)
          refine Hd.nil ?_
          exact Hd.mend (by repeat (first | exact trivial | refine ⟨rfl, ?_⟩)) (Ent.sep enn)
        simp only [List.drop]
        refine Hd.nil ?_
        refine Hd.slots [(0, _), (1, _), (2, _), (3, _), (9, _), (10, _), (11, _), (12, _), (13, _), (14, _), (15, _), (17, _), (83, _)] ⟨rfl, rfl, rfl, rfl, rfl, rfl, rfl, rfl, rfl, rfl, rfl, rfl, rfl, trivial⟩ ?_
        refine Hd.toK hK26 ?_
        refine Hd.cond rfl (fun hc4 => ?_) (fun hc4 => ?_)
        ·
          try simp only [decide_eq_true_eq, decide_eq_false_iff_not, Bool.and_eq_true, Bool.or_eq_true, Bool.and_eq_false_iff, Bool.or_eq_false_iff, Bool.not_eq_true', Bool.not_eq_false', Bool.not_eq_true, Bool.not_eq_false, Int.not_lt, Int.not_le, Decidable.not_not, ne_eq] at hc4
          obtain ⟨hQ, _⟩ := hp1
          have hk1 : ¬ k = 0 := by omega
          rw [if_neg hk1] at hQ
          refine Hd.skip ?_
          refine Hd.toK hK25 ?_
          refine Hd.seq (fun K27 hK27 => ?_)
          refine Hd.block ?_
          refine Hd.region ?_
          refine Hd.yv (y_move rfl) ?_
          refine Hd.callE rfl fk18 (step_ct _ b wb y v hQ.ok.tm hQ.ok.hi 0 6 1 1 (by simp [InK]) (by omega) (by simp [InK])) (Ent.sep enn) ?_
          intro _
          refine Hd.nil ?_
          refine Hd.slots [(0, _), (1, _), (2, _), (3, _), (9, _), (10, _), (11, _), (12, _), (13, _), (14, _), (15, _), (17, _)] ⟨rfl, rfl, rfl, rfl, rfl, rfl, rfl, rfl, rfl, rfl, rfl, rfl, trivial⟩ ?_
          refine Hd.inB ?_
          refine Hd.toK hK27 ?_
          refine Hd.region ?_
          refine Hd.yv (y_move rfl) ?_
          first | (refine Hd.yv (y_addn rfl rfl (by simp only [InK]; omega)) ?_) | (refine Hd.yv (y_add rfl rfl) ?_)
          refine Hd.yv (y_assign rfl) ?_
          refine Hd.nil ?_
          refine Hd.slots [(0, _), (1, _), (2, _), (3, _), (9, _), (10, _), (11, _), (12, _), (13, _), (14, _), (15, _), (17, _)] ⟨rfl, rfl, rfl, rfl, rfl, rfl, rfl, rfl, rfl, rfl, rfl, rfl, trivial⟩ ?_
          clear hK1 hK2 hK3 hK4 hK6 hK7 hK8 hK9 hK10 hK11 hK12 hK13 hK14 hK15 hK16 hK17 hK18 hK19 hK20 hK21 hK23 hK24 hK25 hK26 hK27
          refine Hd.thenN ?_
          have h1 := hQ.step hAl 1 (by omega)
          exact Hd.again (i + 1, _, _, _) (by first | omega | (simp only; omega) | (simp; omega)) (by repeat (first | exact trivial | refine ⟨rfl, ?_⟩)) (Ent.sep (.pure ⟨by rw [if_neg hk1]; exact h1, by omega⟩ enn))
        ·
          try simp only [decide_eq_true_eq, decide_eq_false_iff_not, Bool.and_eq_true, Bool.or_eq_true, Bool.and_eq_false_iff, Bool.or_eq_false_iff, Bool.not_eq_true', Bool.not_eq_false', Bool.not_eq_true, Bool.not_eq_false, Int.not_lt, Int.not_le, Decidable.not_not, ne_eq] at hc4
          obtain ⟨hQ0, _⟩ := hp1
          have hQ : PtI n A outs N y v u := by
            by_cases hk0 : k = 0
            · rw [if_pos hk0] at hQ0; exact hQ0
            · rw [if_neg hk0] at hQ0
              have : i = N := by omega
              rw [this] at hQ0; exact hQ0
          have e1 := hQ.c0
          have e2 := hQ.c1
          have e3 := hQ.l1
          have e4 : readA y 500 = A.take N := by rw [(readB_c y 500).2.2.2.2.1, e1]; exact hg5
          have hr := (readR_pr hQ.w (k := 1) (by omega) 500).1
          rw [show ((1 : Nat) : Int) = 1 from rfl] at hr
          have e5 : (readR v 1 500).1.1 = outs.take (min N n) := by
            rw [hr]
            unfold rdV
            rw [if_neg (by omega)]
            by_cases h0 : u 1 = []
            · rw [if_pos h0, ← e3, h0]
            · rw [if_neg h0, e3]; exact hw5
          refine Hd.exit ?_
          refine Hd.thenExit ?_
          refine Hd.thenExit ?_
          refine Hd.inBexit ?_
          refine Hd.toK hK23 ?_
          refine Hd.seq (fun K28 hK28 => ?_)
          refine Hd.region ?_
          refine Hd.yv (y_move rfl) ?_
          refine Hd.callE rfl fk17 (lens_ct _ b wb y) (Ent.sep enn) ?_
          intro _
          rw [e1, e2]
          refine Hd.yv (y_move rfl) ?_
          refine Hd.yv (y_extract rfl rfl) ?_
          refine Hd.yv (y_extract rfl rfl) ?_
          refine Hd.yv (y_assign rfl) ?_
          refine Hd.yv (y_assign rfl) ?_
          refine Hd.nil ?_
          refine Hd.slots [(0, _), (1, _), (2, _), (3, _), (9, _), (10, _), (11, _), (12, _), (13, _), (14, _), (15, _), (18, _), (19, _)] ⟨rfl, rfl, rfl, rfl, rfl, rfl, rfl, rfl, rfl, rfl, rfl, rfl, rfl, trivial⟩ ?_
          refine Hd.toK hK28 ?_
          refine Hd.seq (fun K29 hK29 => ?_)
          refine Hd.region ?_
          refine Hd.yv (y_move rfl) ?_
          refine Hd.yv (y_move rfl) ?_
          refine Hd.yv (y_move rfl) ?_
          refine Hd.yv (y_build (vs := [(0, _), (1, _)]) rfl (by first | exact bd5_96 .. | kernel_rfl)) ?_
          refine Hd.yv (y_idxA Try.underlying60 sz59 rfl rfl (by first | omega | decide)) ?_
          refine Hd.store (us := [_, _]) sz59 rfl rfl rfl (by simp [Value.oneCell']) pkk (by simp; omega) ?_
          refine Hd.nil ?_
          refine Hd.slots [(0, _), (1, _), (2, _), (3, _), (9, _), (10, _), (11, _), (12, _), (13, _), (14, _), (15, _)] ⟨rfl, rfl, rfl, rfl, rfl, rfl, rfl, rfl, rfl, rfl, rfl, trivial⟩ ?_
          refine Hd.toK hK29 ?_
          refine Hd.seq (fun K30 hK30 => ?_)
          refine Hd.region ?_
          refine Hd.yv (y_move rfl) ?_
          refine Hd.yv (y_move rfl) ?_
          refine Hd.callE rfl fk16 (bread_ct _ b wb y 500 (by omega)) (Ent.sep enn) ?_
          rintro ⟨a5, c5⟩
          dsimp only
          rw [e4]
          refine Hd.yv (y_strOf (l := _) (by kernel_rfl) Try.underlying9 rfl (by (first | exact RdS.own pkk))) ?_
          refine Hd.yv (y_idxA Try.underlying58 sz9 rfl rfl (by first | omega | decide)) ?_
          first | (refine Hd.store1 sz9 rfl rfl rfl pkk (by first | decide | (simp; done) | (simp; omega)) ?_) | (refine Hd.storeG1 sz9 rfl rfl rfl pkk (by first | decide | (simp; done) | (simp; omega)) ?_) | (refine Hd.storeO1 sz9 rfl rfl rfl pkk (by first | omega | (simp; done) | (simp; omega)) ?_) | (refine Hd.storeK1 sz9 rfl rfl rfl pkk (by decide) (by first | decide | (simp; done) | (simp; omega)) ?_)
          try simp only [List.set_cons_zero, List.set_cons_succ]
          refine Hd.nil ?_
          refine Hd.slots [(0, _), (1, _), (2, _), (3, _), (9, _), (10, _), (11, _), (12, _), (13, _), (14, _)] ⟨rfl, rfl, rfl, rfl, rfl, rfl, rfl, rfl, rfl, rfl, trivial⟩ ?_
          refine Hd.toK hK30 ?_
          refine Hd.seq (fun K31 hK31 => ?_)
          refine Hd.region ?_
          refine Hd.yv (y_move rfl) ?_
          refine Hd.callE rfl fk25 (wread_ct _ wb v 1 500) (Ent.sep enn) ?_
          rintro ⟨a6, c6⟩
          rw [e5]
          dsimp only
          refine Hd.yv (y_move rfl) ?_
          refine Hd.yv (y_extract rfl rfl) ?_
          refine Hd.yv (y_extract rfl rfl) ?_
          refine Hd.yv (y_extract rfl rfl) ?_
          refine Hd.yv (y_assign rfl) ?_
          refine Hd.yv (y_assign rfl) ?_
          refine Hd.yv (y_assign rfl) ?_
          refine Hd.nil ?_
          refine Hd.slots [(0, _), (1, _), (2, _), (3, _), (9, _), (10, _), (11, _), (12, _), (13, _), (20, _)] ⟨rfl, rfl, rfl, rfl, rfl, rfl, rfl, rfl, rfl, rfl, trivial⟩ ?_
          refine Hd.toK hK31 ?_
          refine Hd.region ?_
          refine Hd.yv (y_move rfl) ?_
          refine Hd.yv (y_move rfl) ?_
          refine Hd.yv (y_strOf (l := _) (by kernel_rfl) Try.underlying9 rfl (by (first | exact RdS.own pkk))) ?_
          refine Hd.yv (y_idxA Try.underlying58 sz9 rfl rfl (by first | omega | decide)) ?_
          first | (refine Hd.store1 sz9 rfl rfl rfl pkk (by first | decide | (simp; done) | (simp; omega)) ?_) | (refine Hd.storeG1 sz9 rfl rfl rfl pkk (by first | decide | (simp; done) | (simp; omega)) ?_) | (refine Hd.storeO1 sz9 rfl rfl rfl pkk (by first | omega | (simp; done) | (simp; omega)) ?_) | (refine Hd.storeK1 sz9 rfl rfl rfl pkk (by decide) (by first | decide | (simp; done) | (simp; omega)) ?_)
          try simp only [List.set_cons_zero, List.set_cons_succ]
          refine Hd.nil ?_
          refine Hd.slots [(0, _), (1, _), (2, _), (3, _), (9, _), (10, _), (11, _), (12, _), (13, _)] ⟨rfl, rfl, rfl, rfl, rfl, rfl, rfl, rfl, rfl, trivial⟩ ?_
          refine Hd.inB ?_
          refine Hd.toK hK13 ?_
          refine Hd.region ?_
          refine Hd.yv (y_move rfl) ?_
          first | (refine Hd.yv (y_addn rfl rfl (by simp only [InK]; omega)) ?_) | (refine Hd.yv (y_add rfl rfl) ?_)
          refine Hd.yv (y_assign rfl) ?_
          refine Hd.nil ?_
          refine Hd.slots [(0, _), (1, _), (2, _), (3, _), (9, _), (10, _), (11, _), (12, _), (13, _)] ⟨rfl, rfl, rfl, rfl, rfl, rfl, rfl, rfl, rfl, trivial⟩ ?_
          clear hK1 hK2 hK3 hK4 hK6 hK7 hK8 hK9 hK10 hK11 hK12 hK13 hK14 hK15 hK16 hK17 hK18 hK19 hK20 hK21 hK23 hK24 hK25 hK26 hK28 hK29 hK30 hK31
          refine Hd.thenN ?_
          exact Hd.again (k + 1) (by first | omega | (simp only; omega) | (simp; omega)) (by repeat (first | exact trivial | refine ⟨rfl, ?_⟩)) (Ent.sep (.pure hk (.eq pkk (pt_eq (two_set hk _ _)) (.eq pkk (pt_eq (two_set hk _ _)) (.eq pkk (pt_eq (two2_set hk _ _)) enn)))))
    ·
      try simp only [decide_eq_true_eq, decide_eq_false_iff_not, Bool.and_eq_true, Bool.or_eq_true, Bool.and_eq_false_iff, Bool.or_eq_false_iff, Bool.not_eq_true', Bool.not_eq_false', Bool.not_eq_true, Bool.not_eq_false, Int.not_lt, Int.not_le, Decidable.not_not, ne_eq] at hc1
      obtain rfl : k = 2 := by omega
      refine Hd.exit ?_
      refine Hd.thenExit ?_
      refine Hd.thenExit ?_
      refine Hd.inBexit ?_
      refine Hd.toK hK9 ?_
      refine Hd.seq (fun K32 hK32 => ?_)
      refine Hd.region ?_
      refine Hd.yv (y_move rfl) ?_
      refine Hd.yv (y_move rfl) ?_
      refine Hd.yg rfl rfl (y_idxA Try.underlying60 sz59 rfl rfl (by first | omega | decide)) ?_
      first | (refine Hd.yg rfl rfl (y_loadn (us := [_, _]) ag59 rfl (Rd.pt pkk (by (first | (intro j v e; rcases j with _|_|_|_|_|_|_|_|_|_|_|_|j <;> first | exact e | exact absurd e (by simp))))) (by exact sz59)) ?_) | (refine Hd.yg rfl rfl (y_loadn (us := [_, _]) ag59 rfl (Rd.seg pkk (by (first | (intro j v e; rcases j with _|_|_|_|_|_|_|_|_|_|_|_|j <;> first | exact e | exact absurd e (by simp))))) (by exact sz59)) ?_) | (refine Hd.yg rfl rfl (y_loadRn ag59 rfl (by (first | exact RdS.own pkk)) (by (first | (intro j v e; rcases j with _|_|_|_|_|_|_|_|_|_|_|_|j <;> first | exact e | exact absurd e (by simp)))) (by exact sz59) (by simp)) ?_)
      refine Hd.yg rfl rfl (y_idxA Try.underlying60 sz59 rfl rfl (by first | omega | decide)) ?_
      first | (refine Hd.yg rfl rfl (y_loadn (us := [_, _]) ag59 rfl (Rd.pt pkk (by (first | (intro j v e; rcases j with _|_|_|_|_|_|_|_|_|_|_|_|j <;> first | exact e | exact absurd e (by simp))))) (by exact sz59)) ?_) | (refine Hd.yg rfl rfl (y_loadn (us := [_, _]) ag59 rfl (Rd.seg pkk (by (first | (intro j v e; rcases j with _|_|_|_|_|_|_|_|_|_|_|_|j <;> first | exact e | exact absurd e (by simp))))) (by exact sz59)) ?_) | (refine Hd.yg rfl rfl (y_loadRn ag59 rfl (by (first | exact RdS.own pkk)) (by (first | (intro j v e; rcases j with _|_|_|_|_|_|_|_|_|_|_|_|j <;> first | exact e | exact absurd e (by simp)))) (by exact sz59) (by simp)) ?_)
      refine Hd.yg rfl rfl (y_to (v' := .bool true) (y_eql_nest rfl rfl eqn59 rfl ⟨rfl, rfl⟩) (by (simp [allEq, eqv]))) ?_
      first | (refine Hd.yv (y_pickT rfl rfl) ?_) | (refine Hd.yv (y_pickF rfl rfl) ?_) | (refine Hd.yv (y_pickb rfl rfl rfl) ?_) | (refine Hd.yv (y_pick rfl rfl rfl) ?_)
      refine Hd.yv (y_move rfl) ?_
      refine Hd.yg rfl rfl (y_idxA Try.underlying58 sz9 rfl rfl (by first | omega | decide)) ?_
      first | (refine Hd.yg rfl rfl (y_load1 ag9 rfl (Rd.pt1 pkk (by (first | rfl)))) ?_) | (refine Hd.yg rfl rfl (y_load1 ag9 rfl (Rd.seg1 pkk (by (first | rfl)))) ?_) | (refine Hd.yg rfl rfl (y_load1 ag9 rfl (Rd.segK1 pkk (by decide) (by (first | rfl)))) ?_) | (refine Hd.yg rfl rfl (y_loadR1 ag9 rfl (by (first | exact RdS.own pkk)) (by (first | rfl))) ?_)
      refine Hd.yg rfl rfl (y_idxA Try.underlying58 sz9 rfl rfl (by first | omega | decide)) ?_
      first | (refine Hd.yg rfl rfl (y_load1 ag9 rfl (Rd.pt1 pkk (by (first | rfl)))) ?_) | (refine Hd.yg rfl rfl (y_load1 ag9 rfl (Rd.seg1 pkk (by (first | rfl)))) ?_) | (refine Hd.yg rfl rfl (y_load1 ag9 rfl (Rd.segK1 pkk (by decide) (by (first | rfl)))) ?_) | (refine Hd.yg rfl rfl (y_loadR1 ag9 rfl (by (first | exact RdS.own pkk)) (by (first | rfl))) ?_)
      refine Hd.yg rfl rfl (y_to (y_eqlstr rfl rfl) (congrArg Value.bool (decide_eq_true (rfl)))) ?_
      first | (refine Hd.yv (y_pickT rfl rfl) ?_) | (refine Hd.yv (y_pickF rfl rfl) ?_) | (refine Hd.yv (y_pickb rfl rfl rfl) ?_) | (refine Hd.yv (y_pick rfl rfl rfl) ?_)
      refine Hd.yv (y_move rfl) ?_
      refine Hd.yg rfl rfl (y_idxA Try.underlying58 sz9 rfl rfl (by first | omega | decide)) ?_
      first | (refine Hd.yg rfl rfl (y_load1 ag9 rfl (Rd.pt1 pkk (by (first | rfl)))) ?_) | (refine Hd.yg rfl rfl (y_load1 ag9 rfl (Rd.seg1 pkk (by (first | rfl)))) ?_) | (refine Hd.yg rfl rfl (y_load1 ag9 rfl (Rd.segK1 pkk (by decide) (by (first | rfl)))) ?_) | (refine Hd.yg rfl rfl (y_loadR1 ag9 rfl (by (first | exact RdS.own pkk)) (by (first | rfl))) ?_)
      refine Hd.yg rfl rfl (y_idxA Try.underlying58 sz9 rfl rfl (by first | omega | decide)) ?_
      first | (refine Hd.yg rfl rfl (y_load1 ag9 rfl (Rd.pt1 pkk (by (first | rfl)))) ?_) | (refine Hd.yg rfl rfl (y_load1 ag9 rfl (Rd.seg1 pkk (by (first | rfl)))) ?_) | (refine Hd.yg rfl rfl (y_load1 ag9 rfl (Rd.segK1 pkk (by decide) (by (first | rfl)))) ?_) | (refine Hd.yg rfl rfl (y_loadR1 ag9 rfl (by (first | exact RdS.own pkk)) (by (first | rfl))) ?_)
      refine Hd.yg rfl rfl (y_to (y_eqlstr rfl rfl) (congrArg Value.bool (decide_eq_true (rfl)))) ?_
      first | (refine Hd.yv (y_pickT rfl rfl) ?_) | (refine Hd.yv (y_pickF rfl rfl) ?_) | (refine Hd.yv (y_pickb rfl rfl rfl) ?_) | (refine Hd.yv (y_pick rfl rfl rfl) ?_)
      refine Hd.yv (y_assign rfl) ?_
      refine Hd.nil ?_
      refine Hd.slots [(8, _)] ⟨rfl, trivial⟩ ?_
      refine Hd.toK hK32 ?_
      refine Hd.ret ?_
      clear hK1 hK2 hK3 hK4 hK6 hK7 hK8 hK9 hK10 hK11 hK12 hK32
      exact Hd.ret1 rfl () (by first | rfl | (simp only [*]; done) | (simp [*]; done)) (Ent.sep enn)
end Bu
end Go.Proofs.Ytmpemhbfgbochaa
namespace Go.RX
set_option linter.unusedSimpArgs false
set_option linter.unusedVariables false
set_option linter.unnecessarySimpa false
def u8of (i : Int) : UInt8 := UInt8.ofNat i.toNat
theorem B_u8of {i : Int} (h : InK .u8 i) : B (u8of i) = .int .u8 i := by
  simp only [InK] at h
  have : ((u8of i).toNat : Int) = i := by
    unfold u8of
    have h1 : i.toNat < 256 := by omega
    simp only [UInt8.toNat_ofNat']
    omega
  rw [B, this]
theorem map_u8of {l : List Int} (h : ∀ y ∈ l, InK .u8 y) : (l.map u8of).map B = l.map (Value.int .u8) := by
  rw [List.map_map]
  exact List.map_congr_left fun y hy => B_u8of (h y hy)
theorem rd_u8 {W : World} {x : (Sh.slice (.int .u8)).T} (h : (Sh.slice (.int .u8)).ok W x) : RdS [Old W] 1 x.ad (x.l.map u8of).length ((x.l.map u8of).map B) := by
  rw [map_u8of h.2.2.2.2, List.length_map]
  exact rd_int h
end Go.RX
namespace Go.Proofs.Ytmpemhbfgbochaa
set_option linter.unusedSimpArgs false
set_option linter.unusedVariables false
set_option linter.unnecessarySimpa false
open Go.RX Go.ChangeShapes Go.WideShapes Go.ChangeAt Go.RowKit
theorem Try.own : ownKnob Try.prog.godebug = none := by kernel_rfl
theorem Try.laidOut : laidOutB Try.prog = true := by kernel_rfl
set_option maxRecDepth 100000 in
theorem BufevParts_lifted (os : Os) (started : os.Started) (H : Type) (enc : TypeId × Value → H) :
    ReturnsInHanded {} Try.checked os 5 .any (Rows.bufevPartsSpec.pre6 enc Try.prog Try.f5 Rows.bufevPartsRow.domain false) (Rows.bufevPartsSpec.post enc Try.prog Try.f5 false true false false) := by
  refine returnsInHanded_of_change (C := Try.checked) Try.own started (by kernel_rfl) Try.func5
    (ChangeSpec.witness6 (enc := enc) (C := Try.checked) false ⟨#[], #[.int .i64 0, .slice none 0 0, .slice none 0 0, .int .u8 0], []⟩ 8 (by kernel_rfl) (by kernel_rfl) (by kernel_rfl) (by kernel_rfl)) ?_
  intro W base args ds gs before hval0 hW hcnd _
  have hval : ∀ (j : Nat) t v, Try.f5.params[j]? = some t → args[j]? = some v → Value.okWide Try.prog W .any base t v := hval0
  have hW' := hW
  obtain ⟨p, q, hA0, hV, rfl, hfz, hnd⟩ := hW
  have hA : DataW.TrodAll enc Try.prog W 0 (fun _ => true) true Try.f5.params.toList args.toList ds p := hA0
  obtain ⟨rfl, rfl⟩ := trodVars_none hV
  simp only [List.append_nil] at hW'
  have hA1 := hA
  rw [Try.params5] at hA hval
  obtain ⟨v0, l0, d0, ds0, p0, q0, ha0, rfl, rfl, h0, hA⟩ := trodAll_cons hA
  obtain ⟨v1, l1, d1, ds1, p1, q1, rfl, rfl, rfl, h1, hA⟩ := trodAll_cons hA
  obtain ⟨v2, l2, d2, ds2, p2, q2, rfl, rfl, rfl, h2, hA⟩ := trodAll_cons hA
  obtain ⟨v3, l3, d3, ds3, p3, q3, rfl, rfl, rfl, h3, hA⟩ := trodAll_cons hA
  obtain ⟨rfl, rfl, rfl⟩ := trodAll_nil hA
  obtain rfl : args = #[v0, v1, v2, v3] := by cases args; simp_all
  obtain ⟨x0, e0, o0⟩ := open_arg (s := .int .i64) (by kernel_rfl) (hval 0 _ _ rfl rfl) h0
  have e0 := okW_one (s := .int .i64) (by kernel_rfl) rfl (hval 0 _ _ rfl rfl) e0
  simp only [Sh.enc, List.cons.injEq, and_true] at e0
  subst e0
  obtain ⟨x1, e1, o1⟩ := open_arg (s := .slice (.int .u8)) (by kernel_rfl) (hval 1 _ _ rfl rfl) h1
  have e1 := okW_one (s := .slice (.int .u8)) (by kernel_rfl) rfl (hval 1 _ _ rfl rfl) e1
  simp only [Sh.enc, List.cons.injEq, and_true] at e1
  subst e1
  obtain ⟨x2, e2, o2⟩ := open_arg (s := .slice (.int .u8)) (by kernel_rfl) (hval 2 _ _ rfl rfl) h2
  have e2 := okW_one (s := .slice (.int .u8)) (by kernel_rfl) rfl (hval 2 _ _ rfl rfl) e2
  simp only [Sh.enc, List.cons.injEq, and_true] at e2
  subst e2
  obtain ⟨x3, e3, o3⟩ := open_arg (s := .int .u8) (by kernel_rfl) (hval 3 _ _ rfl rfl) h3
  have e3 := okW_one (s := .int .u8) (by kernel_rfl) rfl (hval 3 _ _ rfl rfl) e3
  simp only [Sh.enc, List.cons.injEq, and_true] at e3
  subst e3
  refine (law_calls (by have := Bu.bparts_ct [Old W] x0 x1.ad x1.cap (x1.l.map u8of) (rd_u8 o1) (by rw [List.length_map]; exact o1.2.1) x2.ad x2.cap (x2.l.map u8of) (rd_u8 o2) (by rw [List.length_map]; exact o2.2.1) x3 o3; rwa [List.length_map, List.length_map] at this)).mono fun e W' ⟨he, hb⟩ => ?_
  subst he
  exact ⟨_, rfl, law_post Try.laidOut rfl Try.underlying4 rfl rfl (of_decide_eq_true (by kernel_rfl)) hW' hA1 hb⟩
theorem BufevParts_holds : Rows.BufevPartsSaid :=
  OpenClaim.holds_of_wide 5 Try.f5 rfl rfl rfl rfl rfl rfl rfl ⟨rfl, rfl, rfl, rfl, rfl⟩ rfl rfl rfl rfl rfl (by kernel_rfl) Try.func5 (by kernel_rfl)
    (of_decide_eq_true (by kernel_rfl)) (by unfold Func.isWrapper; first | (rw [if_pos (by decide +kernel)]; kernel_rfl) | (rw [if_neg (by decide +kernel)]; exact ⟨rfl, rfl⟩))
    (fun os started H enc _ => BufevParts_lifted os started H enc)
end Go.Proofs.Ytmpemhbfgbochaa
