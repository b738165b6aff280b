/-
  More laws over Rx1's judgement: rounds of a loop counted out, scopes, further operations. No program is named here.
-/
import Derived.Test.YtkgkfjhfedjnpaaRx4
import Derived.LoopNIn
namespace Go.RX
set_option linter.unusedSimpArgs false
set_option linter.unusedVariables false
set_option linter.unnecessarySimpa false
section
variable {E : World} {n : Nat} {ds : List Deferred} {st st' : List (Nat × Value)} {L L' : List SP} {r : Option Nat} {P : Program} {Q : Exit → Act → World → Prop} {ops : Array Oper} {rest : List Oper}
variable {d : Nat} {ty t t2 : TypeId} {pos : String} {af : Array Edge} {g : Option (Nat × Bool)} {x y z : Operand} {v u : Value} {k : IntKind} {p q : Bool}

/-- A loop's first k rounds, one behind the other. -/
theorem Hd.rounds {c : Code} (k : Nat) (h : Hd E n ds st L (Code.roundsIn (FW r) 0 P c Q k)) : Hd E n ds st L (CW r P (.loop c) Q) := fun a w f s => wpIn_loop_rounds k (h a w f s)
theorem Hd.roundS {c : Code} {k : Nat} (h : Hd E n ds st L (CW r P c (Exit.then (Code.roundsIn (FW r) 0 P c Q k) Q))) : Hd E n ds st L (Code.roundsIn (FW r) 0 P c Q (k + 1)) := h
theorem Hd.roundN {c : Code} {k : Nat} (h : Hd E n ds st L (CW r P c (Exit.then (Code.roundsIn (FW r) 0 P c Q k) Q))) : Hd E n ds st L ((Exit.then (Code.roundsIn (FW r) 0 P c Q (k + 1)) Q) .normal) := h

/-- two frames made one by a test -/
inductive Mrg (t : Bool) : List (Nat × Value) → List (Nat × Value) → List (Nat × Value) → Prop
  | nil : Mrg t [] [] []
  | same {a b c : List (Nat × Value)} {d : Nat} {v : Value} (h : Mrg t a b c) : Mrg t ((d, v) :: a) ((d, v) :: b) ((d, v) :: c)
  | int {a b c : List (Nat × Value)} {d : Nat} {k : IntKind} {x y : Int} (h : Mrg t a b c) : Mrg t ((d, .int k x) :: a) ((d, .int k y) :: b) ((d, .int k (bif t then x else y)) :: c)
  | bool {a b c : List (Nat × Value)} {d : Nat} {x y : Bool} (h : Mrg t a b c) : Mrg t ((d, .bool x) :: a) ((d, .bool y) :: b) ((d, .bool (bif t then x else y)) :: c)
theorem Mrg.look {t : Bool} {a b c : List (Nat × Value)} (h : Mrg t a b c) : ∀ d v, RX.look c d = some v → (t = true → RX.look a d = some v) ∧ (t = false → RX.look b d = some v) := by
  induction h with
  | nil => intro d v e; cases e
  | same h ih =>
    rename_i a b c d' v'
    intro d v e
    simp only [RX.look] at e ⊢
    cases hb : Nat.beq d' d with
    | true => rw [hb] at e; simp at e; subst e; constructor <;> intro ht <;> simp
    | false => rw [hb] at e; simpa using ih d v (by simpa using e)
  | int h ih =>
    rename_i a b c d' k x y
    intro d v e
    simp only [RX.look] at e ⊢
    cases hb : Nat.beq d' d with
    | true => rw [hb] at e; simp at e; subst e; constructor <;> intro ht <;> subst ht <;> simp
    | false => rw [hb] at e; simpa using ih d v (by simpa using e)
  | bool h ih =>
    rename_i a b c d' x y
    intro d v e
    simp only [RX.look] at e ⊢
    cases hb : Nat.beq d' d with
    | true => rw [hb] at e; simp at e; subst e; constructor <;> intro ht <;> subst ht <;> simp
    | false => rw [hb] at e; simpa using ih d v (by simpa using e)
/-- Two ways meet again: a slot holds what the test says. -/
theorem Hd.mergeK {K : Act → World → Prop} {c : Operand} {X Y : Code} {t : Bool} (s1 s2 : List (Nat × Value)) {s3 : List (Nat × Value)} (hc : evo st c = some (.bool t))
    (hT : t = true → Hd E n ds st L (CW r P X (Exit.then (fun a w => Fr n ds s1 a ∧ Sat E L' w) (Exit.then K Q))))
    (hF : t = false → Hd E n ds st L (CW r P Y (Exit.then (fun a w => Fr n ds s2 a ∧ Sat E L' w) (Exit.then K Q))))
    (hm : Mrg t s1 s2 s3) (hZ : Hd E n ds s3 L' K) : Hd E n ds st L (CW r P (.cond c X Y) (Exit.then K Q)) := by
  intro a w f s
  have key : (Code.cond c X Y).wpIn (FW r) 0 P (Exit.then (fun a w => Fr n ds s3 a ∧ Sat E L' w) (Exit.then K Q)) a w := by
    refine wpIn_cond_split (f.ev hc) (fun e => Go.wpIn_mono (hT e a w f s) ?_) (fun e => Go.wpIn_mono (hF e a w f s) ?_)
    all_goals
      intro e' a' w' hq
      cases e' with
      | normal => exact ⟨hq.1.weak fun d v el => (by first | exact (hm.look d v el).1 e | exact (hm.look d v el).2 e), hq.2⟩
      | exit id => exact hq
      | goto l => exact hq
      | ret => exact hq
      | panic ch => exact hq
      | outgrown => exact hq
  refine Go.wpIn_mono key ?_
  intro e a' w' hq
  cases e with
  | normal => exact hZ a' w' hq.1 hq.2
  | exit id => exact hq
  | goto l => exact hq
  | ret => exact hq
  | panic ch => exact hq
  | outgrown => exact hq
theorem Hd.thenN {K : Act → World → Prop} (h : Hd E n ds st L K) : Hd E n ds st L ((Exit.then K Q) .normal) := h
theorem Hd.toK0 {K' K : Act → World → Prop} (hK : ∀ a w, K' a w → K a w) (h : Hd E n ds st L K') : Hd E n ds st L K := fun a w f s => hK a w (h a w f s)
theorem Hd.mend0 {st' : List (Nat × Value)} (hs : sub st st') (hl : ∀ k, sep L k → sep L' k) : Hd E n ds st L (fun a w => Fr n ds st' a ∧ Sat E L' w) := fun _ _ f s => ⟨f.sub hs, s.mp hl⟩
theorem Hd.mend {st' : List (Nat × Value)} (hs : sub st st') (hl : ∀ k, sep L k → sep L' k) : Hd E n ds st L ((Exit.then (fun a w => Fr n ds st' a ∧ Sat E L' w) Q) .normal) := fun _ _ f s => ⟨f.sub hs, s.mp hl⟩

theorem y_field' {b o q m ft : Nat} {fs : Array Field} {i : Nat} (hu : P.underlying t = some (.struct fs)) (hf : (fs[i]?).map (fun f => (f.offset, f.type)) = some (q, ft)) (hs : szk P ft = some m) (hm : Nat.beq m 0 = false)
    (hx : evo st x = some (.pointer (some ⟨b, o, none⟩))) : Yv E n ds st L P ⟨some d, .fieldAddr t x i, ty, pos, af, g⟩ (.pointer (some ⟨b, o + q, none⟩)) := by
  cases hfi : fs[i]? with
  | none => rw [hfi] at hf; cases hf
  | some fl =>
    rw [hfi] at hf
    simp only [Option.map_some, Option.some.injEq, Prod.mk.injEq] at hf
    obtain ⟨rfl, rfl⟩ := hf
    exact y_field hu hfi hs hm hx
theorem y_nilp {ad : Addr} (hx : evo st x = some (.pointer (some ad))) : Yv E n ds st L P ⟨some d, .nilCheck x, ty, pos, af, g⟩ (.pointer (some ad)) := fun a w f _ => by
  simp only [execOp, f.ev hx]; rfl
theorem y_convn {a : Int} {j : IntKind} {ut : TypeDesc} (hx : evo st x = some (.int j a)) (hs : P.underlying t = some ut) (ht : P.underlying t2 = some (.int k)) (hk : InK k a) :
    Yv E n ds st L P ⟨some d, .convert t t2 x, ty, pos, af, g⟩ (.int k a) := by
  have h := y_conv (P := P) (L := L) (E := E) (ds := ds) (n := n) (d := d) (ty := ty) (pos := pos) (af := af) (g := g) hx hs ht
  rwa [wrapIn hk] at h
theorem y_negn {a : Int} (hx : evo st x = some (.int k a)) (hk : InK k (0 - a)) : Yv E n ds st L P ⟨some d, .unOp .neg t x, ty, pos, af, g⟩ (.int k (0 - a)) := by
  have h := y_neg (P := P) (L := L) (E := E) (ds := ds) (n := n) (d := d) (ty := ty) (pos := pos) (af := af) (g := g) (t := t) hx
  rwa [wrapIn hk] at h
/-- an array's element out of its value -/
theorem run_part1 {cs : Array Value} {off : Nat} (ha : agk P t = some false) (hc : cs[off]? = some v) (w : World) : (part t cs off).run P w = .ok v w := by
  simp only [part, Sem.run_bind, run_isAgg ha, Result.andThen]
  simp [hc]
theorem run_partn {cs : Array Value} {off m : Nat} (ha : agk P t = some true) (hz : szk P t = some m) (w : World) : (part t cs off).run P w = .ok (.agg (cs.extract off (off + m))) w := by
  simp only [part, Sem.run_bind, run_isAgg ha, Result.andThen]
  simp [run_sizeOf' hz]
theorem y_index1 {cs : Array Value} {e m len j : Nat} (hu : P.underlying t = some (.array len e)) (ha : agk P e = some false) (hs : szk P e = some m) (hx : evo st x = some (.agg cs))
    (hy : evo st y = some (.int k (Int.ofNat j))) (hj : j < len) (hc : cs[j * m]? = some v) : Yv E n ds st L P ⟨some d, .index t x y, ty, pos, af, g⟩ v := fun a w f _ => by
  simp only [execOp, f.ev hx, f.ev hy]
  simp only [Instr.index, asIntOf, Sem.run_bind, run_underlying hu, Result.andThen]
  simp [run_sizeOf' hs, run_part1 ha hc, hj]
theorem y_indexn {cs us : List Value} {e m len j : Nat} (hu : P.underlying t = some (.array len e)) (ha : agk P e = some true) (hs : szk P e = some m) (hx : evo st x = some (.agg cs.toArray))
    (hy : evo st y = some (.int k (Int.ofNat j))) (hj : j < len) (hc : (cs.drop (j * m)).take m = us) : Yv E n ds st L P ⟨some d, .index t x y, ty, pos, af, g⟩ (.agg us.toArray) := fun a w f _ => by
  simp only [execOp, f.ev hx, f.ev hy]
  simp only [Instr.index, asIntOf, Sem.run_bind, run_underlying hu, Result.andThen]
  subst hc
  have e1 : cs.toArray.extract (j * m) (j * m + m) = ((cs.drop (j * m)).take m).toArray := by simp [List.extract_eq_take_drop]
  simp [run_sizeOf' hs, run_partn ha hs, hj, e1]

/-! ### Structs of plain fields compared -/
def fitv : TypeDesc → Value → Value → Bool
  | .int _, .int k _, .int k' _ => k == k'
  | .bool, .bool _, .bool _ => true
  | .string, .string _, .string _ => true
  | _, _, _ => false
def eqv : Value → Value → Bool
  | .int _ a, .int _ b => decide (a = b)
  | .bool a, .bool b => a == b
  | .string a, .string b => a == b
  | _, _ => false
def fits : List TypeDesc → List Value → List Value → Bool
  | [], _, _ => true
  | u :: us, x :: xs, y :: ys => fitv u x y && fits us xs ys
  | _, _, _ => false
def allEq : List Value → List Value → Bool
  | x :: xs, y :: ys => eqv x y && allEq xs ys
  | _, _ => true
def shapeFrom (P : Program) : Nat → List Field → Option (List TypeDesc)
  | _, [] => some []
  | i, f :: fs => bif f.name != "_" && Nat.beq f.offset i then
      match agk P f.type, P.underlying f.type, shapeFrom P (i + 1) fs with
      | some false, some u, some us => some (u :: us)
      | _, _, _ => none
    else none
def eqshape (P : Program) (t : TypeId) : Option (List TypeDesc) := shapeFrom P 0 (P.fieldsOf t).toList
theorem run_equalIn_fit {dd : Nat} {t : TypeId} {ud : TypeDesc} {x y : Value} (hu : P.underlying t = some ud) (hf : fitv ud x y = true) (w : World) : (Op.equalIn (dd + 1) t x y).run P w = .ok (eqv x y) w := by
  cases ud <;> cases x <;> cases y <;> simp only [fitv] at hf <;> try cases hf
  case bool.bool.bool => simp [Op.equalIn, run_underlying hu, eqv]
  case int.int.int =>
    have hk := eq_of_beq hf
    subst hk
    simp [Op.equalIn, run_underlying hu, eqv]; rfl
  case string.string.string => simp [Op.equalIn, run_underlying hu, eqv]
theorem run_eqFields' (dd : Nat) (X Y : List Value) : ∀ (fs : List Field) (i : Nat) (us : List TypeDesc) (xs ys : List Value) (w : World), shapeFrom P i fs = some us → X.drop i = xs → Y.drop i = ys → fits us xs ys = true → xs.length = fs.length →  ys.length = fs.length →
    (Op.eqFields (dd + 1) X.toArray Y.toArray fs).run P w = .ok (allEq xs ys) w
  | [], i, us, xs, ys, w, _, _, _, _, hl, _ => by
    have : xs = [] := List.eq_nil_of_length_eq_zero hl
    subst this
    simp [Op.eqFields, allEq]
  | f :: fs, i, us, xs, ys, w, hs, hx, hy, hf, hlx, hly => by
    unfold shapeFrom at hs
    cases hb : (f.name != "_" && Nat.beq f.offset i) with
    | false => rw [hb] at hs; cases hs
    | true =>
      rw [hb, cond_true] at hs
      simp only [Bool.and_eq_true, bne_iff_ne, ne_eq] at hb
      have ho := Nat.eq_of_beq_eq_true hb.2
      split at hs
      · rename_i u us' ha hu hrest
        simp only [Option.some.injEq] at hs
        subst hs
        cases xs with
        | nil => simp at hlx
        | cons x xs =>
          cases ys with
          | nil => simp at hly
          | cons y ys =>
            simp only [fits, Bool.and_eq_true] at hf
            have hxi : X[i]? = some x := by have := congrArg (fun l => l[0]?) hx; simpa using this
            have hyi : Y[i]? = some y := by have := congrArg (fun l => l[0]?) hy; simpa using this
            have hx' : X.drop (i + 1) = xs := by have := congrArg List.tail hx; simpa using this
            have hy' : Y.drop (i + 1) = ys := by have := congrArg List.tail hy; simpa using this
            have ih := run_eqFields' dd X Y fs (i + 1) us' xs ys w hrest hx' hy' hf.2 (by simpa using hlx) (by simpa using hly)
            have e1 : (part f.type X.toArray f.offset).run P w = .ok x w := run_part1 ha (by rw [ho]; simpa using hxi) w
            have e2 : (part f.type Y.toArray f.offset).run P w = .ok y w := run_part1 ha (by rw [ho]; simpa using hyi) w
            simp only [Op.eqFields, hb.1, not_false_eq_true, if_true, ne_eq, Sem.run_bind, e1, e2, Result.andThen, run_equalIn_fit hu hf.1, allEq]
            cases he : eqv x y with
            | true => simpa using ih
            | false => simp
      · cases hs
theorem run_equal_agg {sh : List TypeDesc} {xs ys : List Value} (he : eqshape P t = some sh) (ht : P.underlying t = some (.struct (P.fieldsOf t))) (hp : P.stoodInHeld t = false) (hf : fits sh xs ys = true) (hlx : xs.length = (P.fieldsOf t).size) (hly : ys.length = (P.fieldsOf t).size) (w : World) :
    (Op.equalIn 10000 t (.agg xs.toArray) (.agg ys.toArray)).run P w = .ok (allEq xs ys) w := by
  have key : ∀ m, (Op.equalIn (m + 1 + 1) t (.agg xs.toArray) (.agg ys.toArray)).run P w = .ok (allEq xs ys) w := fun m => by
    rw [run_equalIn_struct w (m + 1) t _ _ ht hp]
    exact run_eqFields' m xs ys _ 0 sh xs ys w he rfl rfl hf (by simpa using hlx) (by simpa using hly)
  exact key 9998
/-- all that the comparison of a struct's values wants to know of the type -/
structure EqT (P : Program) (t : TypeId) (sh : List TypeDesc) (m : Nat) : Prop where
  shape : eqshape P t = some sh
  under : P.underlying t = some (.struct (P.fieldsOf t))
  stood : P.stoodInHeld t = false
  guard : P.eqGuardType P.depth t = false
  many : (P.fieldsOf t).size = m
theorem y_eql_agg {sh : List TypeDesc} {m : Nat} {xs ys : List Value} (hx : evo st x = some (.agg xs.toArray)) (hy : evo st y = some (.agg ys.toArray)) (ht : EqT P t sh m) (hf : fits sh xs ys = true) (hl : xs.length = m ∧ ys.length = m) :
    Yv E n ds st L P ⟨some d, .binOp .eql t x y t2, ty, pos, af, g⟩ (.bool (allEq xs ys)) := fun a w f _ => by
  simp only [execOp, f.ev hx, f.ev hy, Sem.run_bind, run_eqGuard_agg w _ _ _ _ _ _ ht.guard, Result.andThen_ok, run_eql_struct, run_equal_agg ht.shape ht.under ht.stood hf (by rw [ht.many]; exact hl.1) (by rw [ht.many]; exact hl.2), Sem.run_pure]
theorem y_neq_agg {sh : List TypeDesc} {m : Nat} {xs ys : List Value} (hx : evo st x = some (.agg xs.toArray)) (hy : evo st y = some (.agg ys.toArray)) (ht : EqT P t sh m) (hf : fits sh xs ys = true) (hl : xs.length = m ∧ ys.length = m) :
    Yv E n ds st L P ⟨some d, .binOp .neq t x y t2, ty, pos, af, g⟩ (.bool (!allEq xs ys)) := fun a w f _ => by
  simp only [execOp, f.ev hx, f.ev hy, Sem.run_bind, run_eqGuard_agg w _ _ _ _ _ _ ht.guard, Result.andThen_ok, run_neq_struct, run_equal_agg ht.shape ht.under ht.stood hf (by rw [ht.many]; exact hl.1) (by rw [ht.many]; exact hl.2), Sem.run_pure]

/-- two numbers that are known to be the same -/
theorem y_eqlT {a : Int} (hx : evo st x = some (.int k a)) (hy : evo st y = some (.int k a)) : Yv E n ds st L P ⟨some d, .binOp .eql t x y t2, ty, pos, af, g⟩ (.bool true) := by
  have h := y_eql (P := P) (L := L) (E := E) (ds := ds) (n := n) (d := d) (ty := ty) (pos := pos) (af := af) (g := g) (t := t) (t2 := t2) hx hy
  rwa [decide_eq_true rfl] at h
/-- a block is written anew, whole -/
theorem Hd.storeA {b : Nat} {cs : List Value} {e : TypeId} {us : List Value} (hz : szk P t = some us.length) (hx : evo st x = some (.pointer (some ⟨b, 0, none⟩))) (hy : evo st y = some v) (hv : v.cells = us.toArray)
    (h1 : ∀ u ∈ us, u.oneCell' = true) (hp : Pick L (pt b cs e) L') (hl : us.length = cs.length)
    (K : Hd E n ds st (pt b us e :: L') (LW r P ops Q rest)) : Hd E n ds st L (LW r P ops Q (⟨none, .store t x y, ty, pos, af, none⟩ :: rest)) :=
  Hd.store hz hx hy hv h1 hp (by omega) (by simpa [hl] using K)
/-- a guarded call that is wanted -/
theorem Hd.callg {fid i gd : Nat} {xs : List Operand} {vs : List Value} {tys : Array TypeId} {ι : Type} {val : ι → Value} {post : ι → List SP} (hi : (ops[i]?).bind (·.dst) = some gd) (hg : look st gd = some (.bool p))
    (hv : xs.map (evo st) = vs.map some) (hf : fnk P fid = true)
    (hc : Ct P fid vs.toArray L val post) (K : ∀ i, Hd E n ds ((d, val i) :: st) (post i) (LW r P ops Q rest)) (hd : d < n := by decide) :
    Hd E n ds st L (LW r P ops Q (⟨some d, .call ⟨.value (.func fid), xs.toArray, tys⟩, ty, pos, af, some (i, p)⟩ :: rest)) := by
  intro a w f s
  show wpListIn _ _ _ _ _ _ _ _
  unfold wpListIn
  rw [if_pos (by simp [Region.wanted, yielded_of hi f hg])]
  refine ⟨fun _ _ => trivial, ?_⟩
  rw [Oper.semAt_eq _ _ _ (by simp)]
  have e : (execOp a.eval (⟨some d, .call ⟨.value (.func fid), xs.toArray, tys⟩, ty, pos, af, some (i, p)⟩ : Oper)).run P w = .ok (.enter fid vs.toArray) w := by
    simp only [List.map_toArray, evs_map f hv, go_sem]
    simp [run_call hf]
  rw [e]
  refine ⟨fun h => (by cases h), ?_⟩
  refine ((callsIn_wide.2 (hc E w s)).mono fun e w' h => ?_)
  obtain ⟨i, rfl, s'⟩ := h
  exact K i _ _ (f.put hd _) s'
theorem Hd.pulls {M N : List SP} {K : Act → World → Prop} (h : Hd E n ds st (M ++ N) K) (p : Picks L M N) : Hd E n ds st L K := Hd.heap _ (fun _ s => p.sep s) h

/-! ### One list out of another -/
inductive Ent : List SP → List SP → Prop
  | nil {L : List SP} : Ent L []
  | pick {L L' M : List SP} {A : SP} (p : Pick L A L') (q : Ent L' M) : Ent L (A :: M)
  | eq {L L' M : List SP} {A B : SP} (p : Pick L A L') (h : A = B) (q : Ent L' M) : Ent L (B :: M)
  | imp {L L' M : List SP} {A B : SP} (p : Pick L A L') (h : ∀ k, A k → B k) (q : Ent L' M) : Ent L (B :: M)
  | pure {L M : List SP} {p : Prop} (hp : p) (q : Ent L M) : Ent L (pu p :: M)
  | ownNil {L M : List SP} {e sz : Nat} {ad : Option Addr} (q : Ent L M) : Ent L (own e sz ad 0 0 [] :: M)
  | same {L : List SP} : Ent L L
  | skip {L M : List SP} {A : SP} (q : Ent L M) : Ent (A :: L) M
theorem Ent.imp' {L L' M : List SP} {A B : SP} (p : Pick L A L') (h : ∀ k, A k → B k) (q : ∀ k, sep L' k → sep M k) {k : PH} (s : sep L k) : sep (B :: M) k := by
  obtain ⟨h1, h2, d, a, b, x, y⟩ := p.sep s
  exact ⟨h1, h2, d, a, b, h _ x, q _ y⟩
theorem Ent.sep {L M : List SP} (e : Ent L M) : ∀ k, sep L k → sep M k := by
  induction e with
  | nil => exact fun _ _ => trivial
  | pick p _ ih => exact fun _ s => Ent.imp' p (fun _ h => h) ih s
  | eq p h _ ih => exact fun _ s => Ent.imp' p (fun _ x => h ▸ x) ih s
  | imp p h _ ih => exact fun _ s => Ent.imp' p h ih s
  | pure hp _ ih => exact fun k s => ⟨fun _ => none, k, fun _ => .inl rfl, (fun _ _ e => by cases e), Sub.rfl', hp, ih k s⟩
  | ownNil _ ih => exact fun k s => sep_own_nil _ _ _ (ih k s)
  | same => exact fun _ s => s
  | skip _ ih => exact fun k ⟨_, _, _, _, b, _, y⟩ => ih k (y.up b)
theorem own_eq {e sz m m' cap : Nat} {ad : Option Addr} {us us' : List Value} (h1 : m = m') (h2 : us = us') : own e sz ad m cap us = own e sz ad m' cap us' := by rw [h1, h2]

/-! ### Lists of structs in cells -/
theorem flat_cells {α : Type} (enc : α → List Value) (m : Nat) (hm : ∀ x, (enc x).length = m) : ∀ {xs : List α} {i : Nat} {x : α}, xs[i]? = some x → ∀ j v, (enc x)[j]? = some v → (xs.flatMap enc)[i * m + j]? = some v
  | [], _, _, h, _, _, _ => by simp at h
  | y :: xs, 0, x, h, j, v, e => by
    simp at h; subst h
    have hj := (List.getElem?_eq_some_iff.1 e).1
    rw [List.flatMap_cons, Nat.zero_mul, Nat.zero_add, List.getElem?_append_left hj]; exact e
  | y :: xs, i + 1, x, h, j, v, e => by
    have := flat_cells enc m hm (xs := xs) (i := i) (by simpa using h) j v e
    rw [List.flatMap_cons, List.getElem?_append_right (by rw [hm, Nat.succ_mul]; omega), hm, show (i + 1) * m + j - m = i * m + j by rw [Nat.succ_mul]; omega]; exact this
theorem flat_len {α : Type} (enc : α → List Value) (m : Nat) (hm : ∀ x, (enc x).length = m) (xs : List α) : (xs.flatMap enc).length = xs.length * m := by
  induction xs with
  | nil => simp
  | cons x xs ih => rw [List.flatMap_cons, List.length_append, ih, hm, List.length_cons, Nat.succ_mul, Nat.add_comm]
end
end Go.RX
