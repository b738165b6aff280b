/-
  The laws of the operations over Rx1's judgement: what each yields. No program is named here.
-/
import Derived.Test.YtmpemhbfgbochaaRx1
import Derived.Deep.Quiet
import Derived.OrdersIn
namespace Go.RX
set_option linter.unusedSimpArgs false
set_option linter.unusedVariables false
set_option linter.unnecessarySimpa false
section
variable {E : World} {n : Nat} {ds : List Deferred} {st st' : List (Nat × Value)} {L L' : List SP} {r : Option Nat} {P : Program} {Q : Exit → Act → World → Prop} {ops : Array Oper} {rest : List Oper}
variable {d : Nat} {ty t t2 : TypeId} {pos : String} {af : Array Edge} {g : Option (Nat × Bool)} {x y z : Operand} {v u : Value} {k : IntKind} {a b : Int} {p q : Bool}

theorem Hd.op {o : Oper} (hg : o.guard = none) (hdf : ∀ c, o.op ≠ .defer c)
    (h : ∀ a w, Fr n ds st a → Sat E L w → ∃ v w', (execOp a.eval o).run P w = .ok (.value v) w' ∧ LW r P ops Q rest (a.put o.dst v) w') : Hd E n ds st L (LW r P ops Q (o :: rest)) := by
  intro a w f s
  obtain ⟨v, w', e, k⟩ := h a w f s
  show wpListIn _ _ _ _ _ _ _ _
  unfold wpListIn
  rw [if_pos (by simp [Region.wanted, hg])]
  refine ⟨fun _ _ => trivial, ?_⟩
  rw [Oper.semAt_eq _ _ _ hdf, e]
  exact k
theorem Hd.opu {o : Oper} (hg : o.guard = none) (hdf : ∀ c, o.op ≠ .defer c)
    (h : ∀ a w, Fr n ds st a → Sat E L w → ∃ w', (execOp a.eval o).run P w = .ok .skip w' ∧ LW r P ops Q rest (a.put o.dst undef) w') : Hd E n ds st L (LW r P ops Q (o :: rest)) := by
  intro a w f s
  obtain ⟨w', e, k⟩ := h a w f s
  show wpListIn _ _ _ _ _ _ _ _
  unfold wpListIn
  rw [if_pos (by simp [Region.wanted, hg])]
  refine ⟨fun _ _ => trivial, ?_⟩
  rw [Oper.semAt_eq _ _ _ hdf, e]
  exact k
/-- the operation yields v and leaves the world alone -/
def Yv (E : World) (n : Nat) (ds : List Deferred) (st : List (Nat × Value)) (L : List SP) (P : Program) (o : Oper) (v : Value) : Prop :=
  ∀ a w, Fr n ds st a → Sat E L w → (execOp a.eval o).run P w = .ok (.value v) w
theorem defer_no {ρ : Operand → Value} {o : Oper} {c : Call} (ho : o.op = .defer c) (w w' : World) : (execOp ρ o).run P w ≠ .ok (.value v) w' := by
  unfold execOp
  rw [ho]
  simp only [Sem.run_bind]
  intro e
  cases h : (resolve ρ c o.type).run P w with
  | ok d w1 => rw [h] at e; simp [Result.andThen] at e
  | halt x w1 => rw [h] at e; simp [Result.andThen] at e
theorem Hd.yv {op : Op} (h : Yv E n ds st L P ⟨some d, op, ty, pos, af, none⟩ v) (K : Hd E n ds ((d, v) :: st) L (LW r P ops Q rest)) (hd : d < n := by decide) :
    Hd E n ds st L (LW r P ops Q (⟨some d, op, ty, pos, af, none⟩ :: rest)) := fun a w f s =>
  Hd.op rfl (fun c hc => defer_no (by exact hc) w w (h a w f s)) (fun a w f s => ⟨v, w, h a w f s, K _ _ (f.put hd v) s⟩) a w f s
theorem yielded_of {i gd : Nat} {ac : Act} (hi : (ops[i]?).bind (·.dst) = some gd) (f : Fr n ds st ac) (hv : look st gd = some v) : yielded ops ac.tmps i = match v with | .bool b => some b | _ => none := by
  unfold yielded
  rw [hi]
  simp only [Option.bind_some, f.at_ gd v hv]
  cases v <;> rfl
/-- a guarded operation that is wanted -/
theorem Hd.yg {op : Op} {i gd : Nat} (hi : (ops[i]?).bind (·.dst) = some gd) (hv : look st gd = some (.bool p)) (h : Yv E n ds st L P ⟨some d, op, ty, pos, af, some (i, p)⟩ v)
    (K : Hd E n ds ((d, v) :: st) L (LW r P ops Q rest)) (hd : d < n := by decide) :
    Hd E n ds st L (LW r P ops Q (⟨some d, op, ty, pos, af, some (i, p)⟩ :: rest)) := by
  intro a w f s
  have hh := h a w f s
  show wpListIn _ _ _ _ _ _ _ _
  unfold wpListIn
  rw [if_pos (by simp [Region.wanted, yielded_of hi f hv])]
  refine ⟨fun _ _ => trivial, ?_⟩
  rw [Oper.semAt_eq _ _ _ (fun c hc => defer_no (by exact hc) w w hh), hh]
  exact K _ _ (f.put hd v) s
/-- is this the bool? -/
def isb : Value → Bool → Bool
  | .bool b, c => b == c
  | _, _ => false
/-- a guarded operation that is not wanted -/
theorem Hd.ng {op : Op} {i gd : Nat} (hi : (ops[i]?).bind (·.dst) = some gd) (hv : look st gd = some v) (hb : isb v p = false)
    (K : Hd E n ds ((d, undef) :: st) L (LW r P ops Q rest)) (hd : d < n := by decide) :
    Hd E n ds st L (LW r P ops Q (⟨some d, op, ty, pos, af, some (i, p)⟩ :: rest)) := by
  intro a w f s
  show wpListIn _ _ _ _ _ _ _ _
  unfold wpListIn
  rw [if_neg (by
    simp only [Region.wanted, yielded_of hi f hv]
    cases v <;> simp_all [isb])]
  exact ⟨fun _ _ => trivial, K _ _ (f.put hd undef) s⟩
/-- parting on a bool that stands in a slot -/
theorem Hd.part {K : Act → World → Prop} {gd : Nat} (hv : look st gd = some (.bool p)) (hT : p = true → Hd E n ds ((gd, .bool true) :: st) L K) (hF : p = false → Hd E n ds ((gd, .bool false) :: st) L K) : Hd E n ds st L K := by
  intro a w f s
  have key : ∀ c, p = c → Fr n ds ((gd, .bool c) :: st) a := fun c hc => f.weak fun t u e => by
    simp only [look] at e
    cases hb : Nat.beq gd t with
    | true => rw [hb] at e; have := Nat.eq_of_beq_eq_true hb; subst this; simp at e; rw [hv, hc, e]
    | false => rw [hb] at e; simpa using e
  cases hp : p with
  | true => exact hT hp a w (key true hp) s
  | false => exact hF hp a w (key false hp) s
theorem wpListIn_append {F : Fence} {m : Nat} (K : Act → World → Prop) (l2 : List Oper) (hK : ∀ a w, K a w → wpListIn F m P ops Q l2 a w) : ∀ (l1 : List Oper) (a : Act) (w : World), wpListIn F m P ops (Exit.then K Q) l1 a w → wpListIn F m P ops Q (l1 ++ l2) a w
  | [], a, w, h => hK a w h
  | o :: l1, a, w, h => by
    rw [List.cons_append]
    unfold wpListIn at h ⊢
    split
    · rename_i hw
      rw [if_pos hw] at h
      refine ⟨h.1, ?_⟩
      have h2 := h.2
      unfold Oper.uponIn at h2 ⊢
      split at h2
      · exact wpListIn_append K l2 hK l1 _ _ h2
      · exact wpListIn_append K l2 hK l1 _ _ h2
      · exact wpListIn_append K l2 hK l1 _ _ h2
      · obtain ⟨hn, hF, hc⟩ := h2
        refine ⟨hn, hF, fun cs hr => ?_⟩
        obtain ⟨e, w', fr, hR, rest⟩ := hc cs hr
        refine ⟨e, w', fr, ?_, rest⟩
        cases e with
        | returned v => exact wpListIn_append K l2 hK l1 _ _ hR
        | panicked ch => exact hR
        | outgrown => obtain ⟨a0, w0, hq⟩ := hR; exact ⟨a0, w0, hq⟩
      · obtain ⟨hn, hc⟩ := h2
        refine ⟨hn, fun c cs hr => ?_⟩
        obtain ⟨v, w', hR, rest⟩ := hc c cs hr
        exact ⟨v, w', wpListIn_append K l2 hK l1 _ _ hR, rest⟩
      · obtain ⟨hn, hF, hc⟩ := h2
        refine ⟨hn, hF, fun c cs hr => ?_⟩
        obtain ⟨e, w', hR, rest⟩ := hc c cs hr
        refine ⟨e, w', ?_, rest⟩
        cases e with
        | returned v => exact wpListIn_append K l2 hK l1 _ _ hR
        | panicked ch => exact hR
        | outgrown => obtain ⟨a0, w0, hq⟩ := hR; exact ⟨a0, w0, hq⟩
      · exact h2
      · exact h2.elim
    · rename_i hw
      rw [if_neg hw] at h
      exact ⟨h.1, wpListIn_append K l2 hK l1 _ _ h.2⟩
/-- a cut within a region, behind its first m operations -/
theorem Hd.lcut {l : List Oper} (m : Nat) {ι : Type} (S : ι → List (Nat × Value)) (H : ι → List SP)
    (hx : Hd E n ds st L (LW r P ops (Exit.then (fun a w => ∃ j, Fr n ds (S j) a ∧ Sat E (H j) w) Q) (l.take m)))
    (hy : ∀ j, Hd E n ds (S j) (H j) (LW r P ops Q (l.drop m))) : Hd E n ds st L (LW r P ops Q l) := by
  intro a w f s
  have := wpListIn_append (P := P) (ops := ops) (Q := Q) (F := FW r) (m := 0) (fun a w => ∃ j, Fr n ds (S j) a ∧ Sat E (H j) w) (l.drop m) (fun a w ⟨j, f, s⟩ => hy j a w f s) (l.take m) a w (hx a w f s)
  rwa [List.take_append_drop] at this
/-- 'x && y', 'x || y': the first m operations come to a bool, in either case -/
theorem Hd.andg {l : List Oper} (m gd dd : Nat) (sk : List (Nat × Value)) {q : Bool} (hv : look st gd = some (.bool p)) (_hk : sub st sk)
    (hT : p = true → Hd E n ds ((gd, .bool true) :: st) L (LW r P ops (Exit.then (fun a w => Fr n ds ((dd, .bool q) :: sk) a ∧ Sat E L w) Q) (l.take m)))
    (hF : p = false → Hd E n ds ((gd, .bool false) :: st) L (LW r P ops (Exit.then (fun a w => Fr n ds ((dd, .bool false) :: sk) a ∧ Sat E L w) Q) (l.take m)))
    (K : Hd E n ds ((dd, .bool (p && q)) :: sk) L (LW r P ops Q (l.drop m))) : Hd E n ds st L (LW r P ops Q l) := by
  intro a w f s
  have := wpListIn_append (P := P) (ops := ops) (Q := Q) (F := FW r) (m := 0) (fun a w => Fr n ds ((dd, .bool (p && q)) :: sk) a ∧ Sat E L w) (l.drop m) (fun a w ⟨f, s⟩ => K a w f s) (l.take m) a w
    (Hd.part hv (fun hp => by subst hp; exact hT rfl) (fun hp => by subst hp; exact hF rfl) a w f s)
  rwa [List.take_append_drop] at this
theorem Hd.org {l : List Oper} (m gd dd : Nat) (sk : List (Nat × Value)) {q : Bool} (hv : look st gd = some (.bool p)) (_hk : sub st sk)
    (hT : p = true → Hd E n ds ((gd, .bool true) :: st) L (LW r P ops (Exit.then (fun a w => Fr n ds ((dd, .bool true) :: sk) a ∧ Sat E L w) Q) (l.take m)))
    (hF : p = false → Hd E n ds ((gd, .bool false) :: st) L (LW r P ops (Exit.then (fun a w => Fr n ds ((dd, .bool q) :: sk) a ∧ Sat E L w) Q) (l.take m)))
    (K : Hd E n ds ((dd, .bool (p || q)) :: sk) L (LW r P ops Q (l.drop m))) : Hd E n ds st L (LW r P ops Q l) := by
  intro a w f s
  have := wpListIn_append (P := P) (ops := ops) (Q := Q) (F := FW r) (m := 0) (fun a w => Fr n ds ((dd, .bool (p || q)) :: sk) a ∧ Sat E L w) (l.drop m) (fun a w ⟨f, s⟩ => K a w f s) (l.take m) a w
    (Hd.part hv (fun hp => by subst hp; exact hT rfl) (fun hp => by subst hp; exact hF rfl) a w f s)
  rwa [List.take_append_drop] at this
/-- such a way has ended -/
theorem Hd.gend {st' : List (Nat × Value)} (hs : sub st st') : Hd E n ds st L ((Exit.then (fun a w => Fr n ds st' a ∧ Sat E L w) Q) .normal) := fun _ _ f s => ⟨f.sub hs, s⟩

theorem y_move (hx : evo st x = some v) : Yv E n ds st L P ⟨some d, .move x, ty, pos, af, g⟩ (v) :=
  fun a w f _ => by rw [← f.ev hx]; rfl
theorem y_assign (hx : evo st x = some v) : Yv E n ds st L P ⟨some d, .assign x, ty, pos, af, g⟩ (v) :=
  fun a w f _ => by rw [← f.ev hx]; rfl
theorem y_pick (hc : evo st x = some (.bool p)) (hx : evo st y = some v) (hy : evo st z = some u)
    : Yv E n ds st L P ⟨some d, .pick x y z, ty, pos, af, g⟩ (if p then v else u) :=
  fun a w f _ => by simp only [execOp, f.ev hc, f.ev hx, f.ev hy, asBool]; rfl
theorem y_pickT (hc : evo st x = some (.bool true)) (hx : evo st y = some v) : Yv E n ds st L P ⟨some d, .pick x y z, ty, pos, af, g⟩ v :=
  fun a w f _ => by simp only [execOp, f.ev hc, f.ev hx, asBool]; rfl
theorem y_pickF (hc : evo st x = some (.bool false)) (hx : evo st z = some v) : Yv E n ds st L P ⟨some d, .pick x y z, ty, pos, af, g⟩ v :=
  fun a w f _ => by simp only [execOp, f.ev hc, f.ev hx, asBool]; rfl
/-- both ways a bool -/
theorem y_pickb {p1 p2 : Bool} (hc : evo st x = some (.bool p)) (hx : evo st y = some (.bool p1)) (hy : evo st z = some (.bool p2))
    : Yv E n ds st L P ⟨some d, .pick x y z, ty, pos, af, g⟩ (.bool (if p then p1 else p2)) :=
  fun a w f _ => by simp only [execOp, f.ev hc, f.ev hx, f.ev hy, asBool]; cases p <;> rfl
/-! integers -/
theorem y_add (hx : evo st x = some (.int k a)) (hy : evo st y = some (.int k b)) : Yv E n ds st L P ⟨some d, .binOp .add t x y t2, ty, pos, af, g⟩ (.int k (k.wrap (a + b))) :=
  fun a w f _ => by simp only [execOp, f.ev hx, f.ev hy]; simp [eqGuard, binOp, Op.intArith, go_sem]
theorem y_sub (hx : evo st x = some (.int k a)) (hy : evo st y = some (.int k b)) : Yv E n ds st L P ⟨some d, .binOp .sub t x y t2, ty, pos, af, g⟩ (.int k (k.wrap (a - b))) :=
  fun a w f _ => by simp only [execOp, f.ev hx, f.ev hy]; simp [eqGuard, binOp, Op.intArith, go_sem]
theorem y_mul (hx : evo st x = some (.int k a)) (hy : evo st y = some (.int k b)) : Yv E n ds st L P ⟨some d, .binOp .mul t x y t2, ty, pos, af, g⟩ (.int k (k.wrap (a * b))) :=
  fun a w f _ => by simp only [execOp, f.ev hx, f.ev hy]; simp [eqGuard, binOp, Op.intArith, go_sem]
/-- what a kind holds -/
def InK : IntKind → Int → Prop
  | .i8, x => -128 ≤ x ∧ x ≤ 127
  | .i16, x => -32768 ≤ x ∧ x ≤ 32767
  | .i32, x => -2147483648 ≤ x ∧ x ≤ 2147483647
  | .i64, x => -9223372036854775808 ≤ x ∧ x ≤ 9223372036854775807
  | .u8, x => 0 ≤ x ∧ x ≤ 255
  | .u16, x => 0 ≤ x ∧ x ≤ 65535
  | .u32, x => 0 ≤ x ∧ x ≤ 4294967295
  | .u64, x => 0 ≤ x ∧ x ≤ 18446744073709551615
theorem wrapIn {k : IntKind} {x : Int} (h : InK k x) : k.wrap x = x := by
  cases k <;> simp only [InK] at h <;> simp only [IntKind.wrap, IntKind.bits, IntKind.signed, Bool.true_and, Bool.false_and] <;> (try split) <;> simp at * <;> omega
theorem inWrap (k : IntKind) (x : Int) : InK k (k.wrap x) := by
  cases k <;> simp only [InK, IntKind.wrap, IntKind.bits, IntKind.signed, Bool.true_and, Bool.false_and] <;> (try split) <;> simp at * <;> omega
theorem y_addn (hx : evo st x = some (.int k a)) (hy : evo st y = some (.int k b)) (hk : InK k (a + b)) : Yv E n ds st L P ⟨some d, .binOp .add t x y t2, ty, pos, af, g⟩ (.int k (a + b)) :=
  by have h := y_add (P := P) (L := L) (E := E) (ds := ds) (n := n) (d := d) (ty := ty) (pos := pos) (af := af) (g := g) (t := t) (t2 := t2) hx hy; rwa [wrapIn hk] at h
theorem y_subn (hx : evo st x = some (.int k a)) (hy : evo st y = some (.int k b)) (hk : InK k (a - b)) : Yv E n ds st L P ⟨some d, .binOp .sub t x y t2, ty, pos, af, g⟩ (.int k (a - b)) :=
  by have h := y_sub (P := P) (L := L) (E := E) (ds := ds) (n := n) (d := d) (ty := ty) (pos := pos) (af := af) (g := g) (t := t) (t2 := t2) hx hy; rwa [wrapIn hk] at h
theorem y_muln (hx : evo st x = some (.int k a)) (hy : evo st y = some (.int k b)) (hk : InK k (a * b)) : Yv E n ds st L P ⟨some d, .binOp .mul t x y t2, ty, pos, af, g⟩ (.int k (a * b)) :=
  by have h := y_mul (P := P) (L := L) (E := E) (ds := ds) (n := n) (d := d) (ty := ty) (pos := pos) (af := af) (g := g) (t := t) (t2 := t2) hx hy; rwa [wrapIn hk] at h
theorem y_rem (hx : evo st x = some (.int k a)) (hy : evo st y = some (.int k b)) (hb : b ≠ 0) : Yv E n ds st L P ⟨some d, .binOp .rem t x y t2, ty, pos, af, g⟩ (.int k (a.tmod b)) :=
  fun a w f _ => by simp only [execOp, f.ev hx, f.ev hy]; simp [eqGuard, binOp, Op.intDiv, hb, go_sem]
theorem y_quo (hx : evo st x = some (.int k a)) (hy : evo st y = some (.int k b)) (hb : b ≠ 0) : Yv E n ds st L P ⟨some d, .binOp .quo t x y t2, ty, pos, af, g⟩ (.int k (k.wrap (a.tdiv b))) :=
  fun a w f _ => by simp only [execOp, f.ev hx, f.ev hy]; simp [eqGuard, binOp, Op.intDiv, hb, go_sem]
/-- neither is below 0 -/
theorem y_remn (hx : evo st x = some (.int k a)) (hy : evo st y = some (.int k b)) (ha : 0 ≤ a) (hb : 0 < b) : Yv E n ds st L P ⟨some d, .binOp .rem t x y t2, ty, pos, af, g⟩ (.int k (a % b)) :=
  by have h := y_rem (P := P) (L := L) (E := E) (ds := ds) (n := n) (d := d) (ty := ty) (pos := pos) (af := af) (g := g) (t := t) (t2 := t2) hx hy (by omega); rwa [Int.tmod_eq_emod_of_nonneg ha] at h
theorem y_quon (hx : evo st x = some (.int k a)) (hy : evo st y = some (.int k b)) (ha : 0 ≤ a) (hb : 0 < b) (hk : InK k (a / b)) : Yv E n ds st L P ⟨some d, .binOp .quo t x y t2, ty, pos, af, g⟩ (.int k (a / b)) :=
  by have h := y_quo (P := P) (L := L) (E := E) (ds := ds) (n := n) (d := d) (ty := ty) (pos := pos) (af := af) (g := g) (t := t) (t2 := t2) hx hy (by omega); rwa [Int.tdiv_eq_ediv_of_nonneg ha, wrapIn hk] at h
theorem y_and (hx : evo st x = some (.int k a)) (hy : evo st y = some (.int k b)) : Yv E n ds st L P ⟨some d, .binOp .and t x y t2, ty, pos, af, g⟩ (.int k (bits .and k a b)) :=
  fun a w f _ => by simp only [execOp, f.ev hx, f.ev hy]; simp [eqGuard, binOp, go_sem]
theorem y_or (hx : evo st x = some (.int k a)) (hy : evo st y = some (.int k b)) : Yv E n ds st L P ⟨some d, .binOp .or t x y t2, ty, pos, af, g⟩ (.int k (bits .or k a b)) :=
  fun a w f _ => by simp only [execOp, f.ev hx, f.ev hy]; simp [eqGuard, binOp, go_sem]
theorem y_xor (hx : evo st x = some (.int k a)) (hy : evo st y = some (.int k b)) : Yv E n ds st L P ⟨some d, .binOp .xor t x y t2, ty, pos, af, g⟩ (.int k (bits .xor k a b)) :=
  fun a w f _ => by simp only [execOp, f.ev hx, f.ev hy]; simp [eqGuard, binOp, go_sem]
theorem y_andNot (hx : evo st x = some (.int k a)) (hy : evo st y = some (.int k b)) : Yv E n ds st L P ⟨some d, .binOp .andNot t x y t2, ty, pos, af, g⟩ (.int k (bits .andNot k a b)) :=
  fun a w f _ => by simp only [execOp, f.ev hx, f.ev hy]; simp [eqGuard, binOp, go_sem]
theorem y_eql (hx : evo st x = some (.int k a)) (hy : evo st y = some (.int k b)) : Yv E n ds st L P ⟨some d, .binOp .eql t x y t2, ty, pos, af, g⟩ (.bool (decide (a = b))) :=
  fun a w f _ => by simp only [execOp, f.ev hx, f.ev hy]; simp [eqGuard, binOp, Op.intCmp, go_sem]; rfl
theorem y_neq (hx : evo st x = some (.int k a)) (hy : evo st y = some (.int k b)) : Yv E n ds st L P ⟨some d, .binOp .neq t x y t2, ty, pos, af, g⟩ (.bool (decide (a ≠ b))) :=
  fun _ w f _ => by simp only [execOp, f.ev hx, f.ev hy]; simp [eqGuard, binOp, Op.intCmp, go_sem, bne, BEq.beq]
theorem y_lss (hx : evo st x = some (.int k a)) (hy : evo st y = some (.int k b)) : Yv E n ds st L P ⟨some d, .binOp .lss t x y t2, ty, pos, af, g⟩ (.bool (decide (a < b))) :=
  fun a w f _ => by simp only [execOp, f.ev hx, f.ev hy]; simp [eqGuard, binOp, Op.intCmp, go_sem]
theorem y_leq (hx : evo st x = some (.int k a)) (hy : evo st y = some (.int k b)) : Yv E n ds st L P ⟨some d, .binOp .leq t x y t2, ty, pos, af, g⟩ (.bool (decide (a ≤ b))) :=
  fun a w f _ => by simp only [execOp, f.ev hx, f.ev hy]; simp [eqGuard, binOp, Op.intCmp, go_sem]
theorem y_gtr (hx : evo st x = some (.int k a)) (hy : evo st y = some (.int k b)) : Yv E n ds st L P ⟨some d, .binOp .gtr t x y t2, ty, pos, af, g⟩ (.bool (decide (b < a))) :=
  fun a w f _ => by simp only [execOp, f.ev hx, f.ev hy]; simp [eqGuard, binOp, Op.intCmp, go_sem]
theorem y_geq (hx : evo st x = some (.int k a)) (hy : evo st y = some (.int k b)) : Yv E n ds st L P ⟨some d, .binOp .geq t x y t2, ty, pos, af, g⟩ (.bool (decide (b ≤ a))) :=
  fun a w f _ => by simp only [execOp, f.ev hx, f.ev hy]; simp [eqGuard, binOp, Op.intCmp, go_sem]
theorem y_neg (hx : evo st x = some (.int k a)) : Yv E n ds st L P ⟨some d, .unOp .neg t x, ty, pos, af, g⟩ (.int k (k.wrap (0 - a))) :=
  fun a w f _ => by simp only [execOp, f.ev hx]; simp [Op.unary, Op.intArith, go_sem]
theorem y_not (hx : evo st x = some (.bool p)) : Yv E n ds st L P ⟨some d, .unOp .not t x, ty, pos, af, g⟩ (.bool (!p)) :=
  fun a w f _ => by simp only [execOp, f.ev hx]; simp [Op.unary, go_sem]
theorem y_conv {j : IntKind} {ut : TypeDesc} (hx : evo st x = some (.int j a)) (hs : P.underlying t = some ut) (ht : P.underlying t2 = some (.int k)) : Yv E n ds st L P ⟨some d, .convert t t2 x, ty, pos, af, g⟩ (.int k (k.wrap a)) :=
  fun a w f _ => by simp only [execOp, f.ev hx]; simp [convert, run_underlying hs, run_underlying ht, Conv.intToInt, go_sem]
/-! bools -/
theorem run_equal_bool (hu : P.underlying t = some .bool) (w : World) : (Op.equal t (.bool p) (.bool q)).run P w = .ok (p == q) w := by
  have key : ∀ m, (Op.equalIn (m + 1) t (.bool p) (.bool q)).run P w = .ok (p == q) w := fun m => by
    rw [Op.equalIn]; simp [run_underlying hu]
  exact key 9999
theorem y_eqlb (hu : P.underlying t = some .bool) (hx : evo st x = some (.bool p)) (hy : evo st y = some (.bool q)) : Yv E n ds st L P ⟨some d, .binOp .eql t x y t2, ty, pos, af, g⟩ (.bool (p == q)) :=
  fun a w f _ => by
    simp only [execOp, f.ev hx, f.ev hy, show ∀ (p q : Bool), binOp .eql t (.bool p) (.bool q) = (do pure (.bool (← Op.equal t (.bool p) (.bool q)))) from fun _ _ => rfl]
    simp [eqGuard, run_equal_bool hu]
theorem y_neqb (hu : P.underlying t = some .bool) (hx : evo st x = some (.bool p)) (hy : evo st y = some (.bool q)) : Yv E n ds st L P ⟨some d, .binOp .neq t x y t2, ty, pos, af, g⟩ (.bool (!(p == q))) :=
  fun a w f _ => by
    simp only [execOp, f.ev hx, f.ev hy, show ∀ (p q : Bool), binOp .neq t (.bool p) (.bool q) = (do pure (.bool (!(← Op.equal t (.bool p) (.bool q))))) from fun _ _ => rfl]
    simp [eqGuard, run_equal_bool hu]
end
end Go.RX
