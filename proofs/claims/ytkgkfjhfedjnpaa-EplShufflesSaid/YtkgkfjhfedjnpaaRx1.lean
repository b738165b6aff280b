/-
  A small separation logic over the kit's walk (fenced form): heap predicates, frames as association lists, one law an operation. No program is named here.
-/
import Derived.WalkKit
import Derived.WalkSpells
import Derived.CallsIn
import Derived.TacticsIn
import Derived.RangeFuncCalls
namespace Go.RX
set_option linter.unusedSimpArgs false
set_option linter.unusedVariables false
set_option linter.unnecessarySimpa false

/-! ### Heaps -/
abbrev PH := Nat → Option Obj
def Sub (h k : PH) : Prop := ∀ b o, h b = some o → k b = some o
def Dis (h k : PH) : Prop := ∀ b, h b = none ∨ k b = none
abbrev SP := PH → Prop

theorem Sub.rfl' {h : PH} : Sub h h := fun _ _ e => e
theorem Sub.tr {h k l : PH} (a : Sub h k) (b : Sub k l) : Sub h l := fun x o e => b x o (a x o e)
theorem Dis.sym {h k : PH} (a : Dis h k) : Dis k h := fun b => (a b).symm
theorem Dis.subL {h h' k : PH} (a : Dis h k) (s : Sub h' h) : Dis h' k := fun b => by
  rcases a b with e | e
  · left
    cases e' : h' b with
    | none => rfl
    | some o => rw [s b o e'] at e; cases e
  · exact .inr e
theorem Dis.subR {h k k' : PH} (a : Dis h k) (s : Sub k' k) : Dis h k' := (a.sym.subL s).sym

/-- union, the first one's block first -/
def uni (h k : PH) : PH := fun b => (h b).or (k b)
theorem Sub.uniL {h k : PH} : Sub h (uni h k) := fun b o e => by simp [uni, e]
theorem Sub.uniR {h k : PH} (d : Dis h k) : Sub k (uni h k) := fun b o e => by
  rcases d b with e' | e'
  · simp [uni, e', e]
  · rw [e'] at e; cases e
theorem Sub.uni {h k l : PH} (a : Sub h l) (b : Sub k l) : Sub (uni h k) l := fun x o e => by
  unfold RX.uni at e
  cases e' : h x with
  | none => rw [e'] at e; exact b x o (by simpa using e)
  | some o' => rw [e'] at e; simp at e; exact a x o (by rw [e', e])
theorem Dis.uniL {h k l : PH} (a : Dis h l) (b : Dis k l) : Dis (uni h k) l := fun x => by
  rcases a x with e | e
  · rcases b x with e' | e'
    · left; simp [uni, e, e']
    · exact .inr e'
  · exact .inr e

/-- all of a list, apart from one another -/
def sep : List SP → SP
  | [], _ => True
  | A :: L, h => ∃ h1 h2, Dis h1 h2 ∧ Sub h1 h ∧ Sub h2 h ∧ A h1 ∧ sep L h2

theorem sep.up : ∀ {L : List SP} {h k : PH}, sep L h → Sub h k → sep L k
  | [], _, _, _, _ => trivial
  | _ :: _, _, _, ⟨h1, h2, d, a, b, x, y⟩, s => ⟨h1, h2, d, a.tr s, b.tr s, x, y⟩

/-- taking one out of a list -/
inductive Pick : List SP → SP → List SP → Prop
  | here {A : SP} {L : List SP} : Pick (A :: L) A L
  | there {A B : SP} {L L' : List SP} (h : Pick L A L') : Pick (B :: L) A (B :: L')

theorem Pick.sep {L L' : List SP} {A : SP} (p : Pick L A L') : ∀ {h : PH}, sep L h → sep (A :: L') h := by
  induction p with
  | here => exact id
  | there p ih =>
    rintro h ⟨h1, h2, d, a, b, x, y⟩
    obtain ⟨k1, k2, d', a', b', x', y'⟩ := ih y
    refine ⟨k1, uni h1 k2, ?_, a'.tr b, Sub.uni a (b'.tr b), x', h1, k2, d.subR b', Sub.uniL, Sub.uniR (d.subR b'), x, y'⟩
    exact (Dis.uniL (d.subR a') d'.sym).sym
theorem Pick.back {L L' : List SP} {A : SP} (p : Pick L A L') : ∀ {h : PH}, RX.sep (A :: L') h → RX.sep L h := by
  induction p with
  | here => exact id
  | there p ih =>
    rintro h ⟨h1, h2, d, a, b, x, ⟨k1, k2, d', a', b', x', y'⟩⟩
    refine ⟨k1, uni h1 k2, ?_, a'.tr b, Sub.uni a (b'.tr b), x', ih ⟨h1, k2, d.subR b', Sub.uniL, Sub.uniR (d.subR b'), x, y'⟩⟩
    exact (Dis.uniL (d.subR a') d'.sym).sym

/-- taking several out, one behind the other -/
inductive Picks : List SP → List SP → List SP → Prop
  | nil {L : List SP} : Picks L [] L
  | cons {L L' L'' M : List SP} {A : SP} (p : Pick L A L') (q : Picks L' M L'') : Picks L (A :: M) L''

theorem sep_append {M N : List SP} : ∀ {h : PH}, sep (M ++ N) h → ∃ h1 h2, Dis h1 h2 ∧ Sub h1 h ∧ Sub h2 h ∧ sep M h1 ∧ sep N h2 := by
  induction M with
  | nil => intro h e; exact ⟨fun _ => none, h, fun _ => .inl rfl, (fun _ _ e => by cases e), Sub.rfl', trivial, e⟩
  | cons A M ih =>
    rintro h ⟨h1, h2, d, a, b, x, y⟩
    obtain ⟨k1, k2, d', a', b', x', y'⟩ := ih y
    exact ⟨uni h1 k1, k2, Dis.uniL (d.subR b') d', Sub.uni a (a'.tr b), b'.tr b, ⟨h1, k1, d.subR a', Sub.uniL, Sub.uniR (d.subR a'), x, x'⟩, y'⟩
theorem sep_join {M N : List SP} : ∀ {h h1 h2 : PH}, Dis h1 h2 → Sub h1 h → Sub h2 h → sep M h1 → sep N h2 → sep (M ++ N) h := by
  induction M with
  | nil => intro h h1 h2 _ _ b _ y; exact y.up b
  | cons A M ih =>
    rintro h h1 h2 d a b ⟨k1, k2, d', a', b', x, y⟩ z
    exact ⟨k1, uni k2 h2, (Dis.uniL d'.sym (d.subL a').sym).sym, a'.tr a, Sub.uni (b'.tr a) b, x, ih (d.subL b') Sub.uniL (Sub.uniR (d.subL b')) y z⟩

theorem Picks.sep {L M N : List SP} (p : Picks L M N) : ∀ {h : PH}, sep L h → sep (M ++ N) h := by
  induction p with
  | nil => exact id
  | cons p q ih =>
    intro h e
    obtain ⟨h1, h2, d, a, b, x, y⟩ := p.sep e
    exact ⟨h1, h2, d, a, b, x, ih y⟩
theorem Picks.back {L M N : List SP} (p : Picks L M N) : ∀ {h : PH}, RX.sep (M ++ N) h → RX.sep L h := by
  induction p with
  | nil => exact id
  | cons p q ih =>
    rintro h ⟨h1, h2, d, a, b, x, y⟩
    exact p.back ⟨h1, h2, d, a, b, x, ih y⟩

/-! ### The world -/
def hp (w : World) : PH := fun b => w.heap[b]?
/-- What holds of a world: its outside is E's; the list is there. -/
def Sat (E : World) (L : List SP) (w : World) : Prop := w.os = E.os ∧ w.tape = E.tape ∧ w.output = E.output ∧ sep L (hp w)

theorem Sat.mp {E w : World} {L L' : List SP} (h : Sat E L w) (f : ∀ k, sep L k → sep L' k) : Sat E L' w := ⟨h.1, h.2.1, h.2.2.1, f _ h.2.2.2⟩
theorem Sat.draw {E w : World} {L : List SP} (h : Sat E L w) : Sat E L { w with drawn := w.drawn + 1 } := h
theorem Sat.drawn {E w : World} {L : List SP} (h : Sat E L w) (n : Nat) : Sat E L { w with drawn := n } := h

/-- a block of cells, known whole -/
def pt (b : Nat) (cs : List Value) (e : TypeId) : SP := fun h => h b = some (.cells cs.toArray e (0, 0))
/-- a block that is no cells -/
def ob (b : Nat) (o : Obj) : SP := fun h => h b = some o
/-- the memory below as it is in a world -/
def Old (w0 : World) : SP := fun h => ∀ b, b < w0.heap.size → h b = w0.heap[b]?
/-- a pure fact -/
def pu (p : Prop) : SP := fun _ => p

theorem sep.one {L : List SP} {A : SP} {L' : List SP} (p : Pick L A L') {h : PH} (e : sep L h) : ∃ h1, Sub h1 h ∧ A h1 := by
  obtain ⟨h1, h2, d, a, b, x, y⟩ := p.sep e
  exact ⟨h1, a, x⟩
theorem Sat.pt_at {E w : World} {L L' : List SP} {b : Nat} {cs : List Value} {e : TypeId} (h : Sat E L w) (p : Pick L (pt b cs e) L') : w.heap[b]? = some (.cells cs.toArray e (0, 0)) := by
  obtain ⟨h1, s, x⟩ := sep.one p h.2.2.2
  exact s _ _ x
theorem Sat.ob_at {E w : World} {L L' : List SP} {b : Nat} {o : Obj} (h : Sat E L w) (p : Pick L (ob b o) L') : w.heap[b]? = some o := by
  obtain ⟨h1, s, x⟩ := sep.one p h.2.2.2
  exact s _ _ x

/-- A block of its own is given other contents: all else stays. -/
theorem sep_put {L : List SP} {b : Nat} {o o' : Obj} {h k : PH} (e : sep (ob b o :: L) h) (hk : ∀ x, x ≠ b → k x = h x) (hb : k b = some o') : sep (ob b o' :: L) k := by
  obtain ⟨h1, h2, d, a, s, x, y⟩ := e
  have hb2 : h2 b = none := by
    rcases d b with e | e
    · unfold ob at x; rw [x] at e; cases e
    · exact e
  refine ⟨fun x => if x = b then some o' else none, h2, fun x => ?_, fun x o'' e => ?_, fun x o'' e => ?_, by simp [ob], y⟩
  · by_cases hx : x = b
    · subst hx; exact .inr hb2
    · left; simp [hx]
  · by_cases hx : x = b
    · subst hx; simp at e; rw [hb, e]
    · simp [hx] at e
  · have hx : x ≠ b := by intro hx; subst hx; rw [hb2] at e; cases e
    rw [hk x hx]; exact s _ _ e
theorem pt_ob (b : Nat) (cs : List Value) (e : TypeId) : pt b cs e = ob b (.cells cs.toArray e (0, 0)) := rfl

theorem Sat.put {E w w' : World} {L L' : List SP} {b : Nat} {o o' : Obj} (h : Sat E L w) (p : Pick L (ob b o) L') (hos : w'.os = w.os) (ht : w'.tape = w.tape) (ho : w'.output = w.output)
    (hk : ∀ x, x ≠ b → w'.heap[x]? = w.heap[x]?) (hb : w'.heap[b]? = some o') : Sat E (ob b o' :: L') w' :=
  ⟨hos.trans h.1, ht.trans h.2.1, ho.trans h.2.2.1, sep_put (p.sep h.2.2.2) hk hb⟩

/-- A new block. -/
theorem Sat.new {E w : World} {L : List SP} (h : Sat E L w) (o : Obj) : Sat E (ob w.heap.size o :: L) { w with heap := w.heap.push o } := by
  refine ⟨h.1, h.2.1, h.2.2.1, fun x => if x = w.heap.size then some o else none, hp w, fun x => ?_, fun x o' e => ?_, fun x o' e => ?_, by simp [ob], h.2.2.2⟩
  · by_cases hx : x = w.heap.size
    · right; subst hx; simp [hp]
    · left; simp [hx]
  · by_cases hx : x = w.heap.size
    · subst hx; simp at e; simp [hp, e]
    · simp [hx] at e
  · unfold hp at e ⊢
    have hx : x < w.heap.size := (Array.getElem?_eq_some_iff.1 e).1
    show (w.heap.push o)[x]? = some o'
    rw [Array.getElem?_push_lt hx]; rw [Array.getElem?_eq_getElem hx] at e; exact e

/-! ### Frames -/
def look : List (Nat × Value) → Nat → Option Value
  | [], _ => none
  | (d, v) :: st, t => bif Nat.beq d t then some v else look st t
def evo (st : List (Nat × Value)) : Operand → Option Value
  | .tmp t => look st t
  | .const v => some v
  | .global g => some (.pointer (some ⟨g, 0, none⟩))
  | .func f => some (.func (.func f) #[] #[])
structure Fr (n : Nat) (ds : List Deferred) (st : List (Nat × Value)) (a : Act) : Prop where
  size : a.tmps.size = n
  defs : a.defers = ds
  at_ : ∀ t v, look st t = some v → a.tmps[t]? = some v

theorem Fr.ev {n : Nat} {ds : List Deferred} {st : List (Nat × Value)} {a : Act} (h : Fr n ds st a) {x : Operand} {v : Value} (e : evo st x = some v) : a.eval x = v := by
  cases x with
  | tmp t => simp [Act.eval, h.at_ t v e]
  | const u => simp [evo] at e; simp [Act.eval, e]
  | global g => simp [evo] at e; simp [Act.eval, e]
  | func f => simp [evo] at e; simp [Act.eval, e]
theorem Fr.put {n : Nat} {ds : List Deferred} {st : List (Nat × Value)} {a : Act} (h : Fr n ds st a) {d : Nat} (hd : d < n) (v : Value) : Fr n ds ((d, v) :: st) (a.put (some d) v) := by
  refine ⟨by simp [Act.put, h.size], h.defs, fun t u e => ?_⟩
  simp only [Act.put]
  by_cases ht : d = t
  · subst ht
    simp only [look, Nat.beq_refl, cond_true, Option.some.injEq] at e
    rw [Array.getElem?_setIfInBounds_self_of_lt (by rw [h.size]; exact hd), e]
  · have hb : Nat.beq d t = false := by cases hb : Nat.beq d t with | false => rfl | true => exact absurd (Nat.eq_of_beq_eq_true hb) ht
    simp only [look, hb, cond_false] at e
    rw [Array.getElem?_setIfInBounds_ne ht]
    exact h.at_ t u e
theorem Fr.weak {n : Nat} {ds : List Deferred} {st st' : List (Nat × Value)} {a : Act} (h : Fr n ds st a) (hl : ∀ t v, look st' t = some v → look st t = some v) : Fr n ds st' a :=
  ⟨h.size, h.defs, fun t v e => h.at_ t v (hl t v e)⟩
/-- what a shorter list says, entry by entry -/
def sub (st : List (Nat × Value)) : List (Nat × Value) → Prop
  | [] => True
  | (d, v) :: r => look st d = some v ∧ sub st r
theorem sub.look {st : List (Nat × Value)} : ∀ {st' : List (Nat × Value)}, sub st st' → ∀ t v, look st' t = some v → look st t = some v
  | [], _, _, _, e => by cases e
  | (d, u) :: r, ⟨h1, h2⟩, t, v, e => by
    simp only [RX.look] at e
    cases hb : Nat.beq d t with
    | true => rw [hb] at e; simp at e; have := Nat.eq_of_beq_eq_true hb; subst this; rw [h1, e]
    | false => rw [hb] at e; exact sub.look h2 t v (by simpa using e)
theorem Fr.sub {n : Nat} {ds : List Deferred} {st st' : List (Nat × Value)} {a : Act} (h : Fr n ds st a) (hl : RX.sub st st') : Fr n ds st' a := h.weak (RX.sub.look hl)

/-! ### The judgement -/
def Hd (E : World) (n : Nat) (ds : List Deferred) (st : List (Nat × Value)) (L : List SP) (K : Act → World → Prop) : Prop :=
  ∀ a w, Fr n ds st a → Sat E L w → K a w
def FW (r : Option Nat) : Fence := { Fence.wide with round := r }
theorem FW_none : FW none = Fence.wide := rfl
abbrev CW (r : Option Nat) (P : Program) (c : Code) (Q : Exit → Act → World → Prop) : Act → World → Prop := c.wpIn (FW r) 0 P Q
abbrev LW (r : Option Nat) (P : Program) (ops : Array Oper) (Q : Exit → Act → World → Prop) (l : List Oper) : Act → World → Prop := wpListIn (FW r) 0 P ops Q l

section
variable {E : World} {n : Nat} {ds : List Deferred} {st st' : List (Nat × Value)} {L L' : List SP} {K K' : Act → World → Prop} {r : Option Nat} {P : Program} {Q : Exit → Act → World → Prop} {ops : Array Oper} {rest : List Oper}

theorem Hd.mono (h : Hd E n ds st L K) (hk : ∀ a w, K a w → K' a w) : Hd E n ds st L K' := fun a w f s => hk a w (h a w f s)
/-- less is known of slots -/
theorem Hd.slots (st' : List (Nat × Value)) (hs : sub st st') (h : Hd E n ds st' L K) : Hd E n ds st L K := fun a w f s => h a w (f.sub hs) s
theorem Hd.heap (L' : List SP) (hl : ∀ k, sep L k → sep L' k) (h : Hd E n ds st L' K) : Hd E n ds st L K := fun a w f s => h a w f (s.mp hl)
theorem Hd.pull {A : SP} {M : List SP} (p : Pick L A M) (h : Hd E n ds st (A :: M) K) : Hd E n ds st L K := fun a w f s => h a w f (s.mp fun _ e => p.sep e)
theorem Hd.drop {A : SP} (h : Hd E n ds st L K) : Hd E n ds st (A :: L) K := fun a w f s => h a w f (s.mp fun _ ⟨_, _, _, _, b, _, y⟩ => y.up b)
theorem Hd.pure {p : Prop} (h : p → Hd E n ds st L K) : Hd E n ds st (pu p :: L) K := fun a w f s => by
  obtain ⟨h1, h2, _, _, b, x, y⟩ := s.2.2.2
  exact h x a w f ⟨s.1, s.2.1, s.2.2.1, y.up b⟩
theorem Hd.ex {ι : Type} {A : ι → SP} (h : ∀ i, Hd E n ds st (A i :: L) K) : Hd E n ds st ((fun k => ∃ i, A i k) :: L) K := fun a w f s => by
  obtain ⟨h1, h2, d, aa, b, ⟨i, x⟩, y⟩ := s.2.2.2
  exact h i a w f ⟨s.1, s.2.1, s.2.2.1, h1, h2, d, aa, b, x, y⟩

theorem Hd.seq {x y : Code} (h : ∀ K : Act → World → Prop, (∀ a w, CW r P y Q a w → K a w) → Hd E n ds st L (CW r P x (Exit.then K Q))) : Hd E n ds st L (CW r P (.seq x y) Q) :=
  fun a w f s => wpIn_seq_k fun K hK => h K hK a w f s
theorem Hd.skip (h : Hd E n ds st L (Q .normal)) : Hd E n ds st L (CW r P .skip Q) := fun a w f s => wpIn_skip (h a w f s)
theorem Hd.label {l : Nat} (h : Hd E n ds st L (Q .normal)) : Hd E n ds st L (CW r P (.label l) Q) := fun a w f s => wpIn_label (h a w f s)
theorem Hd.exit {id : Nat} (h : Hd E n ds st L (Q (.exit id))) : Hd E n ds st L (CW r P (.exit id) Q) := fun a w f s => wpIn_exit (h a w f s)
theorem Hd.ret (h : Hd E n ds st L (Q .ret)) : Hd E n ds st L (CW r P .ret Q) := fun a w f s => wpIn_ret (h a w f s)
theorem Hd.block {id : Nat} {c : Code} (h : Hd E n ds st L (CW r P c (Exit.inBlock id Q))) : Hd E n ds st L (CW r P (.block id c) Q) := fun a w f s => wpIn_block (h a w f s)
theorem Hd.cond {c : Operand} {x y : Code} {t : Bool} (hc : evo st c = some (.bool t)) (ht : t = true → Hd E n ds st L (CW r P x Q)) (hf : t = false → Hd E n ds st L (CW r P y Q)) :
    Hd E n ds st L (CW r P (.cond c x y) Q) := fun a w f s => wpIn_cond_split (f.ev hc) (fun e => ht e a w f s) (fun e => hf e a w f s)
theorem Hd.condT {c : Operand} {x y : Code} (hc : evo st c = some (.bool true)) (h : Hd E n ds st L (CW r P x Q)) :
    Hd E n ds st L (CW r P (.cond c x y) Q) := fun a w f s => wpIn_cond_true (f.ev hc) (h a w f s)
theorem Hd.condF {c : Operand} {x y : Code} (hc : evo st c = some (.bool false)) (h : Hd E n ds st L (CW r P y Q)) :
    Hd E n ds st L (CW r P (.cond c x y) Q) := fun a w f s => wpIn_cond_false (f.ev hc) (h a w f s)
theorem Hd.region {id : Nat} {l : List Oper} (h : Hd E n ds st L (LW r P l.toArray Q l)) : Hd E n ds st L (CW r P (.region id l.toArray false) Q) := fun a w f s => wpIn_region_lit (h a w f s)
theorem Hd.nil (h : Hd E n ds st L (Q .normal)) : Hd E n ds st L (LW r P ops Q []) := fun a w f s => wpListIn_nil (h a w f s)
/-- the ways out, read through what stands round -/
theorem Hd.toK {R : Exit → Act → World → Prop} (hK : ∀ a w, K' a w → K a w) (h : Hd E n ds st L K') : Hd E n ds st L ((Exit.then K R) .normal) := fun a w f s => hK a w (h a w f s)
theorem Hd.inB {id : Nat} (h : Hd E n ds st L (Q .normal)) : Hd E n ds st L ((Exit.inBlock id Q) .normal) := h
theorem Hd.inBexit {id : Nat} (h : Hd E n ds st L (Q .normal)) : Hd E n ds st L ((Exit.inBlock id Q) (.exit id)) := fun a w f s => by
  show (if id = id then Q .normal a w else _); rw [if_pos rfl]; exact h a w f s
theorem Hd.inBexit' {id id' : Nat} (hn : Nat.beq id' id = false) (h : Hd E n ds st L (Q (.exit id'))) : Hd E n ds st L ((Exit.inBlock id Q) (.exit id')) := fun a w f s => by
  show (if id' = id then _ else Q (.exit id') a w)
  rw [if_neg (by intro e; subst e; rw [Nat.beq_refl] at hn; cases hn)]; exact h a w f s
theorem Hd.inBret {id : Nat} (h : Hd E n ds st L (Q .ret)) : Hd E n ds st L ((Exit.inBlock id Q) .ret) := h
theorem Hd.thenExit {id : Nat} (h : Hd E n ds st L (Q (.exit id))) : Hd E n ds st L ((Exit.then K Q) (.exit id)) := h
theorem Hd.thenRet (h : Hd E n ds st L (Q .ret)) : Hd E n ds st L ((Exit.then K Q) .ret) := h

/-- A loop: what holds at each round's head, for an index that a measure lowers. -/
theorem Hd.loop {c : Code} {ι : Type} (S : ι → List (Nat × Value)) (H : ι → List SP) (μ : ι → Nat) (i0 : ι) (hs : sub st (S i0)) (hh : ∀ k, sep L k → sep (H i0) k)
    (round : ∀ i, Hd E n ds (S i) (H i) (CW r P c (Exit.then (fun a w => ∃ j, μ j < μ i ∧ Fr n ds (S j) a ∧ Sat E (H j) w) Q))) :
    Hd E n ds st L (CW r P (.loop c) Q) := by
  intro a w f s
  have key : ∀ m : Nat, ∀ i, μ i = m → ∀ a w, Fr n ds (S i) a → Sat E (H i) w → (Code.loop c).wpIn (FW r) 0 P Q a w := by
    intro m
    induction m using Nat.strongRecOn with
    | _ m ih =>
      intro i hi a w f s
      subst hi
      refine wpIn_loop (fun a' w' => (∃ j, μ j ≤ μ i ∧ Fr n ds (S j) a' ∧ Sat E (H j) w')) (fun a' w' => Classical.epsilon fun m => ∃ j, μ j = m ∧ m ≤ μ i ∧ Fr n ds (S j) a' ∧ Sat E (H j) w' ∧ ∀ j', Fr n ds (S j') a' → Sat E (H j') w' → m ≤ μ j') ⟨i, Nat.le_refl _, f, s⟩ ?_
      rintro a1 w1 ⟨j, hj, f1, s1⟩
      -- the least index at this state
      have ex : ∀ (m0 : Nat) (a' : Act) (w' : World), (∃ j, μ j ≤ m0 ∧ Fr n ds (S j) a' ∧ Sat E (H j) w') → ∃ m, ∃ j, μ j = m ∧ m ≤ m0 ∧ Fr n ds (S j) a' ∧ Sat E (H j) w' ∧ ∀ j', Fr n ds (S j') a' → Sat E (H j') w' → m ≤ μ j' := by
        intro m0
        induction m0 using Nat.strongRecOn with
        | _ m0 ih0 =>
          rintro a' w' ⟨j, hj, f', s'⟩
          by_cases hl : ∃ j', μ j' < μ j ∧ Fr n ds (S j') a' ∧ Sat E (H j') w'
          · obtain ⟨j', hj', f'', s''⟩ := hl
            obtain ⟨m, j3, e3, l3, f3, s3, b3⟩ := ih0 (μ j') (by omega) a' w' ⟨j', Nat.le_refl _, f'', s''⟩
            exact ⟨m, j3, e3, by omega, f3, s3, b3⟩
          · exact ⟨μ j, j, rfl, hj, f', s', fun j' f'' s'' => Nat.le_of_not_lt fun hlt => hl ⟨j', hlt, f'', s''⟩⟩
      have spec1 := Classical.epsilon_spec (ex (μ i) a1 w1 ⟨j, hj, f1, s1⟩)
      obtain ⟨j1, e1, l1, g1, t1, b1⟩ := spec1
      refine Go.wpIn_mono (round j1 a1 w1 g1 t1) ?_
      intro e a2 w2 hq
      cases e with
      | normal =>
        obtain ⟨j2, hlt, f2, s2⟩ := hq
        refine ⟨⟨j2, by omega, f2, s2⟩, ?_⟩
        have spec2 := Classical.epsilon_spec (ex (μ i) a2 w2 ⟨j2, by omega, f2, s2⟩)
        obtain ⟨j3, e3, l3, g3, t3, b3⟩ := spec2
        have := b3 j2 f2 s2
        show (Classical.epsilon _) < (Classical.epsilon _)
        omega
      | exit id => exact hq
      | goto l => exact hq
      | ret => exact hq
      | panic ch => exact hq
      | outgrown => exact hq
  exact key (μ i0) i0 rfl a w (f.sub hs) (s.mp hh)

/-- Ways meet again: what holds where they do, for some index. -/
theorem Hd.cut {x y : Code} {ι : Type} (S : ι → List (Nat × Value)) (H : ι → List SP)
    (hx : Hd E n ds st L (CW r P x (Exit.then (fun a w => ∃ j, Fr n ds (S j) a ∧ Sat E (H j) w) Q)))
    (hy : ∀ j, Hd E n ds (S j) (H j) (CW r P y Q)) : Hd E n ds st L (CW r P (.seq x y) Q) := by
  intro a w f s
  refine wpIn_seq (Go.wpIn_mono (hx a w f s) ?_)
  intro e a' w' hq
  cases e with
  | normal => obtain ⟨j, f', s'⟩ := hq; exact hy j a' w' f' s'
  | exit id => exact hq
  | goto l => exact hq
  | ret => exact hq
  | panic ch => exact hq
  | outgrown => exact hq
/-- a loop's round, or a way to where ways meet, has ended -/
theorem Hd.meet {ι : Type} {S : ι → List (Nat × Value)} {H : ι → List SP} (j : ι) (hs : sub st (S j)) (hh : ∀ k, sep L k → sep (H j) k) :
    Hd E n ds st L (fun a w => ∃ j, Fr n ds (S j) a ∧ Sat E (H j) w) := fun _ _ f s => ⟨j, f.sub hs, s.mp hh⟩
theorem Hd.again {ι : Type} {S : ι → List (Nat × Value)} {H : ι → List SP} {μ : ι → Nat} {m : Nat} (j : ι) (hm : μ j < m) (hs : sub st (S j)) (hh : ∀ k, sep L k → sep (H j) k) :
    Hd E n ds st L (fun a w => ∃ j, μ j < m ∧ Fr n ds (S j) a ∧ Sat E (H j) w) := fun _ _ f s => ⟨j, hm, f.sub hs, s.mp hh⟩
end
end Go.RX
