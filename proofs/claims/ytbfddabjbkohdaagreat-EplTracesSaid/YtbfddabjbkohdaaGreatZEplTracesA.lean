/-
  A small separation logic over the kit's walk (fenced form): heap predicates, frames as association lists, one law an operation. No program is named here. The laws of the operations over Rx1's judgement: what each yields. No program is named here. Memory over Rx1's judgement: loads, stores, new blocks, addresses, calls, regions that draw their order and only read. No program is named here. Slices over Rx1's judgement: built, appended to, cut; structs built; regions that draw their order and only read. No program is named here. More laws over Rx1's judgement: rounds of a loop counted out, scopes, further operations. No program is named here. Plain facts on bits of an int, as the walk's laws speak of them. No program is named here. Regions that draw their order, read first, and end in a chain of operations; stores into owned slices; slices against nil; slice expressions. No program is named here.
-/
import Derived.WalkKit
import Derived.WalkSpells
import Derived.CallsIn
import Derived.TacticsIn
import Derived.RangeFuncCalls
import Derived.Deep.Quiet
import Derived.OrdersIn
import Derived.LoopNIn
import Derived.StillTail
import Derived.DataElems
namespace Go.RX
set_option linter.unusedSimpArgs false
set_option linter.unusedVariables false
set_option linter.unnecessarySimpa false
inductive Ce
  | obj (o : Obj) | blk (size : Nat) (e : TypeId) (fz : Nat × Nat) | cell (v : Value) (fr : Bool)
abbrev Key := Nat × Option Nat
abbrev PH := Key → Option Ce
def Sub (h k : PH) : Prop := ∀ b o, h b = some o → k b = some o
def Dis (h k : PH) : Prop := ∀ b, h b = none ∨ k b = none
abbrev SP := PH → Prop
theorem Sub.rfl' {h : PH} : Sub h h := fun _ _ e => e
theorem Sub.tr {h k l : PH} (a : Sub h k) (b : Sub k l) : Sub h l := fun x o e => b x o (a x o e)
theorem Dis.sym {h k : PH} (a : Dis h k) : Dis k h := fun b => (a b).symm
theorem Dis.subL {h h' k : PH} (a : Dis h k) (s : Sub h' h) : Dis h' k := fun b => by
  rcases a b with e | e
  · left
    cases e' : h' b with
    | none => rfl
    | some o => rw [s b o e'] at e; cases e
  · exact .inr e
theorem Dis.subR {h k k' : PH} (a : Dis h k) (s : Sub k' k) : Dis h k' := (a.sym.subL s).sym
def uni (h k : PH) : PH := fun b => (h b).or (k b)
theorem Sub.uniL {h k : PH} : Sub h (uni h k) := fun b o e => by simp [uni, e]
theorem Sub.uniR {h k : PH} (d : Dis h k) : Sub k (uni h k) := fun b o e => by
  rcases d b with e' | e'
  · simp [uni, e', e]
  · rw [e'] at e; cases e
theorem Sub.uni {h k l : PH} (a : Sub h l) (b : Sub k l) : Sub (uni h k) l := fun x o e => by
  unfold RX.uni at e
  cases e' : h x with
  | none => rw [e'] at e; exact b x o (by simpa using e)
  | some o' => rw [e'] at e; simp at e; exact a x o (by rw [e', e])
theorem Dis.uniL {h k l : PH} (a : Dis h l) (b : Dis k l) : Dis (uni h k) l := fun x => by
  rcases a x with e | e
  · rcases b x with e' | e'
    · left; simp [uni, e, e']
    · exact .inr e'
  · exact .inr e
def sep : List SP → SP
  | [], _ => True
  | A :: L, h => ∃ h1 h2, Dis h1 h2 ∧ Sub h1 h ∧ Sub h2 h ∧ A h1 ∧ sep L h2
theorem sep.up : ∀ {L : List SP} {h k : PH}, sep L h → Sub h k → sep L k
  | [], _, _, _, _ => trivial
  | _ :: _, _, _, ⟨h1, h2, d, a, b, x, y⟩, s => ⟨h1, h2, d, a.tr s, b.tr s, x, y⟩
inductive Pick : List SP → SP → List SP → Prop
  | here {A : SP} {L : List SP} : Pick (A :: L) A L
  | there {A B : SP} {L L' : List SP} (h : Pick L A L') : Pick (B :: L) A (B :: L')
theorem Pick.sep {L L' : List SP} {A : SP} (p : Pick L A L') : ∀ {h : PH}, sep L h → sep (A :: L') h := by
  induction p with
  | here => exact id
  | there p ih =>
    rintro h ⟨h1, h2, d, a, b, x, y⟩
    obtain ⟨k1, k2, d', a', b', x', y'⟩ := ih y
    refine ⟨k1, uni h1 k2, ?_, a'.tr b, Sub.uni a (b'.tr b), x', h1, k2, d.subR b', Sub.uniL, Sub.uniR (d.subR b'), x, y'⟩
    exact (Dis.uniL (d.subR a') d'.sym).sym
theorem Pick.right {L N N' : List SP} {A : SP} (p : Pick N A N') : Pick (L ++ N) A (L ++ N') := by
  induction L with
  | nil => exact p
  | cons B L ih => exact .there ih
inductive Picks : List SP → List SP → List SP → Prop
  | nil {L : List SP} : Picks L [] L
  | cons {L L' L'' M : List SP} {A : SP} (p : Pick L A L') (q : Picks L' M L'') : Picks L (A :: M) L''
theorem sep_append {M N : List SP} : ∀ {h : PH}, sep (M ++ N) h → ∃ h1 h2, Dis h1 h2 ∧ Sub h1 h ∧ Sub h2 h ∧ sep M h1 ∧ sep N h2 := by
  induction M with
  | nil => intro h e; exact ⟨fun _ => none, h, fun _ => .inl rfl, (fun _ _ e => by cases e), Sub.rfl', trivial, e⟩
  | cons A M ih =>
    rintro h ⟨h1, h2, d, a, b, x, y⟩
    obtain ⟨k1, k2, d', a', b', x', y'⟩ := ih y
    exact ⟨uni h1 k1, k2, Dis.uniL (d.subR b') d', Sub.uni a (a'.tr b), b'.tr b, ⟨h1, k1, d.subR a', Sub.uniL, Sub.uniR (d.subR a'), x, x'⟩, y'⟩
theorem sep_join {M N : List SP} : ∀ {h h1 h2 : PH}, Dis h1 h2 → Sub h1 h → Sub h2 h → sep M h1 → sep N h2 → sep (M ++ N) h := by
  induction M with
  | nil => intro h h1 h2 _ _ b _ y; exact y.up b
  | cons A M ih =>
    rintro h h1 h2 d a b ⟨k1, k2, d', a', b', x, y⟩ z
    exact ⟨k1, uni k2 h2, (Dis.uniL d'.sym (d.subL a').sym).sym, a'.tr a, Sub.uni (b'.tr a) b, x, ih (d.subL b') Sub.uniL (Sub.uniR (d.subL b')) y z⟩
theorem Picks.sep {L M N : List SP} (p : Picks L M N) : ∀ {h : PH}, sep L h → sep (M ++ N) h := by
  induction p with
  | nil => exact id
  | cons p q ih =>
    intro h e
    obtain ⟨h1, h2, d, a, b, x, y⟩ := p.sep e
    exact ⟨h1, h2, d, a, b, x, ih y⟩
def hpo : Option Obj → Option Nat → Option Ce
  | some (.cells cs e fz), none => some (.blk cs.size e fz)
  | some (.cells cs _ fz), some i => (cs[i]?).map (.cell · (decide (fz.1 ≤ i) && decide (i < fz.2)))
  | some o, none => some (.obj o)
  | some _, some _ => none
  | none, _ => none
def hp (w : World) : PH := fun k => hpo w.heap[k.1]? k.2
theorem hpo_obj {x : Option Obj} {o : Obj} (h : hpo x none = some (.obj o)) : x = some o ∧ ∀ i, hpo x (some i) = none := by
  cases x with
  | none => cases h
  | some y => cases y <;> simp_all [hpo]
theorem hpo_blk {x : Option Obj} {n : Nat} {e : TypeId} {fz : Nat × Nat} (h : hpo x none = some (.blk n e fz)) : ∃ cs, x = some (.cells cs e fz) ∧ cs.size = n := by
  cases x with
  | none => cases h
  | some y => cases y <;> simp_all [hpo]
theorem hpo_cell {x : Option Obj} {i : Nat} {v : Value} {fr : Bool} (h : hpo x (some i) = some (.cell v fr)) : ∃ cs e fz, x = some (.cells cs e fz) ∧ cs[i]? = some v ∧ (decide (fz.1 ≤ i) && decide (i < fz.2)) = fr := by
  cases x with
  | none => cases h
  | some y =>
    cases y <;> simp only [hpo] at h <;> try cases h
    rename_i cs e fz'
    cases hc : cs[i]? with
    | none => rw [hc] at h; cases h
    | some u =>
      rw [hc] at h
      simp only [Option.map_some, Option.some.injEq, Ce.cell.injEq] at h
      exact ⟨cs, e, fz', rfl, by rw [hc, h.1], h.2⟩
def Sat (E : World) (L : List SP) (w : World) : Prop := (w.os = E.os ∧ E.drawn ≤ w.drawn) ∧ w.tape = E.tape ∧ w.output = E.output ∧ sep L (hp w)
theorem Sat.mp {E w : World} {L L' : List SP} (h : Sat E L w) (f : ∀ k, sep L k → sep L' k) : Sat E L' w := ⟨h.1, h.2.1, h.2.2.1, f _ h.2.2.2⟩
theorem Sat.draw {E w : World} {L : List SP} (h : Sat E L w) : Sat E L { w with drawn := w.drawn + 1 } := ⟨⟨h.1.1, Nat.le_succ_of_le h.1.2⟩, h.2⟩
theorem os_drawn {E w w' : World} (hos : (w'.os, w'.drawn) = (w.os, w.drawn)) (h : w.os = E.os ∧ E.drawn ≤ w.drawn) : w'.os = E.os ∧ E.drawn ≤ w'.drawn := by
  have h1 : w'.os = w.os := congrArg Prod.fst hos
  have h2 : w'.drawn = w.drawn := congrArg Prod.snd hos
  exact ⟨h1.trans h.1, by rw [h2]; exact h.2⟩
structure pt (b : Nat) (cs : List Value) (e : TypeId) (h : PH) : Prop where
  kind : h (b, none) = some (.blk cs.length e (0, 0))
  cell : ∀ i v, cs[i]? = some v → h (b, some i) = some (.cell v false)
def seg (b o : Nat) (us : List Value) : SP := fun h => ∀ i v, us[i]? = some v → h (b, some (o + i)) = some (.cell v false)
structure ob (b : Nat) (o : Obj) (h : PH) : Prop where
  kind : h (b, none) = some (.obj o)
def Old (w0 : World) : SP := fun h => ∀ k, k.1 < w0.heap.size → h k = hp w0 k
def pu (p : Prop) : SP := fun _ => p
theorem sep.one {L : List SP} {A : SP} {L' : List SP} (p : Pick L A L') {h : PH} (e : sep L h) : ∃ h1, Sub h1 h ∧ A h1 := by
  obtain ⟨h1, h2, d, a, b, x, y⟩ := p.sep e
  exact ⟨h1, a, x⟩
theorem Sat.pt_at {E w : World} {L L' : List SP} {b : Nat} {cs : List Value} {e : TypeId} (h : Sat E L w) (p : Pick L (pt b cs e) L') : w.heap[b]? = some (.cells cs.toArray e (0, 0)) := by
  obtain ⟨h1, s, x⟩ := sep.one p h.2.2.2
  obtain ⟨ca, ha, hs⟩ := hpo_blk (s _ _ x.1)
  have ha' : w.heap[b]? = some (.cells ca e (0, 0)) := ha
  rw [ha']
  congr 2
  apply Array.ext (by simpa using hs)
  intro i hi1 hi2
  have hi3 : i < cs.length := by simpa using hi2
  have hc := s _ _ (x.2 i cs[i] (List.getElem?_eq_getElem hi3))
  obtain ⟨cb, e', fz', h1', h2', _⟩ := hpo_cell hc
  have h1'' : w.heap[b]? = some (.cells cb e' fz') := h1'
  rw [ha'] at h1''
  simp only [Option.some.injEq, Obj.cells.injEq] at h1''
  obtain ⟨rfl, _⟩ := h1''
  rw [Array.getElem?_eq_getElem hi1] at h2'
  simpa using h2'
theorem Sat.ob_at {E w : World} {L L' : List SP} {b : Nat} {o : Obj} (h : Sat E L w) (p : Pick L (ob b o) L') : w.heap[b]? = some o := by
  obtain ⟨h1, s, x⟩ := sep.one p h.2.2.2
  exact (hpo_obj (s _ _ x.1)).1
theorem seg_at {h1 : PH} {w : World} {b o : Nat} {us : List Value} (s : Sub h1 (hp w)) (x : seg b o us h1) (hne : 0 < us.length) :
    ∃ cs e fz, w.heap[b]? = some (.cells cs e fz) ∧ ∀ i v, us[i]? = some v → cs[o + i]? = some v ∧ (decide (fz.1 ≤ o + i) && decide (o + i < fz.2)) = false := by
  obtain ⟨cs, e, fz, ha, _⟩ := hpo_cell (s _ _ (x 0 us[0] (List.getElem?_eq_getElem hne)))
  refine ⟨cs, e, fz, ha, fun i v hi => ?_⟩
  obtain ⟨cb, e', fz', hb, hc⟩ := hpo_cell (s _ _ (x i v hi))
  have hb' : w.heap[b]? = some (.cells cb e' fz') := hb
  have ha' : w.heap[b]? = some (.cells cs e fz) := ha
  rw [ha'] at hb'
  simp only [Option.some.injEq, Obj.cells.injEq] at hb'
  obtain ⟨rfl, _, rfl⟩ := hb'
  exact hc
theorem sep_upd {L : List SP} {A A' : SP} {h k : PH} (e : sep (A :: L) h)
    (hA : ∀ h1, A h1 → Sub h1 h → (∀ x, h1 x = none → k x = h x) ∧ A' (fun x => if (h1 x).isSome then k x else none)) : sep (A' :: L) k := by
  obtain ⟨h1, h2, d, a, s, x, y⟩ := e
  obtain ⟨hk, hA'⟩ := hA h1 x a
  refine ⟨_, h2, fun z => ?_, fun z c e => ?_, fun z c e => ?_, hA', y⟩
  · rcases d z with e | e
    · left; simp [e]
    · exact .inr e
  · cases h3 : h1 z with
    | none => simp [h3] at e
    | some c' => simpa [h3] using e
  · have h3 : h1 z = none := by
      rcases d z with e' | e'
      · exact e'
      · rw [e'] at e; cases e
    rw [hk z h3]; exact s _ _ e
def isC : Obj → Bool
  | .cells .. => true
  | _ => false
theorem hpo_none {o : Obj} (hc : isC o = false) : hpo (some o) none = some (.obj o) := by cases o <;> first | rfl | cases hc
theorem hpo_some {o : Obj} (hc : isC o = false) (i : Nat) : hpo (some o) (some i) = none := by cases o <;> first | rfl | cases hc
theorem Sat.put {E w w' : World} {L L' : List SP} {b : Nat} {o o' : Obj} (h : Sat E L w) (p : Pick L (ob b o) L') (hos : (w'.os, w'.drawn) = (w.os, w.drawn)) (ht : w'.tape = w.tape) (ho : w'.output = w.output)
    (hk : ∀ x, x ≠ b → w'.heap[x]? = w.heap[x]?) (hb : w'.heap[b]? = some o') (hc : isC o' = false := by rfl) : Sat E (ob b o' :: L') w' := by
  refine ⟨os_drawn hos h.1, ht.trans h.2.1, ho.trans h.2.2.1, sep_upd (p.sep h.2.2.2) fun h1 x s => ⟨fun z hz => ?_, ?_⟩⟩
  · obtain ⟨zb, zi⟩ := z
    by_cases hzb : zb = b
    · subst hzb
      have hx := hpo_obj (s _ _ x.1)
      cases zi with
      | none => have x' : h1 (zb, none) = _ := x.1; rw [hz] at x'; cases x'
      | some i =>
        have e1 : hp w (zb, some i) = none := hx.2 i
        have e2 : hp w' (zb, some i) = none := by show hpo w'.heap[zb]? (some i) = none; rw [hb]; exact hpo_some hc i
        rw [e1, e2]
    · show hpo _ _ = hpo _ _
      rw [hk zb hzb]
  · have x' : h1 (b, none) = _ := x.1
    refine ⟨?_⟩
    show (if (h1 (b, none)).isSome then hp w' (b, none) else none) = _
    rw [x']
    show hpo w'.heap[b]? none = _
    rw [hb]; exact hpo_none hc
theorem Sat.putPt {E w w' : World} {L L' : List SP} {b : Nat} {cs cs' : List Value} {e : TypeId} (h : Sat E L w) (p : Pick L (pt b cs e) L') (hl : cs'.length = cs.length) (hos : (w'.os, w'.drawn) = (w.os, w.drawn)) (ht : w'.tape = w.tape) (ho : w'.output = w.output)
    (hk : ∀ x, x ≠ b → w'.heap[x]? = w.heap[x]?) (hb : w'.heap[b]? = some (.cells cs'.toArray e (0, 0))) : Sat E (pt b cs' e :: L') w' := by
  have hb0 := h.pt_at p
  refine ⟨os_drawn hos h.1, ht.trans h.2.1, ho.trans h.2.2.1, sep_upd (p.sep h.2.2.2) fun h1 x s => ⟨fun z hz => ?_, ?_, fun i v hi => ?_⟩⟩
  · obtain ⟨zb, zi⟩ := z
    by_cases hzb : zb = b
    · subst hzb
      cases zi with
      | none => rw [x.1] at hz; cases hz
      | some i =>
        have hi : cs.length ≤ i := by
          rcases Nat.lt_or_ge i cs.length with hi | hi
          · rw [x.2 i cs[i] (List.getElem?_eq_getElem hi)] at hz; cases hz
          · exact hi
        show hpo w'.heap[zb]? _ = hpo w.heap[zb]? _
        rw [hb, hb0]
        simp only [hpo]
        rw [Array.getElem?_eq_none (by simpa [hl] using hi), Array.getElem?_eq_none (by simpa using hi)]
    · show hpo _ _ = hpo _ _
      rw [hk zb hzb]
  · show (if (h1 (b, none)).isSome then hp w' (b, none) else none) = _
    rw [x.1]
    show hpo w'.heap[b]? none = _
    rw [hb]; simp [hpo]
  · have hi' : i < cs.length := by rw [← hl]; exact (List.getElem?_eq_some_iff.1 hi).1
    show (if (h1 (b, some i)).isSome then hp w' (b, some i) else none) = _
    rw [x.2 i cs[i] (List.getElem?_eq_getElem hi')]
    show hpo w'.heap[b]? (some i) = _
    rw [hb]; simp [hpo, hi]
theorem Sat.putSeg {E w w' : World} {L L' : List SP} {b o : Nat} {us us' : List Value} {cs cs' : Array Value} {e : TypeId} {fz : Nat × Nat} (h : Sat E L w) (p : Pick L (seg b o us) L') (hl : us'.length = us.length) (hos : (w'.os, w'.drawn) = (w.os, w.drawn)) (ht : w'.tape = w.tape) (ho : w'.output = w.output)
    (hk : ∀ x, x ≠ b → w'.heap[x]? = w.heap[x]?) (hb : w.heap[b]? = some (.cells cs e fz)) (hb' : w'.heap[b]? = some (.cells cs' e fz)) (hsz : cs'.size = cs.size)
    (h1 : ∀ i, i < o ∨ o + us.length ≤ i → cs'[i]? = cs[i]?) (h2 : ∀ i v, us'[i]? = some v → cs'[o + i]? = some v) : Sat E (seg b o us' :: L') w' := by
  refine ⟨os_drawn hos h.1, ht.trans h.2.1, ho.trans h.2.2.1, sep_upd (p.sep h.2.2.2) fun g x s => ⟨fun z hz => ?_, fun i v hi => ?_⟩⟩
  · obtain ⟨zb, zi⟩ := z
    by_cases hzb : zb = b
    · subst hzb
      show hpo w'.heap[zb]? _ = hpo w.heap[zb]? _
      rw [hb, hb']
      cases zi with
      | none => simp [hpo, hsz]
      | some i =>
        simp only [hpo]
        rw [h1 i]
        rcases Nat.lt_or_ge i o with hi | hi
        · exact .inl hi
        · right
          rcases Nat.lt_or_ge i (o + us.length) with hi2 | hi2
          · have hj : i - o < us.length := by omega
            have := x (i - o) us[i - o] (List.getElem?_eq_getElem hj)
            rw [show o + (i - o) = i by omega, hz] at this; cases this
          · exact hi2
    · show hpo _ _ = hpo _ _
      rw [hk zb hzb]
  · have hi' : i < us.length := by rw [← hl]; exact (List.getElem?_eq_some_iff.1 hi).1
    show (if (g (b, some (o + i))).isSome then hp w' (b, some (o + i)) else none) = _
    rw [x i us[i] (List.getElem?_eq_getElem hi')]
    show hpo w'.heap[b]? (some (o + i)) = _
    obtain ⟨cb, e', fz', h3, _, h4⟩ := hpo_cell (s _ _ (x i us[i] (List.getElem?_eq_getElem hi')))
    have h3' : w.heap[b]? = some (.cells cb e' fz') := h3
    rw [hb] at h3'
    simp only [Option.some.injEq, Obj.cells.injEq] at h3'
    obtain ⟨_, _, rfl⟩ := h3'
    rw [hb']; simp only [hpo, h2 i v hi, Option.map_some, h4]
def blkof (b : Nat) (o : Obj) : SP := fun h => ∀ q, h (b, q) = hpo (some o) q
theorem Sat.newB {E w : World} {L : List SP} (h : Sat E L w) (o : Obj) : Sat E (blkof w.heap.size o :: L) { w with heap := w.heap.push o } := by
  have hn : ∀ q, hp w (w.heap.size, q) = none := fun q => by show hpo w.heap[w.heap.size]? q = none; simp [hpo]
  have hn' : ∀ q, hp { w with heap := w.heap.push o } (w.heap.size, q) = hpo (some o) q := fun q => by show hpo (w.heap.push o)[w.heap.size]? q = _; simp
  refine ⟨h.1, h.2.1, h.2.2.1, fun x => if x.1 = w.heap.size then hpo (some o) x.2 else none, hp w, fun x => ?_, fun x o' e => ?_, fun x o' e => ?_, fun q => by simp, h.2.2.2⟩
  · obtain ⟨xb, xi⟩ := x
    by_cases hx : xb = w.heap.size
    · right; subst hx; exact hn xi
    · left; simp [hx]
  · obtain ⟨xb, xi⟩ := x
    by_cases hx : xb = w.heap.size
    · subst hx; rw [hn']; simpa using e
    · simp [hx] at e
  · obtain ⟨xb, xi⟩ := x
    have hx : xb < w.heap.size := by
      rcases Nat.lt_or_ge xb w.heap.size with hx | hx
      · exact hx
      · have : hp w (xb, xi) = none := by show hpo w.heap[xb]? xi = none; rw [Array.getElem?_eq_none hx]; rfl
        rw [this] at e; cases e
    show hpo (w.heap.push o)[xb]? xi = some o'
    rw [Array.getElem?_push_lt hx]
    have e' : hpo w.heap[xb]? xi = some o' := e
    rw [Array.getElem?_eq_getElem hx] at e'; exact e'
theorem sep_head {A B : SP} {L : List SP} {h : PH} (e : sep (A :: L) h) (f : ∀ k, A k → B k) : sep (B :: L) h := by
  obtain ⟨h1, h2, d, a, s, x, y⟩ := e
  exact ⟨h1, h2, d, a, s, f _ x, y⟩
theorem Sat.new {E w : World} {L : List SP} (h : Sat E L w) (o : Obj) (hc : isC o = false := by rfl) : Sat E (ob w.heap.size o :: L) { w with heap := w.heap.push o } :=
  (h.newB o).mp fun _ e => sep_head e fun k x => ⟨by show k (_, none) = _; rw [x none]; exact hpo_none hc⟩
theorem Sat.newPt {E w : World} {L : List SP} (h : Sat E L w) (cs : List Value) (e : TypeId) : Sat E (pt w.heap.size cs e :: L) { w with heap := w.heap.push (.cells cs.toArray e) } :=
  (h.newB _).mp fun _ e => sep_head e fun k x => ⟨by rw [x none]; simp [hpo], fun i v hi => by rw [x (some i)]; simp [hpo, hi]⟩
theorem pt_seg {b : Nat} {cs : List Value} {e : TypeId} {k : PH} (h : pt b cs e k) : seg b 0 cs k := fun i v hi => by rw [Nat.zero_add]; exact h.2 i v hi
def res (h : PH) (f : Nat → Nat → Bool) : PH := fun k => match k.2 with
  | some i => if f k.1 i then h k else none
  | none => none
theorem res_sub {h : PH} {f : Nat → Nat → Bool} : Sub (res h f) h := fun k c e => by
  obtain ⟨kb, ki⟩ := k
  cases ki with
  | none => cases e
  | some i => simp only [res] at e; split at e; · exact e
              · cases e
theorem res_dis {h : PH} {f g : Nat → Nat → Bool} (hfg : ∀ b i, f b i = true → g b i = false) : Dis (res h f) (res h g) := fun k => by
  obtain ⟨kb, ki⟩ := k
  cases ki with
  | none => exact .inl rfl
  | some i =>
    simp only [res]
    cases hf : f kb i with
    | false => left; simp
    | true => right; simp [hfg kb i hf]
theorem seg_split {b o : Nat} {us vs : List Value} {L : List SP} {h : PH} (e : sep (seg b o (us ++ vs) :: L) h) : sep (seg b o us :: seg b (o + us.length) vs :: L) h := by
  obtain ⟨h1, h2, d, a, s, x, y⟩ := e
  have e1 : seg b o us (res h1 fun kb i => Nat.beq kb b && Nat.blt i (o + us.length)) := fun i v hi => by
    have hi' := (List.getElem?_eq_some_iff.1 hi).1
    simp only [res]
    rw [if_pos (by simp [Nat.blt_eq, hi'])]
    exact x i v (by rw [List.getElem?_append_left hi']; exact hi)
  have e2 : seg b (o + us.length) vs (res h1 fun kb i => Nat.beq kb b && Nat.ble (o + us.length) i) := fun i v hi => by
    simp only [res]
    rw [if_pos (by simp [Nat.ble_eq]), Nat.add_assoc]
    exact x _ v (by rw [List.getElem?_append_right (by omega)]; simpa using hi)
  have d12 : Dis (res h1 fun kb i => Nat.beq kb b && Nat.blt i (o + us.length)) (res h1 fun kb i => Nat.beq kb b && Nat.ble (o + us.length) i) := res_dis fun kb i hf => by
    simp only [Bool.and_eq_true, Nat.blt_eq] at hf
    simp only [hf.1, Bool.true_and]
    cases hb : Nat.ble (o + us.length) i with
    | false => rfl
    | true => have := Nat.le_of_ble_eq_true hb; omega
  exact ⟨_, uni _ h2, (Dis.uniL d12.sym (d.subL res_sub).sym).sym, res_sub.tr a, Sub.uni (res_sub.tr a) s, e1, _, h2, d.subL res_sub, Sub.uniL, Sub.uniR (d.subL res_sub), e2, y⟩
theorem seg_join {b o : Nat} {us vs : List Value} {L : List SP} {h : PH} (e : sep (seg b o us :: seg b (o + us.length) vs :: L) h) : sep (seg b o (us ++ vs) :: L) h := by
  obtain ⟨h1, h2, d, a, s, x, k1, k2, d', a', s', x', y'⟩ := e
  refine ⟨uni h1 k1, k2, Dis.uniL (d.subR s') d', Sub.uni a (a'.tr s), s'.tr s, fun i v hi => ?_, y'⟩
  rcases Nat.lt_or_ge i us.length with hlt | hge
  · exact Sub.uniL _ _ (x i v (by rw [List.getElem?_append_left hlt] at hi; exact hi))
  · have := x' (i - us.length) v (by rw [List.getElem?_append_right hge] at hi; exact hi)
    rw [show o + us.length + (i - us.length) = o + i by omega] at this
    exact Sub.uniR (d.subR a') _ _ this
def look : List (Nat × Value) → Nat → Option Value
  | [], _ => none
  | (d, v) :: st, t => bif Nat.beq d t then some v else look st t
def evo (st : List (Nat × Value)) : Operand → Option Value
  | .tmp t => look st t
  | .const v => some v
  | .global g => some (.pointer (some ⟨g, 0, none⟩))
  | .func f => some (.func (.func f) #[] #[])
structure Fr (n : Nat) (ds : List Deferred) (st : List (Nat × Value)) (a : Act) : Prop where
  size : a.tmps.size = n
  defs : a.defers = ds
  at_ : ∀ t v, look st t = some v → a.tmps[t]? = some v
theorem Fr.ev {n : Nat} {ds : List Deferred} {st : List (Nat × Value)} {a : Act} (h : Fr n ds st a) {x : Operand} {v : Value} (e : evo st x = some v) : a.eval x = v := by
  cases x with
  | tmp t => simp [Act.eval, h.at_ t v e]
  | const u => simp [evo] at e; simp [Act.eval, e]
  | global g => simp [evo] at e; simp [Act.eval, e]
  | func f => simp [evo] at e; simp [Act.eval, e]
theorem Fr.put {n : Nat} {ds : List Deferred} {st : List (Nat × Value)} {a : Act} (h : Fr n ds st a) {d : Nat} (hd : d < n) (v : Value) : Fr n ds ((d, v) :: st) (a.put (some d) v) := by
  refine ⟨by simp [Act.put, h.size], h.defs, fun t u e => ?_⟩
  simp only [Act.put]
  by_cases ht : d = t
  · subst ht
    simp only [look, Nat.beq_refl, cond_true, Option.some.injEq] at e
    rw [Array.getElem?_setIfInBounds_self_of_lt (by rw [h.size]; exact hd), e]
  · have hb : Nat.beq d t = false := by cases hb : Nat.beq d t with | false => rfl | true => exact absurd (Nat.eq_of_beq_eq_true hb) ht
    simp only [look, hb, cond_false] at e
    rw [Array.getElem?_setIfInBounds_ne ht]
    exact h.at_ t u e
theorem Fr.weak {n : Nat} {ds : List Deferred} {st st' : List (Nat × Value)} {a : Act} (h : Fr n ds st a) (hl : ∀ t v, look st' t = some v → look st t = some v) : Fr n ds st' a :=
  ⟨h.size, h.defs, fun t v e => h.at_ t v (hl t v e)⟩
def sub (st : List (Nat × Value)) : List (Nat × Value) → Prop
  | [] => True
  | (d, v) :: r => look st d = some v ∧ sub st r
theorem sub.look {st : List (Nat × Value)} : ∀ {st' : List (Nat × Value)}, sub st st' → ∀ t v, look st' t = some v → look st t = some v
  | [], _, _, _, e => by cases e
  | (d, u) :: r, ⟨h1, h2⟩, t, v, e => by
    simp only [RX.look] at e
    cases hb : Nat.beq d t with
    | true => rw [hb] at e; simp at e; have := Nat.eq_of_beq_eq_true hb; subst this; rw [h1, e]
    | false => rw [hb] at e; exact sub.look h2 t v (by simpa using e)
theorem Fr.sub {n : Nat} {ds : List Deferred} {st st' : List (Nat × Value)} {a : Act} (h : Fr n ds st a) (hl : RX.sub st st') : Fr n ds st' a := h.weak (RX.sub.look hl)
def Hd (E : World) (n : Nat) (ds : List Deferred) (st : List (Nat × Value)) (L : List SP) (K : Act → World → Prop) : Prop :=
  ∀ a w, Fr n ds st a → Sat E L w → K a w
def FW (r : Option Nat) : Fence := { Fence.wide with round := r }
abbrev CW (r : Option Nat) (P : Program) (c : Code) (Q : Exit → Act → World → Prop) : Act → World → Prop := c.wpIn (FW r) 0 P Q
abbrev LW (r : Option Nat) (P : Program) (ops : Array Oper) (Q : Exit → Act → World → Prop) (l : List Oper) : Act → World → Prop := wpListIn (FW r) 0 P ops Q l
section
variable {E : World} {n : Nat} {ds : List Deferred} {st st' : List (Nat × Value)} {L L' : List SP} {K K' : Act → World → Prop} {r : Option Nat} {P : Program} {Q : Exit → Act → World → Prop} {ops : Array Oper} {rest : List Oper}
theorem Hd.mono (h : Hd E n ds st L K) (hk : ∀ a w, K a w → K' a w) : Hd E n ds st L K' := fun a w f s => hk a w (h a w f s)
theorem Hd.slots (st' : List (Nat × Value)) (hs : sub st st') (h : Hd E n ds st' L K) : Hd E n ds st L K := fun a w f s => h a w (f.sub hs) s
theorem Hd.heap (L' : List SP) (hl : ∀ k, sep L k → sep L' k) (h : Hd E n ds st L' K) : Hd E n ds st L K := fun a w f s => h a w f (s.mp hl)
theorem Hd.pull {A : SP} {M : List SP} (p : Pick L A M) (h : Hd E n ds st (A :: M) K) : Hd E n ds st L K := fun a w f s => h a w f (s.mp fun _ e => p.sep e)
theorem Hd.drop {A : SP} (h : Hd E n ds st L K) : Hd E n ds st (A :: L) K := fun a w f s => h a w f (s.mp fun _ ⟨_, _, _, _, b, _, y⟩ => y.up b)
theorem Hd.pure {p : Prop} (h : p → Hd E n ds st L K) : Hd E n ds st (pu p :: L) K := fun a w f s => by
  obtain ⟨h1, h2, _, _, b, x, y⟩ := s.2.2.2
  exact h x a w f ⟨s.1, s.2.1, s.2.2.1, y.up b⟩
theorem Hd.ex {ι : Type} {A : ι → SP} (h : ∀ i, Hd E n ds st (A i :: L) K) : Hd E n ds st ((fun k => ∃ i, A i k) :: L) K := fun a w f s => by
  obtain ⟨h1, h2, d, aa, b, ⟨i, x⟩, y⟩ := s.2.2.2
  exact h i a w f ⟨s.1, s.2.1, s.2.2.1, h1, h2, d, aa, b, x, y⟩
theorem Hd.seq {x y : Code} (h : ∀ K : Act → World → Prop, (∀ a w, CW r P y Q a w → K a w) → Hd E n ds st L (CW r P x (Exit.then K Q))) : Hd E n ds st L (CW r P (.seq x y) Q) :=
  fun a w f s => wpIn_seq_k fun K hK => h K hK a w f s
theorem Hd.skip (h : Hd E n ds st L (Q .normal)) : Hd E n ds st L (CW r P .skip Q) := fun a w f s => wpIn_skip (h a w f s)
theorem Hd.label {l : Nat} (h : Hd E n ds st L (Q .normal)) : Hd E n ds st L (CW r P (.label l) Q) := fun a w f s => wpIn_label (h a w f s)
theorem Hd.exit {id : Nat} (h : Hd E n ds st L (Q (.exit id))) : Hd E n ds st L (CW r P (.exit id) Q) := fun a w f s => wpIn_exit (h a w f s)
theorem Hd.ret (h : Hd E n ds st L (Q .ret)) : Hd E n ds st L (CW r P .ret Q) := fun a w f s => wpIn_ret (h a w f s)
theorem Hd.block {id : Nat} {c : Code} (h : Hd E n ds st L (CW r P c (Exit.inBlock id Q))) : Hd E n ds st L (CW r P (.block id c) Q) := fun a w f s => wpIn_block (h a w f s)
theorem Hd.cond {c : Operand} {x y : Code} {t : Bool} (hc : evo st c = some (.bool t)) (ht : t = true → Hd E n ds st L (CW r P x Q)) (hf : t = false → Hd E n ds st L (CW r P y Q)) :
    Hd E n ds st L (CW r P (.cond c x y) Q) := fun a w f s => wpIn_cond_split (f.ev hc) (fun e => ht e a w f s) (fun e => hf e a w f s)
theorem Hd.condT {c : Operand} {x y : Code} (hc : evo st c = some (.bool true)) (h : Hd E n ds st L (CW r P x Q)) :
    Hd E n ds st L (CW r P (.cond c x y) Q) := fun a w f s => wpIn_cond_true (f.ev hc) (h a w f s)
theorem Hd.condF {c : Operand} {x y : Code} (hc : evo st c = some (.bool false)) (h : Hd E n ds st L (CW r P y Q)) :
    Hd E n ds st L (CW r P (.cond c x y) Q) := fun a w f s => wpIn_cond_false (f.ev hc) (h a w f s)
theorem Hd.region {id : Nat} {l : List Oper} (h : Hd E n ds st L (LW r P l.toArray Q l)) : Hd E n ds st L (CW r P (.region id l.toArray false) Q) := fun a w f s => wpIn_region_lit (h a w f s)
theorem Hd.nil (h : Hd E n ds st L (Q .normal)) : Hd E n ds st L (LW r P ops Q []) := fun a w f s => wpListIn_nil (h a w f s)
theorem Hd.toK {R : Exit → Act → World → Prop} (hK : ∀ a w, K' a w → K a w) (h : Hd E n ds st L K') : Hd E n ds st L ((Exit.then K R) .normal) := fun a w f s => hK a w (h a w f s)
theorem Hd.inB {id : Nat} (h : Hd E n ds st L (Q .normal)) : Hd E n ds st L ((Exit.inBlock id Q) .normal) := h
theorem Hd.inBexit {id : Nat} (h : Hd E n ds st L (Q .normal)) : Hd E n ds st L ((Exit.inBlock id Q) (.exit id)) := fun a w f s => by
  show (if id = id then Q .normal a w else _); rw [if_pos rfl]; exact h a w f s
theorem Hd.inBexit' {id id' : Nat} (hn : Nat.beq id' id = false) (h : Hd E n ds st L (Q (.exit id'))) : Hd E n ds st L ((Exit.inBlock id Q) (.exit id')) := fun a w f s => by
  show (if id' = id then _ else Q (.exit id') a w)
  rw [if_neg (by intro e; subst e; rw [Nat.beq_refl] at hn; cases hn)]; exact h a w f s
theorem Hd.inBret {id : Nat} (h : Hd E n ds st L (Q .ret)) : Hd E n ds st L ((Exit.inBlock id Q) .ret) := h
theorem Hd.thenExit {id : Nat} (h : Hd E n ds st L (Q (.exit id))) : Hd E n ds st L ((Exit.then K Q) (.exit id)) := h
theorem Hd.thenRet (h : Hd E n ds st L (Q .ret)) : Hd E n ds st L ((Exit.then K Q) .ret) := h
theorem Hd.loop {c : Code} {ι : Type} (S : ι → List (Nat × Value)) (H : ι → List SP) (μ : ι → Nat) (i0 : ι) (hs : sub st (S i0)) (hh : ∀ k, sep L k → sep (H i0) k)
    (round : ∀ i, Hd E n ds (S i) (H i) (CW r P c (Exit.then (fun a w => ∃ j, μ j < μ i ∧ Fr n ds (S j) a ∧ Sat E (H j) w) Q))) :
    Hd E n ds st L (CW r P (.loop c) Q) := by
  intro a w f s
  have key : ∀ m : Nat, ∀ i, μ i = m → ∀ a w, Fr n ds (S i) a → Sat E (H i) w → (Code.loop c).wpIn (FW r) 0 P Q a w := by
    intro m
    induction m using Nat.strongRecOn with
    | _ m ih =>
      intro i hi a w f s
      subst hi
      refine wpIn_loop (fun a' w' => (∃ j, μ j ≤ μ i ∧ Fr n ds (S j) a' ∧ Sat E (H j) w')) (fun a' w' => Classical.epsilon fun m => ∃ j, μ j = m ∧ m ≤ μ i ∧ Fr n ds (S j) a' ∧ Sat E (H j) w' ∧ ∀ j', Fr n ds (S j') a' → Sat E (H j') w' → m ≤ μ j') ⟨i, Nat.le_refl _, f, s⟩ ?_
      rintro a1 w1 ⟨j, hj, f1, s1⟩
      -- the least index at this state
      have ex : ∀ (m0 : Nat) (a' : Act) (w' : World), (∃ j, μ j ≤ m0 ∧ Fr n ds (S j) a' ∧ Sat E (H j) w') → ∃ m, ∃ j, μ j = m ∧ m ≤ m0 ∧ Fr n ds (S j) a' ∧ Sat E (H j) w' ∧ ∀ j', Fr n ds (S j') a' → Sat E (H j') w' → m ≤ μ j' := by
        intro m0
        induction m0 using Nat.strongRecOn with
        | _ m0 ih0 =>
          rintro a' w' ⟨j, hj, f', s'⟩
          by_cases hl : ∃ j', μ j' < μ j ∧ Fr n ds (S j') a' ∧ Sat E (H j') w'
          · obtain ⟨j', hj', f'', s''⟩ := hl
            obtain ⟨m, j3, e3, l3, f3, s3, b3⟩ := ih0 (μ j') (by omega) a' w' ⟨j', Nat.le_refl _, f'', s''⟩
            exact ⟨m, j3, e3, by omega, f3, s3, b3⟩
          · exact ⟨μ j, j, rfl, hj, f', s', fun j' f'' s'' => Nat.le_of_not_lt fun hlt => hl ⟨j', hlt, f'', s''⟩⟩
      have spec1 := Classical.epsilon_spec (ex (μ i) a1 w1 ⟨j, hj, f1, s1⟩)
      obtain ⟨j1, e1, l1, g1, t1, b1⟩ := spec1
      refine Go.wpIn_mono (round j1 a1 w1 g1 t1) ?_
      intro e a2 w2 hq
      cases e with
      | normal =>
        obtain ⟨j2, hlt, f2, s2⟩ := hq
        refine ⟨⟨j2, by omega, f2, s2⟩, ?_⟩
        have spec2 := Classical.epsilon_spec (ex (μ i) a2 w2 ⟨j2, by omega, f2, s2⟩)
        obtain ⟨j3, e3, l3, g3, t3, b3⟩ := spec2
        have := b3 j2 f2 s2
        show (Classical.epsilon _) < (Classical.epsilon _)
        omega
      | exit id => exact hq
      | goto l => exact hq
      | ret => exact hq
      | panic ch => exact hq
      | outgrown => exact hq
  exact key (μ i0) i0 rfl a w (f.sub hs) (s.mp hh)
theorem Hd.cut {x y : Code} {ι : Type} (S : ι → List (Nat × Value)) (H : ι → List SP)
    (hx : Hd E n ds st L (CW r P x (Exit.then (fun a w => ∃ j, Fr n ds (S j) a ∧ Sat E (H j) w) Q)))
    (hy : ∀ j, Hd E n ds (S j) (H j) (CW r P y Q)) : Hd E n ds st L (CW r P (.seq x y) Q) := by
  intro a w f s
  refine wpIn_seq (Go.wpIn_mono (hx a w f s) ?_)
  intro e a' w' hq
  cases e with
  | normal => obtain ⟨j, f', s'⟩ := hq; exact hy j a' w' f' s'
  | exit id => exact hq
  | goto l => exact hq
  | ret => exact hq
  | panic ch => exact hq
  | outgrown => exact hq
theorem Hd.meet {ι : Type} {S : ι → List (Nat × Value)} {H : ι → List SP} (j : ι) (hs : sub st (S j)) (hh : ∀ k, sep L k → sep (H j) k) :
    Hd E n ds st L (fun a w => ∃ j, Fr n ds (S j) a ∧ Sat E (H j) w) := fun _ _ f s => ⟨j, f.sub hs, s.mp hh⟩
theorem Hd.again {ι : Type} {S : ι → List (Nat × Value)} {H : ι → List SP} {μ : ι → Nat} {m : Nat} (j : ι) (hm : μ j < m) (hs : sub st (S j)) (hh : ∀ k, sep L k → sep (H j) k) :
    Hd E n ds st L (fun a w => ∃ j, μ j < m ∧ Fr n ds (S j) a ∧ Sat E (H j) w) := fun _ _ f s => ⟨j, hm, f.sub hs, s.mp hh⟩
end
section
variable {E : World} {n : Nat} {ds : List Deferred} {st st' : List (Nat × Value)} {L L' : List SP} {r : Option Nat} {P : Program} {Q : Exit → Act → World → Prop} {ops : Array Oper} {rest : List Oper}
variable {d : Nat} {ty t t2 : TypeId} {pos : String} {af : Array Edge} {g : Option (Nat × Bool)} {x y z : Operand} {v u : Value} {k : IntKind} {a b : Int} {p q : Bool}
theorem Hd.op {o : Oper} (hg : o.guard = none) (hdf : ∀ c, o.op ≠ .defer c)
    (h : ∀ a w, Fr n ds st a → Sat E L w → ∃ v w', (execOp a.eval o).run P w = .ok (.value v) w' ∧ LW r P ops Q rest (a.put o.dst v) w') : Hd E n ds st L (LW r P ops Q (o :: rest)) := by
  intro a w f s
  obtain ⟨v, w', e, k⟩ := h a w f s
  show wpListIn _ _ _ _ _ _ _ _
  unfold wpListIn
  rw [if_pos (by simp [Region.wanted, hg])]
  refine ⟨fun _ _ => trivial, ?_⟩
  rw [Oper.semAt_eq _ _ _ hdf, e]
  exact k
theorem Hd.opu {o : Oper} (hg : o.guard = none) (hdf : ∀ c, o.op ≠ .defer c)
    (h : ∀ a w, Fr n ds st a → Sat E L w → ∃ w', (execOp a.eval o).run P w = .ok .skip w' ∧ LW r P ops Q rest (a.put o.dst undef) w') : Hd E n ds st L (LW r P ops Q (o :: rest)) := by
  intro a w f s
  obtain ⟨w', e, k⟩ := h a w f s
  show wpListIn _ _ _ _ _ _ _ _
  unfold wpListIn
  rw [if_pos (by simp [Region.wanted, hg])]
  refine ⟨fun _ _ => trivial, ?_⟩
  rw [Oper.semAt_eq _ _ _ hdf, e]
  exact k
def Yv (E : World) (n : Nat) (ds : List Deferred) (st : List (Nat × Value)) (L : List SP) (P : Program) (o : Oper) (v : Value) : Prop :=
  ∀ a w, Fr n ds st a → Sat E L w → (execOp a.eval o).run P w = .ok (.value v) w
theorem defer_no {ρ : Operand → Value} {o : Oper} {c : Call} (ho : o.op = .defer c) (w w' : World) : (execOp ρ o).run P w ≠ .ok (.value v) w' := by
  unfold execOp
  rw [ho]
  simp only [Sem.run_bind]
  intro e
  cases h : (resolve ρ c o.type).run P w with
  | ok d w1 => rw [h] at e; simp [Result.andThen] at e
  | halt x w1 => rw [h] at e; simp [Result.andThen] at e
theorem Hd.yv {op : Op} (h : Yv E n ds st L P ⟨some d, op, ty, pos, af, none⟩ v) (K : Hd E n ds ((d, v) :: st) L (LW r P ops Q rest)) (hd : d < n := by decide) :
    Hd E n ds st L (LW r P ops Q (⟨some d, op, ty, pos, af, none⟩ :: rest)) := fun a w f s =>
  Hd.op rfl (fun c hc => defer_no (by exact hc) w w (h a w f s)) (fun a w f s => ⟨v, w, h a w f s, K _ _ (f.put hd v) s⟩) a w f s
theorem yielded_of {i gd : Nat} {ac : Act} (hi : (ops[i]?).bind (·.dst) = some gd) (f : Fr n ds st ac) (hv : look st gd = some v) : yielded ops ac.tmps i = match v with | .bool b => some b | _ => none := by
  unfold yielded
  rw [hi]
  simp only [Option.bind_some, f.at_ gd v hv]
  cases v <;> rfl
theorem Hd.yg {op : Op} {i gd : Nat} (hi : (ops[i]?).bind (·.dst) = some gd) (hv : look st gd = some (.bool p)) (h : Yv E n ds st L P ⟨some d, op, ty, pos, af, some (i, p)⟩ v)
    (K : Hd E n ds ((d, v) :: st) L (LW r P ops Q rest)) (hd : d < n := by decide) :
    Hd E n ds st L (LW r P ops Q (⟨some d, op, ty, pos, af, some (i, p)⟩ :: rest)) := by
  intro a w f s
  have hh := h a w f s
  show wpListIn _ _ _ _ _ _ _ _
  unfold wpListIn
  rw [if_pos (by simp [Region.wanted, yielded_of hi f hv])]
  refine ⟨fun _ _ => trivial, ?_⟩
  rw [Oper.semAt_eq _ _ _ (fun c hc => defer_no (by exact hc) w w hh), hh]
  exact K _ _ (f.put hd v) s
def isb : Value → Bool → Bool
  | .bool b, c => b == c
  | _, _ => false
theorem Hd.ng {op : Op} {i gd : Nat} (hi : (ops[i]?).bind (·.dst) = some gd) (hv : look st gd = some v) (hb : isb v p = false)
    (K : Hd E n ds ((d, undef) :: st) L (LW r P ops Q rest)) (hd : d < n := by decide) :
    Hd E n ds st L (LW r P ops Q (⟨some d, op, ty, pos, af, some (i, p)⟩ :: rest)) := by
  intro a w f s
  show wpListIn _ _ _ _ _ _ _ _
  unfold wpListIn
  rw [if_neg (by
    simp only [Region.wanted, yielded_of hi f hv]
    cases v <;> simp_all [isb])]
  exact ⟨fun _ _ => trivial, K _ _ (f.put hd undef) s⟩
theorem Hd.part {K : Act → World → Prop} {gd : Nat} (hv : look st gd = some (.bool p)) (hT : p = true → Hd E n ds ((gd, .bool true) :: st) L K) (hF : p = false → Hd E n ds ((gd, .bool false) :: st) L K) : Hd E n ds st L K := by
  intro a w f s
  have key : ∀ c, p = c → Fr n ds ((gd, .bool c) :: st) a := fun c hc => f.weak fun t u e => by
    simp only [look] at e
    cases hb : Nat.beq gd t with
    | true => rw [hb] at e; have := Nat.eq_of_beq_eq_true hb; subst this; simp at e; rw [hv, hc, e]
    | false => rw [hb] at e; simpa using e
  cases hp : p with
  | true => exact hT hp a w (key true hp) s
  | false => exact hF hp a w (key false hp) s
theorem wpListIn_append {F : Fence} {m : Nat} (K : Act → World → Prop) (l2 : List Oper) (hK : ∀ a w, K a w → wpListIn F m P ops Q l2 a w) : ∀ (l1 : List Oper) (a : Act) (w : World), wpListIn F m P ops (Exit.then K Q) l1 a w → wpListIn F m P ops Q (l1 ++ l2) a w
  | [], a, w, h => hK a w h
  | o :: l1, a, w, h => by
    rw [List.cons_append]
    unfold wpListIn at h ⊢
    split
    · rename_i hw
      rw [if_pos hw] at h
      refine ⟨h.1, ?_⟩
      have h2 := h.2
      unfold Oper.uponIn at h2 ⊢
      split at h2
      · exact wpListIn_append K l2 hK l1 _ _ h2
      · exact wpListIn_append K l2 hK l1 _ _ h2
      · exact wpListIn_append K l2 hK l1 _ _ h2
      · obtain ⟨hn, hF, hc⟩ := h2
        refine ⟨hn, hF, fun cs hr => ?_⟩
        obtain ⟨e, w', fr, hR, rest⟩ := hc cs hr
        refine ⟨e, w', fr, ?_, rest⟩
        cases e with
        | returned v => exact wpListIn_append K l2 hK l1 _ _ hR
        | panicked ch => exact hR
        | outgrown => obtain ⟨a0, w0, hq⟩ := hR; exact ⟨a0, w0, hq⟩
      · obtain ⟨hn, hc⟩ := h2
        refine ⟨hn, fun c cs hr => ?_⟩
        obtain ⟨v, w', hR, rest⟩ := hc c cs hr
        exact ⟨v, w', wpListIn_append K l2 hK l1 _ _ hR, rest⟩
      · obtain ⟨hn, hF, hc⟩ := h2
        refine ⟨hn, hF, fun c cs hr => ?_⟩
        obtain ⟨e, w', hR, rest⟩ := hc c cs hr
        refine ⟨e, w', ?_, rest⟩
        cases e with
        | returned v => exact wpListIn_append K l2 hK l1 _ _ hR
        | panicked ch => exact hR
        | outgrown => obtain ⟨a0, w0, hq⟩ := hR; exact ⟨a0, w0, hq⟩
      · exact h2
      · exact h2.elim
    · rename_i hw
      rw [if_neg hw] at h
      exact ⟨h.1, wpListIn_append K l2 hK l1 _ _ h.2⟩
theorem Hd.andg {l : List Oper} (m gd dd : Nat) (sk : List (Nat × Value)) {q : Bool} (hv : look st gd = some (.bool p)) (_hk : sub st sk)
    (hT : p = true → Hd E n ds ((gd, .bool true) :: st) L (LW r P ops (Exit.then (fun a w => Fr n ds ((dd, .bool q) :: sk) a ∧ Sat E L w) Q) (l.take m)))
    (hF : p = false → Hd E n ds ((gd, .bool false) :: st) L (LW r P ops (Exit.then (fun a w => Fr n ds ((dd, .bool false) :: sk) a ∧ Sat E L w) Q) (l.take m)))
    (K : Hd E n ds ((dd, .bool (p && q)) :: sk) L (LW r P ops Q (l.drop m))) : Hd E n ds st L (LW r P ops Q l) := by
  intro a w f s
  have := wpListIn_append (P := P) (ops := ops) (Q := Q) (F := FW r) (m := 0) (fun a w => Fr n ds ((dd, .bool (p && q)) :: sk) a ∧ Sat E L w) (l.drop m) (fun a w ⟨f, s⟩ => K a w f s) (l.take m) a w
    (Hd.part hv (fun hp => by subst hp; exact hT rfl) (fun hp => by subst hp; exact hF rfl) a w f s)
  rwa [List.take_append_drop] at this
theorem Hd.org {l : List Oper} (m gd dd : Nat) (sk : List (Nat × Value)) {q : Bool} (hv : look st gd = some (.bool p)) (_hk : sub st sk)
    (hT : p = true → Hd E n ds ((gd, .bool true) :: st) L (LW r P ops (Exit.then (fun a w => Fr n ds ((dd, .bool true) :: sk) a ∧ Sat E L w) Q) (l.take m)))
    (hF : p = false → Hd E n ds ((gd, .bool false) :: st) L (LW r P ops (Exit.then (fun a w => Fr n ds ((dd, .bool q) :: sk) a ∧ Sat E L w) Q) (l.take m)))
    (K : Hd E n ds ((dd, .bool (p || q)) :: sk) L (LW r P ops Q (l.drop m))) : Hd E n ds st L (LW r P ops Q l) := by
  intro a w f s
  have := wpListIn_append (P := P) (ops := ops) (Q := Q) (F := FW r) (m := 0) (fun a w => Fr n ds ((dd, .bool (p || q)) :: sk) a ∧ Sat E L w) (l.drop m) (fun a w ⟨f, s⟩ => K a w f s) (l.take m) a w
    (Hd.part hv (fun hp => by subst hp; exact hT rfl) (fun hp => by subst hp; exact hF rfl) a w f s)
  rwa [List.take_append_drop] at this
theorem y_move (hx : evo st x = some v) : Yv E n ds st L P ⟨some d, .move x, ty, pos, af, g⟩ (v) :=
  fun a w f _ => by rw [← f.ev hx]; rfl
theorem y_assign (hx : evo st x = some v) : Yv E n ds st L P ⟨some d, .assign x, ty, pos, af, g⟩ (v) :=
  fun a w f _ => by rw [← f.ev hx]; rfl
theorem y_pickT (hc : evo st x = some (.bool true)) (hx : evo st y = some v) : Yv E n ds st L P ⟨some d, .pick x y z, ty, pos, af, g⟩ v :=
  fun a w f _ => by simp only [execOp, f.ev hc, f.ev hx, asBool]; rfl
theorem y_pickF (hc : evo st x = some (.bool false)) (hx : evo st z = some v) : Yv E n ds st L P ⟨some d, .pick x y z, ty, pos, af, g⟩ v :=
  fun a w f _ => by simp only [execOp, f.ev hc, f.ev hx, asBool]; rfl
theorem y_add (hx : evo st x = some (.int k a)) (hy : evo st y = some (.int k b)) : Yv E n ds st L P ⟨some d, .binOp .add t x y t2, ty, pos, af, g⟩ (.int k (k.wrap (a + b))) :=
  fun a w f _ => by simp only [execOp, f.ev hx, f.ev hy]; simp [eqGuard, binOp, Op.intArith, go_sem]
theorem y_sub (hx : evo st x = some (.int k a)) (hy : evo st y = some (.int k b)) : Yv E n ds st L P ⟨some d, .binOp .sub t x y t2, ty, pos, af, g⟩ (.int k (k.wrap (a - b))) :=
  fun a w f _ => by simp only [execOp, f.ev hx, f.ev hy]; simp [eqGuard, binOp, Op.intArith, go_sem]
def InK : IntKind → Int → Prop
  | .i8, x => -128 ≤ x ∧ x ≤ 127
  | .i16, x => -32768 ≤ x ∧ x ≤ 32767
  | .i32, x => -2147483648 ≤ x ∧ x ≤ 2147483647
  | .i64, x => -9223372036854775808 ≤ x ∧ x ≤ 9223372036854775807
  | .u8, x => 0 ≤ x ∧ x ≤ 255
  | .u16, x => 0 ≤ x ∧ x ≤ 65535
  | .u32, x => 0 ≤ x ∧ x ≤ 4294967295
  | .u64, x => 0 ≤ x ∧ x ≤ 18446744073709551615
theorem wrapIn {k : IntKind} {x : Int} (h : InK k x) : k.wrap x = x := by
  cases k <;> simp only [InK] at h <;> simp only [IntKind.wrap, IntKind.bits, IntKind.signed, Bool.true_and, Bool.false_and] <;> (try split) <;> simp at * <;> omega
theorem y_addn (hx : evo st x = some (.int k a)) (hy : evo st y = some (.int k b)) (hk : InK k (a + b)) : Yv E n ds st L P ⟨some d, .binOp .add t x y t2, ty, pos, af, g⟩ (.int k (a + b)) :=
  by have h := y_add (P := P) (L := L) (E := E) (ds := ds) (n := n) (d := d) (ty := ty) (pos := pos) (af := af) (g := g) (t := t) (t2 := t2) hx hy; rwa [wrapIn hk] at h
theorem y_subn (hx : evo st x = some (.int k a)) (hy : evo st y = some (.int k b)) (hk : InK k (a - b)) : Yv E n ds st L P ⟨some d, .binOp .sub t x y t2, ty, pos, af, g⟩ (.int k (a - b)) :=
  by have h := y_sub (P := P) (L := L) (E := E) (ds := ds) (n := n) (d := d) (ty := ty) (pos := pos) (af := af) (g := g) (t := t) (t2 := t2) hx hy; rwa [wrapIn hk] at h
theorem y_rem (hx : evo st x = some (.int k a)) (hy : evo st y = some (.int k b)) (hb : b ≠ 0) : Yv E n ds st L P ⟨some d, .binOp .rem t x y t2, ty, pos, af, g⟩ (.int k (a.tmod b)) :=
  fun a w f _ => by simp only [execOp, f.ev hx, f.ev hy]; simp [eqGuard, binOp, Op.intDiv, hb, go_sem]
theorem y_remn (hx : evo st x = some (.int k a)) (hy : evo st y = some (.int k b)) (ha : 0 ≤ a) (hb : 0 < b) : Yv E n ds st L P ⟨some d, .binOp .rem t x y t2, ty, pos, af, g⟩ (.int k (a % b)) :=
  by have h := y_rem (P := P) (L := L) (E := E) (ds := ds) (n := n) (d := d) (ty := ty) (pos := pos) (af := af) (g := g) (t := t) (t2 := t2) hx hy (by omega); rwa [Int.tmod_eq_emod_of_nonneg ha] at h
theorem y_and (hx : evo st x = some (.int k a)) (hy : evo st y = some (.int k b)) : Yv E n ds st L P ⟨some d, .binOp .and t x y t2, ty, pos, af, g⟩ (.int k (bits .and k a b)) :=
  fun a w f _ => by simp only [execOp, f.ev hx, f.ev hy]; simp [eqGuard, binOp, go_sem]
theorem y_or (hx : evo st x = some (.int k a)) (hy : evo st y = some (.int k b)) : Yv E n ds st L P ⟨some d, .binOp .or t x y t2, ty, pos, af, g⟩ (.int k (bits .or k a b)) :=
  fun a w f _ => by simp only [execOp, f.ev hx, f.ev hy]; simp [eqGuard, binOp, go_sem]
theorem y_andNot (hx : evo st x = some (.int k a)) (hy : evo st y = some (.int k b)) : Yv E n ds st L P ⟨some d, .binOp .andNot t x y t2, ty, pos, af, g⟩ (.int k (bits .andNot k a b)) :=
  fun a w f _ => by simp only [execOp, f.ev hx, f.ev hy]; simp [eqGuard, binOp, go_sem]
theorem y_eql (hx : evo st x = some (.int k a)) (hy : evo st y = some (.int k b)) : Yv E n ds st L P ⟨some d, .binOp .eql t x y t2, ty, pos, af, g⟩ (.bool (decide (a = b))) :=
  fun a w f _ => by simp only [execOp, f.ev hx, f.ev hy]; simp [eqGuard, binOp, Op.intCmp, go_sem]; rfl
theorem y_neq (hx : evo st x = some (.int k a)) (hy : evo st y = some (.int k b)) : Yv E n ds st L P ⟨some d, .binOp .neq t x y t2, ty, pos, af, g⟩ (.bool (decide (a ≠ b))) :=
  fun _ w f _ => by simp only [execOp, f.ev hx, f.ev hy]; simp [eqGuard, binOp, Op.intCmp, go_sem, bne, BEq.beq]
theorem y_lss (hx : evo st x = some (.int k a)) (hy : evo st y = some (.int k b)) : Yv E n ds st L P ⟨some d, .binOp .lss t x y t2, ty, pos, af, g⟩ (.bool (decide (a < b))) :=
  fun a w f _ => by simp only [execOp, f.ev hx, f.ev hy]; simp [eqGuard, binOp, Op.intCmp, go_sem]
theorem y_leq (hx : evo st x = some (.int k a)) (hy : evo st y = some (.int k b)) : Yv E n ds st L P ⟨some d, .binOp .leq t x y t2, ty, pos, af, g⟩ (.bool (decide (a ≤ b))) :=
  fun a w f _ => by simp only [execOp, f.ev hx, f.ev hy]; simp [eqGuard, binOp, Op.intCmp, go_sem]
theorem y_gtr (hx : evo st x = some (.int k a)) (hy : evo st y = some (.int k b)) : Yv E n ds st L P ⟨some d, .binOp .gtr t x y t2, ty, pos, af, g⟩ (.bool (decide (b < a))) :=
  fun a w f _ => by simp only [execOp, f.ev hx, f.ev hy]; simp [eqGuard, binOp, Op.intCmp, go_sem]
theorem y_geq (hx : evo st x = some (.int k a)) (hy : evo st y = some (.int k b)) : Yv E n ds st L P ⟨some d, .binOp .geq t x y t2, ty, pos, af, g⟩ (.bool (decide (b ≤ a))) :=
  fun a w f _ => by simp only [execOp, f.ev hx, f.ev hy]; simp [eqGuard, binOp, Op.intCmp, go_sem]
theorem y_not (hx : evo st x = some (.bool p)) : Yv E n ds st L P ⟨some d, .unOp .not t x, ty, pos, af, g⟩ (.bool (!p)) :=
  fun a w f _ => by simp only [execOp, f.ev hx]; simp [Op.unary, go_sem]
theorem y_conv {j : IntKind} {ut : TypeDesc} (hx : evo st x = some (.int j a)) (hs : P.underlying t = some ut) (ht : P.underlying t2 = some (.int k)) : Yv E n ds st L P ⟨some d, .convert t t2 x, ty, pos, af, g⟩ (.int k (k.wrap a)) :=
  fun a w f _ => by simp only [execOp, f.ev hx]; simp [convert, run_underlying hs, run_underlying ht, Conv.intToInt, go_sem]
theorem run_equal_bool (hu : P.underlying t = some .bool) (w : World) : (Op.equal t (.bool p) (.bool q)).run P w = .ok (p == q) w := by
  have key : ∀ m, (Op.equalIn (m + 1) t (.bool p) (.bool q)).run P w = .ok (p == q) w := fun m => by
    rw [Op.equalIn]; simp [run_underlying hu]
  exact key 9999
theorem y_eqlb (hu : P.underlying t = some .bool) (hx : evo st x = some (.bool p)) (hy : evo st y = some (.bool q)) : Yv E n ds st L P ⟨some d, .binOp .eql t x y t2, ty, pos, af, g⟩ (.bool (p == q)) :=
  fun a w f _ => by
    simp only [execOp, f.ev hx, f.ev hy, show ∀ (p q : Bool), binOp .eql t (.bool p) (.bool q) = (do pure (.bool (← Op.equal t (.bool p) (.bool q)))) from fun _ _ => rfl]
    simp [eqGuard, run_equal_bool hu]
end
section
variable {E : World} {n : Nat} {ds : List Deferred} {st st' : List (Nat × Value)} {L L' : List SP} {r : Option Nat} {P : Program} {Q : Exit → Act → World → Prop} {ops : Array Oper} {rest : List Oper}
variable {d : Nat} {ty t t2 : TypeId} {pos : String} {af : Array Edge} {g : Option (Nat × Bool)} {x y z : Operand} {v u : Value} {k : IntKind} {p q : Bool}
def agk (P : Program) (t : TypeId) : Option Bool := (P.underlying t).map fun u => match u with | .struct _ | .array _ _ => true | _ => false
def szk (P : Program) (t : TypeId) : Option Nat := (P.info? t).map (·.size)
def zrk (P : Program) (t : TypeId) : Option (List Value) := ((P.info? t).bind (·.zero)).map (·.cells.toList)
theorem run_isAgg {c : Bool} (h : agk P t = some c) (w : World) : (isAgg t).run P w = .ok c w := by
  unfold agk at h
  cases hu : P.underlying t with
  | none => rw [hu] at h; cases h
  | some ud =>
    rw [hu] at h
    simp only [Option.map_some, Option.some.injEq] at h
    simp only [isAgg, Sem.run_bind, run_underlying hu, Result.andThen]
    cases ud <;> simp_all
theorem run_sizeOf' {m : Nat} (h : szk P t = some m) (w : World) : (sizeOf t).run P w = .ok m w := by
  unfold szk at h
  cases hu : P.info? t with
  | none => rw [hu] at h; cases h
  | some i => rw [hu] at h; simp at h; simp [sizeOf, typeInfo, hu, h]
theorem run_zero' {zs : List Value} (h : zrk P t = some zs) (w : World) : ∃ z, (zeroValue t).run P w = .ok z w ∧ z.cells = zs.toArray := by
  unfold zrk at h
  cases hu : P.info? t with
  | none => rw [hu] at h; cases h
  | some i =>
    rw [hu] at h
    cases hz : i.zero with
    | none => simp [hz] at h
    | some z => simp [hz] at h; exact ⟨z, by simp [zeroValue, typeInfo, hu, hz], by rw [← h]⟩
def Rd (L : List SP) (b o : Nat) (us : List Value) : Prop := ∀ h, sep L h → ∀ j v, us[j]? = some v → ∃ fr, h (b, some (o + j)) = some (.cell v fr)
theorem Rd.pt {b o : Nat} {us cs : List Value} {e : TypeId} (p : Pick L (pt b cs e) L') (h : ∀ j v, us[j]? = some v → cs[o + j]? = some v) : Rd L b o us := fun k s j v e => by
  obtain ⟨h1, s1, x⟩ := sep.one p s
  exact ⟨_, s1 _ _ (x.2 _ _ (h j v e))⟩
theorem Rd.pt1 {b o : Nat} {cs : List Value} {e : TypeId} (p : Pick L (RX.pt b cs e) L') (h : cs[o]? = some v) : Rd L b o [v] := Rd.pt p fun j u e => by
  cases j with
  | zero => simp at e; subst e; simpa using h
  | succ j => simp at e
theorem Rd.seg {b o m : Nat} {us cs : List Value} (p : Pick L (RX.seg b o cs) L') (h : ∀ j v, us[j]? = some v → cs[m + j]? = some v) : Rd L b (o + m) us := fun k s j v e => by
  obtain ⟨h1, s1, x⟩ := sep.one p s
  exact ⟨_, s1 _ _ (by rw [Nat.add_assoc]; exact x _ _ (h j v e))⟩
theorem hp_cell {w : World} {b o : Nat} (h : w.cell? ⟨b, o, none⟩ = some v) : b < w.heap.size ∧ ∃ fr, hp w (b, some o) = some (.cell v fr) := by
  unfold World.cell? at h
  cases hb : w.heap[b]? with
  | none => simp [hb] at h
  | some ob =>
    refine ⟨(Array.getElem?_eq_some_iff.1 hb).1, ?_⟩
    cases ob with
    | cells cs e fz =>
      simp only [hb] at h
      refine ⟨decide (fz.1 ≤ o) && decide (o < fz.2), ?_⟩
      show hpo w.heap[b]? _ = _
      rw [hb]
      simp only [hpo]
      have h' : cs[o]? = some v := by simpa using h
      rw [h']; rfl
    | _ => simp [hb] at h
theorem cell_hp {w : World} {b o : Nat} {fr : Bool} (h : hp w (b, some o) = some (.cell v fr)) : w.cell? ⟨b, o, none⟩ = some v := by
  obtain ⟨cs, e, fz, h1, h2, _⟩ := hpo_cell h
  have h1' : w.heap[b]? = some (.cells cs e fz) := h1
  simp [World.cell?, h1', h2]
theorem Rd.mono {M : List SP} {b o : Nat} {us : List Value} (h : Rd L b o us) (hm : ∀ k, sep M k → sep L k) : Rd M b o us := fun k s => h k (hm k s)
theorem Rd.cell {b o : Nat} {us : List Value} {w : World} (h : Rd L b o us) (s : Sat E L w) {j : Nat} (hj : us[j]? = some v) : w.cell? ⟨b, o + j, none⟩ = some v := by
  obtain ⟨fz, hb⟩ := h _ s.2.2.2 j v hj
  exact cell_hp hb
theorem y_load1 {b o : Nat} (ha : agk P t = some false) (hx : evo st x = some (.pointer (some ⟨b, o, none⟩))) (hr : Rd L b o [v]) : Yv E n ds st L P ⟨some d, .load t x, ty, pos, af, g⟩ v := fun a w f s => by
  have hc := hr.cell s (j := 0) rfl
  simp only [Nat.add_zero] at hc
  simp only [execOp, f.ev hx, Instr.loadAt, Instr.sureAddr]
  simp [loadVar, run_isAgg ha, hc, go_sem]
theorem y_loadn {b o : Nat} {us : List Value} (ha : agk P t = some true) (hx : evo st x = some (.pointer (some ⟨b, o, none⟩))) (hr : Rd L b o us) (hz : szk P t = some us.length) :
    Yv E n ds st L P ⟨some d, .load t x, ty, pos, af, g⟩ (.agg us.toArray) := fun a w f s => by
  have hc : (loadCells ⟨b, o, none⟩ us.length).run P w = .ok us.toArray w := run_loadCells_list w _ us fun j v e => by
    have := hr.cell s e
    unfold Addr.add
    split
    · rename_i h0; subst h0; simpa using this
    · exact this
  simp only [execOp, f.ev hx, Instr.loadAt, Instr.sureAddr]
  simp only [pure_bind, loadVar, Sem.run_bind, run_isAgg ha, Result.andThen, if_true, run_sizeOf' hz, hc]
  rfl
theorem oneCell_store {b o : Nat} {cs : List Value} {e : TypeId} {w : World} (hb : w.heap[b]? = some (.cells cs.toArray e (0, 0))) (vs : List Value) (h1 : ∀ v ∈ vs, v.oneCell' = true) (hl : o + vs.length ≤ cs.length) :
    (storeCells ⟨b, o, none⟩ vs 0).run P w = .ok () (w.setRow b (cs.take o ++ vs ++ cs.drop (o + vs.length)).toArray) := by
  have := run_storeCells_at (P := P) b o e vs 0 cs.toArray w hb (by simpa using hl) h1
  simpa using this
theorem setRow_at {w : World} {b : Nat} {cs : Array Value} {e : TypeId} {cs' : Array Value} {fz : Nat × Nat} (hb : w.heap[b]? = some (.cells cs e fz)) : (w.setRow b cs').heap[b]? = some (.cells cs' e fz) := by
  simp [World.setRow, Array.getElem?_modify, hb]
theorem setRow_ne {w : World} {b x : Nat} {cs' : Array Value} (h : x ≠ b) : (w.setRow b cs').heap[x]? = w.heap[x]? := by
  simp [World.setRow, Array.getElem?_modify, Ne.symm h]
theorem Hd.store {b o : Nat} {cs : List Value} {e : TypeId} {us : List Value} (hz : szk P t = some us.length) (hx : evo st x = some (.pointer (some ⟨b, o, none⟩))) (hy : evo st y = some v) (hv : v.cells = us.toArray)
    (h1 : ∀ u ∈ us, u.oneCell' = true) (hp : Pick L (pt b cs e) L') (hl : o + us.length ≤ cs.length)
    (K : Hd E n ds st (pt b (cs.take o ++ us ++ cs.drop (o + us.length)) e :: L') (LW r P ops Q rest)) : Hd E n ds st L (LW r P ops Q (⟨none, .store t x y, ty, pos, af, none⟩ :: rest)) :=
  Hd.opu rfl (by simp) fun a w f s => by
    have hb := s.pt_at hp
    refine ⟨w.setRow b (cs.take o ++ us ++ cs.drop (o + us.length)).toArray, ?_, K _ _ ?_ ?_⟩
    · simp only [execOp, f.ev hx, f.ev hy, Instr.storeAt, Instr.sureAddr, pure_bind, storeVar, Sem.run_bind, run_sizeOf' hz, Result.andThen, hv]
      simp [oneCell_store hb us h1 hl]
    · exact f
    · exact Sat.putPt s hp (by simp; omega) rfl rfl rfl (fun x hx => setRow_ne hx) (setRow_at hb)
theorem one_set {cs : List Value} {o : Nat} (hl : o < cs.length) (v : Value) : cs.take o ++ [v] ++ cs.drop (o + [v].length) = cs.set o v := by
  rw [List.set_eq_take_append_cons_drop, if_pos hl]; simp
theorem Hd.store1 {b o : Nat} {cs : List Value} {e : TypeId} (hz : szk P t = some 1) (hx : evo st x = some (.pointer (some ⟨b, o, none⟩))) (hy : evo st y = some v)
    (h1 : v.oneCell' = true) (hp : Pick L (pt b cs e) L') (hl : o < cs.length)
    (K : Hd E n ds st (pt b (cs.set o v) e :: L') (LW r P ops Q rest)) : Hd E n ds st L (LW r P ops Q (⟨none, .store t x y, ty, pos, af, none⟩ :: rest)) :=
  Hd.store (us := [v]) hz hx hy (by cases v <;> simp_all [Value.cells, Value.oneCell']) (by simpa using h1) hp (by simp; omega) (by rw [one_set hl]; exact K)
theorem Hd.alloc {zs : List Value} (hz : zrk P t = some zs) (K : ∀ b, Hd E n ds ((d, .pointer (some ⟨b, 0, none⟩)) :: st) (pt b zs t :: L) (LW r P ops Q rest)) (hd : d < n := by decide) :
    Hd E n ds st L (LW r P ops Q (⟨some d, .alloc t, ty, pos, af, none⟩ :: rest)) :=
  Hd.op rfl (by simp) fun a w f s => by
    obtain ⟨z, e, hz'⟩ := run_zero' hz w
    refine ⟨.pointer (some ⟨w.heap.size, 0, none⟩), { w with heap := w.heap.push (.cells z.cells t) }, ?_, K _ _ _ (f.put hd _) ?_⟩
    · simp only [execOp, Instr.alloc, Sem.run_bind, e, Result.andThen]
      simp [newVar, newRow, newObj, Sem.run, go_sem]
    · rw [hz']; exact s.newPt _ _
theorem Hd.box (hx : evo st x = some v) {us : List Value} (hv : v.cells = us.toArray) (K : ∀ b, Hd E n ds ((d, .pointer (some ⟨b, 0, none⟩)) :: st) (pt b us t :: L) (LW r P ops Q rest)) (hd : d < n := by decide) :
    Hd E n ds st L (LW r P ops Q (⟨some d, .box t x, ty, pos, af, none⟩ :: rest)) :=
  Hd.op rfl (by simp) fun a w f s => by
    refine ⟨.pointer (some ⟨w.heap.size, 0, none⟩), { w with heap := w.heap.push (.cells v.cells t) }, ?_, K _ _ _ (f.put hd _) ?_⟩
    · simp only [execOp, Instr.box, f.ev hx]
      simp [newVar, newRow, newObj, Sem.run, go_sem]
    · rw [hv]; exact s.newPt _ _
theorem add_flat (b o m : Nat) : (⟨b, o, none⟩ : Addr).add m = ⟨b, o + m, none⟩ := by unfold Addr.add; split <;> simp_all
theorem y_field {b o : Nat} {fs : Array Field} {fl : Field} {i m : Nat} (hu : P.underlying t = some (.struct fs)) (hf : fs[i]? = some fl) (hs : szk P fl.type = some m) (hm : Nat.beq m 0 = false)
    (hx : evo st x = some (.pointer (some ⟨b, o, none⟩))) : Yv E n ds st L P ⟨some d, .fieldAddr t x i, ty, pos, af, g⟩ (.pointer (some ⟨b, o + fl.offset, none⟩)) := fun a w f s => by
  have hm' : m ≠ 0 := by intro e; subst e; cases hm
  simp only [execOp, f.ev hx]
  simp only [Instr.fieldAt, Sem.run_bind, run_underlying hu, Result.andThen, hf, Instr.sureAddr, fieldPlace, run_sizeOf' hs, if_neg hm', go_sem]
  simp [add_flat]
theorem y_idxA {b o m len j : Nat} {e : TypeId} (hu : P.underlying t = some (.array len e)) (hs : szk P e = some m) (hx : evo st x = some (.pointer (some ⟨b, o, none⟩)))
    (hy : evo st y = some (.int k (Int.ofNat j))) (hj : j < len) : Yv E n ds st L P ⟨some d, .indexAddr t x y, ty, pos, af, g⟩ (.pointer (some ⟨b, o + j * m, none⟩)) := fun a w f s => by
  simp only [execOp, f.ev hx, f.ev hy]
  simp only [Instr.indexAt, asIntOf, Sem.run_bind, run_underlying hu, Result.andThen, Instr.sureAddr, go_sem]
  simp [run_sizeOf' hs, add_flat, hj]
theorem y_extract {vs : Array Value} {i : Nat} (hx : evo st x = some (.tuple vs)) (hi : vs[i]? = some v) : Yv E n ds st L P ⟨some d, .extract x i, ty, pos, af, g⟩ v := fun a w f s => by
  simp only [execOp, f.ev hx]
  simp [Instr.extract, hi]
theorem y_len {ad : Option Addr} {len cap : Nat} {e : TypeId} (hu : P.underlying t = some (.slice e)) (hx : evo st x = some (.slice ad len cap)) :
    Yv E n ds st L P ⟨some d, .call ⟨.builtin .len, #[x], #[t]⟩, ty, pos, af, g⟩ (.int .i64 (len : Int)) := fun a w f s => by
  simp only [execOp, resolve, List.map_toArray, List.map_cons, List.map_nil, f.ev hx]
  simp [invoke, builtin, Builtin.len_, run_underlying hu, goInt, go_sem]
theorem y_max {a b : Int} (hx : evo st x = some (.int k a)) (hy : evo st y = some (.int k b)) :
    Yv E n ds st L P ⟨some d, .call ⟨.builtin .max, #[x, y], #[t, t2]⟩, ty, pos, af, g⟩ (.int k (max a b)) := fun _ w f _ => by
  simp only [execOp, resolve, List.map_toArray, List.map_cons, List.map_nil, f.ev hx, f.ev hy]
  have : (if b > a then b else a) = max a b := by omega
  simp [invoke, builtin, Builtin.max_, Builtin.max2, go_sem]; omega
theorem y_min {a b : Int} (hx : evo st x = some (.int k a)) (hy : evo st y = some (.int k b)) :
    Yv E n ds st L P ⟨some d, .call ⟨.builtin .min, #[x, y], #[t, t2]⟩, ty, pos, af, g⟩ (.int k (min a b)) := fun _ w f _ => by
  simp only [execOp, resolve, List.map_toArray, List.map_cons, List.map_nil, f.ev hx, f.ev hy]
  simp [invoke, builtin, Builtin.min_, Builtin.min2, go_sem]; omega
def Ct (P : Program) (f : FuncId) (vs : Array Value) (L : List SP) {ι : Type} (val : ι → Value) (post : ι → List SP) : Prop :=
  ∀ E w, Sat E L w → Calls P f vs w (fun e w' => ∃ i, e = .returned (val i) ∧ Sat E (post i) w')
theorem evs_map {ac : Act} (f : Fr n ds st ac) : ∀ {xs : List Operand} {vs : List Value}, xs.map (evo st) = vs.map some → xs.map ac.eval = vs
  | [], [], _ => rfl
  | [], _ :: _, h => by simp at h
  | _ :: _, [], h => by simp at h
  | x :: xs, v :: vs, h => by
    simp only [List.map_cons, List.cons.injEq] at h
    rw [List.map_cons, f.ev h.1, evs_map f h.2]
def fnk (P : Program) (f : FuncId) : Bool := match P.funcs[f]? with | some fn => fn.body.isSome && !(fn.name == "runtime.NumGoroutine") | none => false
theorem run_call {fid : FuncId} (hf : fnk P fid = true) (vs : Array Value) (w : World) : (callFunc fid vs).run P w = .ok (.enter fid vs) w := by
  unfold fnk at hf
  cases h : P.funcs[fid]? with
  | none => rw [h] at hf; cases hf
  | some fn =>
    rw [h] at hf
    simp only [Bool.and_eq_true, Bool.not_eq_true'] at hf
    have hnm : ¬ fn.name = "runtime.NumGoroutine" := by simpa using hf.2
    simp only [callFunc, Sem.run_bind, go_sem]
    cases hb : fn.body with
    | none => rw [hb] at hf; simp at hf
    | some c => simp [h, hnm, hb]
theorem Hd.call {fid : FuncId} {xs : List Operand} {vs : List Value} {tys : Array TypeId} {ι : Type} {val : ι → Value} {post : ι → List SP} (hv : xs.map (evo st) = vs.map some) (hf : fnk P fid = true)
    (hc : Ct P fid vs.toArray L val post) (K : ∀ i, Hd E n ds ((d, val i) :: st) (post i) (LW r P ops Q rest)) (hd : d < n := by decide) :
    Hd E n ds st L (LW r P ops Q (⟨some d, .call ⟨.value (.func fid), xs.toArray, tys⟩, ty, pos, af, none⟩ :: rest)) := by
  intro a w f s
  show wpListIn _ _ _ _ _ _ _ _
  unfold wpListIn
  rw [if_pos (by simp [Region.wanted])]
  refine ⟨fun _ _ => trivial, ?_⟩
  rw [Oper.semAt_eq _ _ _ (by simp)]
  have e : (execOp a.eval (⟨some d, .call ⟨.value (.func fid), xs.toArray, tys⟩, ty, pos, af, none⟩ : Oper)).run P w = .ok (.enter fid vs.toArray) w := by
    simp only [List.map_toArray, evs_map f hv, go_sem]
    simp [run_call hf]
  rw [e]
  refine ⟨fun h => (by cases h), ?_⟩
  refine ((callsIn_wide.2 (hc E w s)).mono fun e w' h => ?_)
  obtain ⟨i, rfl, s'⟩ := h
  exact K i _ _ (f.put hd _) s'
def subv (vs : List Value) : List (Nat × Value) → Prop
  | [] => True
  | (d, v) :: r => vs[d]? = some v ∧ subv vs r
theorem subv.look {vs : List Value} : ∀ {st : List (Nat × Value)}, subv vs st → ∀ t v, look st t = some v → vs[t]? = some v
  | [], _, _, _, e => by cases e
  | (d, u) :: r, ⟨h1, h2⟩, t, v, e => by
    simp only [RX.look] at e
    cases hb : Nat.beq d t with
    | true => rw [hb] at e; simp at e; have := Nat.eq_of_beq_eq_true hb; subst this; rw [h1, e]
    | false => rw [hb] at e; exact subv.look h2 t v (by simpa using e)
theorem Ct.of {fid : FuncId} {fn : Func} {c : Code} {vs : List Value} {ι : Type} {val : ι → Value} {post : ι → List SP} (hf : P.funcs[fid]? = some fn) (hb : fn.body = some c) (hn : Nat.ble vs.length fn.ntmps = true)
    (st : List (Nat × Value)) (hst : subv vs st)
    (h : ∀ E, Hd E fn.ntmps [] st L (CW none P c (bodyPost P fn fun e w' => ∃ i, e = .returned (val i) ∧ Sat E (post i) w'))) : Ct P fid vs.toArray L val post := by
  intro E w s
  refine calls_of_wp hf hb (wpIn_wide.1 (h E _ w ⟨by have := Nat.le_of_ble_eq_true hn; simp; omega, rfl, fun t v e => ?_⟩ s))
  have := hst.look t v e
  have hl : t < vs.length := by rcases Nat.lt_or_ge t vs.length with h | h; exact h; rw [List.getElem?_eq_none h] at this; cases this
  rw [Array.getElem?_append_left (by simpa using hl)]; simpa using this
theorem Hd.ret1 {fn : Func} {tt : Nat} {ι : Type} {val : ι → Value} {post : ι → List SP} (hr : fn.results = #[.tmp tt]) (i : ι) (hv : look st tt = some (val i)) (hl : ∀ k, sep L k → sep (post i) k) :
    Hd E n [] st L ((bodyPost P fn fun e w' => ∃ i, e = .returned (val i) ∧ Sat E (post i) w') .ret) := fun a w f s =>
  bodyPost_ret (results_tmp hr a.tmps P w) f.defs ⟨i, by simp [f.at_ tt _ hv], s.mp hl⟩
theorem Hd.ret2 {fn : Func} {tt tu : Nat} {v u : Value} {ι : Type} {val : ι → Value} {post : ι → List SP} (hr : fn.results = #[.tmp tt, .tmp tu]) (i : ι) (hv : look st tt = some v) (hu : look st tu = some u) (hi : val i = .tuple #[v, u]) (hl : ∀ k, sep L k → sep (post i) k) :
    Hd E n [] st L ((bodyPost P fn fun e w' => ∃ i, e = .returned (val i) ∧ Sat E (post i) w') .ret) := fun a w f s =>
  bodyPost_ret (results_tmp2 hr a.tmps P w) f.defs ⟨i, by simp [f.at_ tt _ hv, f.at_ tu _ hu, hi], s.mp hl⟩
theorem Hd.end0 {fn : Func} {ι : Type} {val : ι → Value} {post : ι → List SP} (hr : fn.results = #[]) (i : ι) (hi : val i = .tuple #[]) (hl : ∀ k, sep L k → sep (post i) k) :
    Hd E n [] st L ((bodyPost P fn fun e w' => ∃ i, e = .returned (val i) ∧ Sat E (post i) w') .normal) := fun a w f s =>
  bodyPost_end (results_none hr a.tmps P w) f.defs ⟨i, by rw [hi], s.mp hl⟩
theorem Hd.ret0 {fn : Func} {ι : Type} {val : ι → Value} {post : ι → List SP} (hr : fn.results = #[]) (i : ι) (hi : val i = .tuple #[]) (hl : ∀ k, sep L k → sep (post i) k) :
    Hd E n [] st L ((bodyPost P fn fun e w' => ∃ i, e = .returned (val i) ∧ Sat E (post i) w') .ret) := fun a w f s =>
  bodyPost_ret (results_none hr a.tmps P w) f.defs ⟨i, by rw [hi], s.mp hl⟩
end
section
variable {E : World} {n : Nat} {ds : List Deferred} {st st' : List (Nat × Value)} {L L' : List SP} {r : Option Nat} {P : Program} {Q : Exit → Act → World → Prop} {ops : Array Oper} {rest : List Oper}
variable {d : Nat} {ty t t2 : TypeId} {pos : String} {af : Array Edge} {g : Option (Nat × Bool)} {x y z : Operand} {v u : Value} {k : IntKind} {p q : Bool}
theorem parts_map {ac : Act} (f : Fr n ds st ac) : ∀ {xs : List (Nat × Operand)} {vs : List (Nat × Value)}, xs.map (fun p => (p.1, evo st p.2)) = vs.map (fun p => (p.1, some p.2)) → xs.map (fun p => (p.1, ac.eval p.2)) = vs
  | [], [], _ => rfl
  | [], _ :: _, h => by simp at h
  | _ :: _, [], h => by simp at h
  | (i, x) :: xs, (j, v) :: vs, h => by
    simp only [List.map_cons, List.cons.injEq, Prod.mk.injEq] at h
    rw [List.map_cons, f.ev h.1.2, parts_map f h.2, h.1.1]
theorem y_build {xs : List (Nat × Operand)} {vs : List (Nat × Value)} {cs : Array Value} (hv : xs.map (fun p => (p.1, evo st p.2)) = vs.map (fun p => (p.1, some p.2))) (hb : P.built t vs = some cs) :
    Yv E n ds st L P ⟨some d, .build t xs.toArray, ty, pos, af, g⟩ (.agg cs) := fun a w f _ => by
  have h1 : (Array.map (fun p : Nat × Operand => (p.1, a.eval p.2)) xs.toArray).toList = vs := by simp [parts_map f hv]
  have h2 := run_build (P := P) w t (Array.map (fun p : Nat × Operand => (p.1, a.eval p.2)) xs.toArray) cs (by rw [h1]; exact hb)
  simp only [execOp, Sem.run_bind]
  show Result.andThen ((Instr.build t (Array.map (fun p : Nat × Operand => (p.1, a.eval p.2)) xs.toArray)).run P w) _ = _
  rw [h2]; rfl
def bltS (P : Program) (t : TypeId) (len : Nat) (parts : List (Nat × Value)) : Option (TypeId × List Value) :=
  match P.underlying t with
  | some (.slice e) =>
    match P.info? e with
    | some ie =>
      match ie.zero with
      | some zv => bif Nat.ble (len * ie.size) 16777216 then (Instr.fill (fun i => some (i * ie.size, ie.size)) ((Array.range (len * ie.size)).map (zv.cells[· % zv.cells.size]!)) parts).map (fun cs => (e, cs.toList)) else none
      | none => none
    | none => none
  | _ => none
theorem run_bltS {len : Nat} {vs : List (Nat × Value)} {e : TypeId} {cs : List Value} (h : bltS P t len vs = some (e, cs)) (w : World) :
    (Instr.buildSlice t len vs.toArray).run P w = .ok (.slice (some ⟨w.heap.size, 0, none⟩) len len) { w with heap := w.heap.push (.cells cs.toArray e) } := by
  unfold bltS at h
  cases hu : P.underlying t with
  | none => simp [hu] at h
  | some ud =>
    cases ud <;> simp only [hu] at h <;> try cases h
    rename_i e'
    cases hi : P.info? e' with
    | none => simp [hi] at h
    | some ie =>
      cases hz : ie.zero with
      | none => simp [hi, hz] at h
      | some zv =>
        simp only [hi, hz] at h
        cases hb : Nat.ble (len * ie.size) 16777216 with
        | false => simp [hb] at h
        | true =>
          have hle : len * ie.size ≤ 16777216 := Nat.le_of_ble_eq_true hb
          have hle' : ¬ (16777216 < len * ie.size) := by omega
          simp only [hb, cond_true] at h
          obtain ⟨cs', hc, hcs⟩ := Option.map_eq_some_iff.1 h
          simp only [Prod.mk.injEq] at hcs
          obtain ⟨rfl, rfl⟩ := hcs
          by_cases h0 : len * ie.size = 0
          · have hc' : Instr.fill (fun i => some (i * ie.size, ie.size)) #[] vs = some cs' := by
              rw [h0] at hc
              have he : Array.map (fun x => zv.cells[x % zv.cells.size]!) (Array.range 0) = #[] := Array.eq_empty_of_size_eq_zero (by simp)
              rwa [he] at hc
            have hr0 : ∀ f : Nat → Value, Array.map f (Array.range 0) = #[] := fun f => Array.eq_empty_of_size_eq_zero (by simp)
            simp [Instr.buildSlice, run_underlying hu, sizeOf, typeInfo, hi, h0, hr0, hc', newRow, newObj, Sem.run]
          · simp [Instr.buildSlice, run_underlying hu, sizeOf, typeInfo, zeroValue, hi, hz, hle', h0, hc, newRow, newObj, Sem.run]
theorem Hd.bslice {len : Nat} {xs : List (Nat × Operand)} {vs : List (Nat × Value)} {e : TypeId} {cs : List Value} (hv : xs.map (fun p => (p.1, evo st p.2)) = vs.map (fun p => (p.1, some p.2))) (hb : bltS P t len vs = some (e, cs))
    (K : ∀ b, Hd E n ds ((d, .slice (some ⟨b, 0, none⟩) len len) :: st) (pt b cs e :: L) (LW r P ops Q rest)) (hd : d < n := by decide) :
    Hd E n ds st L (LW r P ops Q (⟨some d, .buildSlice t len xs.toArray, ty, pos, af, none⟩ :: rest)) :=
  Hd.op rfl (by simp) fun a w f s => by
    refine ⟨_, _, ?_, K w.heap.size _ _ (f.put hd _) (s.newPt _ _)⟩
    have h1 : Array.map (fun p : Nat × Operand => (p.1, a.eval p.2)) xs.toArray = vs.toArray := by simp [parts_map f hv]
    simp only [execOp, Sem.run_bind]
    show Result.andThen ((Instr.buildSlice t len (Array.map (fun p : Nat × Operand => (p.1, a.eval p.2)) xs.toArray)).run P w) _ = _
    rw [h1, run_bltS hb]; rfl
structure own (e sz : Nat) (ad : Option Addr) (m cap : Nat) (us : List Value) (h : PH) : Prop where
  len : us.length = m * sz
  at_ : (m = 0 ∧ cap = 0) ∨
    ∃ b o sp, ad = some ⟨b, o, none⟩ ∧ m ≤ cap ∧ cap ≤ maxLen ∧ sp.length = (cap - m) * sz ∧ seg b o (us ++ sp) h
theorem own_nil (e sz : Nat) (ad : Option Addr) (h : PH) : own e sz ad 0 0 [] h := ⟨by simp, .inl ⟨rfl, rfl⟩⟩
theorem sep_own_nil (e sz : Nat) (ad : Option Addr) {h : PH} (s : sep L h) : sep (own e sz ad 0 0 [] :: L) h :=
  ⟨fun _ => none, h, fun _ => .inl rfl, (fun _ _ e => by cases e), Sub.rfl', own_nil e sz ad _, s⟩
theorem Hd.ownNil {K : Act → World → Prop} (e sz : Nat) (ad : Option Addr) (h : Hd E n ds st (own e sz ad 0 0 [] :: L) K) : Hd E n ds st L K := Hd.heap _ (fun _ s => sep_own_nil e sz ad s) h
theorem own_le {e sz m cap : Nat} {ad : Option Addr} {us : List Value} {h : PH} (o : own e sz ad m cap us h) : m ≤ cap ∧ us.length = m * sz := by
  rcases o.2 with ⟨rfl, rfl⟩ | ⟨b, off, sp, rfl, hc, _⟩
  · exact ⟨Nat.le_refl _, o.1⟩
  · exact ⟨hc, o.1⟩
theorem own_pt {e sz m cap b : Nat} {us sp : List Value} (hu : us.length = m * sz) (hm : m ≤ cap) (hc : cap ≤ maxLen) (hs : sp.length = (cap - m) * sz) {h : PH} (x : pt b (us ++ sp) e h) : own e sz (some ⟨b, 0, none⟩) m cap us h :=
  ⟨hu, .inr ⟨b, 0, sp, rfl, hm, hc, hs, pt_seg x⟩⟩
def adr (ad : Option Addr) : Addr := ad.getD ⟨0, 0, none⟩
def RdS (L : List SP) (sz : Nat) (ad : Option Addr) (m : Nat) (us : List Value) : Prop := ∀ h, sep L h → us.length = m * sz ∧
  (m = 0 ∨ ∃ b o, ad = some ⟨b, o, none⟩ ∧ ∀ j v, us[j]? = some v → ∃ fr, h (b, some (o + j)) = some (.cell v fr))
theorem RdS.mono {M : List SP} {sz m : Nat} {ad : Option Addr} {us : List Value} (h : RdS L sz ad m us) (hm : ∀ k, sep M k → sep L k) : RdS M sz ad m us := fun k s => h k (hm k s)
theorem RdS.own {e sz m cap : Nat} {ad : Option Addr} {us : List Value} (p : Pick L (RX.own e sz ad m cap us) L') : RdS L sz ad m us := fun k s => by
  obtain ⟨h1, s1, x⟩ := sep.one p s
  refine ⟨x.1, ?_⟩
  rcases x.2 with ⟨rfl, rfl⟩ | ⟨b, off, sp, hb, _, _, _, hpt⟩
  · exact .inl rfl
  · refine .inr ⟨b, off, hb, fun j v e => ?_⟩
    have hj : j < us.length := (List.getElem?_eq_some_iff.1 e).1
    exact ⟨_, s1 _ _ (hpt j v (by rw [List.getElem?_append_left hj]; exact e))⟩
theorem RdS.none (L : List SP) (sz : Nat) (ad : Option Addr) : RdS L sz ad 0 [] := fun _ _ => ⟨by simp, .inl rfl⟩
theorem RdS.rd {b o sz m : Nat} {us : List Value} (h : Rd L b o us) (hl : us.length = m * sz) : RdS L sz (some ⟨b, o, Option.none⟩) m us := fun k s => ⟨hl, .inr ⟨b, o, rfl, h k s⟩⟩
theorem RdS.cell {sz m : Nat} {ad : Option Addr} {us : List Value} {w : World} (h : RdS L sz ad m us) (s : Sat E L w) {j : Nat} (hj : us[j]? = some v) : ∃ b o, ad = some ⟨b, o, Option.none⟩ ∧ w.cell? ⟨b, o + j, Option.none⟩ = some v := by
  obtain ⟨hl, h0 | ⟨b, o, had, hc⟩⟩ := h _ s.2.2.2
  · subst h0; have : us = [] := List.eq_nil_of_length_eq_zero (by simpa using hl)
    subst this; simp at hj
  · obtain ⟨fz, hb⟩ := hc j v hj
    exact ⟨b, o, had, cell_hp hb⟩
theorem y_idxR {sz j m cap : Nat} {e : TypeId} {ad : Option Addr} {us : List Value} (hu : P.underlying t = some (.slice e)) (hs : szk P e = some sz) (hx : evo st x = some (.slice ad m cap))
    (hy : evo st y = some (.int k (Int.ofNat j))) (hj : j < m) (hR : RdS L sz ad m us) : Yv E n ds st L P ⟨some d, .indexAddr t x y, ty, pos, af, g⟩ (.pointer (some ((adr ad).add (j * sz)))) := fun a w f s => by
  obtain ⟨hl, h0 | ⟨b, o, had, hc⟩⟩ := hR _ s.2.2.2
  · omega
  subst had
  simp only [execOp, f.ev hx, f.ev hy]
  simp only [Instr.indexAt, asIntOf, Sem.run_bind, run_underlying hu, Result.andThen, Instr.sureAddr, go_sem]
  simp [run_sizeOf' hs, add_flat, hj, adr]
theorem y_loadR1 {sz m q : Nat} {ad : Option Addr} {us : List Value} (ha : agk P t = some false) (hx : evo st x = some (.pointer (some ((adr ad).add q)))) (hR : RdS L sz ad m us) (hq : us[q]? = some v) :
    Yv E n ds st L P ⟨some d, .load t x, ty, pos, af, g⟩ v := fun a w f s => by
  obtain ⟨b, o, had, hc⟩ := hR.cell s hq
  subst had
  have hx' : evo st x = some (.pointer (some ⟨b, o + q, Option.none⟩)) := by rw [hx]; simp [adr, add_flat]
  simp only [execOp, f.ev hx', Instr.loadAt, Instr.sureAddr]
  simp [loadVar, run_isAgg ha, hc, go_sem]
theorem y_loadRn {sz m q : Nat} {ad : Option Addr} {us vs : List Value} (ha : agk P t = some true) (hx : evo st x = some (.pointer (some ((adr ad).add q)))) (hR : RdS L sz ad m us)
    (hq : ∀ j v, vs[j]? = some v → us[q + j]? = some v) (hz : szk P t = some vs.length) (hne : vs ≠ []) : Yv E n ds st L P ⟨some d, .load t x, ty, pos, af, g⟩ (.agg vs.toArray) := fun a w f s => by
  obtain ⟨v0, l0, rfl⟩ := List.exists_cons_of_ne_nil hne
  obtain ⟨b, o, had, hc0⟩ := hR.cell s (hq 0 v0 rfl)
  subst had
  have hx' : evo st x = some (.pointer (some ⟨b, o + q, Option.none⟩)) := by rw [hx]; simp [adr, add_flat]
  have hc : (loadCells ⟨b, o + q, Option.none⟩ (v0 :: l0).length).run P w = .ok (v0 :: l0).toArray w := run_loadCells_list w _ (v0 :: l0) fun j v e => by
    rw [add_flat]
    obtain ⟨b', o', hbo, hcj⟩ := hR.cell s (hq j v e)
    simp only [Option.some.injEq, Addr.mk.injEq, and_true] at hbo
    obtain ⟨rfl, rfl⟩ := hbo
    rw [Nat.add_assoc]; exact hcj
  simp only [execOp, f.ev hx', Instr.loadAt, Instr.sureAddr]
  simp only [pure_bind, loadVar, Sem.run_bind, run_isAgg ha, Result.andThen, if_true, run_sizeOf' hz, hc]
  rfl
theorem run_storeCells_z (b o : Nat) (e : TypeId) (fz : Nat × Nat) : ∀ (vs : List Value) (i : Nat) (cur : Array Value) (w : World), w.heap[b]? = some (.cells cur e fz) → (∀ j, j < vs.length → (decide (fz.1 ≤ o + i + j) && decide (o + i + j < fz.2)) = false) → o + i + vs.length ≤ cur.size → (∀ v ∈ vs, v.oneCell' = true) →
    (storeCells ⟨b, o, none⟩ vs i).run P w = .ok () (w.setRow b (cur.toList.take (o + i) ++ vs ++ cur.toList.drop (o + i + vs.length)).toArray)
  | [], i, cur, w, hg, _, _, _ => by
    simp only [storeCells, List.append_nil, List.length_nil, Nat.add_zero, List.take_append_drop, Array.toArray_toList]
    rw [setRow_self w b cur e fz hg]
    rfl
  | v :: rest, i, cur, w, hg, hfz, hl, h1 => by
    have hi : o + i < cur.size := by simp at hl; omega
    have hadd : (⟨b, o, none⟩ : Addr).add i = ⟨b, o + i, none⟩ := add_flat b o i
    have hcell : w.cell? ⟨b, o + i, none⟩ = some cur[o + i] := by simp [World.cell?, hg, hi]
    have hfro : w.frozen? ⟨b, o + i, none⟩ = false := by
      have := hfz 0 (by simp)
      simpa [World.frozen?, hg] using this
    have hst : (store ((⟨b, o, none⟩ : Addr).add i) v).run P w = .ok () (w.setRow b (cur.setIfInBounds (o + i) v)) := by
      rw [hadd, run_store P w _ v _ (h1 v (by simp)), hcell]
      simp [hfro, setCell_eq_setRow w b (o + i) cur e fz v hg]
    have ih := run_storeCells_z b o e fz rest (i + 1) (cur.setIfInBounds (o + i) v) (w.setRow b (cur.setIfInBounds (o + i) v)) (setRow_heap w b cur _ e _ hg)
      (fun j hj => by have := hfz (j + 1) (by simp; omega); rw [show o + i + (j + 1) = o + (i + 1) + j by omega] at this; exact this) (by simp at hl ⊢; omega) (fun x hx => h1 x (by simp [hx]))
    simp only [storeCells, Sem.run_bind, hst, Result.andThen_ok, ih, setRow_setRow]
    congr 3
    have e := list_seg_step cur.toList (o + i) v rest (by simp at hl ⊢; omega)
    simpa [Array.toList_setIfInBounds, Nat.add_assoc] using e
theorem Sat.storeSeg {b o q : Nat} {us vs : List Value} {w : World} (s : Sat E (seg b o us :: L) w) (hl : q + vs.length ≤ us.length) (hne : 0 < us.length) (h1 : ∀ v ∈ vs, v.oneCell' = true) :
    ∃ w', (storeCells ⟨b, o + q, none⟩ vs).run P w = .ok () w' ∧ Sat E (seg b o (us.take q ++ vs ++ us.drop (q + vs.length)) :: L) w' := by
  obtain ⟨g1, g2, d, a1, a2, x, y⟩ := s.2.2.2
  obtain ⟨cs, e, fz, hb, hc⟩ := seg_at a1 x hne
  have hbig : o + us.length ≤ cs.size := by
    have := (hc (us.length - 1) us[us.length - 1] (List.getElem?_eq_getElem (by omega))).1
    have := (Array.getElem?_eq_some_iff.1 this).1
    omega
  have hst := run_storeCells_z (P := P) b (o + q) e fz vs 0 cs w hb (fun j hj => by
    have := (hc (q + j) us[q + j] (List.getElem?_eq_getElem (by omega))).2
    rwa [show o + (q + j) = o + q + 0 + j by omega] at this) (by omega) h1
  refine ⟨_, hst, ?_⟩
  simp only [Nat.add_zero]
  refine Sat.putSeg s Pick.here (by simp; omega) rfl rfl rfl (fun x hx => setRow_ne hx) hb (setRow_at hb) (by simp; omega) (fun i hi => ?_) (fun i v hi => ?_)
  · simp only [List.getElem?_toArray, List.append_assoc]
    rcases hi with hi | hi
    · rw [List.getElem?_append_left (by simp; omega), List.getElem?_take_of_lt (by omega)]; simp
    · rw [List.getElem?_append_right (by simp; omega), List.getElem?_append_right (by simp; omega), List.getElem?_drop]
      simp only [List.length_take, Array.length_toList]
      rw [show o + q + vs.length + (i - min (o + q) cs.size - vs.length) = i by omega]; simp
  · simp only [List.getElem?_toArray, List.append_assoc] at hi ⊢
    rcases Nat.lt_or_ge i q with h | h
    · rw [List.getElem?_append_left (by simp; omega), List.getElem?_take_of_lt (by omega)] at hi
      rw [List.getElem?_append_left (by simp; omega), List.getElem?_take_of_lt (by omega)]
      simpa using (hc i v hi).1
    · rw [List.getElem?_append_right (by simp; omega)] at hi
      rw [List.getElem?_append_right (by simp; omega)]
      simp only [List.length_take, Array.length_toList] at hi ⊢
      rw [show o + i - min (o + q) cs.size = i - min q us.length by omega]
      rcases Nat.lt_or_ge (i - min q us.length) vs.length with h2 | h2
      · rw [List.getElem?_append_left h2] at hi ⊢; exact hi
      · rw [List.getElem?_append_right h2, List.getElem?_drop] at hi ⊢
        rw [show q + vs.length + (i - min q us.length - vs.length) = i by omega] at hi
        rw [show o + q + vs.length + (i - min q us.length - vs.length) = o + i by omega]
        simpa using (hc i v hi).1
theorem seg_app {us sp news : List Value} (h : news.length ≤ sp.length) : (us ++ sp).take us.length ++ news ++ (us ++ sp).drop (us.length + news.length) = (us ++ news) ++ sp.drop news.length := by
  rw [List.take_left' rfl, ← List.drop_drop, List.drop_left' rfl]
theorem run_append_own' {w : World} {e sz bytes : Nat} {i : TypeInfo} {zv : Value} (ht : P.underlying t = some (.slice e)) (hi : P.info? e = some i) (hz : i.zero = some zv) (hsz : i.size = sz) (hzs : zv.cells.size = sz) (hby : i.bytes = bytes) (hpos : 0 < sz)
    {m cap : Nat} {ad : Option Addr} {us : List Value} (s : Sat E (own e sz ad m cap us :: L) w)
    (a : Addr) (m' c : Nat) (news : List Value) (hl : news.length = m' * sz) (hnews : ∀ j u, news[j]? = some u → w.cell? (a.add j) = some u) (h1 : ∀ u ∈ news, u.oneCell' = true)
    (h63 : m + m' ≤ maxLen) (hbytes : (m + m') * bytes ≤ 140737488355328) :
    ∃ ad' cap' w', (Builtin.append_ #[t, t] ty #[.slice ad m cap, .slice (some a) m' c]).run P w = .ok (.slice ad' (m + m') cap') w' ∧ Sat E (own e sz ad' (m + m') cap' (us ++ news) :: L) w' := by
  subst hsz; subst hby
  have hsmall : m + m' ≤ 9223372036854775807 := by simp only [maxLen] at h63; omega
  obtain ⟨hos, htp, hou, k1, k2, dd, s1, s2, ⟨hul, hv⟩, hL⟩ := s
  have hlen : (us ++ news).length = (m + m') * i.size := by rw [List.length_append, hul, hl, Nat.add_mul]
  have grown : ∀ (cap : Nat) (olds : List Value), olds = us → cap < m + m' → Sat E (own e i.size (some ⟨w.heap.size, 0, none⟩) (m + m') (grownCap w (m + m') cap e) (us ++ news) :: L)
      (w.drew.alloc (.cells (olds.toArray ++ news.toArray ++ Builtin.zeroCells zv.cells (grownCap w (m + m') cap e - (m + m'))) e)) := by
    intro cap olds ho hc
    subst ho
    have hge := grownCap_ge w (m + m') cap e
    have hcm : grownCap w (m + m') cap e ≤ maxLen := grownCap_le_maxLen w (m + m') cap e h63
    have sL : Sat E L w.drew := ⟨⟨hos.1, Nat.le_succ_of_le hos.2⟩, htp, hou, hL.up s2⟩
    have sn := sL.newPt (olds ++ news ++ (Builtin.zeroCells zv.cells (grownCap w (m + m') cap e - (m + m'))).toList) e
    have e0 : (olds ++ news ++ (Builtin.zeroCells zv.cells (grownCap w (m + m') cap e - (m + m'))).toList).toArray = olds.toArray ++ news.toArray ++ Builtin.zeroCells zv.cells (grownCap w (m + m') cap e - (m + m')) := by
      apply Array.ext'; simp
    rw [e0] at sn
    refine sn.mp ?_
    intro h hh
    refine sep_head hh fun k x => ?_
    exact own_pt hlen hge hcm (by simp [Builtin.zeroCells, hzs]) x
  rcases hv with ⟨rfl, rfl⟩ | ⟨b, off, sp, rfl, hmc, hcm, hsp, hpt⟩
  · have hu : us = [] := List.eq_nil_of_length_eq_zero (by simpa using hul)
    subst hu
    by_cases hm : m' = 0
    · subst hm
      have hn : news = [] := List.eq_nil_of_length_eq_zero (by simpa using hl)
      subst hn
      refine ⟨ad, 0, w, ?_, hos, htp, hou, k1, k2, dd, s1, s2, ⟨by simp, .inl ⟨rfl, rfl⟩⟩, hL⟩
      cases ad with
      | none => simp [Builtin.append_, run_underlying ht, sizeOf, typeInfo, hi, Builtin.lenOf, Builtin.firstCells, loadCells, loadCellsFrom]
      | some ad => simp [Builtin.append_, run_underlying ht, sizeOf, typeInfo, hi, Builtin.lenOf, Builtin.firstCells, loadCells, loadCellsFrom, storeCells]
    · have hgr := grown 0 [] rfl (by omega)
      cases ad with
      | none =>
        have hr := run_append_nil (P := P) w t ty e i zv ht hi hz a m' c news hl hnews (by omega) (by omega) (by have hb := hbytes; simp only [Nat.zero_add] at hb; omega)
        refine ⟨some ⟨w.heap.size, 0, none⟩, grownCap w m' 0 e, _, by rw [Nat.zero_add]; exact hr, ?_⟩
        simpa using hgr
      | some ad =>
        have hr := run_append_grow (P := P) w t ty e i zv ht hi hz ad 0 0 [] (by simp) (by simp) a m' c news hl hnews (by omega) (by omega) (growslice_fits (by omega) hbytes)
        refine ⟨_, _, _, hr, ?_⟩
        simpa using hgr
  · by_cases hroom : m + m' ≤ cap
    · have hnl : news.length ≤ sp.length := by rw [hl, hsp]; exact Nat.mul_le_mul_right _ (by omega)
      have s0 : Sat E (seg b off (us ++ sp) :: L) w := ⟨hos, htp, hou, k1, k2, dd, s1, s2, hpt, hL⟩
      have hf := run_firstCells_some (P := P) w i.size m' a m' c news hl hnews
      by_cases hne : 0 < (us ++ sp).length
      · obtain ⟨w', hst, s'⟩ := Sat.storeSeg (P := P) (q := us.length) (vs := news) s0 (by simp; omega) hne h1
        rw [seg_app hnl] at s'
        refine ⟨some ⟨b, off, none⟩, cap, w', ?_, s'.mp fun h hh => sep_head hh fun k x => ?_⟩
        · simp [Builtin.append_, run_underlying ht, sizeOf, typeInfo, hi, Builtin.lenOf, hroom, hf, add_flat]
          rw [← hul, hst]
          rfl
        · refine ⟨hlen, .inr ⟨b, off, sp.drop news.length, rfl, hroom, hcm, ?_, x⟩⟩
          rw [List.length_drop, hsp, hl, ← Nat.sub_mul]; congr 1; omega
      · have hu : us = [] := List.eq_nil_of_length_eq_zero (by simp at hne ⊢; simp [hne])
        have hs : sp = [] := List.eq_nil_of_length_eq_zero (by simp at hne ⊢; simp [hne])
        subst hu; subst hs
        have hm0 : m = 0 := by
          rcases Nat.eq_zero_or_pos m with h | h
          · exact h
          · have := Nat.mul_pos h hpos; simp at hul; omega
        have hn : news = [] := List.eq_nil_of_length_eq_zero (by simpa using hnl)
        subst hn
        have hm0' : m' = 0 := by
          rcases Nat.eq_zero_or_pos m' with h | h
          · exact h
          · have := Nat.mul_pos h hpos; simp at hl; omega
        subst hm0; subst hm0'
        refine ⟨some ⟨b, off, none⟩, cap, w, ?_, s0.mp fun h hh => sep_head hh fun k x => ⟨by simp, .inr ⟨b, off, [], rfl, hmc, hcm, hsp, x⟩⟩⟩
        simp [Builtin.append_, run_underlying ht, sizeOf, typeInfo, hi, Builtin.lenOf, Builtin.firstCells, loadCells, loadCellsFrom, storeCells]
    · have holds : ∀ j u, us[j]? = some u → w.cell? ((⟨b, off, none⟩ : Addr).add j) = some u := fun j u e => by
        rw [add_flat]
        have hj : j < us.length := (List.getElem?_eq_some_iff.1 e).1
        exact cell_hp (s1 _ _ (hpt j u (by rw [List.getElem?_append_left hj]; exact e)))
      have hr := run_append_grow (P := P) w t ty e i zv ht hi hz ⟨b, off, none⟩ m cap us hul holds a m' c news hl hnews (by omega) (by omega) (growslice_fits (by omega) hbytes)
      exact ⟨_, _, _, hr, grown cap us rfl (by omega)⟩
def tyr (P : Program) (t : TypeId) : Option (Nat × Nat × Nat) := (P.info? t).bind fun i => i.zero.map fun z => (i.size, i.bytes, z.cells.size)
theorem tyr_parts {e sz bytes : Nat} (h : tyr P e = some (sz, bytes, sz)) : ∃ i zv, P.info? e = some i ∧ i.zero = some zv ∧ i.size = sz ∧ i.bytes = bytes ∧ zv.cells.size = sz := by
  unfold tyr at h
  cases hi : P.info? e with
  | none => simp [hi] at h
  | some i =>
    cases hz : i.zero with
    | none => simp [hi, hz] at h
    | some zv => simp [hi, hz] at h; exact ⟨i, zv, rfl, hz, h.1, h.2.1, h.2.2⟩
theorem Hd.append {e sz bytes m cap m' c : Nat} {ad ad' : Option Addr} {us news : List Value} (ht : P.underlying t = some (.slice e)) (hi : tyr P e = some (sz, bytes, sz)) (hpos : Nat.ble 1 sz = true)
    (hx : evo st x = some (.slice ad m cap)) (hy : evo st y = some (.slice ad' m' c)) (hp : Pick L (own e sz ad m cap us) L') (hr : RdS L' sz ad' m' news) (h1 : ∀ u ∈ news, u.oneCell' = true)
    (h63 : m + m' ≤ maxLen) (hbytes : (m + m') * bytes ≤ 140737488355328)
    (K : ∀ ad' cap', Hd E n ds ((d, .slice ad' (m + m') cap') :: st) (own e sz ad' (m + m') cap' (us ++ news) :: L') (LW r P ops Q rest)) (hd : d < n := by decide) :
    Hd E n ds st L (LW r P ops Q (⟨some d, .call ⟨.builtin .append, #[x, y], #[t, t]⟩, ty, pos, af, none⟩ :: rest)) :=
  Hd.op rfl (by simp) fun a w f s => by
    obtain ⟨i, zv, h1', h2', h3', h4', h5'⟩ := tyr_parts hi
    have s' : Sat E (own e sz ad m cap us :: L') w := s.mp fun _ k => hp.sep k
    have sL' : sep L' (RX.hp w) := by obtain ⟨_, _, _, _, b2, _, y2⟩ := s'.2.2.2; exact y2.up b2
    obtain ⟨hl, h0 | ⟨b, o, had, hc⟩⟩ := hr _ sL'
    · -- nothing is appended
      subst h0
      have : news = [] := List.eq_nil_of_length_eq_zero (by simpa using hl)
      subst this
      refine ⟨.slice ad m cap, w, ?_, K ad cap _ _ (f.put hd _) ?_⟩
      · have hun : (Builtin.append_ #[t, t] ty #[.slice ad m cap, .slice ad' 0 c]).run P w = .ok (.slice ad m cap) w := by
          have hmc : m ≤ cap := by obtain ⟨_, _, _, _, _, x1, _⟩ := s'.2.2.2; exact (own_le x1).1
          cases ad <;> cases ad' <;> simp [Builtin.append_, run_underlying ht, sizeOf, typeInfo, h1', Builtin.lenOf, hmc, Builtin.firstCells, loadCells, loadCellsFrom, storeCells]
        simp only [execOp, resolve, List.map_toArray, List.map_cons, List.map_nil, f.ev hx, f.ev hy, invoke, builtin, Sem.run_bind, Sem.run_pure, Result.andThen_ok, hun]
      · simpa using s'
    · subst had
      have hrd : ∀ j u, news[j]? = some u → w.cell? ((⟨b, o, none⟩ : Addr).add j) = some u := fun j u ej => by
        rw [add_flat]
        obtain ⟨fz, hb⟩ := hc j u ej
        exact cell_hp hb
      obtain ⟨ad2, cap2, w', e'', s''⟩ := run_append_own' (ty := ty) ht h1' h2' h3' h5' h4' (Nat.le_of_ble_eq_true hpos) s' ⟨b, o, none⟩ m' c news hl hrd h1 h63 hbytes
      refine ⟨_, w', ?_, K ad2 cap2 _ _ (f.put hd _) s''⟩
      simp only [execOp, resolve, List.map_toArray, List.map_cons, List.map_nil, f.ev hx, f.ev hy, invoke, builtin, Sem.run_bind, Sem.run_pure, Result.andThen_ok, e'']
theorem wpIn_of_quiet {C : World → Prop} {o : Oper} {a : Act} {K : Act → Prop} {K' : Act → World → Prop} {Q' : Exit → Act → World → Prop} {w : World} (hw : C w) (h : ∀ a w', C w' → K a → K' a w') (hh : o.quiet P a C K) : o.wpIn (FW r) 0 P a w K' Q' := by
  obtain ⟨v, h1, h2⟩ := hh
  have h3 := h1 w hw
  unfold Oper.quietAt at h3
  refine ⟨fun _ _ => trivial, ?_⟩
  have hse : o.semAt (FW r).round a.eval = execOp a.eval o := by
    refine Oper.semAt_eq _ _ _ fun c hc => ?_
    cases hr : (execOp a.eval o).run P w with
    | ok nx w' =>
      rw [hr] at h3
      unfold execOp at hr
      rw [hc] at hr
      simp only [Sem.run_bind] at hr
      cases h : (resolve a.eval c o.type).run P w with
      | ok d w1 => rw [h] at hr; simp [Result.andThen] at hr; rw [← hr.1] at h3; simp only [Oper.quietUpon] at h3
      | halt x w1 => rw [h] at hr; simp [Result.andThen] at hr
    | halt x w' => rw [hr] at h3; simp only [Oper.quietUpon] at h3
  rw [hse]
  generalize (execOp a.eval o).run P w = rr at *
  cases rr with
  | ok nx w' =>
    cases nx <;> simp only [Oper.quietUpon] at h3 <;> simp only [Oper.uponIn]
    case value u =>
      obtain ⟨e1, e2⟩ := h3
      rw [e1, e2]
      exact h _ _ hw h2
    case skip =>
      obtain ⟨e1, e2⟩ := h3
      rw [e1, ← e2]
      exact h _ _ hw h2
    case enter f args =>
      obtain ⟨e1, hc⟩ := h3
      rw [e1]
      refine ⟨fun h => (by cases h), (callsIn_wide.2 hc).mono fun e w'' ⟨he, hw''⟩ => by subst he; exact h _ _ hw'' h2⟩
  | halt x w' => simp only [Oper.quietUpon] at h3
theorem wpAnyIn_of_quiet {C : World → Prop} {md : Region.Mode} {Q : Act → Prop} {Q' : Exit → Act → World → Prop} (hQ : ∀ a w, C w → Q a → Q' .normal a w) : ∀ (fuel : Nat) (listed : Array Bool) (a : Act) (w : World), C w →
    wpAnyQ P md ops C Q fuel listed a → wpAnyIn (FW r) 0 P md ops Q' fuel listed a w
  | 0, _, _, _, hw, h => ⟨h.1, hQ _ _ hw h.2⟩
  | fuel + 1, listed, a, w, hw, h => ⟨fun h0 => hQ _ _ hw (h.1 h0), fun i hi => by
      have hh := h.2 i hi
      unfold qOp at hh
      unfold wpOpIn
      split
      · rename_i ho; simp only [ho] at hh; exact wpAnyIn_of_quiet hQ fuel _ _ _ hw hh
      · rename_i o ho
        simp only [ho] at hh
        split
        · rename_i hw'; simp only [hw', if_true] at hh; exact wpIn_of_quiet hw (fun a' w' hC' => wpAnyIn_of_quiet hQ fuel _ a' w' hC') hh
        · rename_i hw'; simp only [hw'] at hh; exact ⟨fun _ _ => trivial, wpAnyIn_of_quiet hQ fuel _ _ _ hw hh⟩⟩
def Hq (n : Nat) (ds : List Deferred) (st : List (Nat × Value)) (K : Act → Prop) : Prop := ∀ a, Fr n ds st a → K a
abbrev QW (P : Program) (ops : Array Oper) (C : World → Prop) (Kq : Act → Prop) (l : List Oper) : Act → Prop := wpQuiet P ops C Kq l
theorem Hd.quiet {id : Nat} {l : List Oper} (hm : P.follows .mixedOrders = true) (hB : Region.lexB .any l.toArray = true)
    (h : Hq n ds st (QW P l.toArray (Sat E L) (fun a' => ∀ w', Sat E L w' → Q .normal a' w') l)) : Hd E n ds st L (CW r P (.region id l.toArray true) Q) := by
  intro a w f s
  simp only [Region.lexB, Bool.and_eq_true] at hB
  refine wpIn_region_any hm (wpAnyIn_of_quiet (C := Sat E L) (Q := fun a' => ∀ w', Sat E L w' → Q .normal a' w') (fun _ w' hw' h => h w' hw') _ _ _ _ s.draw ?_)
  have := wpAnyQ_lex (C := Sat E L) (md := .any) hB.1 l 0 (Array.replicate l.toArray.size false) a (by simp) (by simpa using hB.2) (h a f)
  simpa using this
section quiet
variable {Kq : Act → Prop}
theorem Hq.nil (h : Hd E n ds st L (Q .normal)) : Hq n ds st (QW P ops (Sat E L) (fun a' => ∀ w', Sat E L w' → Q .normal a' w') []) := fun a f w s => h a w f s
theorem Hq.yv {op : Op} (h : Yv E n ds st L P ⟨some d, op, ty, pos, af, none⟩ v) (K : Hq n ds ((d, v) :: st) (QW P ops (Sat E L) Kq rest)) (hd : d < n := by decide) :
    Hq n ds st (QW P ops (Sat E L) Kq (⟨some d, op, ty, pos, af, none⟩ :: rest)) := fun a f => by
  refine wpQuiet_step fun K' hK' => ?_
  rw [if_pos (by simp [Region.wanted])]
  refine ⟨v, fun w s => ?_, hK' _ (K _ (f.put hd v))⟩
  unfold Oper.quietAt
  rw [h a w f s]
  exact ⟨rfl, rfl⟩
theorem Hq.yg {op : Op} {i gd : Nat} (hi : (ops[i]?).bind (·.dst) = some gd) (hv : look st gd = some (.bool p)) (h : Yv E n ds st L P ⟨some d, op, ty, pos, af, some (i, p)⟩ v)
    (K : Hq n ds ((d, v) :: st) (QW P ops (Sat E L) Kq rest)) (hd : d < n := by decide) :
    Hq n ds st (QW P ops (Sat E L) Kq (⟨some d, op, ty, pos, af, some (i, p)⟩ :: rest)) := fun a f => by
  refine wpQuiet_step fun K' hK' => ?_
  rw [if_pos (by simp [Region.wanted, yielded_of hi f hv])]
  refine ⟨v, fun w s => ?_, hK' _ (K _ (f.put hd v))⟩
  unfold Oper.quietAt
  rw [h a w f s]
  exact ⟨rfl, rfl⟩
theorem Hq.ng {op : Op} {i gd : Nat} (hi : (ops[i]?).bind (·.dst) = some gd) (hv : look st gd = some v) (hb : isb v p = false)
    (K : Hq n ds ((d, undef) :: st) (QW P ops (Sat E L) Kq rest)) (hd : d < n := by decide) :
    Hq n ds st (QW P ops (Sat E L) Kq (⟨some d, op, ty, pos, af, some (i, p)⟩ :: rest)) := fun a f => by
  refine wpQuiet_step fun K' hK' => ?_
  rw [if_neg (by simp only [Region.wanted, yielded_of hi f hv]; cases v <;> simp_all [isb])]
  exact hK' _ (K _ (f.put hd undef))
theorem Hq.part {K : Act → Prop} {gd : Nat} (hv : look st gd = some (.bool p)) (hT : p = true → Hq n ds ((gd, .bool true) :: st) K) (hF : p = false → Hq n ds ((gd, .bool false) :: st) K) : Hq n ds st K := by
  intro a f
  have key : ∀ c, p = c → Fr n ds ((gd, .bool c) :: st) a := fun c hc => f.weak fun t u e => by
    simp only [look] at e
    cases hb : Nat.beq gd t with
    | true => rw [hb] at e; have := Nat.eq_of_beq_eq_true hb; subst this; simp at e; rw [hv, hc, e]
    | false => rw [hb] at e; simpa using e
  cases hp : p with
  | true => exact hT hp a (key true hp)
  | false => exact hF hp a (key false hp)
theorem Hq.call {fid : FuncId} {xs : List Operand} {vs : List Value} {tys : Array TypeId} (hv : xs.map (evo st) = vs.map some) (hf : fnk P fid = true)
    (hc : Ct P fid vs.toArray L (fun _ : Unit => v) (fun _ => L)) (K : Hq n ds ((d, v) :: st) (QW P ops (Sat E L) Kq rest)) (hd : d < n := by decide) :
    Hq n ds st (QW P ops (Sat E L) Kq (⟨some d, .call ⟨.value (.func fid), xs.toArray, tys⟩, ty, pos, af, none⟩ :: rest)) := fun a f => by
  refine wpQuiet_step fun K' hK' => ?_
  rw [if_pos (by simp [Region.wanted])]
  refine ⟨v, fun w s => ?_, hK' _ (K _ (f.put hd v))⟩
  have e : (execOp a.eval (⟨some d, .call ⟨.value (.func fid), xs.toArray, tys⟩, ty, pos, af, none⟩ : Oper)).run P w = .ok (.enter fid vs.toArray) w := by
    simp only [List.map_toArray, evs_map f hv, go_sem]
    simp [run_call hf]
  unfold Oper.quietAt
  rw [e]
  exact ⟨rfl, (hc E w s).mono fun e w' ⟨_, h1, h2⟩ => ⟨h1, h2⟩⟩
end quiet
end
section
variable {E : World} {n : Nat} {ds : List Deferred} {st st' : List (Nat × Value)} {L L' : List SP} {r : Option Nat} {P : Program} {Q : Exit → Act → World → Prop} {ops : Array Oper} {rest : List Oper}
variable {d : Nat} {ty t t2 : TypeId} {pos : String} {af : Array Edge} {g : Option (Nat × Bool)} {x y z : Operand} {v u : Value} {k : IntKind} {p q : Bool}
inductive Mrg (t : Bool) : List (Nat × Value) → List (Nat × Value) → List (Nat × Value) → Prop
  | nil : Mrg t [] [] []
  | same {a b c : List (Nat × Value)} {d : Nat} {v : Value} (h : Mrg t a b c) : Mrg t ((d, v) :: a) ((d, v) :: b) ((d, v) :: c)
  | int {a b c : List (Nat × Value)} {d : Nat} {k : IntKind} {x y : Int} (h : Mrg t a b c) : Mrg t ((d, .int k x) :: a) ((d, .int k y) :: b) ((d, .int k (bif t then x else y)) :: c)
  | bool {a b c : List (Nat × Value)} {d : Nat} {x y : Bool} (h : Mrg t a b c) : Mrg t ((d, .bool x) :: a) ((d, .bool y) :: b) ((d, .bool (bif t then x else y)) :: c)
theorem Mrg.look {t : Bool} {a b c : List (Nat × Value)} (h : Mrg t a b c) : ∀ d v, RX.look c d = some v → (t = true → RX.look a d = some v) ∧ (t = false → RX.look b d = some v) := by
  induction h with
  | nil => intro d v e; cases e
  | same h ih =>
    rename_i a b c d' v'
    intro d v e
    simp only [RX.look] at e ⊢
    cases hb : Nat.beq d' d with
    | true => rw [hb] at e; simp at e; subst e; constructor <;> intro ht <;> simp
    | false => rw [hb] at e; simpa using ih d v (by simpa using e)
  | int h ih =>
    rename_i a b c d' k x y
    intro d v e
    simp only [RX.look] at e ⊢
    cases hb : Nat.beq d' d with
    | true => rw [hb] at e; simp at e; subst e; constructor <;> intro ht <;> subst ht <;> simp
    | false => rw [hb] at e; simpa using ih d v (by simpa using e)
  | bool h ih =>
    rename_i a b c d' x y
    intro d v e
    simp only [RX.look] at e ⊢
    cases hb : Nat.beq d' d with
    | true => rw [hb] at e; simp at e; subst e; constructor <;> intro ht <;> subst ht <;> simp
    | false => rw [hb] at e; simpa using ih d v (by simpa using e)
theorem Hd.thenN {K : Act → World → Prop} (h : Hd E n ds st L K) : Hd E n ds st L ((Exit.then K Q) .normal) := h
theorem Hd.mend {st' : List (Nat × Value)} (hs : sub st st') (hl : ∀ k, sep L k → sep L' k) : Hd E n ds st L ((Exit.then (fun a w => Fr n ds st' a ∧ Sat E L' w) Q) .normal) := fun _ _ f s => ⟨f.sub hs, s.mp hl⟩
theorem y_field' {b o q m ft : Nat} {fs : Array Field} {i : Nat} (hu : P.underlying t = some (.struct fs)) (hf : (fs[i]?).map (fun f => (f.offset, f.type)) = some (q, ft)) (hs : szk P ft = some m) (hm : Nat.beq m 0 = false)
    (hx : evo st x = some (.pointer (some ⟨b, o, none⟩))) : Yv E n ds st L P ⟨some d, .fieldAddr t x i, ty, pos, af, g⟩ (.pointer (some ⟨b, o + q, none⟩)) := by
  cases hfi : fs[i]? with
  | none => rw [hfi] at hf; cases hf
  | some fl =>
    rw [hfi] at hf
    simp only [Option.map_some, Option.some.injEq, Prod.mk.injEq] at hf
    obtain ⟨rfl, rfl⟩ := hf
    exact y_field hu hfi hs hm hx
theorem y_nilp {ad : Addr} (hx : evo st x = some (.pointer (some ad))) : Yv E n ds st L P ⟨some d, .nilCheck x, ty, pos, af, g⟩ (.pointer (some ad)) := fun a w f _ => by
  simp only [execOp, f.ev hx]; rfl
theorem y_convn {a : Int} {j : IntKind} {ut : TypeDesc} (hx : evo st x = some (.int j a)) (hs : P.underlying t = some ut) (ht : P.underlying t2 = some (.int k)) (hk : InK k a) :
    Yv E n ds st L P ⟨some d, .convert t t2 x, ty, pos, af, g⟩ (.int k a) := by
  have h := y_conv (P := P) (L := L) (E := E) (ds := ds) (n := n) (d := d) (ty := ty) (pos := pos) (af := af) (g := g) hx hs ht
  rwa [wrapIn hk] at h
theorem run_part1 {cs : Array Value} {off : Nat} (ha : agk P t = some false) (hc : cs[off]? = some v) (w : World) : (part t cs off).run P w = .ok v w := by
  simp only [part, Sem.run_bind, run_isAgg ha, Result.andThen]
  simp [hc]
theorem run_partn {cs : Array Value} {off m : Nat} (ha : agk P t = some true) (hz : szk P t = some m) (w : World) : (part t cs off).run P w = .ok (.agg (cs.extract off (off + m))) w := by
  simp only [part, Sem.run_bind, run_isAgg ha, Result.andThen]
  simp [run_sizeOf' hz]
theorem y_indexn {cs us : List Value} {e m len j : Nat} (hu : P.underlying t = some (.array len e)) (ha : agk P e = some true) (hs : szk P e = some m) (hx : evo st x = some (.agg cs.toArray))
    (hy : evo st y = some (.int k (Int.ofNat j))) (hj : j < len) (hc : (cs.drop (j * m)).take m = us) : Yv E n ds st L P ⟨some d, .index t x y, ty, pos, af, g⟩ (.agg us.toArray) := fun a w f _ => by
  simp only [execOp, f.ev hx, f.ev hy]
  simp only [Instr.index, asIntOf, Sem.run_bind, run_underlying hu, Result.andThen]
  subst hc
  have e1 : cs.toArray.extract (j * m) (j * m + m) = ((cs.drop (j * m)).take m).toArray := by simp [List.extract_eq_take_drop]
  simp [run_sizeOf' hs, run_partn ha hs, hj, e1]
def fitv : TypeDesc → Value → Value → Bool
  | .int _, .int k _, .int k' _ => k == k'
  | .bool, .bool _, .bool _ => true
  | .string, .string _, .string _ => true
  | _, _, _ => false
def eqv : Value → Value → Bool
  | .int _ a, .int _ b => decide (a = b)
  | .bool a, .bool b => a == b
  | .string a, .string b => a == b
  | _, _ => false
def fits : List TypeDesc → List Value → List Value → Bool
  | [], _, _ => true
  | u :: us, x :: xs, y :: ys => fitv u x y && fits us xs ys
  | _, _, _ => false
def allEq : List Value → List Value → Bool
  | x :: xs, y :: ys => eqv x y && allEq xs ys
  | _, _ => true
def shapeFrom (P : Program) : Nat → List Field → Option (List TypeDesc)
  | _, [] => some []
  | i, f :: fs => bif f.name != "_" && Nat.beq f.offset i then
      match agk P f.type, P.underlying f.type, shapeFrom P (i + 1) fs with
      | some false, some u, some us => some (u :: us)
      | _, _, _ => none
    else none
def eqshape (P : Program) (t : TypeId) : Option (List TypeDesc) := shapeFrom P 0 (P.fieldsOf t).toList
theorem run_equalIn_fit {dd : Nat} {t : TypeId} {ud : TypeDesc} {x y : Value} (hu : P.underlying t = some ud) (hf : fitv ud x y = true) (w : World) : (Op.equalIn (dd + 1) t x y).run P w = .ok (eqv x y) w := by
  cases ud <;> cases x <;> cases y <;> simp only [fitv] at hf <;> try cases hf
  case bool.bool.bool => simp [Op.equalIn, run_underlying hu, eqv]
  case int.int.int =>
    have hk := eq_of_beq hf
    subst hk
    simp [Op.equalIn, run_underlying hu, eqv]; rfl
  case string.string.string => simp [Op.equalIn, run_underlying hu, eqv]
theorem run_eqFields' (dd : Nat) (X Y : List Value) : ∀ (fs : List Field) (i : Nat) (us : List TypeDesc) (xs ys : List Value) (w : World), shapeFrom P i fs = some us → X.drop i = xs → Y.drop i = ys → fits us xs ys = true → xs.length = fs.length →  ys.length = fs.length →
    (Op.eqFields (dd + 1) X.toArray Y.toArray fs).run P w = .ok (allEq xs ys) w
  | [], i, us, xs, ys, w, _, _, _, _, hl, _ => by
    have : xs = [] := List.eq_nil_of_length_eq_zero hl
    subst this
    simp [Op.eqFields, allEq]
  | f :: fs, i, us, xs, ys, w, hs, hx, hy, hf, hlx, hly => by
    unfold shapeFrom at hs
    cases hb : (f.name != "_" && Nat.beq f.offset i) with
    | false => rw [hb] at hs; cases hs
    | true =>
      rw [hb, cond_true] at hs
      simp only [Bool.and_eq_true, bne_iff_ne, ne_eq] at hb
      have ho := Nat.eq_of_beq_eq_true hb.2
      split at hs
      · rename_i u us' ha hu hrest
        simp only [Option.some.injEq] at hs
        subst hs
        cases xs with
        | nil => simp at hlx
        | cons x xs =>
          cases ys with
          | nil => simp at hly
          | cons y ys =>
            simp only [fits, Bool.and_eq_true] at hf
            have hxi : X[i]? = some x := by have := congrArg (fun l => l[0]?) hx; simpa using this
            have hyi : Y[i]? = some y := by have := congrArg (fun l => l[0]?) hy; simpa using this
            have hx' : X.drop (i + 1) = xs := by have := congrArg List.tail hx; simpa using this
            have hy' : Y.drop (i + 1) = ys := by have := congrArg List.tail hy; simpa using this
            have ih := run_eqFields' dd X Y fs (i + 1) us' xs ys w hrest hx' hy' hf.2 (by simpa using hlx) (by simpa using hly)
            have e1 : (part f.type X.toArray f.offset).run P w = .ok x w := run_part1 ha (by rw [ho]; simpa using hxi) w
            have e2 : (part f.type Y.toArray f.offset).run P w = .ok y w := run_part1 ha (by rw [ho]; simpa using hyi) w
            simp only [Op.eqFields, hb.1, not_false_eq_true, if_true, ne_eq, Sem.run_bind, e1, e2, Result.andThen, run_equalIn_fit hu hf.1, allEq]
            cases he : eqv x y with
            | true => simpa using ih
            | false => simp
      · cases hs
theorem run_equal_agg {sh : List TypeDesc} {xs ys : List Value} (he : eqshape P t = some sh) (ht : P.underlying t = some (.struct (P.fieldsOf t))) (hp : P.stoodInHeld t = false) (hf : fits sh xs ys = true) (hlx : xs.length = (P.fieldsOf t).size) (hly : ys.length = (P.fieldsOf t).size) (w : World) :
    (Op.equalIn 10000 t (.agg xs.toArray) (.agg ys.toArray)).run P w = .ok (allEq xs ys) w := by
  have key : ∀ m, (Op.equalIn (m + 1 + 1) t (.agg xs.toArray) (.agg ys.toArray)).run P w = .ok (allEq xs ys) w := fun m => by
    rw [run_equalIn_struct w (m + 1) t _ _ ht hp]
    exact run_eqFields' m xs ys _ 0 sh xs ys w he rfl rfl hf (by simpa using hlx) (by simpa using hly)
  exact key 9998
structure EqT (P : Program) (t : TypeId) (sh : List TypeDesc) (m : Nat) : Prop where
  shape : eqshape P t = some sh
  under : P.underlying t = some (.struct (P.fieldsOf t))
  stood : P.stoodInHeld t = false
  guard : P.eqGuardType P.depth t = false
  many : (P.fieldsOf t).size = m
theorem y_neq_agg {sh : List TypeDesc} {m : Nat} {xs ys : List Value} (hx : evo st x = some (.agg xs.toArray)) (hy : evo st y = some (.agg ys.toArray)) (ht : EqT P t sh m) (hf : fits sh xs ys = true) (hl : xs.length = m ∧ ys.length = m) :
    Yv E n ds st L P ⟨some d, .binOp .neq t x y t2, ty, pos, af, g⟩ (.bool (!allEq xs ys)) := fun a w f _ => by
  simp only [execOp, f.ev hx, f.ev hy, Sem.run_bind, run_eqGuard_agg w _ _ _ _ _ _ ht.guard, Result.andThen_ok, run_neq_struct, run_equal_agg ht.shape ht.under ht.stood hf (by rw [ht.many]; exact hl.1) (by rw [ht.many]; exact hl.2), Sem.run_pure]
theorem y_eqlT {a : Int} (hx : evo st x = some (.int k a)) (hy : evo st y = some (.int k a)) : Yv E n ds st L P ⟨some d, .binOp .eql t x y t2, ty, pos, af, g⟩ (.bool true) := by
  have h := y_eql (P := P) (L := L) (E := E) (ds := ds) (n := n) (d := d) (ty := ty) (pos := pos) (af := af) (g := g) (t := t) (t2 := t2) hx hy
  rwa [decide_eq_true rfl] at h
theorem Hd.storeA {b : Nat} {cs : List Value} {e : TypeId} {us : List Value} (hz : szk P t = some us.length) (hx : evo st x = some (.pointer (some ⟨b, 0, none⟩))) (hy : evo st y = some v) (hv : v.cells = us.toArray)
    (h1 : ∀ u ∈ us, u.oneCell' = true) (hp : Pick L (pt b cs e) L') (hl : us.length = cs.length)
    (K : Hd E n ds st (pt b us e :: L') (LW r P ops Q rest)) : Hd E n ds st L (LW r P ops Q (⟨none, .store t x y, ty, pos, af, none⟩ :: rest)) :=
  Hd.store hz hx hy hv h1 hp (by omega) (by simpa [hl] using K)
theorem Hd.callE {fid : FuncId} {xs : List Operand} {vs : List Value} {tys : Array TypeId} {ι : Type} {val : ι → Value} {post : ι → List SP} {L2 : List SP} (hv : xs.map (evo st) = vs.map some) (hf : fnk P fid = true)
    (hc : Ct P fid vs.toArray L2 val post) (he : ∀ k, sep L k → sep L2 k) (K : ∀ i, Hd E n ds ((d, val i) :: st) (post i) (LW r P ops Q rest)) (hd : d < n := by decide) :
    Hd E n ds st L (LW r P ops Q (⟨some d, .call ⟨.value (.func fid), xs.toArray, tys⟩, ty, pos, af, none⟩ :: rest)) :=
  Hd.call hv hf (fun E w s => hc E w (s.mp he)) K hd
theorem Hd.unguard {dst : Option Nat} {op : Op} {i gd : Nat} (hi : (ops[i]?).bind (·.dst) = some gd) (hv : look st gd = some (.bool p)) (K : Hd E n ds st L (LW r P ops Q (⟨dst, op, ty, pos, af, none⟩ :: rest))) :
    Hd E n ds st L (LW r P ops Q (⟨dst, op, ty, pos, af, some (i, p)⟩ :: rest)) := by
  intro a w f s
  have h := K a w f s
  have h' : wpListIn (FW r) 0 P ops Q (⟨dst, op, ty, pos, af, none⟩ :: rest) a w := h
  show wpListIn _ _ _ _ _ _ _ _
  unfold wpListIn at h' ⊢
  rw [if_pos (by simp [Region.wanted])] at h'
  rw [if_pos (by simp [Region.wanted, yielded_of hi f hv])]
  exact h'
def ex {ι : Type} (f : ι → List SP) : SP := fun k => ∃ i, RX.sep (f i) k
theorem ex_sep {ι : Type} {f : ι → List SP} (i : ι) {k : PH} (s : RX.sep (f i ++ L) k) : RX.sep (ex f :: L) k := by
  obtain ⟨h1, h2, d, a, b, x, y⟩ := sep_append s
  exact ⟨h1, h2, d, a, b, ⟨i, x⟩, y⟩
theorem Hd.exs {ι : Type} {f : ι → List SP} {K : Act → World → Prop} (p : Pick L (RX.ex f) L') (h : ∀ i, Hd E n ds st (f i ++ L') K) : Hd E n ds st L K := fun a w fr s => by
  obtain ⟨h1, h2, d, aa, b, ⟨i, x⟩, y⟩ := p.sep s.2.2.2
  exact h i a w fr ⟨s.1, s.2.1, s.2.2.1, sep_join d aa b x y⟩
inductive Ent : List SP → List SP → Prop
  | nil {L : List SP} : Ent L []
  | pick {L L' M : List SP} {A : SP} (p : Pick L A L') (q : Ent L' M) : Ent L (A :: M)
  | eq {L L' M : List SP} {A B : SP} (p : Pick L A L') (h : A = B) (q : Ent L' M) : Ent L (B :: M)
  | imp {L L' M : List SP} {A B : SP} (p : Pick L A L') (h : ∀ k, A k → B k) (q : Ent L' M) : Ent L (B :: M)
  | pure {L M : List SP} {p : Prop} (hp : p) (q : Ent L M) : Ent L (pu p :: M)
  | ownNil {L M : List SP} {e sz : Nat} {ad : Option Addr} (q : Ent L M) : Ent L (own e sz ad 0 0 [] :: M)
  | same {L : List SP} : Ent L L
  | ex {L M : List SP} {ι : Type} {f : ι → List SP} (i : ι) (q : Ent L (f i ++ M)) : Ent L (RX.ex f :: M)
  | skip {L M : List SP} {A : SP} (q : Ent L M) : Ent (A :: L) M
  | left {L N : List SP} : Ent (L ++ N) L
  | right {L N M : List SP} (q : Ent N M) : Ent (L ++ N) (L ++ M)
  | swap {L N : List SP} : Ent (L ++ N) (N ++ L)
theorem Ent.imp' {L L' M : List SP} {A B : SP} (p : Pick L A L') (h : ∀ k, A k → B k) (q : ∀ k, sep L' k → sep M k) {k : PH} (s : sep L k) : sep (B :: M) k := by
  obtain ⟨h1, h2, d, a, b, x, y⟩ := p.sep s
  exact ⟨h1, h2, d, a, b, h _ x, q _ y⟩
theorem Ent.sep {L M : List SP} (e : Ent L M) : ∀ k, sep L k → sep M k := by
  induction e with
  | nil => exact fun _ _ => trivial
  | pick p _ ih => exact fun _ s => Ent.imp' p (fun _ h => h) ih s
  | eq p h _ ih => exact fun _ s => Ent.imp' p (fun _ x => h ▸ x) ih s
  | imp p h _ ih => exact fun _ s => Ent.imp' p h ih s
  | pure hp _ ih => exact fun k s => ⟨fun _ => none, k, fun _ => .inl rfl, (fun _ _ e => by cases e), Sub.rfl', hp, ih k s⟩
  | ownNil _ ih => exact fun k s => sep_own_nil _ _ _ (ih k s)
  | same => exact fun _ s => s
  | ex i _ ih => exact fun k s => ex_sep i (ih k s)
  | skip _ ih => exact fun k ⟨_, _, _, _, b, _, y⟩ => ih k (y.up b)
  | left => exact fun _ s => by obtain ⟨_, _, _, a, _, x, _⟩ := sep_append s; exact x.up a
  | right _ ih => exact fun _ s => by obtain ⟨_, _, d, a, b, x, y⟩ := sep_append s; exact sep_join d a b x (ih _ y)
  | swap => exact fun _ s => by obtain ⟨_, _, d, a, b, x, y⟩ := sep_append s; exact sep_join d.sym b a y x
theorem Ent.one {L : List SP} {A : SP} : Ent (A :: L) (L ++ [A]) := Ent.swap (L := [A])
theorem Ent.two {L : List SP} {A B : SP} : Ent (A :: B :: L) (L ++ [A, B]) := Ent.swap (L := [A, B])
theorem pt_eq {b : Nat} {e : TypeId} {cs cs' : List Value} (h : cs = cs') : pt b cs e = pt b cs' e := by rw [h]
theorem own_eq {e sz m m' cap : Nat} {ad : Option Addr} {us us' : List Value} (h1 : m = m') (h2 : us = us') : own e sz ad m cap us = own e sz ad m' cap us' := by rw [h1, h2]
theorem flat_cells {α : Type} (enc : α → List Value) (m : Nat) (hm : ∀ x, (enc x).length = m) : ∀ {xs : List α} {i : Nat} {x : α}, xs[i]? = some x → ∀ j v, (enc x)[j]? = some v → (xs.flatMap enc)[i * m + j]? = some v
  | [], _, _, h, _, _, _ => by simp at h
  | y :: xs, 0, x, h, j, v, e => by
    simp at h; subst h
    have hj := (List.getElem?_eq_some_iff.1 e).1
    rw [List.flatMap_cons, Nat.zero_mul, Nat.zero_add, List.getElem?_append_left hj]; exact e
  | y :: xs, i + 1, x, h, j, v, e => by
    have := flat_cells enc m hm (xs := xs) (i := i) (by simpa using h) j v e
    rw [List.flatMap_cons, List.getElem?_append_right (by rw [hm, Nat.succ_mul]; omega), hm, show (i + 1) * m + j - m = i * m + j by rw [Nat.succ_mul]; omega]; exact this
theorem flat_len {α : Type} (enc : α → List Value) (m : Nat) (hm : ∀ x, (enc x).length = m) (xs : List α) : (xs.flatMap enc).length = xs.length * m := by
  induction xs with
  | nil => simp
  | cons x xs ih => rw [List.flatMap_cons, List.length_append, ih, hm, List.length_cons, Nat.succ_mul, Nat.add_comm]
end
def bv (a : Int) : BitVec 64 := BitVec.ofInt 64 a
theorem wrap_i64 (m : Int) : IntKind.i64.wrap m = (m + 9223372036854775808) % 18446744073709551616 - 9223372036854775808 := IntKind.wrap_i64 m
theorem bv_wrap (v : BitVec 64) : bv (IntKind.i64.wrap (v.toNat : Int)) = v := by
  unfold bv
  apply BitVec.eq_of_toNat_eq
  rw [BitVec.toNat_ofInt, wrap_i64]
  have := v.isLt
  omega
theorem wrap_zero (v : BitVec 64) : IntKind.i64.wrap (v.toNat : Int) = 0 ↔ v = 0#64 := by
  constructor
  · intro h
    have := bv_wrap v
    rw [h] at this
    rw [← this]; rfl
  · intro h; subst h; rfl
theorem bits_andNot_zero (a b : Int) : bits .andNot .i64 a b = 0 ↔ bv a &&& ~~~bv b = 0#64 := by unfold bits; exact wrap_zero _
section
variable {E : World} {n : Nat} {ds : List Deferred} {st st' : List (Nat × Value)} {L L' : List SP} {r : Option Nat} {P : Program} {Q : Exit → Act → World → Prop} {ops : Array Oper} {rest : List Oper}
variable {d : Nat} {ty t t2 : TypeId} {pos : String} {af : Array Edge} {g : Option (Nat × Bool)} {x y z : Operand} {v u : Value} {k : IntKind} {p q : Bool}
theorem wpIn_of_still {o : Oper} {a : Act} {w : World} {K : Act → Prop} {K' : Act → World → Prop} {Q' : Exit → Act → World → Prop} (h : ∀ a, K a → K' a w) (hh : o.still P a w K) : o.wpIn (FW r) 0 P a w K' Q' := by
  unfold Oper.still at hh
  refine ⟨fun _ _ => trivial, ?_⟩
  have hse : o.semAt (FW r).round a.eval = execOp a.eval o := by
    refine Oper.semAt_eq _ _ _ fun c hc => ?_
    cases hr : (execOp a.eval o).run P w with
    | ok nx w' =>
      rw [hr] at hh
      unfold execOp at hr
      rw [hc] at hr
      simp only [Sem.run_bind] at hr
      cases h : (resolve a.eval c o.type).run P w with
      | ok d w1 => rw [h] at hr; simp [Result.andThen] at hr; rw [← hr.1] at hh; simp only [Oper.stillUpon] at hh
      | halt x w1 => rw [h] at hr; simp [Result.andThen] at hr
    | halt x w' => rw [hr] at hh; simp only [Oper.stillUpon] at hh
  rw [hse]
  generalize (execOp a.eval o).run P w = rr at *
  cases rr with
  | ok nx w' =>
    cases nx <;> simp only [Oper.stillUpon] at hh <;> simp only [Oper.uponIn]
    case enter f args =>
      obtain ⟨rfl, v, hc, hn⟩ := hh
      exact ⟨fun h => (by cases h), (callsIn_wide.2 hc).mono fun e w'' ⟨he, hw⟩ => by subst he; subst hw; exact h _ hn⟩
    all_goals (obtain ⟨rfl, h2⟩ := hh; exact h _ h2)
  | halt x w' => simp only [Oper.stillUpon] at hh
theorem wpOpIn_of_stOp {w : World} {i : Nat} {a : Act} {K : Act → Prop} {K' : Act → World → Prop} {Q' : Exit → Act → World → Prop} (h : ∀ a, K a → K' a w) (hh : stOp P ops w i K a) : wpOpIn (FW r) 0 P ops Q' i K' a w := by
  unfold stOp at hh
  unfold wpOpIn
  split
  · rename_i ho; simp only [ho] at hh; exact h _ hh
  · rename_i o ho
    simp only [ho] at hh
    split
    · rename_i hw; simp only [hw, if_true] at hh; exact wpIn_of_still h hh
    · rename_i hw; simp only [hw] at hh; exact ⟨fun _ _ => trivial, h _ hh⟩
theorem wpAnyIn_of_head {md : Region.Mode} {w : World} {m gg : Nat} {LL : Array Bool → Act → Prop} {Q' : Exit → Act → World → Prop} (hL : ∀ listed a, LL listed a → wpAnyIn (FW r) 0 P md ops Q' gg listed a w) :
    ∀ (f : Nat) (listed : Array Bool) (a : Act), wpAnyL P md ops w m LL f listed a → wpAnyIn (FW r) 0 P md ops Q' (f + gg) listed a w
  | 0, listed, a, h => by rw [Nat.zero_add]; exact hL _ _ h
  | f + 1, listed, a, h => by
    rw [show f + 1 + gg = (f + gg) + 1 by omega]
    exact ⟨fun h0 => absurd h0 h.1, fun i hi => wpOpIn_of_stOp (fun a' h' => wpAnyIn_of_head hL f _ a' h') (h.2 i hi).2⟩
theorem wpAnyIn_of_seq {md : Region.Mode} {Q' : Exit → Act → World → Prop} : ∀ (l : List Oper) (k : Nat) (listed : Array Bool) (a : Act) (w : World), (∀ j, l[j]? = ops[k + j]?) →
    Region.seqB md ops l.length k listed = true → wpListIn (FW r) 0 P ops Q' l a w → wpAnyIn (FW r) 0 P md ops Q' l.length listed a w
  | [], _, _, _, _, _, hB, h => ⟨by simpa [Region.seqB] using hB, h⟩
  | o :: l, k, listed, a, w, hl, hB, h => by
    have h0 : ops[k]? = some o := by simpa using (hl 0).symm
    simp only [List.length_cons, Region.seqB, Bool.and_eq_true, decide_eq_true_eq] at hB
    refine ⟨fun h1 => (by rw [hB.1] at h1; cases h1), fun i hi => ?_⟩
    rw [hB.1] at hi
    have hik : i = k := by simpa using hi
    subst hik
    have hw : wpOpIn (FW r) 0 P ops Q' i (wpListIn (FW r) 0 P ops Q' l) a w := by unfold wpOpIn; simp only [h0]; exact h
    exact wpOpIn_mono (fun a' w' h' => wpAnyIn_of_seq l (i + 1) _ a' w' (fun j => by have := hl (j + 1); simpa [Nat.add_assoc, Nat.add_comm 1 j] using this) hB.2 h') hw
theorem wpIn_region_still_tail {id : Nat} {a : Act} {w : World} {l : List Oper} (m : Nat) (hm : P.follows .mixedOrders = true) (hB : Region.lexTailB .any l.toArray m = true)
    (h : wpStill P l.toArray { w with drawn := w.drawn + 1 } (fun a' => wpListIn (FW r) 0 P l.toArray Q (l.drop m) a' { w with drawn := w.drawn + 1 }) (l.take m) a) : (Code.region id l.toArray true).wpIn (FW r) 0 P Q a w := by
  simp only [Region.lexTailB, Bool.and_eq_true, decide_eq_true_eq] at hB
  obtain ⟨⟨⟨⟨hsel, hn⟩, hs⟩, hc⟩, hlex⟩ := hB
  have hn' : m < l.length := by simpa using hn
  have htl : (l.take m).length = m := by simp; omega
  have hdl : (l.drop m).length = l.toArray.size - m := by simp
  have inv0 : HeadInv .any l.toArray m (Array.replicate l.toArray.size false) :=
    ⟨by simp, fun j oj _ hl => (by rw [getD_replicate_false] at hl; cases hl), fun t _ ht => getD_in (by simpa using ht) (getD_replicate_false _ _)⟩
  have H := wpAnyL_lex (md := .any) (g := l.toArray.size - m) hsel hs hc hn (l.take m) 0 _ a (fun j hj => by
    have hj' : j < m := by rw [htl] at hj; exact hj
    simp [hj']) (by simpa using htl) inv0 (by rw [htl]; exact hlex) h
  refine wpIn_region_any hm ?_
  have := wpAnyIn_of_head (Q' := Q) (gg := l.toArray.size - m) (fun listed a' hL => by
    have := wpAnyIn_of_seq (md := .any) (Q' := Q) (l.drop m) m listed a' { w with drawn := w.drawn + 1 } (fun j => by simp [List.getElem?_drop]) (by rw [hdl]; exact hL.1) hL.2
    rwa [hdl] at this) _ _ _ H
  rw [htl, show m + (l.toArray.size - m) = l.toArray.size by omega] at this
  exact this
def Ht (E : World) (n : Nat) (ds : List Deferred) (st : List (Nat × Value)) (L : List SP) (K : World → Act → Prop) : Prop := ∀ a w, Fr n ds st a → Sat E L w → K w a
abbrev SW (P : Program) (ops : Array Oper) (Kt : World → Act → Prop) (l : List Oper) : World → Act → Prop := fun w => wpStill P ops w (Kt w) l
theorem Hd.tail {id : Nat} {l : List Oper} (m : Nat) (hm : P.follows .mixedOrders = true) (hB : Region.lexTailB .any l.toArray m = true)
    (h : Ht E n ds st L (SW P l.toArray (fun w a' => LW r P l.toArray Q (l.drop m) a' w) (l.take m))) : Hd E n ds st L (CW r P (.region id l.toArray true) Q) :=
  fun a w f s => wpIn_region_still_tail m hm hB (h a _ f s.draw)
section still
variable {Kt : World → Act → Prop}
theorem Ht.nil {l : List Oper} (h : Hd E n ds st L (LW r P ops Q l)) : Ht E n ds st L (SW P ops (fun w a' => LW r P ops Q l a' w) []) := fun a w f s => h a w f s
theorem Ht.yv {op : Op} (h : Yv E n ds st L P ⟨some d, op, ty, pos, af, none⟩ v) (K : Ht E n ds ((d, v) :: st) L (SW P ops Kt rest)) (hd : d < n := by decide) :
    Ht E n ds st L (SW P ops Kt (⟨some d, op, ty, pos, af, none⟩ :: rest)) := fun a w f s => by
  refine wpStill_step fun K' hK' => ?_
  rw [if_pos (by simp [Region.wanted])]
  unfold Oper.still
  rw [h a w f s]
  exact ⟨rfl, hK' _ (K _ w (f.put hd v) s)⟩
theorem Ht.yg {op : Op} {i gd : Nat} (hi : (ops[i]?).bind (·.dst) = some gd) (hv : look st gd = some (.bool p)) (h : Yv E n ds st L P ⟨some d, op, ty, pos, af, some (i, p)⟩ v)
    (K : Ht E n ds ((d, v) :: st) L (SW P ops Kt rest)) (hd : d < n := by decide) :
    Ht E n ds st L (SW P ops Kt (⟨some d, op, ty, pos, af, some (i, p)⟩ :: rest)) := fun a w f s => by
  refine wpStill_step fun K' hK' => ?_
  rw [if_pos (by simp [Region.wanted, yielded_of hi f hv])]
  unfold Oper.still
  rw [h a w f s]
  exact ⟨rfl, hK' _ (K _ w (f.put hd v) s)⟩
theorem Ht.ng {op : Op} {i gd : Nat} (hi : (ops[i]?).bind (·.dst) = some gd) (hv : look st gd = some v) (hb : isb v p = false)
    (K : Ht E n ds ((d, undef) :: st) L (SW P ops Kt rest)) (hd : d < n := by decide) :
    Ht E n ds st L (SW P ops Kt (⟨some d, op, ty, pos, af, some (i, p)⟩ :: rest)) := fun a w f s => by
  refine wpStill_step fun K' hK' => ?_
  rw [if_neg (by simp only [Region.wanted, yielded_of hi f hv]; cases v <;> simp_all [isb])]
  exact hK' _ (K _ w (f.put hd undef) s)
theorem Ht.part {K : World → Act → Prop} {gd : Nat} (hv : look st gd = some (.bool p)) (hT : p = true → Ht E n ds ((gd, .bool true) :: st) L K) (hF : p = false → Ht E n ds ((gd, .bool false) :: st) L K) : Ht E n ds st L K :=
  fun a w f s => Hd.part (K := fun a w => K w a) hv (fun e a w f s => hT e a w f s) (fun e a w f s => hF e a w f s) a w f s
end still
theorem y_fieldR {q o m ft : Nat} {ad : Option Addr} {fs : Array Field} {i : Nat} (hu : P.underlying t = some (.struct fs)) (hf : (fs[i]?).map (fun f => (f.offset, f.type)) = some (q, ft)) (hs : szk P ft = some m) (hm : Nat.beq m 0 = false)
    (hx : evo st x = some (.pointer (some ((adr ad).add o)))) : Yv E n ds st L P ⟨some d, .fieldAddr t x i, ty, pos, af, g⟩ (.pointer (some ((adr ad).add (o + q)))) := by
  cases hfi : fs[i]? with
  | none => rw [hfi] at hf; cases hf
  | some fl =>
    rw [hfi] at hf
    simp only [Option.map_some, Option.some.injEq, Prod.mk.injEq] at hf
    obtain ⟨rfl, rfl⟩ := hf
    intro a w f s
    have hm' : m ≠ 0 := by intro e; subst e; cases hm
    simp only [execOp, f.ev hx]
    simp only [Instr.fieldAt, Sem.run_bind, run_underlying hu, Result.andThen, hfi, Instr.sureAddr, fieldPlace, run_sizeOf' hs, if_neg hm', go_sem]
    simp [Addr.add_add]
theorem Hd.storeO {e sz m cap q : Nat} {ad : Option Addr} {us vs : List Value} (hz : szk P t = some vs.length) (hx : evo st x = some (.pointer (some ((adr ad).add q)))) (hy : evo st y = some v) (hv : v.cells = vs.toArray)
    (h1 : ∀ u ∈ vs, u.oneCell' = true) (hp : Pick L (own e sz ad m cap us) L') (hl : q + vs.length ≤ us.length) (hne : 0 < vs.length)
    (K : Hd E n ds st (own e sz ad m cap (us.take q ++ vs ++ us.drop (q + vs.length)) :: L') (LW r P ops Q rest)) : Hd E n ds st L (LW r P ops Q (⟨none, .store t x y, ty, pos, af, none⟩ :: rest)) :=
  Hd.opu rfl (by simp) fun a w f s => by
    have s' : Sat E (own e sz ad m cap us :: L') w := s.mp fun _ k => hp.sep k
    obtain ⟨hos, htp, hou, k1, k2, dd, s1, s2, ⟨hul, hv'⟩, hL⟩ := s'
    rcases hv' with ⟨rfl, rfl⟩ | ⟨b, off, sp, rfl, hmc, hcm, hsp, hpt⟩
    · have h0 : us.length = 0 := by rw [hul]; simp
      omega
    have s0 : Sat E (seg b off (us ++ sp) :: L') w := ⟨hos, htp, hou, k1, k2, dd, s1, s2, hpt, hL⟩
    obtain ⟨w', hst, s2'⟩ := Sat.storeSeg (P := P) (q := q) (vs := vs) s0 (by simp; omega) (by simp; omega) h1
    have hseg : (us ++ sp).take q ++ vs ++ (us ++ sp).drop (q + vs.length) = (us.take q ++ vs ++ us.drop (q + vs.length)) ++ sp := by
      rw [List.take_append_of_le_length (by omega), List.drop_append_of_le_length (by omega)]; simp [List.append_assoc]
    rw [hseg] at s2'
    refine ⟨w', ?_, K _ _ f (s2'.mp fun h hh => sep_head hh fun k x => ⟨?_, .inr ⟨b, off, sp, rfl, hmc, hcm, hsp, x⟩⟩)⟩
    · have hx' : evo st x = some (.pointer (some ⟨b, off + q, Option.none⟩)) := by rw [hx]; simp [adr, add_flat]
      simp only [execOp, f.ev hx', f.ev hy, Instr.storeAt, Instr.sureAddr, pure_bind, storeVar, Sem.run_bind, run_sizeOf' hz, Result.andThen, hv]
      simp [hst]
    · rw [← hul]; simp; omega
theorem Hd.storeO1 {e sz m cap q : Nat} {ad : Option Addr} {us : List Value} (hz : szk P t = some 1) (hx : evo st x = some (.pointer (some ((adr ad).add q)))) (hy : evo st y = some v)
    (h1 : v.oneCell' = true) (hp : Pick L (own e sz ad m cap us) L') (hl : q < us.length)
    (K : Hd E n ds st (own e sz ad m cap (us.set q v) :: L') (LW r P ops Q rest)) : Hd E n ds st L (LW r P ops Q (⟨none, .store t x y, ty, pos, af, none⟩ :: rest)) :=
  Hd.storeO (vs := [v]) hz hx hy (by cases v <;> simp_all [Value.cells, Value.oneCell']) (by simpa using h1) hp (by simp; omega) (by simp) (by rw [one_set hl]; exact K)
theorem Hd.rdsF {sz m : Nat} {ad : Option Addr} {us : List Value} {K : Act → World → Prop} (h : RdS L sz ad m us) (k : us.length = m * sz → (ad = none → m = 0) → Hd E n ds st L K) : Hd E n ds st L K := fun a w f s => by
  have h' := h _ s.2.2.2
  refine k h'.1 (fun e => ?_) a w f s
  rcases h'.2 with h0 | ⟨b, o, had, _⟩
  · exact h0
  · rw [e] at had; cases had
theorem y_remN {a b : Nat} (hx : evo st x = some (.int k (Int.ofNat a))) (hy : evo st y = some (.int k (Int.ofNat b))) (hb : 0 < b) : Yv E n ds st L P ⟨some d, .binOp .rem t x y t2, ty, pos, af, g⟩ (.int k ((a % b : Nat) : Int)) :=
  by have h := y_remn (P := P) (L := L) (E := E) (ds := ds) (n := n) (d := d) (ty := ty) (pos := pos) (af := af) (g := g) (t := t) (t2 := t2) hx hy (Int.natCast_nonneg a) (Int.natCast_pos.2 hb); exact h
theorem Hd.name {K : Act → World → Prop} {a b : Int} (s : Nat) (hs : look st s = some (.int k a)) (e : a = b) (h : Hd E n ds ((s, .int k b) :: st) L K) : Hd E n ds st L K := fun ac w f sa => by
  subst e
  refine h ac w (f.weak fun t u e => ?_) sa
  simp only [look] at e
  cases hb : Nat.beq s t with
  | true => rw [hb] at e; have := Nat.eq_of_beq_eq_true hb; subst this; simp at e; rw [← e, hs]
  | false => rw [hb] at e; simpa using e
theorem run_equal_sliceNil {e : TypeId} {ad : Option Addr} {m c : Nat} (hu : P.underlying t = some (.slice e)) (w : World) : (Op.equal t (.slice ad m c) (.slice none 0 0)).run P w = .ok ad.isNone w := by
  have key : ∀ m', (Op.equalIn (m' + 1) t (.slice ad m c) (.slice none 0 0)).run P w = .ok ad.isNone w := fun m' => by
    rw [Op.equalIn]
    cases ad <;> simp [run_underlying hu]
  exact key 9999
theorem y_eql_slice {e : TypeId} {ad : Option Addr} {m c : Nat} (hu : P.underlying t = some (.slice e)) (hx : evo st x = some (.slice ad m c)) (hy : evo st y = some (.slice none 0 0)) :
    Yv E n ds st L P ⟨some d, .binOp .eql t x y t2, ty, pos, af, g⟩ (.bool ad.isNone) := fun a w f _ => by
  simp only [execOp, f.ev hx, f.ev hy, show ∀ (a b : Option Addr) (m c m' c' : Nat), binOp .eql t (.slice a m c) (.slice b m' c') = (do pure (.bool (← Op.equal t (.slice a m c) (.slice b m' c')))) from fun _ _ _ _ _ _ => rfl]
  simp [eqGuard, run_equal_sliceNil hu]
theorem run_equal_ptrNil {e : TypeId} {ad : Option Addr} (hu : P.underlying t = some (.pointer e)) (w : World) : (Op.equal t (.pointer ad) (.pointer none)).run P w = .ok ad.isNone w := by
  have key : ∀ m', (Op.equalIn (m' + 1) t (.pointer ad) (.pointer none)).run P w = .ok ad.isNone w := fun m' => by
    rw [Op.equalIn]
    cases ad <;> simp [run_underlying hu]
  exact key 9999
theorem y_eql_pointer {e : TypeId} {ad : Option Addr} (hu : P.underlying t = some (.pointer e)) (hx : evo st x = some (.pointer ad)) (hy : evo st y = some (.pointer none)) :
    Yv E n ds st L P ⟨some d, .binOp .eql t x y t2, ty, pos, af, g⟩ (.bool ad.isNone) := fun a w f _ => by
  simp only [execOp, f.ev hx, f.ev hy, show ∀ (a b : Option Addr), binOp .eql t (.pointer a) (.pointer b) = (do pure (.bool (← Op.equal t (.pointer a) (.pointer b)))) from fun _ _ => rfl]
  simp [eqGuard, run_equal_ptrNil hu]
theorem y_neq_pointer {e : TypeId} {ad : Option Addr} (hu : P.underlying t = some (.pointer e)) (hx : evo st x = some (.pointer ad)) (hy : evo st y = some (.pointer none)) :
    Yv E n ds st L P ⟨some d, .binOp .neq t x y t2, ty, pos, af, g⟩ (.bool (!ad.isNone)) := fun a w f _ => by
  simp only [execOp, f.ev hx, f.ev hy, show ∀ (a b : Option Addr), binOp .neq t (.pointer a) (.pointer b) = (do pure (.bool (!(← Op.equal t (.pointer a) (.pointer b))))) from fun _ _ => rfl]
  simp [eqGuard, run_equal_ptrNil hu]
theorem y_mkf {fn : Fn} {fs cs : List Operand} {fv cv : List Value} (hf : fs.map (evo st) = fv.map some) (hc : cs.map (evo st) = cv.map some) :
    Yv E n ds st L P ⟨some d, .makeFunc fn fs.toArray cs.toArray, ty, pos, af, g⟩ (.func fn fv.toArray cv.toArray) := fun a w f _ => by
  simp only [execOp, List.map_toArray, evs_map f hf, evs_map f hc]
  rfl
end
end Go.RX
