/-
  Regions that draw their order, where some moves may come late: these are taken first; then what reads, then a chain. No program is named here. Iterators: a range over a function, its rounds, the call of yield; a function that holds one, out of its body's walk. No program is named here. Parts of slices, bytes and strings, made slices, over Rx1's judgement. No program is named here. The two searches (a predicate in a list, a list in a list) as default arguments, so that a text need not spell them out. No program is named here. Regions that draw their order, in which some operations read what the others leave alone: these are taken ahead. No program is named here. Maps whose keys are integers, over Rx1's judgement. No program is named here. Facts of the seat's program: its types, which functions have a body, what is built. Cells of a block from a place on, told from a place ahead of it (fields of a struct that stands within another one). No program is named here. copy(dst, src): dst a part of a slice that is owned. No program is named here. 'and' and 'or' within a region that only reads: their ways meet again. No program is named here. Iterators whose own memory, at the end, tells what they told. No program is named here. Functions of three results. No program is named here.
-/
import Derived.OrdersIn
import Derived.ControlIn
import Derived.Scope
import Derived.RangeFuncLeaves
import Derived.RangeFuncRecord
import Derived.Lib.ConvBytes
import Derived.Lib.AppendZerosOnto
import Derived.Laws.BytesString
import Derived.Laws.IdiomStrings
import Derived.Laws.MakeOwn
import Derived.MapKept
import Derived.Test.YtmpemhbfgbochaaDoorRows
import Derived.Laws.CopyOwn
import Derived.Test.YtmpemhbfgbochaaDoorZLimitBoundsA
namespace Go.RX
set_option linter.unusedSimpArgs false
set_option linter.unusedVariables false
set_option linter.unnecessarySimpa false
section
variable {E : World} {n : Nat} {ds : List Deferred} {st st' : List (Nat × Value)} {L L' : List SP} {r : Option Nat} {P : Program} {Q : Exit → Act → World → Prop} {ops : Array Oper} {rest : List Oper}
variable {d : Nat} {ty t t2 : TypeId} {pos : String} {af : Array Edge} {g : Option (Nat × Bool)} {x y z : Operand} {v u : Value} {k : IntKind} {p q : Bool}
section scope
variable {b : Frame} {a : Act} {k : List Item} {cs : List Frame} {w : World} {F : Fence} {m : Nat}
theorem stepR_scope {c : Code} : step P (lone (b.atR a (.code (.scope c) :: k)) cs w) = .next (lone (b.atR a (.code c :: .inScope c :: k)) cs w) :=
  step_lone_go (by simp [stepG, stepG.exec, Frame.atR])
theorem stepR_inScope {c : Code} : step P (lone (b.atR a (.inScope c :: k)) cs w) = .next (lone (b.atR a k) cs w) :=
  step_lone_go (by simp [stepG, stepG.exec, Frame.atR])
theorem wpIn_scope {c : Code} (h : c.wpIn F m P (Exit.noGoto Q) a w) : (Code.scope c).wpIn F m P Q a w := by
  intro b k cs hro hb hr
  have h0 : (lone (b.atR a (.code (.scope c) :: k)) cs w).fenced P F := fenced_calm hb hr rfl
  obtain ⟨e, a₁, w₁, hq, harr⟩ := h b (.inScope c :: k) cs hro hb hr
  cases e with
  | normal => exact ⟨.normal, a₁, w₁, hq, .head h0 stepR_scope (StepsIn.trans harr (.one (fenced_calm hb hr rfl) stepR_inScope))⟩
  | exit id =>
    have hx : exitTo id (.inScope c :: k) = exitTo id k := by simp [exitTo]
    exact ⟨.exit id, a₁, w₁, hq, fun k' hk => .head h0 stepR_scope (harr.1 k' (by rw [hx]; exact hk)),
      fun hr' hk => let ⟨k₁, h1, h2⟩ := harr.2 hr' (by rw [hx]; exact hk); ⟨k₁, h1, .head h0 stepR_scope h2⟩⟩
  | goto l => exact hq.elim
  | ret => exact ⟨_, a₁, w₁, hq, .of_steps (.one h0 stepR_scope) harr⟩
  | panic ch => exact ⟨_, a₁, w₁, hq, .of_steps (.one h0 stepR_scope) harr⟩
  | outgrown => exact ⟨_, a₁, w₁, hq, .of_steps (.one h0 stepR_scope) harr⟩
end scope
theorem Hd.scope {c : Code} (h : Hd E n ds st L (CW r P c (Exit.noGoto Q))) : Hd E n ds st L (CW r P (.scope c) Q) := fun a w f s => wpIn_scope (h a w f s)
theorem Hd.scNorm (h : Hd E n ds st L (Q .normal)) : Hd E n ds st L ((Exit.noGoto Q) .normal) := h
theorem Hd.scRet (h : Hd E n ds st L (Q .ret)) : Hd E n ds st L ((Exit.noGoto Q) .ret) := h
def noP (Q : Exit → Act → World → Prop) : Exit → Act → World → Prop
  | .panic _, _, _ => False
  | e, a, w => Q e a w
abbrev AW (P : Program) (ops : Array Oper) (Q : Exit → Act → World → Prop) (f : Nat) (listed : Array Bool) : Act → World → Prop := wpAnyIn (FW none) 0 P .any ops (noP Q) f listed
theorem Hd.take (i : Nat) {op : Op} {f : Nat} {listed : Array Bool} (hi : ops[i]? = some ⟨some d, op, ty, pos, af, none⟩) (hs : Region.noSelect ops = true) (hf : Region.free .any ops listed i = true)
    (hr : (Region.ready .any ops listed).contains i = true) (hx : ∀ E, Yv E n ds st [] P ⟨some d, op, ty, pos, af, none⟩ v) (hab : ∀ (a : Act) w, (⟨some d, op, ty, pos, af, none⟩ : Oper).about P w a.eval = none) (K : Hd E n ds ((d, v) :: st) L (AW P ops Q f (listed.setIfInBounds i true))) (hd : d < n := by decide) :
    Hd E n ds st L (AW P ops Q (f + 1) listed) := fun a w fr s => by
  refine wpAnyIn_take rfl hi hs hf hr (fun _ _ _ h => h.elim) ?_ (K _ w (fr.put hd v) s)
  exact ⟨.inl ⟨by simp [Region.wanted], fun w => hx w a w fr ⟨⟨rfl, Nat.le_refl _⟩, rfl, rfl, trivial⟩⟩, fun w => hab a w⟩
theorem Hd.only (i : Nat) {o : Oper} {f : Nat} {listed : Array Bool} (hi : ops[i]? = some o) (hr : Region.ready .any ops listed = [i])
    (h : Hd E n ds st L (LW none P ops (Exit.then (AW P ops Q f (listed.setIfInBounds i true)) (noP Q)) [o])) : Hd E n ds st L (AW P ops Q (f + 1) listed) := fun a w fr s => by
  have h1 := h a w fr s
  refine ⟨fun h0 => (by rw [hr] at h0; cases h0), fun j hj => ?_⟩
  rw [hr] at hj
  obtain rfl : j = i := by simpa using hj
  have h2 : wpListIn (FW none) 0 P ops (Exit.then (AW P ops Q f (listed.setIfInBounds j true)) (noP Q)) [o] a w := h1
  unfold wpOpIn
  simp only [hi]
  unfold wpListIn at h2
  by_cases hw : Region.wanted o (yielded ops a.tmps) = true
  · rw [if_pos hw] at h2 ⊢
    refine ⟨h2.1, ?_⟩
    have h3 := h2.2
    unfold Oper.uponIn at h3 ⊢
    split at h3
    · exact h3
    · exact h3
    · exact h3
    · obtain ⟨hn, hc⟩ := h3
      refine ⟨hn, hc.mono fun e w' he => ?_⟩
      cases e with
      | returned v => exact he
      | panicked ch => exact he.elim
      | outgrown => exact he
    · exact h3
    · obtain ⟨hn, hc⟩ := h3
      refine ⟨hn, RoundIn.mono hc fun e w' he => ?_⟩
      cases e with
      | returned v => exact he
      | panicked ch => exact he.elim
      | outgrown => exact he
    · exact h3.elim
    · exact h3.elim
  · rw [if_neg hw] at h2 ⊢
    exact h2
theorem Hq.unguard {Kq : Act → Prop} {dst : Option Nat} {op : Op} {i gd : Nat} (hi : (ops[i]?).bind (·.dst) = some gd) (hv : look st gd = some (.bool p)) (K : Hq n ds st (QW P ops (Sat E L) Kq (⟨dst, op, ty, pos, af, none⟩ :: rest))) :
    Hq n ds st (QW P ops (Sat E L) Kq (⟨dst, op, ty, pos, af, some (i, p)⟩ :: rest)) := fun a f => by
  have h := K a f
  have h' : wpQuiet P ops (Sat E L) Kq (⟨dst, op, ty, pos, af, none⟩ :: rest) a := h
  show wpQuiet _ _ _ _ _ _
  unfold wpQuiet at h' ⊢
  rw [if_pos (by simp [Region.wanted])] at h'
  rw [if_pos (by simp [Region.wanted, yielded_of hi f hv])]
  exact h'
theorem Hd.quietAt {l : List Oper} {f : Nat} {listed : Array Bool} (k : Nat) (hB : (Region.noSelect l.toArray && Region.lexFrom .any l.toArray (l.length - k) k listed) = true) (hf : f = l.length - k)
    (h : Hq n ds st (QW P l.toArray (Sat E L) (fun a' => ∀ w', Sat E L w' → Q .normal a' w') (l.drop k))) : Hd E n ds st L (AW P l.toArray Q f listed) := fun a w fr s => by
  simp only [Bool.and_eq_true] at hB
  have hl : (l.drop k).length = l.length - k := by simp
  refine wpAnyIn_of_quiet (r := none) (C := Sat E L) (Q := fun a' => ∀ w', Sat E L w' → Q .normal a' w') (Q' := noP Q) (fun _ w' hw' h => h w' hw') f listed a w s ?_
  have := wpAnyQ_lex (P := P) (ops := l.toArray) (C := Sat E L) (md := .any) hB.1 (l.drop k) k listed a (fun j => by simp [List.getElem?_drop]) (by rw [hl]; exact hB.2) (h a fr)
  rw [hl] at this
  rw [hf]; exact this
structure HeadAt (md : Region.Mode) (ops : Array Oper) (m : Nat) (js : List Nat) (listed : Array Bool) : Prop where
  size : listed.size = ops.size
  closed : ∀ j oj, ops[j]? = some oj → listed.getD j false = true → ∀ e ∈ oj.after, Region.binds md e = true → listed.getD e.on false = true
  tail : ∀ t, m ≤ t → t < ops.size → listed.getD t true = true ∨ (t ∈ js ∧ listed.getD t true = false)
  js : ∀ t ∈ js, m ≤ t ∧ t < ops.size ∧ listed.getD t true = false
  sink : ∀ i, i < m → listed.getD i true = false → ((List.range (m + 1)).any fun j => decide (i < j) && Region.waitsFor md ops j i) = true
theorem HeadAt.set {md : Region.Mode} {m i : Nat} {js : List Nat} {listed : Array Bool} (h : HeadAt md ops m js listed) (hi : i ∈ Region.ready md ops listed) (him : i < m) : HeadAt md ops m js (listed.setIfInBounds i true) := by
  obtain ⟨hun, oi, hoi, hall⟩ := mem_ready.1 hi
  refine ⟨by simp [h.size], fun j oj hj hl e he hb => ?_, fun t ht ht' => by rw [getD_set_ne true (by omega)]; exact h.tail t ht ht', fun t ht => ?_, fun j hj hu => h.sink j hj (by
    by_cases hij : i = j
    · subst hij; exact hun
    · rw [getD_set_ne true hij] at hu; exact hu)⟩
  · by_cases hij : i = j
    · subst hij
      have : oj = oi := Option.some.inj (hj.symm.trans hoi)
      subst this
      exact getD_set_true (hall e he hb)
    · rw [getD_set_ne false hij] at hl
      exact getD_set_true (h.closed j oj hj hl e he hb)
  · have := h.js t ht
    exact ⟨this.1, this.2.1, by rw [getD_set_ne true (by omega)]; exact this.2.2⟩
end
end Go.RX
namespace Go.RX
set_option linter.unusedSimpArgs false
set_option linter.unusedVariables false
set_option linter.unnecessarySimpa false
section
variable {E : World} {n : Nat} {ds : List Deferred} {st st' : List (Nat × Value)} {L L' : List SP} {r : Option Nat} {P : Program} {Q : Exit → Act → World → Prop} {ops : Array Oper} {rest : List Oper}
variable {d : Nat} {ty t t2 : TypeId} {pos : String} {af : Array Edge} {g : Option (Nat × Bool)} {x y z : Operand} {v u : Value} {k : IntKind} {p q : Bool}
theorem run_callv {f : Fn} {cap : Array Value} {xs : List Operand} {vs : List Value} {tys : Array TypeId} {a : Act} (fr : Fr n ds st a) (hx : evo st x = some (.func f #[] cap)) (hv : xs.map (evo st) = vs.map some) (w : World) :
    (execOp a.eval (⟨some d, .call ⟨.value x, xs.toArray, tys⟩, ty, pos, af, g⟩ : Oper)).run P w = (invoke (.fn f cap) vs.toArray).run P w := by
  simp only [execOp, resolve, List.map_toArray, evs_map fr hv, fr.ev hx, Deferred.ofValue]
  simp
theorem Hd.callv {fid : FuncId} {cap : List Value} {xs : List Operand} {vs : List Value} {tys : Array TypeId} {ι : Type} {val : ι → Value} {post : ι → List SP} (hx : evo st x = some (.func (.func fid) #[] cap.toArray)) (hv : xs.map (evo st) = vs.map some) (hf : fnk P fid = true)
    (hc : Ct P fid (vs ++ cap).toArray L val post) (K : ∀ i, Hd E n ds ((d, val i) :: st) (post i) (LW r P ops Q rest)) (hd : d < n := by decide) :
    Hd E n ds st L (LW r P ops Q (⟨some d, .call ⟨.value x, xs.toArray, tys⟩, ty, pos, af, none⟩ :: rest)) := by
  intro a w f s
  show wpListIn _ _ _ _ _ _ _ _
  unfold wpListIn
  rw [if_pos (by simp [Region.wanted])]
  refine ⟨fun _ _ => trivial, ?_⟩
  rw [Oper.semAt_eq _ _ _ (by simp), run_callv f hx hv]
  have e : (invoke (.fn (.func fid) cap.toArray) vs.toArray).run P w = .ok (.enter fid (vs ++ cap).toArray) w := by
    simp [invoke, run_call hf]
  rw [e]
  refine ⟨fun h => (by cases h), ?_⟩
  refine ((callsIn_wide.2 (hc E w s)).mono fun e w' h => ?_)
  obtain ⟨i, rfl, s'⟩ := h
  exact K i _ _ (f.put hd _) s'
def Yd (P : Program) (l : Nat) {α : Type} (enc : α → List Value) (J X : List α → List SP) (G : List α → Prop) : Prop :=
  ∀ E M pre x w, G (pre ++ [x]) → Sat E (J pre ++ M) w → ∃ fn tmps assign body, (Instr.yield l (enc x).toArray).run P w = .ok (.round l fn tmps assign body) w ∧
    RoundIn (FW none) 0 P l fn tmps assign body w (fun e w' => ∃ b, e = .returned (.bool b) ∧ Sat E ((bif b then J (pre ++ [x]) else X (pre ++ [x])) ++ M) w')
theorem Hd.yield {α : Type} {enc : α → List Value} {J X : List α → List SP} {G : List α → Prop} {l : Nat} {M : List SP} {xs : List Operand} {tys : Array TypeId} (hy : Yd P l enc J X G) (pre : List α) (c : α) (hx : evo st x = some (.func (.yield l) #[] #[]))
    (hv : xs.map (evo st) = (enc c).map some) (hG : G (pre ++ [c])) (hl : ∀ k, sep L k → sep (J pre ++ M) k)
    (K : ∀ b, Hd E n ds ((d, .bool b) :: st) ((bif b then J (pre ++ [c]) else X (pre ++ [c])) ++ M) (LW r P ops Q rest)) (hd : d < n := by decide) :
    Hd E n ds st L (LW r P ops Q (⟨some d, .call ⟨.value x, xs.toArray, tys⟩, ty, pos, af, none⟩ :: rest)) := by
  intro a w f s
  show wpListIn _ _ _ _ _ _ _ _
  unfold wpListIn
  rw [if_pos (by simp [Region.wanted])]
  refine ⟨fun _ _ => trivial, ?_⟩
  rw [Oper.semAt_eq _ _ _ (by simp), run_callv f hx hv]
  obtain ⟨fn, tmps, assign, body, e, hR⟩ := hy E M pre c w hG (s.mp hl)
  have e' : (invoke (.fn (.yield l) #[]) (enc c).toArray).run P w = .ok (.round l fn tmps assign body) w := e
  rw [e']
  refine ⟨fun h => (by cases h), ?_⟩
  refine RoundIn.mono hR fun e w' h => ?_
  obtain ⟨b, rfl, s'⟩ := h
  exact K b _ _ (f.put hd _) s'
def It (P : Program) (gf : FuncId) (cap : List Value) {α : Type} (enc : α → List Value) (S Sp : List α → Prop) (M M' : List SP) : Prop :=
  ∀ l (J X : List α → List SP), Yd P l enc J X Sp → Ct P gf (Value.func (.yield l) #[] #[] :: cap).toArray (J [] ++ M) (fun _ : List α × Bool => .tuple #[])
    (fun i => pu (bif i.2 then S i.1 else Sp i.1) :: (bif i.2 then J i.1 else X i.1) ++ M')
theorem sep_two {A B : SP} {M N : List SP} {k : PH} (h : sep (M ++ A :: B :: N) k) : sep (A :: B :: (M ++ N)) k := by
  obtain ⟨h1, h2, d, a, b, x, k1, k2, d', a', b', y, m1, m2, d2, a2, b2, z, t⟩ := sep_append h
  have hj : sep (M ++ N) (uni h1 m2) := sep_join (d.subR (b2.tr b')) Sub.uniL (Sub.uniR (d.subR (b2.tr b'))) x t
  have dm : Dis m1 (uni h1 m2) := (Dis.uniL (d.subR (a2.tr b')) d2.sym).sym
  have hB : sep (B :: (M ++ N)) (uni m1 (uni h1 m2)) := ⟨m1, uni h1 m2, dm, Sub.uniL, Sub.uniR dm, z, hj⟩
  have dk : Dis k1 (uni m1 (uni h1 m2)) := (Dis.uniL (d'.subR a2).sym (Dis.uniL (d.subR a') (d'.subR b2).sym)).sym
  exact ⟨k1, uni m1 (uni h1 m2), dk, a'.tr b, Sub.uni (a2.tr (b'.tr b)) (Sub.uni a (b2.tr (b'.tr b))), y, hB⟩
theorem sep_app {M N : List SP} {k : PH} (h : sep (M ++ N) k) : sep (N ++ M) k := by
  obtain ⟨h1, h2, d, a, b, x, y⟩ := sep_append h
  exact sep_join d.sym b a y x
theorem sep_two' {A B : SP} {M N : List SP} {k : PH} (h : sep (A :: B :: (M ++ N)) k) : sep (M ++ A :: B :: N) k := by
  have e : A :: B :: (M ++ N) = [A, B] ++ (M ++ N) := rfl
  rw [e] at h
  have h2 := sep_app h
  rw [List.append_assoc] at h2
  obtain ⟨h1, h2, d, a, b, x, y⟩ := sep_append h2
  exact sep_join d a b x (sep_app y)
def pz : List Nat → List Value → List (Nat × Value) → List (Nat × Value)
  | t :: ts, v :: vs, st => pz ts vs ((t, v) :: st)
  | _, _, st => st
theorem pz_fr : ∀ (ps : List Nat) (vs : List Value) (st : List (Nat × Value)) (tm : Array Value), (ps.all fun t => Nat.blt t n) = true → tm.size = n → (∀ t v, look st t = some v → tm[t]? = some v) →
    ((ps.zip vs).foldl (fun tmps (t, a) => tmps.setIfInBounds t a) tm).size = n ∧ ∀ t v, look (pz ps vs st) t = some v → ((ps.zip vs).foldl (fun tmps (t, a) => tmps.setIfInBounds t a) tm)[t]? = some v
  | [], _, _, _, _, hs, hl => ⟨by simpa using hs, by simpa [pz] using hl⟩
  | _ :: _, [], _, _, _, hs, hl => ⟨by simpa using hs, by simpa [pz] using hl⟩
  | p :: ps, u :: vs, st, tm, hp, hs, hl => by
    simp only [List.all_cons, Bool.and_eq_true] at hp
    have hpn : p < n := by have := hp.1; simpa [Nat.blt_eq] using this
    simp only [List.zip_cons_cons, List.foldl_cons, pz]
    refine pz_fr ps vs ((p, u) :: st) _ hp.2 (by simpa using hs) fun t v e => ?_
    have := (Fr.put (n := n) (ds := []) (st := st) (a := { tmps := tm, defers := [] }) ⟨hs, rfl, hl⟩ hpn u).at_ t v e
    simpa [Act.put] using this
def mark (r : Nat) : Deferred := { target := .collected r, args := #[] }
def jc : Option Nat → Code
  | none => .ret
  | some id => .exit id
def RE (E : World) (l : Nat) (R : Loop) {α : Type} (I : List α → List SP) (X : Option Nat → List α → List SP) (pre : List α) (N : List SP) : Exit → Act → World → Prop
  | .normal, _, w => Sat E (ob l (.loop { R with state := .busy }) :: I pre ++ N) w
  | .ret, _, w => Sat E (ob l (.loop { R with state := .busy }) :: X none pre ++ N) w
  | .exit id, _, w => Sat E (ob l (.loop { R with state := .busy }) :: X (some id) pre ++ N) w
  | _, _, _ => False
def Bg (P : Program) (l : Nat) (body : Code) (Qb : Exit → Act → World → Prop) : Act → World → Prop := fun a w => ∃ w2, (Instr.beginRound l).run P w = .ok () w2 ∧ CW (some l) P body Qb a w2
theorem Hd.begin {l : Nat} {R : Loop} {body : Code} {Qb : Exit → Act → World → Prop} (hr : R.state = .ready) (hp : Pick L (ob l (.loop R)) L') (h : Hd E n ds st (ob l (.loop { R with state := .busy }) :: L') (CW (some l) P body Qb)) : Hd E n ds st L (Bg P l body Qb) := fun a w f s => by
  have hb := s.ob_at hp
  refine ⟨_, run_beginRound hb hr, h a _ f (Sat.put s hp rfl rfl rfl (fun x hx => World.putObj_heap_other hx) (World.putObj_heap_same (Array.getElem?_eq_some_iff.1 hb).1))⟩
theorem Hd.reN {l : Nat} {R : Loop} {α : Type} {I : List α → List SP} {X : Option Nat → List α → List SP} {pre : List α} {N : List SP} (h : ∀ k, sep L k → sep (ob l (.loop { R with state := .busy }) :: I pre ++ N) k) : Hd E n ds st L (RE E l R I X pre N .normal) := fun _ _ _ s => s.mp h
theorem Hd.reX {l : Nat} {R : Loop} {α : Type} {I : List α → List SP} {X : Option Nat → List α → List SP} {pre : List α} {N : List SP} {id : Nat} (h : ∀ k, sep L k → sep (ob l (.loop { R with state := .busy }) :: X (some id) pre ++ N) k) : Hd E n ds st L (RE E l R I X pre N (.exit id)) := fun _ _ _ s => s.mp h
theorem Hd.absurd {K : Act → World → Prop} {p : Prop} (h : ¬p) : Hd E n ds st (pu p :: L) K := Hd.pure fun hp => (h hp).elim
abbrev Rnd (E : World) (n : Nat) (st : List (Nat × Value)) (P : Program) (ps : List Nat) (assign body : Code) {α : Type} (enc : α → List Value) (I : List α → List SP) (X : Option Nat → List α → List SP) (pre : List α) (c : α) (l : Nat) (R : Loop) (N : List SP) : Prop :=
  Hd E n [] (pz ps (enc c) st) (ob l (.loop R) :: I pre ++ N) (CW (some l) P assign (Exit.then (Bg P l body (RE E l R I X (pre ++ [c]) N)) (fun _ _ _ => False)))
theorem yd_of {α : Type} {enc : α → List Value} {Sp : List α → Prop} {I : List α → List SP} {X : Option Nat → List α → List SP} {ps : List Nat} {assign body : Code} {l : Nat} {R : Loop} {tl : List SP} {tm : Array Value}
    (hR : R.state = .ready ∧ R.pending = none ∧ R.tmps = tm ∧ R.params = ps.toArray ∧ R.assign = assign ∧ R.body = body) (hps : ∀ x, (enc x).length = ps.length) (hpn : (ps.all fun t => Nat.blt t n) = true)
    (ht : tm.size = n ∧ ∀ t v, look st t = some v → tm[t]? = some v)
    (hround : ∀ E pre c N, Sp (pre ++ [c]) → Rnd E n st P ps assign body enc I X pre c l R N) :
    Yd P l enc (fun pre => ob l (.loop R) :: (I pre ++ tl)) (fun pre => [fun w => ∃ j, sep (ob l (.loop { R with state := .done, pending := some (jc j) }) :: (X j pre ++ tl)) w]) Sp := by
  obtain ⟨hst, hpe, rfl, hpa, rfl, rfl⟩ := hR
  intro E M pre c w hG s
  have hb : w.heap[l]? = some (.loop R) := s.ob_at .here
  refine ⟨_, _, _, _, run_yield hb (by simp [hpa, hps]), ?_⟩
  have s' : Sat E (ob l (.loop R) :: I pre ++ (tl ++ M)) w := by simpa [List.append_assoc] using s
  have hf := pz_fr (n := n) ps (enc c) st R.tmps hpn ht.1 ht.2
  have hz : (R.params.zip (enc c).toArray).foldl (fun tmps (t, a) => tmps.setIfInBounds t a) R.tmps = (ps.zip (enc c)).foldl (fun tmps (t, a) => tmps.setIfInBounds t a) R.tmps := by
    rw [hpa]; simp [← Array.foldl_toList]
  refine roundIn_of_wpIn (F := FW none) trivial ?_
  rw [hz]
  have h := hround E pre c (tl ++ M) hG { tmps := (ps.zip (enc c)).foldl (fun tmps (t, a) => tmps.setIfInBounds t a) R.tmps, defers := [] } w ⟨hf.1, rfl, hf.2⟩ s'
  refine Go.wpIn_mono h ?_
  intro e a1 w1 hq
  cases e with
  | normal =>
    obtain ⟨w2, hbr, hbody⟩ := hq
    refine ⟨w2, hbr, Go.wpIn_mono hbody ?_⟩
    intro e a3 w3 hq3
    have fin : ∀ (jump : Option Code) (A : List SP), Sat E (ob l (.loop { R with state := .busy }) :: A) w3 →
        ∃ w', (Instr.endRound l jump).run P w3 = .ok (.bool jump.isNone) w' ∧ Sat E (ob l (.loop { R with state := if jump.isNone then .ready else .done, pending := jump }) :: A) w' := fun jump A s3 => by
      have hb3 : w3.heap[l]? = some (.loop { R with state := .busy }) := s3.ob_at .here
      exact ⟨_, run_endRound jump hb3, Sat.put s3 .here rfl rfl rfl (fun x hx => World.putObj_heap_other hx) (World.putObj_heap_same (Array.getElem?_eq_some_iff.1 hb3).1)⟩
    cases e with
    | normal =>
      obtain ⟨w4, e4, s4⟩ := fin none _ hq3
      refine ⟨_, w4, e4, true, rfl, ?_⟩
      have : ({ R with state := LoopState.ready, pending := Option.none } : Loop) = R := by cases R; simp_all
      simp only [Option.isNone_none, if_true] at s4
      rw [this] at s4
      simpa [List.append_assoc] using s4
    | ret =>
      obtain ⟨w4, e4, s4⟩ := fin (some .ret) _ hq3
      refine ⟨_, w4, e4, false, rfl, s4.mp fun k hk => ?_⟩
      have hk' : sep ((ob l (.loop { R with state := .done, pending := some (jc Option.none) }) :: (X Option.none (pre ++ [c]) ++ tl)) ++ M) k := by simpa [List.append_assoc, jc] using hk
      obtain ⟨h1, h2, d, a, b, x, y⟩ := sep_append hk'
      exact ⟨h1, h2, d, a, b, ⟨_, x⟩, y⟩
    | exit id =>
      obtain ⟨w4, e4, s4⟩ := fin (some (.exit id)) _ hq3
      refine ⟨_, w4, e4, false, rfl, s4.mp fun k hk => ?_⟩
      have hk' : sep ((ob l (.loop { R with state := .done, pending := some (jc (some id)) }) :: (X (some id) (pre ++ [c]) ++ tl)) ++ M) k := by simpa [List.append_assoc, jc] using hk
      obtain ⟨h1, h2, d, a, b, x, y⟩ := sep_append hk'
      exact ⟨h1, h2, d, a, b, ⟨_, x⟩, y⟩
    | goto t => exact hq3.elim
    | panic ch => exact hq3.elim
    | outgrown => exact hq3.elim
  | exit id => exact hq
  | goto l => exact hq
  | ret => exact hq
  | panic ch => exact hq
  | outgrown => exact hq
theorem Hd.rangeF {α : Type} {enc : α → List Value} {S Sp : List α → Prop} {ps : List Nat} {assign body : Code} {gf : FuncId} {cap : List Value} {M M' : List SP}
    (I : List α → List SP) (X : Option Nat → List α → List SP) (hg : evo st x = some (.func (.func gf) #[] cap.toArray)) (hf : fnk P gf = true) (hps : ∀ x, (enc x).length = ps.length) (hpn : (ps.all fun t => Nat.blt t n) = true)
    (hit : It P gf cap enc S Sp M M') (h0 : ∀ k, sep L k → sep (I [] ++ M) k)
    (hround : ∀ E l R pre c N, R.state = .ready → Sp (pre ++ [c]) → Rnd E n st P ps assign body enc I X pre c l R N)
    (hdone : ∀ r0 xs, S xs → Hd E n (mark r0 :: ds) st (I xs ++ ob r0 (.deferred (some [])) :: M') (Q .normal))
    (hstop : ∀ r0 j pre, Sp pre → Hd E n (mark r0 :: ds) st (X j pre ++ ob r0 (.deferred (some [])) :: M') (CW none P (jc j) Q)) :
    Hd E n ds st L (CW none P (.rangeFunc x ps.toArray assign body) Q) := by
  intro a w fr s
  refine wpIn_rangeFunc (F := FW none) ?_
  intro fn _
  obtain ⟨w1, hw1⟩ : ∃ w1, w1 = (w.alloc (.deferred (some []))).alloc (.loop { state := .ready, pending := none, fn, tmps := a.tmps, params := ps.toArray, assign, body, defers := w.heap.size }) := ⟨_, rfl⟩
  have s1 : Sat E (ob (w.heap.size + 1) (.loop { state := .ready, pending := none, fn, tmps := a.tmps, params := ps.toArray, assign, body, defers := w.heap.size }) :: ob w.heap.size (.deferred (some [])) :: L) w1 := by
    have := (s.new (.deferred (some []))).new (.loop { state := .ready, pending := none, fn, tmps := a.tmps, params := ps.toArray, assign, body, defers := w.heap.size })
    simp only [Array.size_push] at this
    rw [hw1]
    exact this
  refine ⟨w.heap.size + 1, [mark w.heap.size], w1, { target := .fn (.func gf) cap.toArray, args := #[.func (.yield (w.heap.size + 1)) #[] #[]] }, w1, gf, (Value.func (.yield (w.heap.size + 1)) #[] #[] :: cap).toArray, w1, ?_, ?_, fun _ _ => trivial, ?_, fun h => (by cases h), ?_⟩
  · rw [hw1]; exact run_enterLoop_outer _ _ _ _ _
  · simp only [resolve, fr.ev hg, Deferred.ofValue]
    simp [Act.eval, Sem.run_pure]
  · simp [invoke, run_call hf]
  obtain ⟨R, hR⟩ : ∃ R : Loop, R = { state := .ready, pending := none, fn, tmps := a.tmps, params := ps.toArray, assign, body, defers := w.heap.size } := ⟨_, rfl⟩
  rw [← hR] at s1
  have hyd := yd_of (P := P) (n := n) (st := st) (l := w.heap.size + 1) (R := R) (tl := [ob w.heap.size (.deferred (some []))]) (tm := a.tmps) (enc := enc) (Sp := Sp) (I := I) (X := X) (ps := ps) (assign := assign) (body := body)
    (by subst hR; exact ⟨rfl, rfl, rfl, rfl, rfl, rfl⟩) hps hpn ⟨fr.size, fr.at_⟩ (fun E pre c N hG => hround E _ R pre c N (by rw [hR]) hG)
  have hc := hit _ _ _ hyd E w1 (s1.mp fun k hk => by
    obtain ⟨h1, h2, d, aa, b, x, y⟩ := hk
    obtain ⟨k1, k2, d', a', b', x', y'⟩ := y
    obtain ⟨m1, m2, d2, a2, b2, x2, y2⟩ := sep_append (h0 _ y')
    have hk1 : sep [ob w.heap.size (.deferred (some []))] k1 := ⟨k1, fun _ => none, fun _ => .inr rfl, Sub.rfl', (fun _ _ e => by cases e), x', trivial⟩
    have hj : sep (I [] ++ [ob w.heap.size (.deferred (some []))]) (uni m1 k1) := sep_join (d'.sym.subL a2) Sub.uniL (Sub.uniR (d'.sym.subL a2)) x2 hk1
    have hd1 : Dis h1 (uni m1 k1) := (Dis.uniL (d.sym.subL (a2.tr b')) (d.sym.subL a')).sym
    have hd2 : Dis (uni h1 (uni m1 k1)) m2 := Dis.uniL (d.subR (b2.tr b')) (Dis.uniL d2 (d'.subR b2))
    have hl : sep (ob (w.heap.size + 1) (.loop R) :: (I [] ++ [ob w.heap.size (.deferred (some []))])) (uni h1 (uni m1 k1)) := ⟨h1, uni m1 k1, hd1, Sub.uniL, Sub.uniR hd1, x, hj⟩
    exact sep_join hd2 (Sub.uni aa (Sub.uni (a2.tr (b'.tr b)) (a'.tr b))) (b2.tr (b'.tr b)) hl y2)
  refine (callsIn_wide.2 hc).mono ?_
  rintro e w3 ⟨⟨xs, bb⟩, rfl, s3⟩
  have fin : ∀ (R' : Loop) (A : List SP), R'.state ≠ .busy → Sat E (ob (w.heap.size + 1) (.loop R') :: A) w3 → ∃ w4, (Instr.endLoop (w.heap.size + 1)).run P w3 = .ok R'.pending w4 ∧ Sat E A w4 := fun R' A hb s => by
    have hb3 : w3.heap[w.heap.size + 1]? = some (.loop R') := s.ob_at .here
    refine ⟨_, run_endLoop hb3 hb, ?_⟩
    have := Sat.put (w' := w3.putObj (w.heap.size + 1) (.loop { R' with state := .exhausted })) s .here rfl rfl rfl (fun x hx => World.putObj_heap_other hx) (World.putObj_heap_same (Array.getElem?_eq_some_iff.1 hb3).1)
    exact this.mp fun k ⟨_, _, _, _, b, _, y⟩ => y.up b
  have f2 : Fr n (mark w.heap.size :: ds) st { a with defers := [mark w.heap.size] ++ a.defers } := ⟨fr.size, by simp [fr.defs], fr.at_⟩
  have s3' : (bif bb then S xs else Sp xs) ∧ Sat E ((bif bb then (ob (w.heap.size + 1) (.loop R) :: (I xs ++ [ob w.heap.size (.deferred (some []))])) else [fun w' => ∃ j, sep (ob (w.heap.size + 1) (.loop { R with state := .done, pending := some (jc j) }) :: (X j xs ++ [ob w.heap.size (.deferred (some []))])) w']) ++ M') w3 := by
    obtain ⟨h1, h2, h3, k1, k2, d, a, b, x, y⟩ := s3
    exact ⟨x, h1, h2, h3, y.up b⟩
  obtain ⟨hS, s4⟩ := s3'
  cases bb with
  | true =>
    obtain ⟨w4, e4, s5⟩ := fin R _ (by rw [hR]; simp) s4
    refine ⟨_, w4, e4, ?_⟩
    have : R.pending = none := by rw [hR]
    rw [this]
    exact hdone _ xs hS _ w4 f2 (by simpa [List.append_assoc] using s5)
  | false =>
    obtain ⟨h1, h2, h3, k1, k2, d, aa, b, ⟨j, x⟩, y⟩ := s4
    have hl := sep_join d aa b x y
    obtain ⟨w4, e4, s5⟩ := fin _ _ (by simp) (⟨h1, h2, h3, hl⟩ : Sat E (ob (w.heap.size + 1) (.loop { R with state := .done, pending := some (jc j) }) :: (X j xs ++ [ob w.heap.size (.deferred (some []))]) ++ M') w3)
    refine ⟨_, w4, e4, ?_⟩
    exact hstop _ j xs hS _ w4 f2 (by simpa [List.append_assoc] using s5)
def Lv (E : World) (P : Program) (fn : Func) (tm : Array Value) (ds : List Deferred) (L : List SP) {ι : Type} (val : ι → Value) (post : ι → List SP) : Prop :=
  ∀ w, Sat E L w → LeavesInM (FW none) 0 P fn tm (fun e w' => ∃ i, e = .returned (val i) ∧ Sat E (post i) w') ds .returning w
theorem Lv.mark {fn : Func} {tm : Array Value} {ds : List Deferred} {r0 : Nat} {ι : Type} {val : ι → Value} {post : ι → List SP} (hp : Pick L (ob r0 (.deferred (some []))) L') (h : Lv E P fn tm ds L' val post) : Lv E P fn tm (RX.mark r0 :: ds) L val post := fun w s => by
  have hb := s.ob_at hp
  refine ⟨by simp, .inl ⟨r0, _, rfl, run_takeDeferred hb, h _ ?_⟩⟩
  have := Sat.put (w' := w.putObj r0 (.deferred none)) s hp rfl rfl rfl (fun x hx => World.putObj_heap_other hx) (World.putObj_heap_same (Array.getElem?_eq_some_iff.1 hb).1)
  exact this.mp fun k ⟨_, _, _, _, b, _, y⟩ => y.up b
theorem Lv.end {fn : Func} {tm : Array Value} {ι : Type} {val : ι → Value} {post : ι → List SP} (i : ι) (hr : ∀ w, (results fn tm).run P w = .ok (val i) w) (hl : ∀ k, sep L k → sep (post i) k) : Lv E P fn tm [] L val post := fun w s =>
  ⟨val i, hr w, i, rfl, s.mp hl⟩
abbrev MP (E : World) (P : Program) (fn : Func) {ι : Type} (val : ι → Value) (post : ι → List SP) : Exit → Act → World → Prop := bodyPostM (FW none) 0 P fn (fun e w' => ∃ i, e = .returned (val i) ∧ Sat E (post i) w')
theorem Ct.ofM {fid : FuncId} {fn : Func} {c : Code} {vs : List Value} {ι : Type} {val : ι → Value} {post : ι → List SP} (hf : P.funcs[fid]? = some fn) (hb : fn.body = some c) (hn : Nat.ble vs.length fn.ntmps = true)
    (st : List (Nat × Value)) (hst : subv vs st) (h : ∀ E, Hd E fn.ntmps [] st L (CW none P c (MP E P fn val post))) : Ct P fid vs.toArray L val post := by
  intro E w s
  refine callsIn_wide.1 (callsIn_of_wp_marks (F := FW none) hf hb trivial (h E _ w ⟨by have := Nat.le_of_ble_eq_true hn; simp; omega, rfl, fun t v e => ?_⟩ s))
  have := hst.look t v e
  have hl : t < vs.length := by rcases Nat.lt_or_ge t vs.length with h | h; exact h; rw [List.getElem?_eq_none h] at this; cases this
  rw [Array.getElem?_append_left (by simpa using hl)]; simpa using this
theorem Hd.retM {fn : Func} {ι : Type} {val : ι → Value} {post : ι → List SP} (h : ∀ a, Fr n ds st a → Lv E P fn a.tmps ds L val post) : Hd E n ds st L (MP E P fn val post .ret) := fun a w f s => by
  show LeavesInM _ _ _ _ _ _ a.defers _ _
  rw [f.defs]; exact h a f w s
theorem Hd.endM {fn : Func} {ι : Type} {val : ι → Value} {post : ι → List SP} (h : ∀ a, Fr n ds st a → Lv E P fn a.tmps ds L val post) : Hd E n ds st L (MP E P fn val post .normal) := fun a w f s => by
  show LeavesInM _ _ _ _ _ _ a.defers _ _
  rw [f.defs]; exact h a f w s
theorem Lv.end1 {fn : Func} {a : Act} {tt : Nat} {ι : Type} {val : ι → Value} {post : ι → List SP} (fr : Fr n ds st a) (hr : fn.results = #[.tmp tt]) (i : ι) (hv : look st tt = some (val i)) (hl : ∀ k, sep L k → sep (post i) k) : Lv E P fn a.tmps [] L val post :=
  Lv.end i (fun w => by rw [results_tmp hr a.tmps P w]; simp [fr.at_ tt _ hv]) hl
theorem Lv.end2 {fn : Func} {a : Act} {tt tu : Nat} {ι : Type} {val : ι → Value} {post : ι → List SP} (fr : Fr n ds st a) (hr : fn.results = #[.tmp tt, .tmp tu]) (i : ι) (hv : look st tt = some v) (hu : look st tu = some u) (hi : val i = .tuple #[v, u]) (hl : ∀ k, sep L k → sep (post i) k) : Lv E P fn a.tmps [] L val post :=
  Lv.end i (fun w => by rw [results_tmp2 hr a.tmps P w]; simp [fr.at_ tt _ hv, fr.at_ tu _ hu, hi]) hl
theorem Lv.end0 {fn : Func} {a : Act} {ι : Type} {val : ι → Value} {post : ι → List SP} (hr : fn.results = #[]) (i : ι) (hi : val i = .tuple #[]) (hl : ∀ k, sep L k → sep (post i) k) : Lv E P fn a.tmps [] L val post :=
  Lv.end i (fun w => by rw [results_none hr a.tmps P w, hi]) hl
end
end Go.RX
namespace Go.RX
set_option linter.unusedSimpArgs false
set_option linter.unusedVariables false
set_option linter.unnecessarySimpa false
section
variable {E : World} {n : Nat} {ds : List Deferred} {st st' : List (Nat × Value)} {L L' : List SP} {r : Option Nat} {P : Program} {Q : Exit → Act → World → Prop} {ops : Array Oper} {rest : List Oper}
variable {d : Nat} {ty t t2 : TypeId} {pos : String} {af : Array Edge} {g : Option (Nat × Bool)} {x y z : Operand} {v u : Value} {k k2 k3 : IntKind} {p q : Bool}
theorem sub_append {a : List (Nat × Value)} : ∀ {b c : List (Nat × Value)}, sub a b → sub a c → sub a (b ++ c)
  | [], _, _, h => h
  | _ :: _, _, ⟨h1, h2⟩, h => ⟨h1, sub_append h2 h⟩
theorem Hd.loopK {c : Code} {ι : Type} (keep : List (Nat × Value)) (S : ι → List (Nat × Value)) (H : ι → List SP) (μ : ι → Nat) (i0 : ι) (hk : sub st keep) (hs : sub st (S i0)) (hh : ∀ k, sep L k → sep (H i0) k)
    (round : ∀ i, Hd E n ds (S i ++ keep) (H i) (CW r P c (Exit.then (fun a w => ∃ j, μ j < μ i ∧ Fr n ds (S j ++ keep) a ∧ Sat E (H j) w) Q))) :
    Hd E n ds st L (CW r P (.loop c) Q) := Hd.loop (fun i => S i ++ keep) H μ i0 (sub_append hs hk) hh round
theorem Hd.cutK {x y : Code} {ι : Type} (keep : List (Nat × Value)) (S : ι → List (Nat × Value)) (H : ι → List SP)
    (hx : Hd E n ds st L (CW r P x (Exit.then (fun a w => ∃ j, Fr n ds (S j ++ keep) a ∧ Sat E (H j) w) Q)))
    (hy : ∀ j, Hd E n ds (S j ++ keep) (H j) (CW r P y Q)) (_hk : sub st keep) : Hd E n ds st L (CW r P (.seq x y) Q) := Hd.cut (fun j => S j ++ keep) H hx hy
def cutA (ad : Option Addr) (sz l m : Nat) : Option Addr := if m = l then ad else ad.map (·.add (l * sz))
theorem cutA_zero (ad : Option Addr) (sz m : Nat) : cutA ad sz 0 m = ad := by
  unfold cutA; split
  · rfl
  · cases ad <;> simp [Addr.add]
theorem run_bound {a : Int} {m : Nat} {c : BoundsCode} (h0 : 0 ≤ a) (h1 : a ≤ m) (w : World) : (Instr.sliceBound (.int k a) m c).run P w = .ok a.toNat w := by
  simp [Instr.sliceBound, asIntOf, h0, h1]
theorem y_slo_oxx {e sz m cap : Nat} {ad : Option Addr} {a : Int} (hu : P.underlying t = some (.slice e)) (hs : szk P e = some sz) (hx : evo st x = some (.slice ad m cap)) (hy : evo st y = some (.int k a)) (h0 : 0 ≤ a) (h1 : a ≤ m) :
    Yv E n ds st L P ⟨some d, .slice t x (some y) none none, ty, pos, af, g⟩ (.slice (cutA ad sz a.toNat cap) (m - a.toNat) (cap - a.toNat)) := fun ac w f _ => by
  simp only [execOp, f.ev hx, Option.map_some, f.ev hy, Option.map_none]
  simp [Instr.sliceAt, Instr.slice, run_underlying hu, Instr.sliceBounds, run_bound h0 h1, run_sizeOf' hs, cutA]
theorem y_slo_xox {e sz m cap : Nat} {ad : Option Addr} {a : Int} (hu : P.underlying t = some (.slice e)) (hs : szk P e = some sz) (hx : evo st x = some (.slice ad m cap)) (hy : evo st y = some (.int k a)) (h0 : 0 ≤ a) (h1 : a ≤ cap) :
    Yv E n ds st L P ⟨some d, .slice t x none (some y) none, ty, pos, af, g⟩ (.slice ad a.toNat cap) := fun ac w f _ => by
  have := cutA_zero ad sz cap
  unfold cutA at this
  simp only [execOp, f.ev hx, Option.map_some, f.ev hy, Option.map_none]
  simp [Instr.sliceAt, Instr.slice, run_underlying hu, Instr.sliceBounds, run_bound h0 h1, run_sizeOf' hs]
  simpa using this
theorem y_slo_oox {e sz m cap : Nat} {ad : Option Addr} {a b : Int} (hu : P.underlying t = some (.slice e)) (hs : szk P e = some sz) (hx : evo st x = some (.slice ad m cap)) (hy : evo st y = some (.int k a)) (hz : evo st z = some (.int k2 b)) (h0 : 0 ≤ a) (h1 : a ≤ b) (h2 : b ≤ cap) :
    Yv E n ds st L P ⟨some d, .slice t x (some y) (some z) none, ty, pos, af, g⟩ (.slice (cutA ad sz a.toNat cap) (b.toNat - a.toNat) (cap - a.toNat)) := fun ac w f _ => by
  have hb := run_bound (P := P) (k := k2) (c := .sliceAcap) (Int.le_trans h0 h1) h2 w
  have ha := run_bound (P := P) (k := k) (c := .sliceB) (m := b.toNat) h0 (by omega) w
  simp only [execOp, f.ev hx, Option.map_some, f.ev hy, f.ev hz, Option.map_none]
  simp [Instr.sliceAt, Instr.slice, run_underlying hu, Instr.sliceBounds, hb, ha, run_sizeOf' hs, cutA]
theorem y_slo_xoo {e sz m cap : Nat} {ad : Option Addr} {a b : Int} (hu : P.underlying t = some (.slice e)) (hs : szk P e = some sz) (hx : evo st x = some (.slice ad m cap)) (hy : evo st y = some (.int k a)) (hz : evo st z = some (.int k2 b)) (h0 : 0 ≤ a) (h1 : a ≤ b) (h2 : b ≤ cap) :
    Yv E n ds st L P ⟨some d, .slice t x none (some y) (some z), ty, pos, af, g⟩ (.slice ad a.toNat b.toNat) := fun ac w f _ => by
  have hb := run_bound (P := P) (k := k2) (c := .slice3Acap) (Int.le_trans h0 h1) h2 w
  have ha := run_bound (P := P) (k := k) (c := .slice3B) (m := b.toNat) h0 (by omega) w
  have := cutA_zero ad sz b.toNat
  unfold cutA at this
  simp only [execOp, f.ev hx, Option.map_some, f.ev hy, f.ev hz, Option.map_none]
  simp [Instr.sliceAt, Instr.slice, run_underlying hu, Instr.sliceBounds, hb, ha, run_sizeOf' hs]
  simpa using this
theorem y_slo_ooo {e sz m cap : Nat} {ad : Option Addr} {a b c : Int} {y' : Operand} (hu : P.underlying t = some (.slice e)) (hs : szk P e = some sz) (hx : evo st x = some (.slice ad m cap)) (hy : evo st y = some (.int k a)) (hz : evo st z = some (.int k2 b)) (hy' : evo st y' = some (.int k3 c)) (h0 : 0 ≤ a) (h1 : a ≤ b) (h2 : b ≤ c) (h3 : c ≤ cap) :
    Yv E n ds st L P ⟨some d, .slice t x (some y) (some z) (some y'), ty, pos, af, g⟩ (.slice (cutA ad sz a.toNat c.toNat) (b.toNat - a.toNat) (c.toNat - a.toNat)) := fun ac w f _ => by
  have hc := run_bound (P := P) (k := k3) (c := .slice3Acap) (a := c) (by omega) h3 w
  have hb := run_bound (P := P) (k := k2) (c := .slice3B) (m := c.toNat) (a := b) (by omega) (by omega) w
  have ha := run_bound (P := P) (k := k) (c := .slice3C) (m := b.toNat) h0 (by omega) w
  simp only [execOp, f.ev hx, Option.map_some, f.ev hy, f.ev hz, f.ev hy', Option.map_none]
  simp [Instr.sliceAt, Instr.slice, run_underlying hu, Instr.sliceBounds, hb, ha, hc, run_sizeOf' hs, cutA]
theorem y_slo_oxxN {e sz m cap j : Nat} {ad : Option Addr} (hu : P.underlying t = some (.slice e)) (hs : szk P e = some sz) (hx : evo st x = some (.slice ad m cap)) (hy : evo st y = some (.int k (Int.ofNat j))) (h1 : j ≤ m) :
    Yv E n ds st L P ⟨some d, .slice t x (some y) none none, ty, pos, af, g⟩ (.slice (cutA ad sz j cap) (m - j) (cap - j)) :=
  y_slo_oxx hu hs hx hy (Int.natCast_nonneg j) (Int.ofNat_le.2 h1)
theorem y_slo_xoxN {e sz m cap j : Nat} {ad : Option Addr} (hu : P.underlying t = some (.slice e)) (hs : szk P e = some sz) (hx : evo st x = some (.slice ad m cap)) (hy : evo st y = some (.int k (Int.ofNat j))) (h1 : j ≤ cap) :
    Yv E n ds st L P ⟨some d, .slice t x none (some y) none, ty, pos, af, g⟩ (.slice ad j cap) :=
  y_slo_xox hu hs hx hy (Int.natCast_nonneg j) (Int.ofNat_le.2 h1)
theorem y_slo_xooN {e sz m cap i j : Nat} {ad : Option Addr} (hu : P.underlying t = some (.slice e)) (hs : szk P e = some sz) (hx : evo st x = some (.slice ad m cap)) (hy : evo st y = some (.int k (Int.ofNat i))) (hz : evo st z = some (.int k2 (Int.ofNat j))) (h1 : i ≤ j) (h2 : j ≤ cap) :
    Yv E n ds st L P ⟨some d, .slice t x none (some y) (some z), ty, pos, af, g⟩ (.slice ad i j) :=
  y_slo_xoo hu hs hx hy hz (Int.natCast_nonneg i) (Int.ofNat_le.2 h1) (Int.ofNat_le.2 h2)
theorem y_slo_oooN {e sz m cap i j q : Nat} {ad : Option Addr} {y' : Operand} (hu : P.underlying t = some (.slice e)) (hs : szk P e = some sz) (hx : evo st x = some (.slice ad m cap)) (hy : evo st y = some (.int k (Int.ofNat i))) (hz : evo st z = some (.int k2 (Int.ofNat j))) (hy' : evo st y' = some (.int k3 (Int.ofNat q))) (h1 : i ≤ j) (h2 : j ≤ q) (h3 : q ≤ cap) :
    Yv E n ds st L P ⟨some d, .slice t x (some y) (some z) (some y'), ty, pos, af, g⟩ (.slice (cutA ad sz i q) (j - i) (q - i)) :=
  y_slo_ooo hu hs hx hy hz hy' (Int.natCast_nonneg i) (Int.ofNat_le.2 h1) (Int.ofNat_le.2 h2) (Int.ofNat_le.2 h3)
theorem y_cap {ad : Option Addr} {len cap : Nat} {e : TypeId} (hu : P.underlying t = some (.slice e)) (hx : evo st x = some (.slice ad len cap)) :
    Yv E n ds st L P ⟨some d, .call ⟨.builtin .cap, #[x], #[t]⟩, ty, pos, af, g⟩ (.int .i64 (cap : Int)) := fun a w f _ => by
  simp only [execOp, resolve, List.map_toArray, List.map_cons, List.map_nil, f.ev hx]
  simp [invoke, builtin, Builtin.cap_, run_underlying hu, goInt, go_sem]
theorem own_split {e sz m cap l : Nat} {ad : Option Addr} {us1 us2 : List Value} {h : PH} (hl : l ≤ m) (h1 : us1.length = l * sz) (s : sep (own e sz ad m cap (us1 ++ us2) :: L) h) :
    sep (own e sz ad l l us1 :: own e sz (cutA ad sz l cap) (m - l) (cap - l) us2 :: L) h := by
  obtain ⟨g1, g2, d, a, b, ⟨hlen, hv⟩, y⟩ := s
  rcases hv with ⟨rfl, rfl⟩ | ⟨bl, off, sp, rfl, hmc, hcm, hsp, hsg⟩
  · have hl0 : l = 0 := by omega
    subst hl0
    have e1 : us1 = [] := List.eq_nil_of_length_eq_zero (by simpa using h1)
    have e2 : us2 = [] := List.eq_nil_of_length_eq_zero (by simpa [e1] using hlen)
    subst e1; subst e2
    exact sep_own_nil e sz _ (sep_own_nil e sz _ (y.up b))
  · have h2 : us2.length = (m - l) * sz := by rw [Nat.sub_mul]; simp at hlen; omega
    have s2 : sep (seg bl off (us1 ++ (us2 ++ sp)) :: L) h := ⟨g1, g2, d, a, b, by rw [← List.append_assoc]; exact hsg, y⟩
    have s3 := seg_split s2
    refine sep_head (A := seg bl off us1) (Ent.imp' (A := seg bl (off + us1.length) (us2 ++ sp)) (.there .here) (fun k hk => ?_) (fun _ x => x) s3 |> fun x => Pick.sep (.there .here) x) fun k hk => ?_
    · refine ⟨h2, ?_⟩
      by_cases hc : cap = l
      · left; constructor <;> omega
      · right
        refine ⟨bl, off + us1.length, sp, ?_, by omega, by omega, by rw [hsp]; congr 1; omega, hk⟩
        simp [cutA, hc, add_flat, h1]
    · refine ⟨h1, .inr ⟨bl, off, [], rfl, Nat.le_refl _, by omega, by simp, by simpa using hk⟩⟩
theorem own_drop {e sz m cap l : Nat} {ad : Option Addr} {us1 us2 : List Value} {h : PH} (hl : l ≤ m) (h1 : us1.length = l * sz) (s : sep (own e sz ad m cap (us1 ++ us2) :: L) h) :
    sep (own e sz (cutA ad sz l cap) (m - l) (cap - l) us2 :: L) h := by
  obtain ⟨_, _, _, _, b, _, y⟩ := own_split hl h1 s
  exact y.up b
theorem own_take {e sz m cap l : Nat} {ad : Option Addr} {us1 us2 : List Value} {h : PH} (hl : l ≤ m) (h1 : us1.length = l * sz) (o : own e sz ad m cap (us1 ++ us2) h) : own e sz ad l cap us1 h := by
  obtain ⟨hlen, hv⟩ := o
  refine ⟨h1, ?_⟩
  rcases hv with ⟨rfl, rfl⟩ | ⟨bl, off, sp, rfl, hmc, hcm, hsp, hsg⟩
  · left; constructor <;> omega
  · right
    refine ⟨bl, off, us2 ++ sp, rfl, by omega, hcm, ?_, by rw [← List.append_assoc]; exact hsg⟩
    have h2 : us2.length = (m - l) * sz := by rw [Nat.sub_mul]; simp at hlen; omega
    rw [List.length_append, h2, hsp, ← Nat.add_mul]; congr 1; omega
theorem RdS.part {sz m l h mx : Nat} {ad : Option Addr} {us : List Value} (hR : RdS L sz ad m us) (hlh : l ≤ h) (hm : h ≤ m) (hmx : h ≤ mx) : RdS L sz (cutA ad sz l mx) (h - l) ((us.drop (l * sz)).take ((h - l) * sz)) := fun k s => by
  obtain ⟨hl, hv⟩ := hR k s
  refine ⟨?_, ?_⟩
  · have : (h - l) * sz ≤ (m - l) * sz := Nat.mul_le_mul_right _ (by omega)
    rw [List.length_take, List.length_drop, hl, ← Nat.sub_mul]; omega
  · by_cases h0 : h - l = 0
    · exact .inl h0
    · right
      rcases hv with h1 | ⟨b, o, rfl, hc⟩
      · omega
      · refine ⟨b, o + l * sz, by simp [cutA, show mx ≠ l by omega, add_flat], fun j v hj => ?_⟩
        have hj2 : us[l * sz + j]? = some v := by
          rw [List.getElem?_take] at hj
          split at hj
          · rwa [List.getElem?_drop] at hj
          · cases hj
        have := hc _ v hj2
        rwa [← Nat.add_assoc] at this
theorem RdS.tail {sz m l mx : Nat} {ad : Option Addr} {us : List Value} (hR : RdS L sz ad m us) (hl : l ≤ m) (hmx : m ≤ mx) : RdS L sz (cutA ad sz l mx) (m - l) (us.drop (l * sz)) := fun k s => by
  have h1 := RdS.part (mx := mx) hR hl (Nat.le_refl m) hmx k s
  have h2 := (hR k s).1
  rwa [List.take_of_length_le (by rw [List.length_drop, h2, ← Nat.sub_mul]; exact Nat.le_refl _)] at h1
theorem RdS.head {sz m l : Nat} {ad : Option Addr} {us : List Value} (hR : RdS L sz ad m us) (hl : l ≤ m) : RdS L sz ad l (us.take (l * sz)) := by
  have := RdS.part (mx := l) (l := 0) hR (Nat.zero_le _) hl (Nat.le_refl _)
  rw [cutA_zero] at this
  simpa using this
structure kd (b m : Nat) (e : TypeId) (h : PH) : Prop where
  kind : h (b, none) = some (.blk m e (0, 0))
theorem pt_open {b : Nat} {cs : List Value} {e : TypeId} {h : PH} (s : sep (pt b cs e :: L) h) : sep (seg b 0 cs :: kd b cs.length e :: L) h := by
  obtain ⟨g1, g2, d, a, b', x, y⟩ := s
  have hd : Dis (res g1 fun _ _ => true) (fun k => match k.2 with | none => g1 k | some _ => none) := fun k => by
    obtain ⟨kb, ki⟩ := k
    cases ki with
    | none => left; rfl
    | some i => right; rfl
  have hs2 : Sub (fun k => match k.2 with | none => g1 k | some _ => none) g1 := fun k c hk => by
    obtain ⟨kb, ki⟩ := k
    cases ki with
    | none => exact hk
    | some i => cases hk
  exact ⟨res g1 fun _ _ => true, uni _ g2, (Dis.uniL hd.sym (d.subL res_sub).sym).sym, res_sub.tr a, Sub.uni (hs2.tr a) b', fun i v hi => by simp only [res, if_true]; rw [Nat.zero_add]; exact x.cell i v hi,
    _, g2, d.subL hs2, Sub.uniL, Sub.uniR (d.subL hs2), ⟨x.kind⟩, y⟩
theorem seg_eq {b o : Nat} {cs cs' : List Value} (h : cs = cs') : seg b o cs = seg b o cs' := by rw [h]
theorem Rd.seg1 {b o m : Nat} {cs : List Value} (p : Pick L (RX.seg b o cs) L') (h : cs[m]? = some v) : Rd L b (o + m) [v] := Rd.seg p fun j u e => by
  cases j with
  | zero => simp at e; subst e; simpa using h
  | succ j => simp at e
theorem Hd.storeG {b o q : Nat} {cs us : List Value} (hz : szk P t = some us.length) (hx : evo st x = some (.pointer (some ⟨b, o + q, none⟩))) (hy : evo st y = some v) (hv : v.cells = us.toArray)
    (h1 : ∀ u ∈ us, u.oneCell' = true) (hp : Pick L (seg b o cs) L') (hl : q + us.length ≤ cs.length) (hne : 0 < us.length)
    (K : Hd E n ds st (seg b o (cs.take q ++ us ++ cs.drop (q + us.length)) :: L') (LW r P ops Q rest)) : Hd E n ds st L (LW r P ops Q (⟨none, .store t x y, ty, pos, af, none⟩ :: rest)) :=
  Hd.opu rfl (by simp) fun a w f s => by
    have s' : Sat E (seg b o cs :: L') w := s.mp fun _ k => hp.sep k
    obtain ⟨w', hst, s2'⟩ := Sat.storeSeg (P := P) (q := q) (vs := us) s' hl (by omega) h1
    refine ⟨w', ?_, K _ _ f s2'⟩
    simp only [execOp, f.ev hx, f.ev hy, Instr.storeAt, Instr.sureAddr, pure_bind, storeVar, Sem.run_bind, run_sizeOf' hz, Result.andThen, hv]
    simp [hst]
theorem Hd.storeG1 {b o q : Nat} {cs : List Value} (hz : szk P t = some 1) (hx : evo st x = some (.pointer (some ⟨b, o + q, none⟩))) (hy : evo st y = some v)
    (h1 : v.oneCell' = true) (hp : Pick L (seg b o cs) L') (hl : q < cs.length)
    (K : Hd E n ds st (seg b o (cs.set q v) :: L') (LW r P ops Q rest)) : Hd E n ds st L (LW r P ops Q (⟨none, .store t x y, ty, pos, af, none⟩ :: rest)) :=
  Hd.storeG (us := [v]) hz hx hy (by cases v <;> simp_all [Value.cells, Value.oneCell']) (by simpa using h1) hp (by simp; omega) (by simp) (by rw [one_set hl]; exact K)
def NeP (P : Program) (L : List SP) (a1 a2 : Addr) : Prop := ∀ E w, Sat E L w → (sameAddr a1 a2).run P w = .ok false w
theorem y_eql_one {a1 : Addr} {m : Nat} {e : TypeId} (hu : P.underlying t = some (.pointer e)) (hs : szk P e = some m) (hm : Nat.beq m 0 = false) (hx : evo st x = some (.pointer (some a1))) (hy : evo st y = some (.pointer (some a1))) :
    Yv E n ds st L P ⟨some d, .binOp .eql t x y t2, ty, pos, af, g⟩ (.bool true) := fun ac w f s => by
  have hm' : m ≠ 0 := by intro e; subst e; cases hm
  have key : (Op.equal t (.pointer (some a1)) (.pointer (some a1))).run P w = .ok true w := by
    have : ∀ q, (Op.equalIn (q + 1) t (.pointer (some a1)) (.pointer (some a1))).run P w = .ok true w := fun q => by
      rw [Op.equalIn]
      simp [run_underlying hu, run_sizeOf' hs, hm', sameAddr]
    exact this 9999
  simp only [execOp, f.ev hx, f.ev hy, show ∀ (a b : Option Addr), binOp .eql t (.pointer a) (.pointer b) = (do pure (.bool (← Op.equal t (.pointer a) (.pointer b)))) from fun _ _ => rfl]
  simp [eqGuard, key]
theorem NeP.same {b o1 o2 : Nat} (h : o1 ≠ o2) : NeP P L ⟨b, o1, none⟩ ⟨b, o2, none⟩ := fun E w s => by
  simp [sameAddr, h]
theorem Hd.callvE {fid : FuncId} {cap : List Value} {xs : List Operand} {vs : List Value} {tys : Array TypeId} {ι : Type} {val : ι → Value} {post : ι → List SP} {L2 : List SP} (hx : evo st x = some (.func (.func fid) #[] cap.toArray)) (hv : xs.map (evo st) = vs.map some) (hf : fnk P fid = true)
    (hc : Ct P fid (vs ++ cap).toArray L2 val post) (he : ∀ k, sep L k → sep L2 k) (K : ∀ i, Hd E n ds ((d, val i) :: st) (post i) (LW r P ops Q rest)) (hd : d < n := by decide) :
    Hd E n ds st L (LW r P ops Q (⟨some d, .call ⟨.value x, xs.toArray, tys⟩, ty, pos, af, none⟩ :: rest)) := Hd.callv hx hv hf (fun E w s => hc E w (s.mp he)) K hd
abbrev B (b : UInt8) : Value := .int .u8 (b.toNat : Int)
@[reducible] def str (l : List UInt8) : ByteArray := ⟨l.toArray⟩
theorem B_one {l : List UInt8} : ∀ u ∈ l.map B, u.oneCell' = true := by simp [Value.oneCell']
theorem y_to {o : Oper} {v v' : Value} (h : Yv E n ds st L P o v) (e : v = v') : Yv E n ds st L P o v' := e ▸ h
theorem Hd.mkslice {e sz bytes m cap : Nat} {zs : List Value} {a b : Int} (ht : P.underlying t = some (.slice e)) (hi : tyr P e = some (sz, bytes, sz)) (hz : zrk P e = some zs) (hx : evo st x = some (.int k a)) (hy : evo st y = some (.int k2 b)) (ha : a = (m : Int)) (hb : b = (cap : Int)) (hmc : m ≤ cap) (hbytes : bytes * cap ≤ 281474976710656) (h63 : cap ≤ maxLen)
    (K : ∀ bl cs, cs = (List.range (cap * sz)).map (fun i => zs.getD (i % sz) (.bool false)) → Hd E n ds ((d, .slice (some ⟨bl, 0, none⟩) m cap) :: st) (pt bl cs e :: L) (LW r P ops Q rest)) (hd : d < n := by decide) :
    Hd E n ds st L (LW r P ops Q (⟨some d, .makeSlice t x y, ty, pos, af, none⟩ :: rest)) :=
  Hd.op rfl (by simp) fun ac w f s => by
    subst ha; subst hb
    obtain ⟨i, zv, h1', h2', h3', h4', h5'⟩ := tyr_parts hi
    have hzs : zv.cells.toList = zs := by
      unfold zrk at hz; simp [h1', h2'] at hz; exact hz
    have h63' : (cap : Int) ≤ 9223372036854775807 := by simp only [maxLen] at h63; omega
    have hb' : (i.bytes : Int) * (cap : Int) ≤ 281474976710656 := by
      have h : ((i.bytes * cap : Nat) : Int) ≤ 281474976710656 := by rw [h4']; omega
      rwa [Int.natCast_mul] at h
    have hr := run_make (P := P) w t e i zv ht h1' h2' k k2 m cap (by omega) (by omega) hb' h63'
    simp only [Int.toNat_natCast] at hr
    refine ⟨_, _, ?_, K w.heap.size (madeCells zv.cells (cap * i.size)).toList ?_ _ _ (f.put hd _) (s.newPt _ _)⟩
    · simp only [execOp, f.ev hx, f.ev hy, Sem.run_bind, hr, Result.andThen_ok]
      rfl
    · simp only [madeCells, h3', Array.toList_map, Array.toList_range]
      apply List.map_congr_left
      intro j hj
      have hpos : 0 < sz := by
        have := List.mem_range.1 hj
        rcases Nat.eq_zero_or_pos sz with h | h
        · rw [h] at this; omega
        · exact h
      rw [h5', ← hzs]
      have hlt : j % sz < zv.cells.size := by rw [h5']; exact Nat.mod_lt _ hpos
      simp [List.getD, hlt]
theorem Hd.appendZ {e bytes m cap j : Nat} {z : Value} {ad : Option Addr} {us : List Value} {kn : IntKind} {a : Int} (ht : P.underlying t = some (.slice e)) (htn : P.underlying t2 = some (.int kn)) (hi : tyr P e = some (1, bytes, 1)) (hz : zrk P e = some [z])
    (hx : evo st x = some (.slice ad m cap)) (hy : evo st y = some (.int k a)) (ha : a = (j : Int)) (hp : Pick L (own e 1 ad m cap us) L')
    (h0 : 0 < j) (hg : cap < m + j) (h63 : m + j ≤ maxLen) (hbytes : (m + j) * bytes ≤ 140737488355328)
    (K : ∀ ad' cap', Hd E n ds ((d, .slice ad' (m + j) cap') :: st) (own e 1 ad' (m + j) cap' (us ++ List.replicate j z) :: L') (LW r P ops Q rest)) (hd : d < n := by decide) :
    Hd E n ds st L (LW r P ops Q (⟨some d, .call ⟨.builtin .append, #[x, y], #[t, t2]⟩, ty, pos, af, none⟩ :: rest)) :=
  Hd.op rfl (by simp) fun ac w f s => by
    subst ha
    obtain ⟨i, zv, h1', h2', h3', h4', h5'⟩ := tyr_parts hi
    have hzs : zv.cells.toList = [z] := by
      unfold zrk at hz; simp [h1', h2'] at hz; exact hz
    have hzc : zv.cells = #[z] := by apply Array.ext'; simpa using hzs
    have s' : Sat E (own e 1 ad m cap us :: L') w := s.mp fun _ k => hp.sep k
    obtain ⟨hos, htp, hou, g1, g2, dd, s1, s2, ⟨hul, hv⟩, hL⟩ := s'
    have hold : (Builtin.firstCells i.size m (.slice ad m cap)).run P w.drew = .ok us.toArray w.drew := by
      rcases hv with ⟨rfl, rfl⟩ | ⟨b, off, sp, rfl, hmc, hcm, hsp, hsg⟩
      · have : us = [] := List.eq_nil_of_length_eq_zero (by simpa using hul)
        subst this
        cases ad <;> simp [Builtin.firstCells, loadCells, loadCellsFrom]
      · refine run_firstCells_some (P := P) w.drew i.size m ⟨b, off, none⟩ m cap us (by rw [h3']; exact hul) fun q u hq => ?_
        rw [add_flat]
        have hql : q < us.length := (List.getElem?_eq_some_iff.1 hq).1
        exact cell_hp (s1 _ _ (hsg q u (by rw [List.getElem?_append_left hql]; exact hq)))
    have hbj : j * i.bytes ≤ 281474976710656 := by
      have := Nat.mul_le_mul_right i.bytes (show j ≤ m + j by omega)
      rw [h4'] at this ⊢; omega
    have hr := Lib.run_append_grow_zeros (P := P) w t t2 ty e i zv k kn ht htn h1' h2' ad m cap us hold j h0 (by omega) hg (by simp only [maxLen] at h63; omega) hbj (growslice_fits (by omega) (by rw [h4']; exact hbytes))
    have hge := grownCap_ge w (m + j) cap e
    have hcm : grownCap w (m + j) cap e ≤ maxLen := grownCap_le_maxLen w (m + j) cap e h63
    refine ⟨_, w.drew.alloc (.cells (us.toArray ++ Builtin.zeroCells zv.cells j ++ Builtin.zeroCells zv.cells (grownCap w (m + j) cap e - (m + j))) e), ?_, K (some ⟨w.heap.size, 0, none⟩) (grownCap w (m + j) cap e) _ _ (f.put hd _) ?_⟩
    · simp only [execOp, resolve, List.map_toArray, List.map_cons, List.map_nil, f.ev hx, f.ev hy, invoke, builtin, Sem.run_bind, Sem.run_pure, Result.andThen_ok, hr]
    · have hzc2 : ∀ q, (Builtin.zeroCells zv.cells q).toList = List.replicate q z := fun q => by
        rw [hzc]
        simp only [Builtin.zeroCells, Array.toList_map, Array.toList_range, List.size_toArray, List.length_cons, List.length_nil, Nat.zero_add, Nat.mul_one, Nat.mod_one]
        apply List.ext_getElem?
        intro i
        simp [List.getElem?_replicate]
        split <;> simp_all
      have sL : Sat E L' w.drew := ⟨⟨hos.1, Nat.le_succ_of_le hos.2⟩, htp, hou, hL.up s2⟩
      have sn := sL.newPt (us ++ List.replicate j z ++ List.replicate (grownCap w (m + j) cap e - (m + j)) z) e
      have e0 : (us ++ List.replicate j z ++ List.replicate (grownCap w (m + j) cap e - (m + j)) z).toArray = us.toArray ++ Builtin.zeroCells zv.cells j ++ Builtin.zeroCells zv.cells (grownCap w (m + j) cap e - (m + j)) := by
        apply Array.ext'; simp [hzc2]
      rw [e0] at sn
      exact sn.mp fun h hh => sep_head hh fun k x => own_pt (by simp at hul ⊢; omega) hge hcm (by simp) x
end
end Go.RX
namespace Go.RX
set_option linter.unusedSimpArgs false
set_option linter.unusedVariables false
set_option linter.unnecessarySimpa false
theorem pkk {L L' : List SP} {A : SP} (h : Pick L A L' := by repeat (first | with_reducible exact Pick.here | apply Pick.there | with_reducible apply Pick.right)) : Pick L A L' := h
theorem enn {L M : List SP} (h : Ent L M := by repeat (first | with_reducible exact Ent.same | exact Ent.nil | with_reducible exact Ent.left | (apply Ent.pick; focus ((repeat (first | with_reducible exact Pick.here | apply Pick.there | with_reducible apply Pick.right)); done)) | refine Ent.pure (by assumption) ?_ | apply Ent.ownNil | with_reducible apply Ent.right | exact Ent.left | exact Ent.same | refine Ent.skip ?_)) : Ent L M := h
end Go.RX
namespace Go.RX
set_option linter.unusedSimpArgs false
set_option linter.unusedVariables false
set_option linter.unnecessarySimpa false
section
variable {E : World} {n : Nat} {ds : List Deferred} {st st' : List (Nat × Value)} {L L' M : List SP} {r : Option Nat} {P : Program} {Q : Exit → Act → World → Prop} {ops : Array Oper} {rest : List Oper}
variable {d : Nat} {ty t t2 : TypeId} {pos : String} {af : Array Edge} {g : Option (Nat × Bool)} {x y z : Operand} {v u : Value} {k : IntKind} {p q : Bool}
variable {md : Region.Mode} {S : World → Prop} {J : Nat → Bool}
def YieldsIn (P : Program) (ops : Array Oper) (S : World → Prop) (o : Oper) (v : Value) (a : Act) : Prop :=
  ((Region.wanted o (yielded ops a.tmps) = true ∧ ∀ w, S w → (execOp a.eval o).run P w = .ok (.value v) w) ∨ (Region.wanted o (yielded ops a.tmps) = false ∧ v = undef)) ∧ ∀ w, o.about P w a.eval = none
theorem YieldsIn.wpOpIn {i : Nat} {o : Oper} {v : Value} {a : Act} (hi : ops[i]? = some o) (hdf : ∀ c, o.op ≠ .defer c) (hy : YieldsIn P ops S o v a) {K : Act → World → Prop} {w : World} (hS : S w) (h : K (a.put o.dst v) w) : wpOpIn (FW r) 0 P ops Q i K a w := by
  unfold Go.wpOpIn
  simp only [hi]
  have hab : ∀ f, o.about P w a.eval = some f → (FW r).fn f := fun f hf => by rw [hy.2 w] at hf; cases hf
  rcases hy.1 with ⟨hw, hv⟩ | ⟨hw, rfl⟩
  · simp only [hw, if_true, Oper.wpIn, Oper.semAt_eq _ _ _ hdf, hv w hS, Oper.uponIn]; exact ⟨hab, h⟩
  · simp only [hw, Bool.false_eq_true, if_false]; exact ⟨hab, h⟩
theorem YieldsIn.of_same {o : Oper} {v : Value} {a a' : Act} (hy : YieldsIn P ops S o v a) (he : execOp a'.eval o = execOp a.eval o)
    (hw : Region.wanted o (yielded ops a'.tmps) = Region.wanted o (yielded ops a.tmps)) (hb : ∀ w, o.about P w a'.eval = o.about P w a.eval) : YieldsIn P ops S o v a' := by
  unfold YieldsIn at *
  rw [he, hw]
  exact ⟨hy.1, fun w => by rw [hb w]; exact hy.2 w⟩
theorem wpOpIn_putIn {j : Nat} {oi oj : Oper} {v : Value} (hj : ops[j]? = some oj) (hdf : ∀ c, oj.op ≠ .defer c) (hap : oi.apart ops oj = true)
    (hsi : ∀ cs b, oi.op ≠ .select cs b) (hsj : ∀ cs b, oj.op ≠ .select cs b) {K : Act → World → Prop} {a : Act} {w : World}
    (hy : YieldsIn P ops S oi v a) (h : wpOpIn (FW r) 0 P ops (noP Q) j K (a.put oi.dst v) w) :
    wpOpIn (FW r) 0 P ops (noP Q) j (fun a' w' => YieldsIn P ops S oi v a' ∧ K (a'.put oi.dst v) w') a w := by
  obtain ⟨h1, h2, h3⟩ := Oper.apart_spec hap
  have keep : ∀ (a : Act), YieldsIn P ops S oi v a → ∀ u, YieldsIn P ops S oi v (a.put oj.dst u) := fun a hy u =>
    hy.of_same (execOp_put oi hsi a oj.dst u h3) (wanted_put oi a oj.dst u h3) (fun w => about_put oi w a oj.dst u h3)
  have keepD : ∀ d, YieldsIn P ops S oi v { a with defers := d :: a.defers } := fun d => hy.of_same rfl rfl (fun _ => rfl)
  unfold wpOpIn at *
  simp only [hj] at *
  rw [wanted_put oj a oi.dst v h1, about_put oj w a oi.dst v h1] at h
  split
  · rename_i hw
    simp only [hw, if_true] at h
    unfold Oper.wpIn at *
    rw [about_put oj w a oi.dst v h1] at h
    refine ⟨h.1, ?_⟩
    have h := h.2
    rw [Oper.semAt_eq _ _ _ hdf, execOp_put oj hsj a oi.dst v h1] at h
    rw [Oper.semAt_eq _ _ _ hdf]
    generalize (execOp a.eval oj).run P w = r at *
    cases r with
    | ok x w' =>
      cases x <;> simp only [Oper.uponIn] at h ⊢
      case value u => exact ⟨keep a hy u, by rw [← Act.put_comm a v u h2]; exact h⟩
      case skip => exact ⟨keep a hy _, by rw [← Act.put_comm a v undef h2]; exact h⟩
      case defer d =>
        refine ⟨keep _ (keepD d) _, ?_⟩
        rw [← Act.put_comm _ v undef h2, ← Act.put_defers]
        exact h
      case enter f args =>
        refine ⟨h.1, CallsIn.mono h.2 fun e w'' he => ?_⟩
        cases e with
        | returned u => exact ⟨keep a hy u, by rw [← Act.put_comm a v u h2]; exact he⟩
        | panicked c => exact he.elim
        | outgrown => exact he
      case row row args => exact ⟨h.1, RowsIn.mono h.2 fun u w'' he => ⟨keep a hy u, by rw [← Act.put_comm a v u h2]; exact he⟩⟩
      case round l f tmps assign body =>
        refine ⟨h.1, RoundIn.mono h.2 fun e w'' he => ?_⟩
        cases e with
        | returned u => exact ⟨keep a hy u, by rw [← Act.put_comm a v u h2]; exact he⟩
        | panicked c => exact he.elim
        | outgrown => exact he
    | halt x w' =>
      cases x <;> simp only [Oper.uponIn] at h ⊢
      case panic u => exact h.elim
  · rename_i hw
    simp only [hw] at h
    exact ⟨h.1, keep a hy _, by rw [← Act.put_comm a v undef h2]; exact h.2⟩
def wpAnyHz (r : Option Nat) (P : Program) (md : Region.Mode) (ops : Array Oper) (Q : Exit → Act → World → Prop) (S : World → Prop) (J : Nat → Bool) : Nat → Array Bool → Act → World → Prop
  | 0, listed, a, w => Region.ready md ops listed = [] ∧ Q .normal a w
  | fuel + 1, listed, a, w =>
    (Region.ready md ops listed = [] → Q .normal a w) ∧
    ∀ i ∈ Region.ready md ops listed, wpOpIn (FW r) 0 P ops (noP Q) i (fun a' w' => (J i = true → S w') ∧ wpAnyHz r P md ops Q S J fuel (listed.setIfInBounds i true) a' w') a w
theorem wpAnyIn_of_heldz : ∀ (fuel : Nat) (listed : Array Bool) (a : Act) (w : World), wpAnyHz r P md ops Q S J fuel listed a w → wpAnyIn (FW r) 0 P md ops (noP Q) fuel listed a w
  | 0, _, _, _, h => h
  | fuel + 1, _, _, _, h => ⟨h.1, fun i hi => wpOpIn_mono (fun a' w' h' => wpAnyIn_of_heldz fuel _ a' w' h'.2) (h.2 i hi)⟩
theorem wpAnyHz_first {i : Nat} {oi : Oper} {v : Value} (hi : ops[i]? = some oi) (hsel : ∀ (j : Nat) (o : Oper) cs b, ops[j]? = some o → o.op ≠ .select cs b)
    (hJ : ∀ (j : Nat) oj, ops[j]? = some oj → (∀ e ∈ oj.after, Region.binds md e = true → e.on ≠ i) → J j = true) (hnd : ∀ (j : Nat) (o : Oper), ops[j]? = some o → ∀ c, o.op ≠ .defer c) :
    ∀ (fuel : Nat) (listed : Array Bool) (a : Act) (w : World),
      (∀ j oj, ops[j]? = some oj → j ≠ i → listed.getD j true = false → (∀ e ∈ oj.after, Region.binds md e = true → e.on ≠ i) → oi.apart ops oj = true) →
      i ∈ Region.ready md ops listed → YieldsIn P ops S oi v a → S w →
      wpAnyHz r P md ops Q S J fuel (listed.setIfInBounds i true) (a.put oi.dst v) w → wpAnyHz r P md ops Q S J (fuel + 1) listed a w := by
  intro fuel
  induction fuel with
  | zero =>
    intro listed a w _ hr hy hS H
    refine ⟨fun h => (by rw [h] at hr; cases hr), fun j hj => ?_⟩
    by_cases hji : j = i
    · subst hji; exact hy.wpOpIn hi (hnd _ _ hi) hS ⟨fun _ => hS, H⟩
    · have := ready_mono hj hji
      rw [H.1] at this
      cases this
  | succ fuel ih =>
    intro listed a w hfree hr hy hS H
    refine ⟨fun h => (by rw [h] at hr; cases hr), fun j hj => ?_⟩
    by_cases hji : j = i
    · subst hji; exact hy.wpOpIn hi (hnd _ _ hi) hS ⟨fun _ => hS, H⟩
    · have h1 := H.2 j (ready_mono hj hji)
      obtain ⟨hjun, oj, hoj, hall⟩ := mem_ready.1 hj
      have hnot : ∀ e ∈ oj.after, Region.binds md e = true → e.on ≠ i := fun e he hb heq => by
        have h1 := hall e he hb
        have h0 := (mem_ready.1 hr).1
        rw [heq] at h1
        rcases Nat.lt_or_ge i listed.size with h' | h'
        · simp [h'] at h0 h1; rw [h0] at h1; cases h1
        · simp [Array.getElem?_eq_none h'] at h1
      have h2 := wpOpIn_putIn hoj (hnd _ _ hoj) (hfree j oj hoj hji hjun hnot) (fun cs b => hsel i oi cs b hi) (fun cs b => hsel j oj cs b hoj) hy h1
      have hfree' : ∀ k ok, ops[k]? = some ok → k ≠ i → (listed.setIfInBounds j true).getD k true = false →
          (∀ e ∈ ok.after, Region.binds md e = true → e.on ≠ i) → oi.apart ops ok = true := fun k ok hk hki hun hno => by
        refine hfree k ok hk hki ?_ hno
        by_cases hjk : j = k
        · subst hjk; exact hjun
        · rw [getD_set_ne true hjk] at hun; exact hun
      have hJj := hJ j oj hoj hnot
      refine wpOpIn_mono (fun a' w' h3 => ⟨fun _ => h3.2.1 hJj, ih (listed.setIfInBounds j true) a' w' hfree' (ready_mono hr (Ne.symm hji)) h3.1 (h3.2.1 hJj) ?_⟩) h2
      rw [Array.setIfInBounds_comm _ _ hji]
      exact h3.2.2
def isDefer : Op → Bool
  | .defer _ => true
  | _ => false
def jOk (md : Region.Mode) (ops : Array Oper) (J : Nat → Bool) (i : Nat) : Bool :=
  (ops.all fun o => !isDefer o.op) && (List.range ops.size).all fun j => J j || match ops[j]? with | some oj => oj.after.any (fun e => Region.binds md e && Nat.beq e.on i) | none => true
theorem jOk_spec {i : Nat} (h : jOk md ops J i = true) : ∀ (j : Nat) oj, ops[j]? = some oj → (∀ e ∈ oj.after, Region.binds md e = true → e.on ≠ i) → J j = true := fun j oj hj hno => by
  simp only [jOk, Bool.and_eq_true] at h
  have := List.all_eq_true.1 h.2 j (List.mem_range.2 (Array.getElem?_eq_some_iff.1 hj).1)
  simp only [hj, Bool.or_eq_true] at this
  rcases this with h | h
  · exact h
  · obtain ⟨e, he, h2⟩ := Array.any_eq_true'.1 h
    simp only [Bool.and_eq_true] at h2
    exact absurd (Nat.eq_of_beq_eq_true h2.2) (hno e he h2.1)
theorem jOk_nd {i : Nat} (h : jOk md ops J i = true) : ∀ (j : Nat) (o : Oper), ops[j]? = some o → ∀ c, o.op ≠ .defer c := fun j o hj c hc => by
  simp only [jOk, Bool.and_eq_true] at h
  have := Array.all_eq_true'.1 h.1 o (Array.mem_of_getElem? hj)
  rw [hc] at this; cases this
abbrev ZW (r : Option Nat) (P : Program) (ops : Array Oper) (Q : Exit → Act → World → Prop) (S : World → Prop) (J : Nat → Bool) (f : Nat) (listed : Array Bool) : Act → World → Prop := wpAnyHz r P .any ops Q S J f listed
theorem Hd.drawsH {id : Nat} {l : List Oper} (M : List SP) (J : Nat → Bool) (hm : P.follows .mixedOrders = true) (h : Hd E n ds st L (ZW r P l.toArray Q (Sat E M) J l.length (Array.replicate l.length false))) :
    Hd E n ds st L (CW r P (.region id l.toArray true) Q) := fun a w f s => by
  refine Go.wpIn_mono (wpIn_region_any (F := FW r) (Q := noP Q) hm ?_) ?_
  · have := wpAnyIn_of_heldz _ _ _ _ (h a _ f s.draw)
    simpa using this
  · intro e a' w' hq
    cases e <;> first | exact hq | exact hq.elim
theorem Hd.takeH (i : Nat) {op : Op} {f : Nat} {listed : Array Bool} (hi : ops[i]? = some ⟨some d, op, ty, pos, af, none⟩) (hs : Region.noSelect ops = true) (hf : Region.free .any ops listed i = true)
    (hr : (Region.ready .any ops listed).contains i = true) (hJ : jOk .any ops J i = true) (hx : Yv E n ds st M P ⟨some d, op, ty, pos, af, none⟩ v) (hab : ∀ (a : Act) w, (⟨some d, op, ty, pos, af, none⟩ : Oper).about P w a.eval = none)
    (hM : ∀ k, sep L k → sep M k) (K : Hd E n ds ((d, v) :: st) L (ZW r P ops Q (Sat E M) J f (listed.setIfInBounds i true))) (hd : d < n := by decide) :
    Hd E n ds st L (ZW r P ops Q (Sat E M) J (f + 1) listed) := fun a w fr s => by
  refine wpAnyHz_first hi (Region.noSelect_spec hs) (jOk_spec hJ) (jOk_nd hJ) f listed a w (Region.free_spec hi hf) (by simpa using hr) ?_ (s.mp hM) (K _ w (fr.put hd v) s)
  exact ⟨.inl ⟨by simp [Region.wanted], fun w sw => hx a w fr sw⟩, fun w => hab a w⟩
theorem Hd.takegH (i : Nat) {op : Op} {j gd : Nat} {f : Nat} {listed : Array Bool} (hi : ops[i]? = some ⟨some d, op, ty, pos, af, some (j, p)⟩) (hs : Region.noSelect ops = true) (hf : Region.free .any ops listed i = true)
    (hr : (Region.ready .any ops listed).contains i = true) (hJ : jOk .any ops J i = true) (hj : (ops[j]?).bind (·.dst) = some gd) (hv : look st gd = some (.bool p)) (hx : Yv E n ds st M P ⟨some d, op, ty, pos, af, some (j, p)⟩ v) (hab : ∀ (a : Act) w, (⟨some d, op, ty, pos, af, some (j, p)⟩ : Oper).about P w a.eval = none)
    (hM : ∀ k, sep L k → sep M k) (K : Hd E n ds ((d, v) :: st) L (ZW r P ops Q (Sat E M) J f (listed.setIfInBounds i true))) (hd : d < n := by decide) :
    Hd E n ds st L (ZW r P ops Q (Sat E M) J (f + 1) listed) := fun a w fr s => by
  refine wpAnyHz_first hi (Region.noSelect_spec hs) (jOk_spec hJ) (jOk_nd hJ) f listed a w (Region.free_spec hi hf) (by simpa using hr) ?_ (s.mp hM) (K _ w (fr.put hd v) s)
  exact ⟨.inl ⟨by simp [Region.wanted, yielded_of hj fr hv], fun w sw => hx a w fr sw⟩, fun w => hab a w⟩
theorem Hd.takenH (i : Nat) {op : Op} {j gd : Nat} {f : Nat} {listed : Array Bool} (hi : ops[i]? = some ⟨some d, op, ty, pos, af, some (j, p)⟩) (hs : Region.noSelect ops = true) (hf : Region.free .any ops listed i = true)
    (hr : (Region.ready .any ops listed).contains i = true) (hJ : jOk .any ops J i = true) (hj : (ops[j]?).bind (·.dst) = some gd) (hv : look st gd = some v) (hb : isb v p = false) (hab : ∀ (a : Act) w, (⟨some d, op, ty, pos, af, some (j, p)⟩ : Oper).about P w a.eval = none)
    (hM : ∀ k, sep L k → sep M k) (K : Hd E n ds ((d, undef) :: st) L (ZW r P ops Q (Sat E M) J f (listed.setIfInBounds i true))) (hd : d < n := by decide) :
    Hd E n ds st L (ZW r P ops Q (Sat E M) J (f + 1) listed) := fun a w fr s => by
  refine wpAnyHz_first hi (Region.noSelect_spec hs) (jOk_spec hJ) (jOk_nd hJ) f listed a w (Region.free_spec hi hf) (by simpa using hr) ?_ (s.mp hM) (K _ w (fr.put hd undef) s)
  refine ⟨.inr ⟨?_, rfl⟩, fun w => hab a w⟩
  simp only [Region.wanted, yielded_of hj fr hv]
  cases v <;> simp_all [isb]
theorem wpOpIn_of_list {i : Nat} {o : Oper} {K : Act → World → Prop} {a : Act} {w : World} (hi : ops[i]? = some o) (h2 : wpListIn (FW r) 0 P ops (Exit.then K (noP Q)) [o] a w) : wpOpIn (FW r) 0 P ops (noP Q) i K a w := by
  unfold wpOpIn
  simp only [hi]
  unfold wpListIn at h2
  by_cases hw : Region.wanted o (yielded ops a.tmps) = true
  · rw [if_pos hw] at h2 ⊢
    refine ⟨h2.1, ?_⟩
    have h3 := h2.2
    unfold Oper.uponIn at h3 ⊢
    split at h3
    · exact h3
    · exact h3
    · exact h3
    · obtain ⟨hn, hc⟩ := h3
      refine ⟨hn, hc.mono fun e w' he => ?_⟩
      cases e with
      | returned v => exact he
      | panicked ch => exact he.elim
      | outgrown => exact he
    · exact h3
    · obtain ⟨hn, hc⟩ := h3
      refine ⟨hn, RoundIn.mono hc fun e w' he => ?_⟩
      cases e with
      | returned v => exact he
      | panicked ch => exact he.elim
      | outgrown => exact he
    · exact h3.elim
    · exact h3.elim
  · rw [if_neg hw] at h2 ⊢
    exact h2
theorem Hd.onlyH (i : Nat) {o : Oper} {f : Nat} {listed : Array Bool} (hi : ops[i]? = some o) (hr : Region.ready .any ops listed = [i])
    (h : Hd E n ds st L (LW r P ops (Exit.then (fun a w => (J i = true → Sat E M w) ∧ ZW r P ops Q (Sat E M) J f (listed.setIfInBounds i true) a w) (noP Q)) [o])) : Hd E n ds st L (ZW r P ops Q (Sat E M) J (f + 1) listed) := fun a w fr s => by
  have h1 := h a w fr s
  refine ⟨fun h0 => (by rw [hr] at h0; cases h0), fun j hj => ?_⟩
  rw [hr] at hj
  obtain rfl : j = i := by simpa using hj
  exact wpOpIn_of_list hi h1
theorem Hd.eitherH (i j : Nat) {o o' : Oper} {f : Nat} {listed : Array Bool} (hi : ops[i]? = some o) (hj : ops[j]? = some o') (hr : Region.ready .any ops listed = [i, j])
    (h : Hd E n ds st L (LW r P ops (Exit.then (fun a w => (J i = true → Sat E M w) ∧ ZW r P ops Q (Sat E M) J f (listed.setIfInBounds i true) a w) (noP Q)) [o]))
    (h' : Hd E n ds st L (LW r P ops (Exit.then (fun a w => (J j = true → Sat E M w) ∧ ZW r P ops Q (Sat E M) J f (listed.setIfInBounds j true) a w) (noP Q)) [o'])) : Hd E n ds st L (ZW r P ops Q (Sat E M) J (f + 1) listed) := fun a w fr s => by
  refine ⟨fun h0 => (by rw [hr] at h0; cases h0), fun q hq => ?_⟩
  rw [hr] at hq
  simp only [List.mem_cons, List.not_mem_nil, or_false] at hq
  rcases hq with rfl | rfl
  · exact wpOpIn_of_list hi (h a w fr s)
  · exact wpOpIn_of_list hj (h' a w fr s)
theorem Hd.heldK {i f : Nat} {listed : Array Bool} (hM : ∀ k, sep L k → sep M k) (K : Hd E n ds st L (ZW r P ops Q (Sat E M) J f listed)) : Hd E n ds st L (fun a w => (J i = true → Sat E M w) ∧ ZW r P ops Q (Sat E M) J f listed a w) :=
  fun a w fr s => ⟨fun _ => s.mp hM, K a w fr s⟩
theorem Hd.heldN {i f : Nat} {listed : Array Bool} (hJ : J i = false) (K : Hd E n ds st L (ZW r P ops Q (Sat E M) J f listed)) : Hd E n ds st L (fun a w => (J i = true → Sat E M w) ∧ ZW r P ops Q (Sat E M) J f listed a w) :=
  fun a w fr s => ⟨fun h => (by rw [hJ] at h; cases h), K a w fr s⟩
theorem Hd.endH {f : Nat} {listed : Array Bool} (hr : Region.ready .any ops listed = []) (h : Hd E n ds st L (Q .normal)) : Hd E n ds st L (ZW r P ops Q (Sat E M) J f listed) := fun a w fr s => by
  cases f with
  | zero => exact ⟨hr, h a w fr s⟩
  | succ f => exact ⟨fun _ => h a w fr s, fun i hi => (by rw [hr] at hi; cases hi)⟩
end
end Go.RX
namespace Go.RX
set_option linter.unusedSimpArgs false
set_option linter.unusedVariables false
set_option linter.unnecessarySimpa false
open Go.MapKept
section
variable {E : World} {n : Nat} {ds : List Deferred} {st st' : List (Nat × Value)} {L L' : List SP} {r : Option Nat} {P : Program} {Q : Exit → Act → World → Prop} {ops : Array Oper} {rest : List Oper}
variable {d : Nat} {ty t t2 : TypeId} {pos : String} {af : Array Edge} {g : Option (Nat × Bool)} {x y z : Operand} {v u : Value} {k : IntKind} {p q : Bool}
abbrev KV := Int × Value × Nat
def ent (k : IntKind) (e : KV) : MapEntry := ⟨.int k e.1, e.2.1, e.2.2⟩
def getKV (l : List KV) (a : Int) : Option Value := (l.find? fun e => e.1 == a).map (·.2.1)
structure mp (b : Nat) (k : IntKind) (f : Int → Option Value) (m : Nat) (h : PH) : Prop where
  at_ : ∃ (l : List KV) (clock : Nat), h (b, none) = some (.obj (.map (l.map (ent k)).toArray clock)) ∧ (l.map (·.1)).Nodup ∧ l.length = m ∧ ∀ a, f a = getKV l a
structure MapT (P : Program) (t : TypeId) (k : IntKind) (zs : Value) : Prop where
  ex : ∃ kt vt i, P.underlying t = some (.map kt vt) ∧ P.underlying kt = some (.int k) ∧ P.info? vt = some i ∧ i.zero = some zs
def mapz (P : Program) (t : TypeId) : Option (IntKind × Value) :=
  match P.underlying t with
  | some (.map kt vt) => (match P.underlying kt with
    | some (.int k) => ((P.info? vt).bind (·.zero)).map fun z => (k, z)
    | _ => none)
  | _ => none
theorem MapT.of {zs : Value} (h : mapz P t = some (k, zs)) : MapT P t k zs := by
  unfold mapz at h
  split at h
  · rename_i kt vt hu
    split at h
    · rename_i k' hk
      cases hi : P.info? vt with
      | none => simp [hi] at h
      | some i =>
        cases hz : i.zero with
        | none => simp [hi, hz] at h
        | some z =>
          simp [hi, hz] at h
          obtain ⟨rfl, rfl⟩ := h
          exact ⟨kt, vt, i, hu, hk, hi, hz⟩
    · cases h
  · cases h
end
end Go.RX
namespace Go.Proofs.YtmpemhbfgbochaaDoor
set_option linter.unusedSimpArgs false
set_option linter.unusedVariables false
set_option linter.unnecessarySimpa false
open Go.RX
namespace Fx
theorem ag2 : agk Tryd.prog 2 = some false := by kernel_rfl
theorem sz2 : szk Tryd.prog 2 = some 1 := by kernel_rfl
theorem zr2 : zrk Tryd.prog 2 = some ([.int .i64 0]) := by kernel_rfl
theorem ag3 : agk Tryd.prog 3 = some false := by kernel_rfl
theorem sz3 : szk Tryd.prog 3 = some 1 := by kernel_rfl
theorem zr3 : zrk Tryd.prog 3 = some ([.int .i64 0]) := by kernel_rfl
theorem ty3 : tyr Tryd.prog 3 = some (1, 8, 1) := by kernel_rfl
theorem ag4 : agk Tryd.prog 4 = some false := by kernel_rfl
theorem sz4 : szk Tryd.prog 4 = some 1 := by kernel_rfl
theorem sz5 : szk Tryd.prog 5 = some 1 := by kernel_rfl
theorem zr5 : zrk Tryd.prog 5 = some ([.int .u8 0]) := by kernel_rfl
theorem ty5 : tyr Tryd.prog 5 = some (1, 1, 1) := by kernel_rfl
theorem ag22 : agk Tryd.prog 22 = some false := by kernel_rfl
theorem sz22 : szk Tryd.prog 22 = some 1 := by kernel_rfl
theorem zr22 : zrk Tryd.prog 22 = some ([.int .u64 0]) := by kernel_rfl
theorem ty22 : tyr Tryd.prog 22 = some (1, 8, 1) := by kernel_rfl
theorem ag24 : agk Tryd.prog 24 = some true := by kernel_rfl
theorem sz24 : szk Tryd.prog 24 = some 3 := by kernel_rfl
theorem zr24 : zrk Tryd.prog 24 = some ([.int .i64 0, .int .u64 0, .int .i64 0]) := by kernel_rfl
theorem ag25 : agk Tryd.prog 25 = some false := by kernel_rfl
theorem sz25 : szk Tryd.prog 25 = some 1 := by kernel_rfl
theorem ag27 : agk Tryd.prog 27 = some false := by kernel_rfl
theorem sz27 : szk Tryd.prog 27 = some 1 := by kernel_rfl
theorem ag28 : agk Tryd.prog 28 = some false := by kernel_rfl
theorem sz28 : szk Tryd.prog 28 = some 1 := by kernel_rfl
theorem ty28 : tyr Tryd.prog 28 = some (1, 8, 1) := by kernel_rfl
theorem ag31 : agk Tryd.prog 31 = some false := by kernel_rfl
theorem sz31 : szk Tryd.prog 31 = some 1 := by kernel_rfl
theorem ag35 : agk Tryd.prog 35 = some false := by kernel_rfl
theorem sz35 : szk Tryd.prog 35 = some 1 := by kernel_rfl
theorem zr35 : zrk Tryd.prog 35 = some ([.slice none 0 0]) := by kernel_rfl
theorem ty35 : tyr Tryd.prog 35 = some (1, 24, 1) := by kernel_rfl
theorem ag37 : agk Tryd.prog 37 = some true := by kernel_rfl
theorem sz37 : szk Tryd.prog 37 = some 6 := by kernel_rfl
theorem zr37 : zrk Tryd.prog 37 = some ([.bool false, .bool false, .int .i64 0, .int .i64 0, .int .i64 0, .int .i64 0]) := by kernel_rfl
theorem ag39 : agk Tryd.prog 39 = some false := by kernel_rfl
theorem sz39 : szk Tryd.prog 39 = some 1 := by kernel_rfl
theorem ag47 : agk Tryd.prog 47 = some false := by kernel_rfl
theorem sz47 : szk Tryd.prog 47 = some 1 := by kernel_rfl
theorem ag67 : agk Tryd.prog 67 = some true := by kernel_rfl
theorem sz67 : szk Tryd.prog 67 = some 2 := by kernel_rfl
theorem zr67 : zrk Tryd.prog 67 = some ([.int .i64 0, .int .i64 0]) := by kernel_rfl
theorem ty67 : tyr Tryd.prog 67 = some (2, 16, 2) := by kernel_rfl
theorem ag72 : agk Tryd.prog 72 = some true := by kernel_rfl
theorem sz72 : szk Tryd.prog 72 = some 6 := by kernel_rfl
theorem zr72 : zrk Tryd.prog 72 = some ([.int .i64 0, .int .u64 0, .int .i64 0, .int .i64 0, .int .u64 0, .int .i64 0]) := by kernel_rfl
theorem ag76 : agk Tryd.prog 76 = some false := by kernel_rfl
theorem sz76 : szk Tryd.prog 76 = some 1 := by kernel_rfl
theorem sz77 : szk Tryd.prog 77 = some 2 := by kernel_rfl
theorem sz79 : szk Tryd.prog 79 = some 4 := by kernel_rfl
theorem ag81 : agk Tryd.prog 81 = some true := by kernel_rfl
theorem sz81 : szk Tryd.prog 81 = some 3 := by kernel_rfl
theorem zr81 : zrk Tryd.prog 81 = some ([.bool false, .int .i64 0, .int .i64 0]) := by kernel_rfl
theorem ag82 : agk Tryd.prog 82 = some false := by kernel_rfl
theorem sz82 : szk Tryd.prog 82 = some 1 := by kernel_rfl
theorem ty82 : tyr Tryd.prog 82 = some (1, 8, 1) := by kernel_rfl
theorem ag85 : agk Tryd.prog 85 = some false := by kernel_rfl
theorem sz85 : szk Tryd.prog 85 = some 1 := by kernel_rfl
theorem ag87 : agk Tryd.prog 87 = some true := by kernel_rfl
theorem sz87 : szk Tryd.prog 87 = some 7 := by kernel_rfl
theorem zr87 : zrk Tryd.prog 87 = some ([.int .i64 0, .int .i64 0, .pointer none, .bool false, .bool false, .int .u64 0, .int .u64 0]) := by kernel_rfl
theorem sz88 : szk Tryd.prog 88 = some 14 := by kernel_rfl
theorem ag89 : agk Tryd.prog 89 = some false := by kernel_rfl
theorem sz89 : szk Tryd.prog 89 = some 1 := by kernel_rfl
theorem zr89 : zrk Tryd.prog 89 = some ([.slice none 0 0]) := by kernel_rfl
theorem ag97 : agk Tryd.prog 97 = some false := by kernel_rfl
theorem sz97 : szk Tryd.prog 97 = some 1 := by kernel_rfl
theorem sz99 : szk Tryd.prog 99 = some 2 := by kernel_rfl
theorem sz101 : szk Tryd.prog 101 = some 8 := by kernel_rfl
theorem sz102 : szk Tryd.prog 102 = some 16 := by kernel_rfl
theorem sz104 : szk Tryd.prog 104 = some 18 := by kernel_rfl
theorem ag107 : agk Tryd.prog 107 = some true := by kernel_rfl
theorem sz107 : szk Tryd.prog 107 = some 2 := by kernel_rfl
theorem sz110 : szk Tryd.prog 110 = some 4 := by kernel_rfl
theorem ag112 : agk Tryd.prog 112 = some false := by kernel_rfl
theorem sz112 : szk Tryd.prog 112 = some 1 := by kernel_rfl
theorem ag114 : agk Tryd.prog 114 = some true := by kernel_rfl
theorem sz114 : szk Tryd.prog 114 = some 288 := by kernel_rfl
theorem ag115 : agk Tryd.prog 115 = some false := by kernel_rfl
theorem sz115 : szk Tryd.prog 115 = some 1 := by kernel_rfl
theorem sz117 : szk Tryd.prog 117 = some 294 := by kernel_rfl
theorem ag122 : agk Tryd.prog 122 = some true := by kernel_rfl
theorem sz122 : szk Tryd.prog 122 = some 7 := by kernel_rfl
theorem zr122 : zrk Tryd.prog 122 = some ([.bool false, .bool false, .bool false, .bool false, .bool false, .int .u64 0, .int .u64 0]) := by kernel_rfl
theorem sz142 : szk Tryd.prog 142 = some 5 := by kernel_rfl
theorem ag143 : agk Tryd.prog 143 = some false := by kernel_rfl
theorem sz151 : szk Tryd.prog 151 = some 64 := by kernel_rfl
theorem sz169 : szk Tryd.prog 169 = some 6 := by kernel_rfl
theorem eqt24 : EqT Tryd.prog 24 [.int .i64, .int .u64, .int .i64] 3 := ⟨by kernel_rfl, by kernel_rfl, by kernel_rfl, by kernel_rfl, by kernel_rfl⟩
theorem eqt37 : EqT Tryd.prog 37 [.bool, .bool, .int .i64, .int .i64, .int .i64, .int .i64] 6 := ⟨by kernel_rfl, by kernel_rfl, by kernel_rfl, by kernel_rfl, by kernel_rfl⟩
theorem fk7 : fnk Tryd.prog 7 = true := by kernel_rfl
theorem fk8 : fnk Tryd.prog 8 = true := by kernel_rfl
theorem fk9 : fnk Tryd.prog 9 = true := by kernel_rfl
theorem fk10 : fnk Tryd.prog 10 = true := by kernel_rfl
theorem fk11 : fnk Tryd.prog 11 = true := by kernel_rfl
theorem fk12 : fnk Tryd.prog 12 = true := by kernel_rfl
theorem fk13 : fnk Tryd.prog 13 = true := by kernel_rfl
theorem fk14 : fnk Tryd.prog 14 = true := by kernel_rfl
theorem fk15 : fnk Tryd.prog 15 = true := by kernel_rfl
theorem fk16 : fnk Tryd.prog 16 = true := by kernel_rfl
theorem fk17 : fnk Tryd.prog 17 = true := by kernel_rfl
theorem fk19 : fnk Tryd.prog 19 = true := by kernel_rfl
theorem fk22 : fnk Tryd.prog 22 = true := by kernel_rfl
theorem fk23 : fnk Tryd.prog 23 = true := by kernel_rfl
theorem fk24 : fnk Tryd.prog 24 = true := by kernel_rfl
theorem fk25 : fnk Tryd.prog 25 = true := by kernel_rfl
theorem fk26 : fnk Tryd.prog 26 = true := by kernel_rfl
theorem fk28 : fnk Tryd.prog 28 = true := by kernel_rfl
theorem fk29 : fnk Tryd.prog 29 = true := by kernel_rfl
theorem fk30 : fnk Tryd.prog 30 = true := by kernel_rfl
theorem fk31 : fnk Tryd.prog 31 = true := by kernel_rfl
theorem fk32 : fnk Tryd.prog 32 = true := by kernel_rfl
theorem fk33 : fnk Tryd.prog 33 = true := by kernel_rfl
theorem fk34 : fnk Tryd.prog 34 = true := by kernel_rfl
theorem fk35 : fnk Tryd.prog 35 = true := by kernel_rfl
theorem fk36 : fnk Tryd.prog 36 = true := by kernel_rfl
theorem fk37 : fnk Tryd.prog 37 = true := by kernel_rfl
theorem fk38 : fnk Tryd.prog 38 = true := by kernel_rfl
theorem fk39 : fnk Tryd.prog 39 = true := by kernel_rfl
theorem fk40 : fnk Tryd.prog 40 = true := by kernel_rfl
theorem fk41 : fnk Tryd.prog 41 = true := by kernel_rfl
theorem fk42 : fnk Tryd.prog 42 = true := by kernel_rfl
theorem fk43 : fnk Tryd.prog 43 = true := by kernel_rfl
theorem fk44 : fnk Tryd.prog 44 = true := by kernel_rfl
theorem fk45 : fnk Tryd.prog 45 = true := by kernel_rfl
theorem fk46 : fnk Tryd.prog 46 = true := by kernel_rfl
theorem fk47 : fnk Tryd.prog 47 = true := by kernel_rfl
theorem fk48 : fnk Tryd.prog 48 = true := by kernel_rfl
theorem fk49 : fnk Tryd.prog 49 = true := by kernel_rfl
theorem fk50 : fnk Tryd.prog 50 = true := by kernel_rfl
theorem fk51 : fnk Tryd.prog 51 = true := by kernel_rfl
theorem fk52 : fnk Tryd.prog 52 = true := by kernel_rfl
theorem fk53 : fnk Tryd.prog 53 = true := by kernel_rfl
theorem fk54 : fnk Tryd.prog 54 = true := by kernel_rfl
theorem fk55 : fnk Tryd.prog 55 = true := by kernel_rfl
theorem fk56 : fnk Tryd.prog 56 = true := by kernel_rfl
theorem fk57 : fnk Tryd.prog 57 = true := by kernel_rfl
theorem fk58 : fnk Tryd.prog 58 = true := by kernel_rfl
theorem fk59 : fnk Tryd.prog 59 = true := by kernel_rfl
theorem fk60 : fnk Tryd.prog 60 = true := by kernel_rfl
theorem fk61 : fnk Tryd.prog 61 = true := by kernel_rfl
theorem fk62 : fnk Tryd.prog 62 = true := by kernel_rfl
theorem fk64 : fnk Tryd.prog 64 = true := by kernel_rfl
theorem fk65 : fnk Tryd.prog 65 = true := by kernel_rfl
theorem fk66 : fnk Tryd.prog 66 = true := by kernel_rfl
theorem fk67 : fnk Tryd.prog 67 = true := by kernel_rfl
theorem fk69 : fnk Tryd.prog 69 = true := by kernel_rfl
theorem fk70 : fnk Tryd.prog 70 = true := by kernel_rfl
theorem fk71 : fnk Tryd.prog 71 = true := by kernel_rfl
theorem fk72 : fnk Tryd.prog 72 = true := by kernel_rfl
theorem fk73 : fnk Tryd.prog 73 = true := by kernel_rfl
theorem fk74 : fnk Tryd.prog 74 = true := by kernel_rfl
theorem fk75 : fnk Tryd.prog 75 = true := by kernel_rfl
theorem fk76 : fnk Tryd.prog 76 = true := by kernel_rfl
theorem fk78 : fnk Tryd.prog 78 = true := by kernel_rfl
theorem fk79 : fnk Tryd.prog 79 = true := by kernel_rfl
theorem fk80 : fnk Tryd.prog 80 = true := by kernel_rfl
theorem fk81 : fnk Tryd.prog 81 = true := by kernel_rfl
theorem fk82 : fnk Tryd.prog 82 = true := by kernel_rfl
theorem fk83 : fnk Tryd.prog 83 = true := by kernel_rfl
theorem fk84 : fnk Tryd.prog 84 = true := by kernel_rfl
theorem fk85 : fnk Tryd.prog 85 = true := by kernel_rfl
theorem fk86 : fnk Tryd.prog 86 = true := by kernel_rfl
theorem fk87 : fnk Tryd.prog 87 = true := by kernel_rfl
theorem fk88 : fnk Tryd.prog 88 = true := by kernel_rfl
theorem fk89 : fnk Tryd.prog 89 = true := by kernel_rfl
theorem fk91 : fnk Tryd.prog 91 = true := by kernel_rfl
theorem fk92 : fnk Tryd.prog 92 = true := by kernel_rfl
theorem fk95 : fnk Tryd.prog 95 = true := by kernel_rfl
theorem fk97 : fnk Tryd.prog 97 = true := by kernel_rfl
theorem mixed : Tryd.prog.follows .mixedOrders = true := by kernel_rfl
theorem bd5_42  : Tryd.prog.built 24 [] = some #[.int .i64 0, .int .u64 0, .int .i64 0] := by kernel_rfl
theorem bd5_75  : Tryd.prog.built 24 [] = some #[.int .i64 0, .int .u64 0, .int .i64 0] := by kernel_rfl
theorem bs5_101 (x1 : Option Addr) : bltS Tryd.prog 59 1 [(0, .pointer x1)] = some (28, [.pointer x1]) := by kernel_rfl
theorem bs5_144 (x2 : Int) : bltS Tryd.prog 65 1 [(0, .int .u64 x2)] = some (22, [.int .u64 x2]) := by kernel_rfl
theorem bs5_148 (x3 : Int) (x4 : Int) : bltS Tryd.prog 66 1 [(0, .agg #[.int .i64 x3, .int .i64 x4])] = some (67, [.int .i64 x3, .int .i64 x4]) := by kernel_rfl
theorem bd7_18  : Tryd.prog.built 24 [(0, .int .i64 10), (1, .int .u64 5), (2, .int .i64 20)] = some #[.int .i64 10, .int .u64 5, .int .i64 20] := by kernel_rfl
theorem bd7_19  : Tryd.prog.built 24 [] = some #[.int .i64 0, .int .u64 0, .int .i64 0] := by kernel_rfl
theorem bd7_43  : Tryd.prog.built 37 [(0, .bool true), (4, .int .i64 20)] = some #[.bool true, .bool false, .int .i64 0, .int .i64 0, .int .i64 20, .int .i64 0] := by kernel_rfl
theorem bd7_56  : Tryd.prog.built 37 [] = some #[.bool false, .bool false, .int .i64 0, .int .i64 0, .int .i64 0, .int .i64 0] := by kernel_rfl
theorem bd7_61  : Tryd.prog.built 37 [(0, .bool true), (4, .int .i64 10)] = some #[.bool true, .bool false, .int .i64 0, .int .i64 0, .int .i64 10, .int .i64 0] := by kernel_rfl
theorem bd9_12 (x1 : Int) (x2 : Int) (x3 : Int) (x4 : Int) (x5 : Int) (x6 : Int) : Tryd.prog.built 72 [(0, .agg #[.int .i64 x1, .int .u64 x2, .int .i64 x3]), (1, .agg #[.int .i64 x4, .int .u64 x5, .int .i64 x6])] = some #[.int .i64 x1, .int .u64 x2, .int .i64 x3, .int .i64 x4, .int .u64 x5, .int .i64 x6] := by kernel_rfl
theorem bd17_12 (x1 : Int) (x2 : Int) (x3 : Int) (x4 : Int) (x5 : Int) (x6 : Int) : Tryd.prog.built 72 [(0, .agg #[.int .i64 x1, .int .u64 x2, .int .i64 x3]), (1, .agg #[.int .i64 x4, .int .u64 x5, .int .i64 x6])] = some #[.int .i64 x1, .int .u64 x2, .int .i64 x3, .int .i64 x4, .int .u64 x5, .int .i64 x6] := by kernel_rfl
theorem bd17_16  : Tryd.prog.built 110 [(2, .bool true)] = some #[.pointer none, .pointer none, .int .i64 0, .bool true] := by kernel_rfl
theorem bd22_7 (x1 : Option Addr) : Tryd.prog.built 79 [(0, .pointer x1)] = some #[.pointer x1, .pointer none, .pointer none, .pointer none] := by kernel_rfl
theorem bd25_18 (x1 : Option Addr) (x2 : Int) : Tryd.prog.built 104 [(0, .pointer x1), (1, .int .i64 x2)] = some #[.pointer x1, .int .i64 x2, .slice none 0 0, .int .i64 0, .bool false, .bool false, .int .i64 0, .int .i64 0, .int .u64 0, .int .u64 0, .slice none 0 0, .int .i64 0, .bool false, .bool false, .int .i64 0, .int .i64 0, .int .u64 0, .int .u64 0] := by kernel_rfl
theorem bd31_10  : Tryd.prog.built 24 [] = some #[.int .i64 0, .int .u64 0, .int .i64 0] := by kernel_rfl
theorem bd32_25  : Tryd.prog.built 24 [] = some #[.int .i64 0, .int .u64 0, .int .i64 0] := by kernel_rfl
theorem bd46_5  : Tryd.prog.built 91 [] = some #[.int .i64 0, .int .i64 0, .pointer none, .bool false, .bool false, .int .u64 0, .int .u64 0, .int .i64 0, .int .i64 0, .pointer none, .bool false, .bool false, .int .u64 0, .int .u64 0, .bool false, .int .i64 0, .slice none 0 0] := by kernel_rfl
theorem bd47_20  : Tryd.prog.built 122 [] = some #[.bool false, .bool false, .bool false, .bool false, .bool false, .int .u64 0, .int .u64 0] := by kernel_rfl
theorem bd47_40 (x1 : Int) (x2 : Int) : Tryd.prog.built 122 [(0, .bool true), (5, .int .u64 x1), (6, .int .u64 x2)] = some #[.bool true, .bool false, .bool false, .bool false, .bool false, .int .u64 x1, .int .u64 x2] := by kernel_rfl
theorem bs51_73 (x1 : Option Addr) (x2 : Nat) (x3 : Nat) : bltS Tryd.prog 97 1 [(0, .slice x1 x2 x3)] = some (35, [.slice x1 x2 x3]) := by kernel_rfl
theorem bd59_16 (x1 : Int) (x2 : Int) (x3 : Int) (x4 : Int) (x5 : Int) : Tryd.prog.built 142 [(0, .agg #[.int .i64 x1, .int .u64 x2, .int .i64 x3]), (1, .int .i64 x4), (2, .int .u64 x5)] = some #[.int .i64 x1, .int .u64 x2, .int .i64 x3, .int .i64 x4, .int .u64 x5] := by kernel_rfl
theorem bs65_33 (x1 : Option Addr) (x2 : Nat) (x3 : Nat) : bltS Tryd.prog 97 1 [(0, .slice x1 x2 x3)] = some (35, [.slice x1 x2 x3]) := by kernel_rfl
theorem bs71_17 (x1 : Int) : bltS Tryd.prog 89 1 [(0, .int .i64 x1)] = some (3, [.int .i64 x1]) := by kernel_rfl
theorem bd72_36 (x1 : Int) (x2 : Int) : Tryd.prog.built 81 [(0, .bool true), (1, .int .i64 x1), (2, .int .i64 x2)] = some #[.bool true, .int .i64 x1, .int .i64 x2] := by kernel_rfl
theorem bs72_47 (x3 : Option Addr) : bltS Tryd.prog 115 1 [(0, .pointer x3)] = some (82, [.pointer x3]) := by kernel_rfl
theorem bd73_12 (x1 : Option Addr) (x2 : Nat) (x3 : Nat) : Tryd.prog.built 169 [(0, .slice x1 x2 x3), (5, .bool true)] = some #[.slice x1 x2 x3, .int .i64 0, .int .i64 0, .int .u64 0, .int .u64 0, .bool true] := by kernel_rfl
theorem bs80_5  : bltS Tryd.prog 35 0 [] = some (5, []) := by kernel_rfl
theorem bs87_5  : bltS Tryd.prog 97 0 [] = some (35, []) := by kernel_rfl
end Fx
end Go.Proofs.YtmpemhbfgbochaaDoor
namespace Go.RX
set_option linter.unusedSimpArgs false
set_option linter.unusedVariables false
set_option linter.unnecessarySimpa false
section
variable {P : Program} {E : World} {n : Nat} {ds : List Deferred} {st : List (Nat × Value)} {L L' : List SP} {K : Act → World → Prop}
def segK (b o k : Nat) (cs : List Value) : SP := seg b (o + k) cs
theorem segK_eq {b o k : Nat} {cs cs' : List Value} (h : cs = cs') : segK b o k cs = segK b o k cs' := by rw [h]
theorem Pick.unK {b o k : Nat} {cs : List Value} (p : Pick L (segK b o k cs) L') : Pick L (seg b (o + k) cs) L' := p
theorem Rd.segK1 {b o k m : Nat} {cs : List Value} {v : Value} (p : Pick L (RX.segK b o k cs) L') (hm : k ≤ m) (h : cs[m - k]? = some v) : Rd L b (o + m) [v] := by
  have := Rd.seg1 (m := m - k) p.unK h
  rwa [Nat.add_assoc, Nat.add_sub_cancel' hm] at this
end
section
variable {E : World} {n : Nat} {ds : List Deferred} {st : List (Nat × Value)} {L L' : List SP} {r : Option Nat} {P : Program} {Q : Exit → Act → World → Prop} {ops : Array Oper} {rest : List Oper}
variable {ty t : TypeId} {pos : String} {af : Array Edge} {x y : Operand} {v : Value}
theorem Hd.storeK1 {b o k q : Nat} {cs : List Value} (hz : szk P t = some 1) (hx : evo st x = some (.pointer (some ⟨b, o + q, none⟩))) (hy : evo st y = some v)
    (h1 : v.oneCell' = true) (hp : Pick L (segK b o k cs) L') (hk : k ≤ q) (hl : q - k < cs.length)
    (K : Hd E n ds st (segK b o k (cs.set (q - k) v) :: L') (LW r P ops Q rest)) : Hd E n ds st L (LW r P ops Q (⟨none, .store t x y, ty, pos, af, none⟩ :: rest)) :=
  Hd.storeG1 (o := o + k) (q := q - k) hz (by rw [Nat.add_assoc, Nat.add_sub_cancel' hk]; exact hx) hy h1 hp.unK hl K
end
section
variable {P : Program} {E : World} {n : Nat} {ds : List Deferred} {st : List (Nat × Value)} {L L' : List SP}
theorem results_cell {fn : Func} {ta : Nat} {t : TypeId} {b o : Nat} {us : List Value} {tmps : Array Value} {w : World} (hr : fn.results = #[.cell ta t]) (ha : agk P t = some true) (hx : tmps.getD ta undef = .pointer (some ⟨b, o, none⟩))
    (hR : Rd L b o us) (hz : szk P t = some us.length) (s : Sat E L w) : (results fn tmps).run P w = .ok (.agg us.toArray) w := by
  have hc : (loadCells ⟨b, o, none⟩ us.length).run P w = .ok us.toArray w := run_loadCells_list w _ us fun j v e => by
    have := hR.cell s e
    unfold Addr.add
    split
    · rename_i h0; subst h0; simpa using this
    · exact this
  have hv : (loadVar t ⟨b, o, none⟩).run P w = .ok (.agg us.toArray) w := by
    simp only [loadVar, Sem.run_bind, run_isAgg ha, Result.andThen, if_true, run_sizeOf' hz, hc]
    rfl
  have hx2 : tmps[ta]?.getD undef = .pointer (some ⟨b, o, none⟩) := by simpa using hx
  simp [results, hr, hx2, asAddr, hv]
theorem Hd.retC {fn : Func} {ta : Nat} {t : TypeId} {b o : Nat} {us : List Value} {ι : Type} {val : ι → Value} {post : ι → List SP} (hr : fn.results = #[.cell ta t]) (i : ι) (ha : agk P t = some true) (hx : look st ta = some (.pointer (some ⟨b, o, none⟩)))
    (hR : Rd L b o us) (hz : szk P t = some us.length) (hv : val i = .agg us.toArray) (hl : ∀ k, sep L k → sep (post i) k) :
    Hd E n [] st L ((bodyPost P fn fun e w' => ∃ i, e = .returned (val i) ∧ Sat E (post i) w') .ret) := fun a w f s =>
  bodyPost_ret (results_cell hr ha (by simp [f.at_ ta _ hx]) hR hz s) f.defs ⟨i, by rw [hv], s.mp hl⟩
theorem Lv.endC {fn : Func} {a : Act} {ta : Nat} {t : TypeId} {b o : Nat} {us : List Value} {ι : Type} {val : ι → Value} {post : ι → List SP} (f : Fr n ds st a) (hr : fn.results = #[.cell ta t]) (i : ι) (ha : agk P t = some true) (hx : look st ta = some (.pointer (some ⟨b, o, none⟩)))
    (hR : Rd L b o us) (hz : szk P t = some us.length) (hv : val i = .agg us.toArray) (hl : ∀ k, sep L k → sep (post i) k) : Lv E P fn a.tmps [] L val post := fun w s =>
  ⟨val i, by rw [results_cell hr ha (by simp [f.at_ ta _ hx]) hR hz s, hv], i, rfl, s.mp hl⟩
end
section
variable {E : World} {n : Nat} {ds : List Deferred} {st : List (Nat × Value)} {L L' L2 : List SP} {K : Act → World → Prop}
theorem Hd.ownCap {e sz m cap : Nat} {ad : Option Addr} {us : List Value} (p : Pick L (own e sz ad m cap us) L') (h : m ≤ cap → Hd E n ds st L K) : Hd E n ds st L K := fun a w f s => by
  refine h ?_ a w f s
  obtain ⟨h1, s1, x⟩ := sep.one p s.2.2.2
  exact (own_le x).1
end
theorem own_eq3 {e sz m cap m' cap' : Nat} {ad : Option Addr} {us us' : List Value} (h1 : m = m') (h2 : cap = cap') (h3 : us = us') : own e sz ad m cap us = own e sz ad m' cap' us' := by rw [h1, h2, h3]
end Go.RX
namespace Go.RX
set_option linter.unusedSimpArgs false
set_option linter.unusedVariables false
set_option linter.unnecessarySimpa false
section
variable {E : World} {n : Nat} {ds : List Deferred} {st st' : List (Nat × Value)} {L L' : List SP} {r : Option Nat} {P : Program} {Q : Exit → Act → World → Prop} {ops : Array Oper} {rest : List Oper}
variable {d : Nat} {ty t t2 : TypeId} {pos : String} {af : Array Edge} {x y : Operand} {v : Value} {k : IntKind}
theorem Hd.copyOwn {e bytes m cap q dl dc sl sc : Nat} {ad sad : Option Addr} {us vs : List Value} (ht : P.underlying t = some (.slice e)) (hi : tyr P e = some (1, bytes, 1))
    (hx : evo st x = some (.slice (cutA ad 1 q cap) dl dc)) (hy : evo st y = some (.slice sad sl sc)) (hp : Pick L (own e 1 ad m cap us) L') (hR : RdS L 1 sad sl vs) (hq : q + dl ≤ m) (h1 : ∀ u ∈ vs, u.oneCell' = true)
    (K : Hd E n ds ((d, .int .i64 ((min sl dl : Nat) : Int)) :: st) (own e 1 ad m cap (us.take q ++ vs.take (min sl dl) ++ us.drop (q + min sl dl)) :: L') (LW r P ops Q rest)) (hd : d < n := by decide) :
    Hd E n ds st L (LW r P ops Q (⟨some d, .call ⟨.builtin .copy, #[x, y], #[t, t2]⟩, ty, pos, af, none⟩ :: rest)) :=
  Hd.op rfl (by simp) fun a w f s => by
    obtain ⟨ti, zv, h1', h2', h3', h4', h5'⟩ := tyr_parts hi
    have hsz : (P.info? e).map (·.size) = some 1 := by rw [h1']; simp [h3']
    obtain ⟨hvl, hsrc⟩ := hR _ s.2.2.2
    have s' : Sat E (own e 1 ad m cap us :: L') w := s.mp fun _ k => hp.sep k
    obtain ⟨hos, htp, hou, k1, k2, dd, s1, s2, ⟨hul, hv⟩, hL⟩ := s'
    by_cases h0 : min sl dl = 0
    · refine ⟨.int .i64 0, w, ?_, ?_⟩
      · have hrun := run_copy_none (P := P) w t t2 ty e (cutA ad 1 q cap) sad dl dc sl sc ht hsz h0
        simp only [execOp, resolve, List.map_toArray, List.map_cons, List.map_nil, f.ev hx, f.ev hy, invoke, builtin, Sem.run_bind, Sem.run_pure, Result.andThen_ok, hrun]
        rfl
      · rw [h0] at K
        refine K _ _ (f.put hd _) ⟨hos, htp, hou, k1, k2, dd, s1, s2, ?_, hL⟩
        simpa using ⟨hul, hv⟩
    · have hds : dl ≠ 0 := fun h => h0 (by rw [h]; simp)
      have hsl : sl ≠ 0 := fun h => h0 (by rw [h]; simp)
      rcases hv with ⟨rfl, rfl⟩ | ⟨b, off, sp, rfl, hmc, hcm, hsp, hpt⟩
      · omega
      have hA : cutA (some ⟨b, off, none⟩) 1 q cap = some ⟨b, off + q, none⟩ := by
        unfold cutA; rw [if_neg (by omega)]; simp [add_flat]
      obtain ⟨sb, so, rfl, hsc⟩ : ∃ sb so, sad = some ⟨sb, so, none⟩ ∧ ∀ j v, vs[j]? = some v → w.cell? ⟨sb, so + j, none⟩ = some v := by
        rcases hsrc with h | ⟨sb, so, e, hc⟩
        · omega
        · exact ⟨sb, so, e, fun j v hj => by obtain ⟨_, hb⟩ := hc j v hj; exact cell_hp hb⟩
      have hnl : (vs.take (min sl dl)).length = min sl dl * 1 := by rw [List.length_take, hvl]; omega
      have hf := run_firstCells_some (P := P) w 1 (min sl dl) ⟨sb, so, none⟩ sl sc (vs.take (min sl dl)) hnl (fun j v hj => by
        rw [add_flat]
        refine hsc j v ?_
        have hj2 := (List.getElem?_eq_some_iff.1 hj).1
        rw [List.length_take] at hj2
        rwa [List.getElem?_take_of_lt (by omega)] at hj)
      have s0 : Sat E (seg b off (us ++ sp) :: L') w := ⟨hos, htp, hou, k1, k2, dd, s1, s2, hpt, hL⟩
      have hul' : us.length = m := by omega
      obtain ⟨w', hst, s''⟩ := Sat.storeSeg (P := P) (q := q) (vs := vs.take (min sl dl)) s0 (by rw [List.length_append, hnl]; omega) (by rw [List.length_append]; omega) (fun u hu => h1 u (List.mem_of_mem_take hu))
      refine ⟨.int .i64 ((min sl dl : Nat) : Int), w', ?_, K _ _ (f.put hd _) (s''.mp fun h hh => sep_head hh fun k x => ?_)⟩
      · have hun : (Builtin.copy_ #[t, t2] ty #[.slice (some ⟨b, off + q, none⟩) dl dc, .slice (some ⟨sb, so, none⟩) sl sc]).run P w = .ok (goInt (min sl dl : Nat)) w' := by
          have hm : Nat.min sl dl = min sl dl := rfl
          simp [Builtin.copy_, run_underlying ht, sizeOf, typeInfo, h1', Builtin.lenOf, h3', hm, hf, hst]
        rw [hA] at hx
        simp only [execOp, resolve, List.map_toArray, List.map_cons, List.map_nil, f.ev hx, f.ev hy, invoke, builtin, Sem.run_bind, Sem.run_pure, Result.andThen_ok, hun]
        rfl
      · rw [hnl, Nat.mul_one] at x
        have htot : (us.take q ++ vs.take (min sl dl) ++ us.drop (q + min sl dl)).length = m * 1 := by
          simp only [List.length_append, List.length_take, List.length_drop, hul', hvl]; omega
        refine ⟨htot, .inr ⟨b, off, sp, rfl, hmc, hcm, hsp, ?_⟩⟩
        rw [List.take_append_of_le_length (by omega), List.drop_append_of_le_length (by omega)] at x
        simpa only [List.append_assoc] using x
end
end Go.RX
namespace Go.RX
set_option linter.unusedSimpArgs false
set_option linter.unusedVariables false
set_option linter.unnecessarySimpa false
section
variable {P : Program} {E : World} {n : Nat} {ds : List Deferred} {st : List (Nat × Value)} {L : List SP} {ops : Array Oper} {C : World → Prop} {Kq : Act → Prop} {p : Bool}
theorem wpQuiet_append {l2 : List Oper} : ∀ {l1 : List Oper} {a : Act}, wpQuiet P ops C (fun a' => wpQuiet P ops C Kq l2 a') l1 a → wpQuiet P ops C Kq (l1 ++ l2) a
  | [], _, h => h
  | o :: r, a, h => by
    simp only [List.cons_append]
    unfold wpQuiet at h ⊢
    split
    · rename_i hw
      rw [if_pos hw] at h
      obtain ⟨v, h1, h2⟩ := h
      exact ⟨v, h1, wpQuiet_append h2⟩
    · rename_i hw
      rw [if_neg hw] at h
      exact wpQuiet_append h
theorem Hq.andg {l : List Oper} (m gd dd : Nat) (sk : List (Nat × Value)) {q : Bool} (hv : look st gd = some (.bool p)) (_hk : sub st sk)
    (hT : p = true → Hq n ds ((gd, .bool true) :: st) (QW P ops C (fun a => Fr n ds ((dd, .bool q) :: sk) a) (l.take m)))
    (hF : p = false → Hq n ds ((gd, .bool false) :: st) (QW P ops C (fun a => Fr n ds ((dd, .bool false) :: sk) a) (l.take m)))
    (K : Hq n ds ((dd, .bool (p && q)) :: sk) (QW P ops C Kq (l.drop m))) : Hq n ds st (QW P ops C Kq l) := fun a f => by
  have h : wpQuiet P ops C (fun a' => wpQuiet P ops C Kq (l.drop m) a') (l.take m) a := by
    have h1 : wpQuiet P ops C (fun a => Fr n ds ((dd, .bool (p && q)) :: sk) a) (l.take m) a :=
      (Hq.part hv (fun hp => by subst hp; exact hT rfl) (fun hp => by subst hp; exact hF rfl) : Hq n ds st (QW P ops C (fun a => Fr n ds ((dd, .bool (p && q)) :: sk) a) (l.take m))) a f
    exact wpQuiet_mono' h1 fun a f => K a f
  have := wpQuiet_append h
  rwa [List.take_append_drop] at this
where
  wpQuiet_mono' {K1 K2 : Act → Prop} : ∀ {l : List Oper} {a : Act}, wpQuiet P ops C K1 l a → (∀ a, K1 a → K2 a) → wpQuiet P ops C K2 l a
    | [], _, h, hk => hk _ h
    | o :: r, a, h, hk => by
      unfold wpQuiet at h ⊢
      split
      · rename_i hw
        rw [if_pos hw] at h
        obtain ⟨v, h1, h2⟩ := h
        exact ⟨v, h1, wpQuiet_mono' h2 hk⟩
      · rename_i hw
        rw [if_neg hw] at h
        exact wpQuiet_mono' h hk
theorem Hq.org {l : List Oper} (m gd dd : Nat) (sk : List (Nat × Value)) {q : Bool} (hv : look st gd = some (.bool p)) (_hk : sub st sk)
    (hT : p = true → Hq n ds ((gd, .bool true) :: st) (QW P ops C (fun a => Fr n ds ((dd, .bool true) :: sk) a) (l.take m)))
    (hF : p = false → Hq n ds ((gd, .bool false) :: st) (QW P ops C (fun a => Fr n ds ((dd, .bool q) :: sk) a) (l.take m)))
    (K : Hq n ds ((dd, .bool (p || q)) :: sk) (QW P ops C Kq (l.drop m))) : Hq n ds st (QW P ops C Kq l) := fun a f => by
  have h : wpQuiet P ops C (fun a' => wpQuiet P ops C Kq (l.drop m) a') (l.take m) a := by
    have h1 : wpQuiet P ops C (fun a => Fr n ds ((dd, .bool (p || q)) :: sk) a) (l.take m) a :=
      (Hq.part hv (fun hp => by subst hp; exact hT rfl) (fun hp => by subst hp; exact hF rfl) : Hq n ds st (QW P ops C (fun a => Fr n ds ((dd, .bool (p || q)) :: sk) a) (l.take m))) a f
    exact Hq.andg.wpQuiet_mono' h1 fun a f => K a f
  have := wpQuiet_append h
  rwa [List.take_append_drop] at this
theorem Hq.mend {st' : List (Nat × Value)} (hs : sub st st') : Hq n ds st (QW P ops C (fun a => Fr n ds st' a) []) := fun _ f => f.sub hs
end
end Go.RX
namespace Go.RX
set_option linter.unusedSimpArgs false
set_option linter.unusedVariables false
set_option linter.unnecessarySimpa false
section
variable {E : World} {n : Nat} {ds : List Deferred} {st st' : List (Nat × Value)} {L L' : List SP} {r : Option Nat} {P : Program} {Q : Exit → Act → World → Prop} {ops : Array Oper} {rest : List Oper}
variable {d : Nat} {ty t t2 : TypeId} {pos : String} {af : Array Edge} {g : Option (Nat × Bool)} {x y z : Operand} {v u : Value} {k : IntKind} {p q : Bool}
theorem sep_right {M N N' : List SP} {k : PH} (h : ∀ k, sep N k → sep N' k) (s : sep (M ++ N) k) : sep (M ++ N') k := by
  obtain ⟨h1, h2, d, s1, s2, x, y⟩ := sep_append s
  exact sep_join d s1 s2 x (h _ y)
end
end Go.RX
namespace Go.RX
set_option linter.unusedSimpArgs false
set_option linter.unusedVariables false
set_option linter.unnecessarySimpa false
section
variable {P : Program} {E : World} {n : Nat} {ds : List Deferred} {st : List (Nat × Value)} {L L' : List SP}
theorem results_ctt {fn : Func} {ta tb tc : Nat} {t : TypeId} {b o : Nat} {us : List Value} {tmps : Array Value} {v u : Value} {w : World} (hr : fn.results = #[.cell ta t, .tmp tb, .tmp tc]) (ha : agk P t = some true) (hx : tmps.getD ta undef = .pointer (some ⟨b, o, none⟩)) (hv : tmps.getD tb undef = v) (hu : tmps.getD tc undef = u)
    (hR : Rd L b o us) (hz : szk P t = some us.length) (s : Sat E L w) : (results fn tmps).run P w = .ok (.tuple #[.agg us.toArray, v, u]) w := by
  have hc : (loadCells ⟨b, o, none⟩ us.length).run P w = .ok us.toArray w := run_loadCells_list w _ us fun j v e => by
    have := hR.cell s e
    unfold Addr.add
    split
    · rename_i h0; subst h0; simpa using this
    · exact this
  have hl : (loadVar t ⟨b, o, none⟩).run P w = .ok (.agg us.toArray) w := by
    simp only [loadVar, Sem.run_bind, run_isAgg ha, Result.andThen, if_true, run_sizeOf' hz, hc]
    rfl
  have hx2 : tmps[ta]?.getD undef = .pointer (some ⟨b, o, none⟩) := by simpa using hx
  have hv2 : tmps[tb]?.getD undef = v := by simpa using hv
  have hu2 : tmps[tc]?.getD undef = u := by simpa using hu
  simp [results, hr, hx2, hv2, hu2, asAddr, hl]
theorem Hd.retCTT {fn : Func} {ta tb tc : Nat} {t : TypeId} {b o : Nat} {us : List Value} {v u : Value} {ι : Type} {val : ι → Value} {post : ι → List SP} (hr : fn.results = #[.cell ta t, .tmp tb, .tmp tc]) (i : ι) (ha : agk P t = some true) (hx : look st ta = some (.pointer (some ⟨b, o, none⟩))) (hv : look st tb = some v) (hu : look st tc = some u)
    (hR : Rd L b o us) (hz : szk P t = some us.length) (hi : val i = .tuple #[.agg us.toArray, v, u]) (hl : ∀ k, sep L k → sep (post i) k) :
    Hd E n [] st L ((bodyPost P fn fun e w' => ∃ i, e = .returned (val i) ∧ Sat E (post i) w') .ret) := fun a w f s =>
  bodyPost_ret (results_ctt (v := v) (u := u) hr ha (by simp [f.at_ ta _ hx]) (by simp [f.at_ tb _ hv]) (by simp [f.at_ tc _ hu]) hR hz s) f.defs ⟨i, by rw [hi], s.mp hl⟩
theorem results_3 {fn : Func} {ta tb tc : Nat} {tmps : Array Value} {v1 v u : Value} {w : World} (hr : fn.results = #[.tmp ta, .tmp tb, .tmp tc]) (hx : tmps.getD ta undef = v1) (hv : tmps.getD tb undef = v) (hu : tmps.getD tc undef = u) : (results fn tmps).run P w = .ok (.tuple #[v1, v, u]) w := by
  have hx2 : tmps[ta]?.getD undef = v1 := by simpa using hx
  have hv2 : tmps[tb]?.getD undef = v := by simpa using hv
  have hu2 : tmps[tc]?.getD undef = u := by simpa using hu
  simp [results, hr, hx2, hv2, hu2]
theorem Hd.ret3 {fn : Func} {ta tb tc : Nat} {v1 v u : Value} {ι : Type} {val : ι → Value} {post : ι → List SP} (hr : fn.results = #[.tmp ta, .tmp tb, .tmp tc]) (i : ι) (hx : look st ta = some v1) (hv : look st tb = some v) (hu : look st tc = some u) (hi : val i = .tuple #[v1, v, u]) (hl : ∀ k, sep L k → sep (post i) k) :
    Hd E n [] st L ((bodyPost P fn fun e w' => ∃ i, e = .returned (val i) ∧ Sat E (post i) w') .ret) := fun a w f s =>
  bodyPost_ret (results_3 (v1 := v1) (v := v) (u := u) hr (by simp [f.at_ ta _ hx]) (by simp [f.at_ tb _ hv]) (by simp [f.at_ tc _ hu])) f.defs ⟨i, by rw [hi], s.mp hl⟩
end
section
variable {E : World} {n : Nat} {ds : List Deferred} {st : List (Nat × Value)} {L : List SP} {P : Program}
variable {d : Nat} {ty t : TypeId} {pos : String} {af : Array Edge} {g : Option (Nat × Bool)} {x : Operand} {v : Value}
theorem y_fieldv1 {fs : Array Field} {i q ft : Nat} {cs : List Value} (hu : P.underlying t = some (.struct fs)) (hf : (fs[i]?).map (fun f => (f.offset, f.type)) = some (q, ft)) (ha : agk P ft = some false) (hx : evo st x = some (.agg cs.toArray)) (hc : cs[q]? = some v) :
    Yv E n ds st L P ⟨some d, .field t x i, ty, pos, af, g⟩ v := fun a w f _ => by
  cases hfi : fs[i]? with
  | none => rw [hfi] at hf; cases hf
  | some fl =>
    rw [hfi] at hf
    obtain ⟨rfl, rfl⟩ := Prod.mk.inj (Option.some.inj hf)
    simp only [execOp, f.ev hx]
    simp only [Instr.field, Sem.run_bind, run_underlying hu, Result.andThen, hfi]
    simp [asAgg, run_part1 (P := P) (cs := cs.toArray) ha (by simpa using hc)]
theorem y_min3 {k : IntKind} {a b c : Int} {y z : Operand} {t2 t3 : TypeId} (hx : evo st x = some (.int k a)) (hy : evo st y = some (.int k b)) (hz : evo st z = some (.int k c)) :
    Yv E n ds st L P ⟨some d, .call ⟨.builtin .min, #[x, y, z], #[t, t2, t3]⟩, ty, pos, af, g⟩ (.int k (min (min a b) c)) := fun _ w f _ => by
  simp only [execOp, resolve, List.map_toArray, List.map_cons, List.map_nil, f.ev hx, f.ev hy, f.ev hz]
  by_cases h : a ≤ b
  · have e : min a b = a := by omega
    rw [e]
    simp [invoke, builtin, Builtin.min_, Builtin.min2, go_sem]; omega
  · have e : min a b = b := by omega
    rw [e]
    simp [invoke, builtin, Builtin.min_, Builtin.min2, go_sem]; omega
end
end Go.RX
