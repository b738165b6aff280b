/-
  Iterators: a range over a function, its rounds, the call of yield; a function that holds one, out of its body's walk. No program is named here.
-/
import Derived.Test.YtkgkfjhfedjnpaaRxT
import Derived.RangeFuncLeaves
import Derived.RangeFuncRecord
namespace Go.RX
set_option linter.unusedSimpArgs false
set_option linter.unusedVariables false
set_option linter.unnecessarySimpa false
section
variable {E : World} {n : Nat} {ds : List Deferred} {st st' : List (Nat × Value)} {L L' : List SP} {r : Option Nat} {P : Program} {Q : Exit → Act → World → Prop} {ops : Array Oper} {rest : List Oper}
variable {d : Nat} {ty t t2 : TypeId} {pos : String} {af : Array Edge} {g : Option (Nat × Bool)} {x y z : Operand} {v u : Value} {k : IntKind} {p q : Bool}

/-! ### Calls of a value -/
theorem run_callv {f : Fn} {cap : Array Value} {xs : List Operand} {vs : List Value} {tys : Array TypeId} {a : Act} (fr : Fr n ds st a) (hx : evo st x = some (.func f #[] cap)) (hv : xs.map (evo st) = vs.map some) (w : World) :
    (execOp a.eval (⟨some d, .call ⟨.value x, xs.toArray, tys⟩, ty, pos, af, g⟩ : Oper)).run P w = (invoke (.fn f cap) vs.toArray).run P w := by
  simp only [execOp, resolve, List.map_toArray, evs_map fr hv, fr.ev hx, Deferred.ofValue]
  simp
/-- a call of a function's value -/
theorem Hd.callv {fid : FuncId} {cap : List Value} {xs : List Operand} {vs : List Value} {tys : Array TypeId} {ι : Type} {val : ι → Value} {post : ι → List SP} (hx : evo st x = some (.func (.func fid) #[] cap.toArray)) (hv : xs.map (evo st) = vs.map some) (hf : fnk P fid = true)
    (hc : Ct P fid (vs ++ cap).toArray L val post) (K : ∀ i, Hd E n ds ((d, val i) :: st) (post i) (LW r P ops Q rest)) (hd : d < n := by decide) :
    Hd E n ds st L (LW r P ops Q (⟨some d, .call ⟨.value x, xs.toArray, tys⟩, ty, pos, af, none⟩ :: rest)) := by
  intro a w f s
  show wpListIn _ _ _ _ _ _ _ _
  unfold wpListIn
  rw [if_pos (by simp [Region.wanted])]
  refine ⟨fun _ _ => trivial, ?_⟩
  rw [Oper.semAt_eq _ _ _ (by simp), run_callv f hx hv]
  have e : (invoke (.fn (.func fid) cap.toArray) vs.toArray).run P w = .ok (.enter fid (vs ++ cap).toArray) w := by
    simp [invoke, run_call hf]
  rw [e]
  refine ⟨fun h => (by cases h), ?_⟩
  refine ((callsIn_wide.2 (hc E w s)).mono fun e w' h => ?_)
  obtain ⟨i, rfl, s'⟩ := h
  exact K i _ _ (f.put hd _) s'

/-! ### yield -/
/-- Yield l, called with one more behind those of pre, hands back true and J holds, or false and X does; whatever lies beside stays. -/
def Yd (P : Program) (l : Nat) {α : Type} (enc : α → List Value) (J X : List α → List SP) (G : List α → Prop) : Prop :=
  ∀ E M pre x w, G (pre ++ [x]) → Sat E (J pre ++ M) w → ∃ fn tmps assign body, (Instr.yield l (enc x).toArray).run P w = .ok (.round l fn tmps assign body) w ∧
    RoundIn (FW none) 0 P l fn tmps assign body w (fun e w' => ∃ b, e = .returned (.bool b) ∧ Sat E ((bif b then J (pre ++ [x]) else X (pre ++ [x])) ++ M) w')
theorem Hd.yield {α : Type} {enc : α → List Value} {J X : List α → List SP} {G : List α → Prop} {l : Nat} {M : List SP} {xs : List Operand} {tys : Array TypeId} (hy : Yd P l enc J X G) (pre : List α) (c : α) (hx : evo st x = some (.func (.yield l) #[] #[]))
    (hv : xs.map (evo st) = (enc c).map some) (hG : G (pre ++ [c])) (hl : ∀ k, sep L k → sep (J pre ++ M) k)
    (K : ∀ b, Hd E n ds ((d, .bool b) :: st) ((bif b then J (pre ++ [c]) else X (pre ++ [c])) ++ M) (LW r P ops Q rest)) (hd : d < n := by decide) :
    Hd E n ds st L (LW r P ops Q (⟨some d, .call ⟨.value x, xs.toArray, tys⟩, ty, pos, af, none⟩ :: rest)) := by
  intro a w f s
  show wpListIn _ _ _ _ _ _ _ _
  unfold wpListIn
  rw [if_pos (by simp [Region.wanted])]
  refine ⟨fun _ _ => trivial, ?_⟩
  rw [Oper.semAt_eq _ _ _ (by simp), run_callv f hx hv]
  obtain ⟨fn, tmps, assign, body, e, hR⟩ := hy E M pre c w hG (s.mp hl)
  have e' : (invoke (.fn (.yield l) #[]) (enc c).toArray).run P w = .ok (.round l fn tmps assign body) w := e
  rw [e']
  refine ⟨fun h => (by cases h), ?_⟩
  refine RoundIn.mono hR fun e w' h => ?_
  obtain ⟨b, rfl, s'⟩ := h
  exact K b _ _ (f.put hd _) s'
/-- Called with a yield, the function hands it one after the other: to the end (S), or until yield says false (Sp). -/
def It (P : Program) (gf : FuncId) (cap : List Value) {α : Type} (enc : α → List Value) (S Sp : List α → Prop) (M M' : List SP) : Prop :=
  ∀ l (J X : List α → List SP), Yd P l enc J X Sp → Ct P gf (Value.func (.yield l) #[] #[] :: cap).toArray (J [] ++ M) (fun _ : List α × Bool => .tuple #[])
    (fun i => pu (bif i.2 then S i.1 else Sp i.1) :: (bif i.2 then J i.1 else X i.1) ++ M')

theorem sep_two {A B : SP} {M N : List SP} {k : PH} (h : sep (M ++ A :: B :: N) k) : sep (A :: B :: (M ++ N)) k := by
  obtain ⟨h1, h2, d, a, b, x, k1, k2, d', a', b', y, m1, m2, d2, a2, b2, z, t⟩ := sep_append h
  have hj : sep (M ++ N) (uni h1 m2) := sep_join (d.subR (b2.tr b')) Sub.uniL (Sub.uniR (d.subR (b2.tr b'))) x t
  have dm : Dis m1 (uni h1 m2) := (Dis.uniL (d.subR (a2.tr b')) d2.sym).sym
  have hB : sep (B :: (M ++ N)) (uni m1 (uni h1 m2)) := ⟨m1, uni h1 m2, dm, Sub.uniL, Sub.uniR dm, z, hj⟩
  have dk : Dis k1 (uni m1 (uni h1 m2)) := (Dis.uniL (d'.subR a2).sym (Dis.uniL (d.subR a') (d'.subR b2).sym)).sym
  exact ⟨k1, uni m1 (uni h1 m2), dk, a'.tr b, Sub.uni (a2.tr (b'.tr b)) (Sub.uni a (b2.tr (b'.tr b))), y, hB⟩
theorem sep_app {M N : List SP} {k : PH} (h : sep (M ++ N) k) : sep (N ++ M) k := by
  obtain ⟨h1, h2, d, a, b, x, y⟩ := sep_append h
  exact sep_join d.sym b a y x
theorem sep_two' {A B : SP} {M N : List SP} {k : PH} (h : sep (A :: B :: (M ++ N)) k) : sep (M ++ A :: B :: N) k := by
  have e : A :: B :: (M ++ N) = [A, B] ++ (M ++ N) := rfl
  rw [e] at h
  have h2 := sep_app h
  rw [List.append_assoc] at h2
  obtain ⟨h1, h2, d, a, b, x, y⟩ := sep_append h2
  exact sep_join d a b x (sep_app y)
/-! ### The statement -/
def pz : List Nat → List Value → List (Nat × Value) → List (Nat × Value)
  | t :: ts, v :: vs, st => pz ts vs ((t, v) :: st)
  | _, _, st => st
theorem pz_fr : ∀ (ps : List Nat) (vs : List Value) (st : List (Nat × Value)) (tm : Array Value), (ps.all fun t => Nat.blt t n) = true → tm.size = n → (∀ t v, look st t = some v → tm[t]? = some v) →
    ((ps.zip vs).foldl (fun tmps (t, a) => tmps.setIfInBounds t a) tm).size = n ∧ ∀ t v, look (pz ps vs st) t = some v → ((ps.zip vs).foldl (fun tmps (t, a) => tmps.setIfInBounds t a) tm)[t]? = some v
  | [], _, _, _, _, hs, hl => ⟨by simpa using hs, by simpa [pz] using hl⟩
  | _ :: _, [], _, _, _, hs, hl => ⟨by simpa using hs, by simpa [pz] using hl⟩
  | p :: ps, u :: vs, st, tm, hp, hs, hl => by
    simp only [List.all_cons, Bool.and_eq_true] at hp
    have hpn : p < n := by have := hp.1; simpa [Nat.blt_eq] using this
    simp only [List.zip_cons_cons, List.foldl_cons, pz]
    refine pz_fr ps vs ((p, u) :: st) _ hp.2 (by simpa using hs) fun t v e => ?_
    have := (Fr.put (n := n) (ds := []) (st := st) (a := { tmps := tm, defers := [] }) ⟨hs, rfl, hl⟩ hpn u).at_ t v e
    simpa [Act.put] using this
def mark (r : Nat) : Deferred := { target := .collected r, args := #[] }
def jc : Option Nat → Code
  | none => .ret
  | some id => .exit id
/-- a round's end, in each way -/
def RE (E : World) (l : Nat) (R : Loop) {α : Type} (I : List α → List SP) (X : Option Nat → List α → List SP) (pre : List α) (N : List SP) : Exit → Act → World → Prop
  | .normal, _, w => Sat E (ob l (.loop { R with state := .busy }) :: I pre ++ N) w
  | .ret, _, w => Sat E (ob l (.loop { R with state := .busy }) :: X none pre ++ N) w
  | .exit id, _, w => Sat E (ob l (.loop { R with state := .busy }) :: X (some id) pre ++ N) w
  | _, _, _ => False
/-- the left sides are assigned: the round begins -/
def Bg (P : Program) (l : Nat) (body : Code) (Qb : Exit → Act → World → Prop) : Act → World → Prop := fun a w => ∃ w2, (Instr.beginRound l).run P w = .ok () w2 ∧ CW (some l) P body Qb a w2
theorem Hd.begin {l : Nat} {R : Loop} {body : Code} {Qb : Exit → Act → World → Prop} (hr : R.state = .ready) (hp : Pick L (ob l (.loop R)) L') (h : Hd E n ds st (ob l (.loop { R with state := .busy }) :: L') (CW (some l) P body Qb)) : Hd E n ds st L (Bg P l body Qb) := fun a w f s => by
  have hb := s.ob_at hp
  refine ⟨_, run_beginRound hb hr, h a _ f (Sat.put s hp rfl rfl rfl (fun x hx => World.putObj_heap_other hx) (World.putObj_heap_same (Array.getElem?_eq_some_iff.1 hb).1))⟩
theorem Hd.reN {l : Nat} {R : Loop} {α : Type} {I : List α → List SP} {X : Option Nat → List α → List SP} {pre : List α} {N : List SP} (h : ∀ k, sep L k → sep (ob l (.loop { R with state := .busy }) :: I pre ++ N) k) : Hd E n ds st L (RE E l R I X pre N .normal) := fun _ _ _ s => s.mp h
theorem Hd.reR {l : Nat} {R : Loop} {α : Type} {I : List α → List SP} {X : Option Nat → List α → List SP} {pre : List α} {N : List SP} (h : ∀ k, sep L k → sep (ob l (.loop { R with state := .busy }) :: X none pre ++ N) k) : Hd E n ds st L (RE E l R I X pre N .ret) := fun _ _ _ s => s.mp h
theorem Hd.reX {l : Nat} {R : Loop} {α : Type} {I : List α → List SP} {X : Option Nat → List α → List SP} {pre : List α} {N : List SP} {id : Nat} (h : ∀ k, sep L k → sep (ob l (.loop { R with state := .busy }) :: X (some id) pre ++ N) k) : Hd E n ds st L (RE E l R I X pre N (.exit id)) := fun _ _ _ s => s.mp h
theorem Hd.absurd {K : Act → World → Prop} {p : Prop} (h : ¬p) : Hd E n ds st (pu p :: L) K := Hd.pure fun hp => (h hp).elim

/-- what each round owes: the loop's record is there, what I says, and whatever the iterator holds beside -/
abbrev Rnd (E : World) (n : Nat) (st : List (Nat × Value)) (P : Program) (ps : List Nat) (assign body : Code) {α : Type} (enc : α → List Value) (I : List α → List SP) (X : Option Nat → List α → List SP) (pre : List α) (c : α) (l : Nat) (R : Loop) (N : List SP) : Prop :=
  Hd E n [] (pz ps (enc c) st) (ob l (.loop R) :: I pre ++ N) (CW (some l) P assign (Exit.then (Bg P l body (RE E l R I X (pre ++ [c]) N)) (fun _ _ _ => False)))
theorem yd_of {α : Type} {enc : α → List Value} {Sp : List α → Prop} {I : List α → List SP} {X : Option Nat → List α → List SP} {ps : List Nat} {assign body : Code} {l : Nat} {R : Loop} {tl : List SP} {tm : Array Value}
    (hR : R.state = .ready ∧ R.pending = none ∧ R.tmps = tm ∧ R.params = ps.toArray ∧ R.assign = assign ∧ R.body = body) (hps : ∀ x, (enc x).length = ps.length) (hpn : (ps.all fun t => Nat.blt t n) = true)
    (ht : tm.size = n ∧ ∀ t v, look st t = some v → tm[t]? = some v)
    (hround : ∀ E pre c N, Sp (pre ++ [c]) → Rnd E n st P ps assign body enc I X pre c l R N) :
    Yd P l enc (fun pre => ob l (.loop R) :: (I pre ++ tl)) (fun pre => [fun w => ∃ j, sep (ob l (.loop { R with state := .done, pending := some (jc j) }) :: (X j pre ++ tl)) w]) Sp := by
  obtain ⟨hst, hpe, rfl, hpa, rfl, rfl⟩ := hR
  intro E M pre c w hG s
  have hb : w.heap[l]? = some (.loop R) := s.ob_at .here
  refine ⟨_, _, _, _, run_yield hb (by simp [hpa, hps]), ?_⟩
  have s' : Sat E (ob l (.loop R) :: I pre ++ (tl ++ M)) w := by simpa [List.append_assoc] using s
  have hf := pz_fr (n := n) ps (enc c) st R.tmps hpn ht.1 ht.2
  have hz : (R.params.zip (enc c).toArray).foldl (fun tmps (t, a) => tmps.setIfInBounds t a) R.tmps = (ps.zip (enc c)).foldl (fun tmps (t, a) => tmps.setIfInBounds t a) R.tmps := by
    rw [hpa]; simp [← Array.foldl_toList]
  refine roundIn_of_wpIn (F := FW none) trivial ?_
  rw [hz]
  have h := hround E pre c (tl ++ M) hG { tmps := (ps.zip (enc c)).foldl (fun tmps (t, a) => tmps.setIfInBounds t a) R.tmps, defers := [] } w ⟨hf.1, rfl, hf.2⟩ s'
  refine Go.wpIn_mono h ?_
  intro e a1 w1 hq
  cases e with
  | normal =>
    obtain ⟨w2, hbr, hbody⟩ := hq
    refine ⟨w2, hbr, Go.wpIn_mono hbody ?_⟩
    intro e a3 w3 hq3
    have fin : ∀ (jump : Option Code) (A : List SP), Sat E (ob l (.loop { R with state := .busy }) :: A) w3 →
        ∃ w', (Instr.endRound l jump).run P w3 = .ok (.bool jump.isNone) w' ∧ Sat E (ob l (.loop { R with state := if jump.isNone then .ready else .done, pending := jump }) :: A) w' := fun jump A s3 => by
      have hb3 : w3.heap[l]? = some (.loop { R with state := .busy }) := s3.ob_at .here
      exact ⟨_, run_endRound jump hb3, Sat.put s3 .here rfl rfl rfl (fun x hx => World.putObj_heap_other hx) (World.putObj_heap_same (Array.getElem?_eq_some_iff.1 hb3).1)⟩
    cases e with
    | normal =>
      obtain ⟨w4, e4, s4⟩ := fin none _ hq3
      refine ⟨_, w4, e4, true, rfl, ?_⟩
      have : ({ R with state := LoopState.ready, pending := Option.none } : Loop) = R := by cases R; simp_all
      simp only [Option.isNone_none, if_true] at s4
      rw [this] at s4
      simpa [List.append_assoc] using s4
    | ret =>
      obtain ⟨w4, e4, s4⟩ := fin (some .ret) _ hq3
      refine ⟨_, w4, e4, false, rfl, s4.mp fun k hk => ?_⟩
      have hk' : sep ((ob l (.loop { R with state := .done, pending := some (jc Option.none) }) :: (X Option.none (pre ++ [c]) ++ tl)) ++ M) k := by simpa [List.append_assoc, jc] using hk
      obtain ⟨h1, h2, d, a, b, x, y⟩ := sep_append hk'
      exact ⟨h1, h2, d, a, b, ⟨_, x⟩, y⟩
    | exit id =>
      obtain ⟨w4, e4, s4⟩ := fin (some (.exit id)) _ hq3
      refine ⟨_, w4, e4, false, rfl, s4.mp fun k hk => ?_⟩
      have hk' : sep ((ob l (.loop { R with state := .done, pending := some (jc (some id)) }) :: (X (some id) (pre ++ [c]) ++ tl)) ++ M) k := by simpa [List.append_assoc, jc] using hk
      obtain ⟨h1, h2, d, a, b, x, y⟩ := sep_append hk'
      exact ⟨h1, h2, d, a, b, ⟨_, x⟩, y⟩
    | goto t => exact hq3.elim
    | panic ch => exact hq3.elim
    | outgrown => exact hq3.elim
  | exit id => exact hq
  | goto l => exact hq
  | ret => exact hq
  | panic ch => exact hq
  | outgrown => exact hq
/-- A range over a function, in a function's own frame. -/
theorem Hd.rangeF {α : Type} {enc : α → List Value} {S Sp : List α → Prop} {ps : List Nat} {assign body : Code} {gf : FuncId} {cap : List Value} {M M' : List SP}
    (I : List α → List SP) (X : Option Nat → List α → List SP) (hg : evo st x = some (.func (.func gf) #[] cap.toArray)) (hf : fnk P gf = true) (hps : ∀ x, (enc x).length = ps.length) (hpn : (ps.all fun t => Nat.blt t n) = true)
    (hit : It P gf cap enc S Sp M M') (h0 : ∀ k, sep L k → sep (I [] ++ M) k)
    (hround : ∀ E l R pre c N, R.state = .ready → Sp (pre ++ [c]) → Rnd E n st P ps assign body enc I X pre c l R N)
    (hdone : ∀ r0 xs, S xs → Hd E n (mark r0 :: ds) st (I xs ++ ob r0 (.deferred (some [])) :: M') (Q .normal))
    (hstop : ∀ r0 j pre, Sp pre → Hd E n (mark r0 :: ds) st (X j pre ++ ob r0 (.deferred (some [])) :: M') (CW none P (jc j) Q)) :
    Hd E n ds st L (CW none P (.rangeFunc x ps.toArray assign body) Q) := by
  intro a w fr s
  refine wpIn_rangeFunc (F := FW none) ?_
  intro fn _
  obtain ⟨w1, hw1⟩ : ∃ w1, w1 = (w.alloc (.deferred (some []))).alloc (.loop { state := .ready, pending := none, fn, tmps := a.tmps, params := ps.toArray, assign, body, defers := w.heap.size }) := ⟨_, rfl⟩
  have s1 : Sat E (ob (w.heap.size + 1) (.loop { state := .ready, pending := none, fn, tmps := a.tmps, params := ps.toArray, assign, body, defers := w.heap.size }) :: ob w.heap.size (.deferred (some [])) :: L) w1 := by
    have := (s.new (.deferred (some []))).new (.loop { state := .ready, pending := none, fn, tmps := a.tmps, params := ps.toArray, assign, body, defers := w.heap.size })
    simp only [Array.size_push] at this
    rw [hw1]
    exact this
  refine ⟨w.heap.size + 1, [mark w.heap.size], w1, { target := .fn (.func gf) cap.toArray, args := #[.func (.yield (w.heap.size + 1)) #[] #[]] }, w1, gf, (Value.func (.yield (w.heap.size + 1)) #[] #[] :: cap).toArray, w1, ?_, ?_, fun _ _ => trivial, ?_, fun h => (by cases h), ?_⟩
  · rw [hw1]; exact run_enterLoop_outer _ _ _ _ _
  · simp only [resolve, fr.ev hg, Deferred.ofValue]
    simp [Act.eval, Sem.run_pure]
  · simp [invoke, run_call hf]
  obtain ⟨R, hR⟩ : ∃ R : Loop, R = { state := .ready, pending := none, fn, tmps := a.tmps, params := ps.toArray, assign, body, defers := w.heap.size } := ⟨_, rfl⟩
  rw [← hR] at s1
  have hyd := yd_of (P := P) (n := n) (st := st) (l := w.heap.size + 1) (R := R) (tl := [ob w.heap.size (.deferred (some []))]) (tm := a.tmps) (enc := enc) (Sp := Sp) (I := I) (X := X) (ps := ps) (assign := assign) (body := body)
    (by subst hR; exact ⟨rfl, rfl, rfl, rfl, rfl, rfl⟩) hps hpn ⟨fr.size, fr.at_⟩ (fun E pre c N hG => hround E _ R pre c N (by rw [hR]) hG)
  have hc := hit _ _ _ hyd E w1 (s1.mp fun k hk => by
    obtain ⟨h1, h2, d, aa, b, x, y⟩ := hk
    obtain ⟨k1, k2, d', a', b', x', y'⟩ := y
    obtain ⟨m1, m2, d2, a2, b2, x2, y2⟩ := sep_append (h0 _ y')
    have hk1 : sep [ob w.heap.size (.deferred (some []))] k1 := ⟨k1, fun _ => none, fun _ => .inr rfl, Sub.rfl', (fun _ _ e => by cases e), x', trivial⟩
    have hj : sep (I [] ++ [ob w.heap.size (.deferred (some []))]) (uni m1 k1) := sep_join (d'.sym.subL a2) Sub.uniL (Sub.uniR (d'.sym.subL a2)) x2 hk1
    have hd1 : Dis h1 (uni m1 k1) := (Dis.uniL (d.sym.subL (a2.tr b')) (d.sym.subL a')).sym
    have hd2 : Dis (uni h1 (uni m1 k1)) m2 := Dis.uniL (d.subR (b2.tr b')) (Dis.uniL d2 (d'.subR b2))
    have hl : sep (ob (w.heap.size + 1) (.loop R) :: (I [] ++ [ob w.heap.size (.deferred (some []))])) (uni h1 (uni m1 k1)) := ⟨h1, uni m1 k1, hd1, Sub.uniL, Sub.uniR hd1, x, hj⟩
    exact sep_join hd2 (Sub.uni aa (Sub.uni (a2.tr (b'.tr b)) (a'.tr b))) (b2.tr (b'.tr b)) hl y2)
  refine (callsIn_wide.2 hc).mono ?_
  rintro e w3 ⟨⟨xs, bb⟩, rfl, s3⟩
  have fin : ∀ (R' : Loop) (A : List SP), R'.state ≠ .busy → Sat E (ob (w.heap.size + 1) (.loop R') :: A) w3 → ∃ w4, (Instr.endLoop (w.heap.size + 1)).run P w3 = .ok R'.pending w4 ∧ Sat E A w4 := fun R' A hb s => by
    have hb3 : w3.heap[w.heap.size + 1]? = some (.loop R') := s.ob_at .here
    refine ⟨_, run_endLoop hb3 hb, ?_⟩
    have := Sat.put (w' := w3.putObj (w.heap.size + 1) (.loop { R' with state := .exhausted })) s .here rfl rfl rfl (fun x hx => World.putObj_heap_other hx) (World.putObj_heap_same (Array.getElem?_eq_some_iff.1 hb3).1)
    exact this.mp fun k ⟨_, _, _, _, b, _, y⟩ => y.up b
  have f2 : Fr n (mark w.heap.size :: ds) st { a with defers := [mark w.heap.size] ++ a.defers } := ⟨fr.size, by simp [fr.defs], fr.at_⟩
  have s3' : (bif bb then S xs else Sp xs) ∧ Sat E ((bif bb then (ob (w.heap.size + 1) (.loop R) :: (I xs ++ [ob w.heap.size (.deferred (some []))])) else [fun w' => ∃ j, sep (ob (w.heap.size + 1) (.loop { R with state := .done, pending := some (jc j) }) :: (X j xs ++ [ob w.heap.size (.deferred (some []))])) w']) ++ M') w3 := by
    obtain ⟨h1, h2, h3, k1, k2, d, a, b, x, y⟩ := s3
    exact ⟨x, h1, h2, h3, y.up b⟩
  obtain ⟨hS, s4⟩ := s3'
  cases bb with
  | true =>
    obtain ⟨w4, e4, s5⟩ := fin R _ (by rw [hR]; simp) s4
    refine ⟨_, w4, e4, ?_⟩
    have : R.pending = none := by rw [hR]
    rw [this]
    exact hdone _ xs hS _ w4 f2 (by simpa [List.append_assoc] using s5)
  | false =>
    obtain ⟨h1, h2, h3, k1, k2, d, aa, b, ⟨j, x⟩, y⟩ := s4
    have hl := sep_join d aa b x y
    obtain ⟨w4, e4, s5⟩ := fin _ _ (by simp) (⟨h1, h2, h3, hl⟩ : Sat E (ob (w.heap.size + 1) (.loop { R with state := .done, pending := some (jc j) }) :: (X j xs ++ [ob w.heap.size (.deferred (some []))]) ++ M') w3)
    refine ⟨_, w4, e4, ?_⟩
    exact hstop _ j xs hS _ w4 f2 (by simpa [List.append_assoc] using s5)

/-! ### A function that holds such statements -/
/-- how it leaves: its marks are taken, one behind the other -/
def Lv (E : World) (P : Program) (fn : Func) (tm : Array Value) (ds : List Deferred) (L : List SP) {ι : Type} (val : ι → Value) (post : ι → List SP) : Prop :=
  ∀ w, Sat E L w → LeavesInM (FW none) 0 P fn tm (fun e w' => ∃ i, e = .returned (val i) ∧ Sat E (post i) w') ds .returning w
theorem Lv.mark {fn : Func} {tm : Array Value} {ds : List Deferred} {r0 : Nat} {ι : Type} {val : ι → Value} {post : ι → List SP} (hp : Pick L (ob r0 (.deferred (some []))) L') (h : Lv E P fn tm ds L' val post) : Lv E P fn tm (RX.mark r0 :: ds) L val post := fun w s => by
  have hb := s.ob_at hp
  refine ⟨by simp, .inl ⟨r0, _, rfl, run_takeDeferred hb, h _ ?_⟩⟩
  have := Sat.put (w' := w.putObj r0 (.deferred none)) s hp rfl rfl rfl (fun x hx => World.putObj_heap_other hx) (World.putObj_heap_same (Array.getElem?_eq_some_iff.1 hb).1)
  exact this.mp fun k ⟨_, _, _, _, b, _, y⟩ => y.up b
theorem Lv.end {fn : Func} {tm : Array Value} {ι : Type} {val : ι → Value} {post : ι → List SP} (i : ι) (hr : ∀ w, (results fn tm).run P w = .ok (val i) w) (hl : ∀ k, sep L k → sep (post i) k) : Lv E P fn tm [] L val post := fun w s =>
  ⟨val i, hr w, i, rfl, s.mp hl⟩
abbrev MP (E : World) (P : Program) (fn : Func) {ι : Type} (val : ι → Value) (post : ι → List SP) : Exit → Act → World → Prop := bodyPostM (FW none) 0 P fn (fun e w' => ∃ i, e = .returned (val i) ∧ Sat E (post i) w')
theorem Ct.ofM {fid : FuncId} {fn : Func} {c : Code} {vs : List Value} {ι : Type} {val : ι → Value} {post : ι → List SP} (hf : P.funcs[fid]? = some fn) (hb : fn.body = some c) (hn : Nat.ble vs.length fn.ntmps = true)
    (st : List (Nat × Value)) (hst : subv vs st) (h : ∀ E, Hd E fn.ntmps [] st L (CW none P c (MP E P fn val post))) : Ct P fid vs.toArray L val post := by
  intro E w s
  refine callsIn_wide.1 (callsIn_of_wp_marks (F := FW none) hf hb trivial (h E _ w ⟨by have := Nat.le_of_ble_eq_true hn; simp; omega, rfl, fun t v e => ?_⟩ s))
  have := hst.look t v e
  have hl : t < vs.length := by rcases Nat.lt_or_ge t vs.length with h | h; exact h; rw [List.getElem?_eq_none h] at this; cases this
  rw [Array.getElem?_append_left (by simpa using hl)]; simpa using this
theorem Hd.retM {fn : Func} {ι : Type} {val : ι → Value} {post : ι → List SP} (h : ∀ a, Fr n ds st a → Lv E P fn a.tmps ds L val post) : Hd E n ds st L (MP E P fn val post .ret) := fun a w f s => by
  show LeavesInM _ _ _ _ _ _ a.defers _ _
  rw [f.defs]; exact h a f w s
theorem Hd.endM {fn : Func} {ι : Type} {val : ι → Value} {post : ι → List SP} (h : ∀ a, Fr n ds st a → Lv E P fn a.tmps ds L val post) : Hd E n ds st L (MP E P fn val post .normal) := fun a w f s => by
  show LeavesInM _ _ _ _ _ _ a.defers _ _
  rw [f.defs]; exact h a f w s
theorem Lv.end1 {fn : Func} {a : Act} {tt : Nat} {ι : Type} {val : ι → Value} {post : ι → List SP} (fr : Fr n ds st a) (hr : fn.results = #[.tmp tt]) (i : ι) (hv : look st tt = some (val i)) (hl : ∀ k, sep L k → sep (post i) k) : Lv E P fn a.tmps [] L val post :=
  Lv.end i (fun w => by rw [results_tmp hr a.tmps P w]; simp [fr.at_ tt _ hv]) hl
theorem Lv.end2 {fn : Func} {a : Act} {tt tu : Nat} {ι : Type} {val : ι → Value} {post : ι → List SP} (fr : Fr n ds st a) (hr : fn.results = #[.tmp tt, .tmp tu]) (i : ι) (hv : look st tt = some v) (hu : look st tu = some u) (hi : val i = .tuple #[v, u]) (hl : ∀ k, sep L k → sep (post i) k) : Lv E P fn a.tmps [] L val post :=
  Lv.end i (fun w => by rw [results_tmp2 hr a.tmps P w]; simp [fr.at_ tt _ hv, fr.at_ tu _ hu, hi]) hl
theorem Lv.end0 {fn : Func} {a : Act} {ι : Type} {val : ι → Value} {post : ι → List SP} (hr : fn.results = #[]) (i : ι) (hi : val i = .tuple #[]) (hl : ∀ k, sep L k → sep (post i) k) : Lv E P fn a.tmps [] L val post :=
  Lv.end i (fun w => by rw [results_none hr a.tmps P w, hi]) hl
end
end Go.RX
