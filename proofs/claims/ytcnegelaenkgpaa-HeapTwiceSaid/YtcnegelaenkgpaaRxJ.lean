/-
  Iterators whose own memory, at the end, tells what they told. No program is named here.
-/
import Derived.Test.YtcnegelaenkgpaaRxI
namespace Go.RX
set_option linter.unusedSimpArgs false
set_option linter.unusedVariables false
set_option linter.unnecessarySimpa false
section
variable {E : World} {n : Nat} {ds : List Deferred} {st st' : List (Nat × Value)} {L L' : List SP} {r : Option Nat} {P : Program} {Q : Exit → Act → World → Prop} {ops : Array Oper} {rest : List Oper}
variable {d : Nat} {ty t t2 : TypeId} {pos : String} {af : Array Edge} {g : Option (Nat × Bool)} {x y z : Operand} {v u : Value} {k : IntKind} {p q : Bool}
theorem sep_right {M N N' : List SP} {k : PH} (h : ∀ k, sep N k → sep N' k) (s : sep (M ++ N) k) : sep (M ++ N') k := by
  obtain ⟨h1, h2, d, s1, s2, x, y⟩ := sep_append s
  exact sep_join d s1 s2 x (h _ y)
/-- As It; what is left of the function's own memory is told by what it handed on. -/
def ItD (P : Program) (gf : FuncId) (cap : List Value) {α : Type} (enc : α → List Value) (S Sp : List α → Prop) (M : List SP) (M' : List α → List SP) : Prop :=
  ∀ l (J X : List α → List SP), Yd P l enc J X Sp → Ct P gf (Value.func (.yield l) #[] #[] :: cap).toArray (J [] ++ M) (fun _ : List α × Bool => .tuple #[])
    (fun i => pu (bif i.2 then S i.1 else Sp i.1) :: (bif i.2 then J i.1 else X i.1) ++ M' i.1)
theorem Hd.rangeD {α : Type} {enc : α → List Value} {S Sp : List α → Prop} {ps : List Nat} {assign body : Code} {gf : FuncId} {cap : List Value} {M : List SP} {M' : List α → List SP}
    (I : List α → List SP) (X : Option Nat → List α → List SP) (hg : evo st x = some (.func (.func gf) #[] cap.toArray)) (hf : fnk P gf = true) (hps : ∀ x, (enc x).length = ps.length) (hpn : (ps.all fun t => Nat.blt t n) = true)
    (hit : ItD P gf cap enc S Sp M M') (h0 : ∀ k, sep L k → sep (I [] ++ M) k)
    (hround : ∀ E l R pre c N, R.state = .ready → Sp (pre ++ [c]) → Rnd E n st P ps assign body enc I X pre c l R N)
    (hdone : ∀ r0 xs, S xs → Hd E n (mark r0 :: ds) st (I xs ++ ob r0 (.deferred (some [])) :: M' xs) (Q .normal))
    (hstop : ∀ r0 j pre, Sp pre → Hd E n (mark r0 :: ds) st (X j pre ++ ob r0 (.deferred (some [])) :: M' pre) (CW none P (jc j) Q)) :
    Hd E n ds st L (CW none P (.rangeFunc x ps.toArray assign body) Q) := by
  intro a w fr s
  refine wpIn_rangeFunc (F := FW none) ?_
  intro fn _
  obtain ⟨w1, hw1⟩ : ∃ w1, w1 = (w.alloc (.deferred (some []))).alloc (.loop { state := .ready, pending := none, fn, tmps := a.tmps, params := ps.toArray, assign, body, defers := w.heap.size }) := ⟨_, rfl⟩
  have s1 : Sat E (ob (w.heap.size + 1) (.loop { state := .ready, pending := none, fn, tmps := a.tmps, params := ps.toArray, assign, body, defers := w.heap.size }) :: ob w.heap.size (.deferred (some [])) :: L) w1 := by
    have := (s.new (.deferred (some []))).new (.loop { state := .ready, pending := none, fn, tmps := a.tmps, params := ps.toArray, assign, body, defers := w.heap.size })
    simp only [Array.size_push] at this
    rw [hw1]
    exact this
  refine ⟨w.heap.size + 1, [mark w.heap.size], w1, { target := .fn (.func gf) cap.toArray, args := #[.func (.yield (w.heap.size + 1)) #[] #[]] }, w1, gf, (Value.func (.yield (w.heap.size + 1)) #[] #[] :: cap).toArray, w1, ?_, ?_, fun _ _ => trivial, ?_, fun h => (by cases h), ?_⟩
  · rw [hw1]; exact run_enterLoop_outer _ _ _ _ _
  · simp only [resolve, fr.ev hg, Deferred.ofValue]
    simp [Act.eval, Sem.run_pure]
  · simp [invoke, run_call hf]
  obtain ⟨R, hR⟩ : ∃ R : Loop, R = { state := .ready, pending := none, fn, tmps := a.tmps, params := ps.toArray, assign, body, defers := w.heap.size } := ⟨_, rfl⟩
  rw [← hR] at s1
  have hyd := yd_of (P := P) (n := n) (st := st) (l := w.heap.size + 1) (R := R) (tl := [ob w.heap.size (.deferred (some []))]) (tm := a.tmps) (enc := enc) (Sp := Sp) (I := I) (X := X) (ps := ps) (assign := assign) (body := body)
    (by subst hR; exact ⟨rfl, rfl, rfl, rfl, rfl, rfl⟩) hps hpn ⟨fr.size, fr.at_⟩ (fun E pre c N hG => hround E _ R pre c N (by rw [hR]) hG)
  have hc := hit _ _ _ hyd E w1 (s1.mp fun k hk => by
    obtain ⟨h1, h2, d, aa, b, x, y⟩ := hk
    obtain ⟨k1, k2, d', a', b', x', y'⟩ := y
    obtain ⟨m1, m2, d2, a2, b2, x2, y2⟩ := sep_append (h0 _ y')
    have hk1 : sep [ob w.heap.size (.deferred (some []))] k1 := ⟨k1, fun _ => none, fun _ => .inr rfl, Sub.rfl', (fun _ _ e => by cases e), x', trivial⟩
    have hj : sep (I [] ++ [ob w.heap.size (.deferred (some []))]) (uni m1 k1) := sep_join (d'.sym.subL a2) Sub.uniL (Sub.uniR (d'.sym.subL a2)) x2 hk1
    have hd1 : Dis h1 (uni m1 k1) := (Dis.uniL (d.sym.subL (a2.tr b')) (d.sym.subL a')).sym
    have hd2 : Dis (uni h1 (uni m1 k1)) m2 := Dis.uniL (d.subR (b2.tr b')) (Dis.uniL d2 (d'.subR b2))
    have hl : sep (ob (w.heap.size + 1) (.loop R) :: (I [] ++ [ob w.heap.size (.deferred (some []))])) (uni h1 (uni m1 k1)) := ⟨h1, uni m1 k1, hd1, Sub.uniL, Sub.uniR hd1, x, hj⟩
    exact sep_join hd2 (Sub.uni aa (Sub.uni (a2.tr (b'.tr b)) (a'.tr b))) (b2.tr (b'.tr b)) hl y2)
  refine (callsIn_wide.2 hc).mono ?_
  rintro e w3 ⟨⟨xs, bb⟩, rfl, s3⟩
  have fin : ∀ (R' : Loop) (A : List SP), R'.state ≠ .busy → Sat E (ob (w.heap.size + 1) (.loop R') :: A) w3 → ∃ w4, (Instr.endLoop (w.heap.size + 1)).run P w3 = .ok R'.pending w4 ∧ Sat E A w4 := fun R' A hb s => by
    have hb3 : w3.heap[w.heap.size + 1]? = some (.loop R') := s.ob_at .here
    refine ⟨_, run_endLoop hb3 hb, ?_⟩
    have := Sat.put (w' := w3.putObj (w.heap.size + 1) (.loop { R' with state := .exhausted })) s .here rfl rfl rfl (fun x hx => World.putObj_heap_other hx) (World.putObj_heap_same (Array.getElem?_eq_some_iff.1 hb3).1)
    exact this.mp fun k ⟨_, _, _, _, b, _, y⟩ => y.up b
  have f2 : Fr n (mark w.heap.size :: ds) st { a with defers := [mark w.heap.size] ++ a.defers } := ⟨fr.size, by simp [fr.defs], fr.at_⟩
  have s3' : (bif bb then S xs else Sp xs) ∧ Sat E ((bif bb then (ob (w.heap.size + 1) (.loop R) :: (I xs ++ [ob w.heap.size (.deferred (some []))])) else [fun w' => ∃ j, sep (ob (w.heap.size + 1) (.loop { R with state := .done, pending := some (jc j) }) :: (X j xs ++ [ob w.heap.size (.deferred (some []))])) w']) ++ M' xs) w3 := by
    obtain ⟨h1, h2, h3, k1, k2, d, a, b, x, y⟩ := s3
    exact ⟨x, h1, h2, h3, y.up b⟩
  obtain ⟨hS, s4⟩ := s3'
  cases bb with
  | true =>
    obtain ⟨w4, e4, s5⟩ := fin R _ (by rw [hR]; simp) s4
    refine ⟨_, w4, e4, ?_⟩
    have : R.pending = none := by rw [hR]
    rw [this]
    exact hdone _ xs hS _ w4 f2 (by simpa [List.append_assoc] using s5)
  | false =>
    obtain ⟨h1, h2, h3, k1, k2, d, aa, b, ⟨j, x⟩, y⟩ := s4
    have hl := sep_join d aa b x y
    obtain ⟨w4, e4, s5⟩ := fin _ _ (by simp) (⟨h1, h2, h3, hl⟩ : Sat E (ob (w.heap.size + 1) (.loop { R with state := .done, pending := some (jc j) }) :: (X j xs ++ [ob w.heap.size (.deferred (some []))]) ++ M' xs) w3)
    refine ⟨_, w4, e4, ?_⟩
    exact hstop _ j xs hS _ w4 f2 (by simpa [List.append_assoc] using s5)

end
end Go.RX
