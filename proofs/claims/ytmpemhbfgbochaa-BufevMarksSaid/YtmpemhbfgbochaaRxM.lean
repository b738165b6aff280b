/-
  Maps whose keys are integers, over Rx1's judgement. No program is named here.
-/
import Derived.Test.YtmpemhbfgbochaaRxH
import Derived.MapKept
namespace Go.RX
set_option linter.unusedSimpArgs false
set_option linter.unusedVariables false
set_option linter.unnecessarySimpa false
open Go.MapKept
section
variable {E : World} {n : Nat} {ds : List Deferred} {st st' : List (Nat × Value)} {L L' : List SP} {r : Option Nat} {P : Program} {Q : Exit → Act → World → Prop} {ops : Array Oper} {rest : List Oper}
variable {d : Nat} {ty t t2 : TypeId} {pos : String} {af : Array Edge} {g : Option (Nat × Bool)} {x y z : Operand} {v u : Value} {k : IntKind} {p q : Bool}
/-- a map's entries: key, value, birth -/
abbrev KV := Int × Value × Nat
def ent (k : IntKind) (e : KV) : MapEntry := ⟨.int k e.1, e.2.1, e.2.2⟩
def getKV (l : List KV) (a : Int) : Option Value := (l.find? fun e => e.1 == a).map (·.2.1)
def fi (l : List KV) (a : Int) : Nat → Option (Nat × Value) := fun i => match l with
  | [] => none
  | e :: r => if a = e.1 then some (i, e.2.1) else fi r a (i + 1)
theorem findNow_fi (k : IntKind) (a : Int) : ∀ (l : List KV) (i : Nat), Instr.findNow (.int k) (.int k a) (l.map (ent k)) i = some (fi l a i)
  | [], i => rfl
  | e :: r, i => by
    rw [List.map_cons, Instr.findNow]
    have h1 : Instr.sameNow (.int k) (.int k a) (ent k e).key = some (a == e.1) := by simp [Instr.sameNow, ent]
    rw [h1]
    unfold fi
    by_cases h : a = e.1
    · rw [if_pos h]; simp [h, ent]
    · rw [if_neg h]
      have : (a == e.1) = false := by simpa using h
      rw [this]
      exact findNow_fi k a r (i + 1)
theorem fi_get : ∀ (l : List KV) (a : Int) (i : Nat), (fi l a i).map (·.2) = getKV l a
  | [], _, _ => rfl
  | e :: r, a, i => by
    unfold fi getKV
    by_cases h : a = e.1
    · rw [if_pos h]; simp [h]
    · rw [if_neg h, fi_get r a (i + 1)]
      have : (e.1 == a) = false := by simpa using Ne.symm h
      simp [getKV, List.find?_cons, this]
theorem fi_at : ∀ (l : List KV) (a : Int) (i j : Nat) (v : Value), fi l a i = some (j, v) → ∃ b, i ≤ j ∧ l[j - i]? = some (a, v, b)
  | [], _, _, _, _, h => by cases h
  | e :: r, a, i, j, v, h => by
    unfold fi at h
    by_cases hc : a = e.1
    · rw [if_pos hc] at h
      simp only [Option.some.injEq, Prod.mk.injEq] at h
      obtain ⟨rfl, rfl⟩ := h
      exact ⟨e.2.2, Nat.le_refl _, by simp [hc]⟩
    · rw [if_neg hc] at h
      obtain ⟨b, h1, h2⟩ := fi_at r a (i + 1) j v h
      refine ⟨b, by omega, ?_⟩
      rw [show j - i = (j - (i + 1)) + 1 by omega]; simpa using h2
theorem fi_none : ∀ {l : List KV} {a : Int} {i : Nat}, fi l a i = none → ∀ e ∈ l, e.1 ≠ a
  | [], _, _, _ => fun e he => by cases he
  | e :: r, a, i, h => by
    unfold fi at h
    by_cases hc : a = e.1
    · rw [if_pos hc] at h; cases h
    · rw [if_neg hc] at h
      intro e' he'
      rcases List.mem_cons.1 he' with rfl | he'
      · exact Ne.symm hc
      · exact fi_none h e' he'
theorem getKV_none {l : List KV} {a : Int} (h : ∀ e ∈ l, e.1 ≠ a) : getKV l a = none := by
  unfold getKV
  rw [Option.map_eq_none_iff, List.find?_eq_none]
  intro e he; simpa using h e he
theorem getKV_app (l : List KV) (a b : Int) (v : Value) (c : Nat) (h : ∀ e ∈ l, e.1 ≠ a) : getKV (l ++ [(a, v, c)]) b = if b = a then some v else getKV l b := by
  unfold getKV
  rw [List.find?_append]
  by_cases hb : b = a
  · subst hb
    have : l.find? (fun e => e.1 == b) = none := by rw [List.find?_eq_none]; intro e he; simpa using h e he
    rw [this]; simp
  · rw [if_neg hb]
    have : ([(a, v, c)] : List KV).find? (fun e => e.1 == b) = none := by simp [Ne.symm hb]
    rw [this]; simp
theorem modify_get : ∀ (l : List KV) (j : Nat) (a : Int) (u v : Value) (c : Nat), l[j]? = some (a, u, c) → (l.map (·.1)).Nodup → ∀ b, getKV (l.set j (a, v, c)) b = if b = a then some v else getKV l b
  | [], _, _, _, _, _, h, _, _ => by simp at h
  | e :: r, 0, a, u, v, c, h, hn, b => by
    simp only [List.getElem?_cons_zero, Option.some.injEq] at h
    subst h
    simp only [List.set_cons_zero, getKV, List.find?_cons]
    by_cases hb : b = a
    · subst hb; simp
    · have : (a == b) = false := by simpa using Ne.symm hb
      simp [this, hb]
  | e :: r, j + 1, a, u, v, c, h, hn, b => by
    simp only [List.getElem?_cons_succ] at h
    simp only [List.map_cons, List.nodup_cons] at hn
    have ih := modify_get r j a u v c h hn.2 b
    simp only [List.set_cons_succ, getKV, List.find?_cons]
    have hea : e.1 ≠ a := fun he => hn.1 (by rw [he]; exact List.mem_map.2 ⟨_, List.mem_of_getElem? h, rfl⟩)
    by_cases hb : b = a
    · subst hb
      have : (e.1 == b) = false := by simpa using hea
      simp only [this]
      simpa [getKV] using ih
    · cases hc : (e.1 == b) with
      | true => simp [hb]
      | false => simpa [getKV] using ih
theorem erase_get : ∀ (l : List KV) (j : Nat) (a : Int) (u : Value) (c : Nat), l[j]? = some (a, u, c) → (l.map (·.1)).Nodup → ∀ b, getKV (l.eraseIdx j) b = if b = a then none else getKV l b
  | [], _, _, _, _, h, _, _ => by simp at h
  | e :: r, 0, a, u, c, h, hn, b => by
    simp only [List.getElem?_cons_zero, Option.some.injEq] at h
    subst h
    simp only [List.map_cons, List.nodup_cons] at hn
    simp only [List.eraseIdx_cons_zero]
    by_cases hb : b = a
    · subst hb
      rw [if_pos rfl]
      exact getKV_none fun e he h => hn.1 (by rw [← h]; exact List.mem_map.2 ⟨e, he, rfl⟩)
    · have : (a == b) = false := by simpa using Ne.symm hb
      simp [getKV, List.find?_cons, this, hb]
  | e :: r, j + 1, a, u, c, h, hn, b => by
    simp only [List.getElem?_cons_succ] at h
    simp only [List.map_cons, List.nodup_cons] at hn
    have ih := erase_get r j a u c h hn.2 b
    simp only [List.eraseIdx_cons_succ, getKV, List.find?_cons]
    have hea : e.1 ≠ a := fun he => hn.1 (by rw [he]; exact List.mem_map.2 ⟨_, List.mem_of_getElem? h, rfl⟩)
    by_cases hb : b = a
    · subst hb
      have : (e.1 == b) = false := by simpa using hea
      simp only [this]
      simpa [getKV] using ih
    · cases hc : (e.1 == b) with
      | true => simp [hb]
      | false => simpa [getKV] using ih
/-- A map with keys of kind k: what it gives for each, and how many it has. -/
structure mp (b : Nat) (k : IntKind) (f : Int → Option Value) (m : Nat) (h : PH) : Prop where
  at_ : ∃ (l : List KV) (clock : Nat), h (b, none) = some (.obj (.map (l.map (ent k)).toArray clock)) ∧ (l.map (·.1)).Nodup ∧ l.length = m ∧ ∀ a, f a = getKV l a
theorem Sat.mp_at {f : Int → Option Value} {b m : Nat} {w : World} (s : Sat E L w) (p : Pick L (RX.mp b k f m) L') : ∃ (l : List KV) (clock : Nat), w.heap[b]? = some (.map (l.map (ent k)).toArray clock) ∧ (l.map (·.1)).Nodup ∧ l.length = m ∧ ∀ a, f a = getKV l a := by
  obtain ⟨h1, s1, ⟨l, c, hb, r⟩⟩ := sep.one p s.2.2.2
  exact ⟨l, c, (hpo_obj (s1 _ _ hb)).1, r⟩
/-- the map's contents turn -/
theorem Sat.putMp {f f' : Int → Option Value} {b m m' : Nat} {w w' : World} {l' : List KV} {c' : Nat} (s : Sat E L w) (p : Pick L (RX.mp b k f m) L') (hos : (w'.os, w'.drawn) = (w.os, w.drawn)) (ht : w'.tape = w.tape) (ho : w'.output = w.output)
    (hk : ∀ x, x ≠ b → w'.heap[x]? = w.heap[x]?) (hb : w'.heap[b]? = some (.map (l'.map (ent k)).toArray c')) (hn : (l'.map (·.1)).Nodup) (hm : l'.length = m') (hf : ∀ a, f' a = getKV l' a) : Sat E (RX.mp b k f' m' :: L') w' := by
  obtain ⟨l, c, hb0, _⟩ := s.mp_at p
  refine ⟨os_drawn hos s.1, ht.trans s.2.1, ho.trans s.2.2.1, sep_upd (p.sep s.2.2.2) fun h1 x s1 => ⟨fun z hz => ?_, ⟨l', c', ?_, hn, hm, hf⟩⟩⟩
  · obtain ⟨zb, zi⟩ := z
    by_cases hzb : zb = b
    · subst hzb
      obtain ⟨l0, c0, hx, _⟩ := x.at_
      cases zi with
      | none => rw [hx] at hz; cases hz
      | some i =>
        show hpo w'.heap[zb]? _ = hpo w.heap[zb]? _
        rw [hb, hb0]; rfl
    · show hpo _ _ = hpo _ _
      rw [hk zb hzb]
  · obtain ⟨l0, c0, hx, _⟩ := x.at_
    show (if (h1 (b, none)).isSome then RX.hp w' (b, none) else none) = _
    rw [hx]
    show hpo w'.heap[b]? none = _
    rw [hb]; rfl
theorem Hd.makeMap (k : IntKind) (K : ∀ b, Hd E n ds ((d, .map (some b)) :: st) (mp b k (fun _ => none) 0 :: L) (LW r P ops Q rest)) (hd : d < n := by decide) :
    Hd E n ds st L (LW r P ops Q (⟨some d, .makeMap t none, ty, pos, af, none⟩ :: rest)) :=
  Hd.op rfl (by simp) fun a w f s => by
    refine ⟨.map (some w.heap.size), { w with heap := w.heap.push (.map #[] 0) }, ?_, K w.heap.size _ _ (f.put hd _) ?_⟩
    · simp only [execOp]
      simp [Instr.makeMap, newObj, Sem.run, go_sem]
    · exact (s.new (.map #[] 0)).mp fun _ e => sep_head e fun k' x => ⟨[], 0, x.kind, by simp, rfl, fun _ => rfl⟩
/-- a map's key and value types: integer keys -/
structure MapT (P : Program) (t : TypeId) (k : IntKind) (zs : Value) : Prop where
  ex : ∃ kt vt i, P.underlying t = some (.map kt vt) ∧ P.underlying kt = some (.int k) ∧ P.info? vt = some i ∧ i.zero = some zs
def mapz (P : Program) (t : TypeId) : Option (IntKind × Value) :=
  match P.underlying t with
  | some (.map kt vt) => (match P.underlying kt with
    | some (.int k) => ((P.info? vt).bind (·.zero)).map fun z => (k, z)
    | _ => none)
  | _ => none
theorem MapT.of {zs : Value} (h : mapz P t = some (k, zs)) : MapT P t k zs := by
  unfold mapz at h
  split at h
  · rename_i kt vt hu
    split at h
    · rename_i k' hk
      cases hi : P.info? vt with
      | none => simp [hi] at h
      | some i =>
        cases hz : i.zero with
        | none => simp [hi, hz] at h
        | some z =>
          simp [hi, hz] at h
          obtain ⟨rfl, rfl⟩ := h
          exact ⟨kt, vt, i, hu, hk, hi, hz⟩
    · cases h
  · cases h
theorem run_lookup {f : Int → Option Value} {b m : Nat} {a : Int} {zs : Value} {w : World} (hT : MapT P t k zs) (s : Sat E L w) (p : Pick L (mp b k f m) L') (ok : Bool) :
    (Instr.lookup t (.map (some b)) (.int k a) ok).run P w = .ok (if ok then .tuple #[(f a).getD zs, .bool (f a).isSome] else (f a).getD zs) w := by
  obtain ⟨kt, vt, i, h1, h2, h3, h4⟩ := hT.ex
  obtain ⟨l, c, hb, hn, hm, hf⟩ := s.mp_at p
  have hck := run_checkKey (P := P) (w := w) (kt := kt) (k := .int k a) h2 (by simp [IsKey]) (l.map (ent k)).toArray.isEmpty 9999
  have hfk := run_findKey (P := P) (w := w) (kt := kt) h2 (findNow_fi k a l 0)
  have hg := fi_get l a 0
  rw [← hf] at hg
  simp only [Instr.lookup, Sem.run_bind, run_underlying h1, Result.andThen_ok, MapKept.run_getObj_map hb, hck, hfk, Sem.run_pure]
  cases hfi : fi l a 0 with
  | none =>
    rw [hfi] at hg
    simp only [Option.map_none] at hg
    simp only [zeroValue, typeInfo, Sem.run_bind, Result.andThen_ok]
    rw [← hg]
    cases ok <;> simp [h3, h4]
  | some jv =>
    rw [hfi] at hg
    simp only [Option.map_some] at hg
    rw [← hg]
    cases ok <;> simp
theorem y_lookup {f : Int → Option Value} {b m : Nat} {a : Int} {zs : Value} (hT : MapT P t k zs) (hx : evo st x = some (.map (some b))) (hy : evo st y = some (.int k a)) (p : Pick L (mp b k f m) L') :
    Yv E n ds st L P ⟨some d, .lookup t x y false, ty, pos, af, g⟩ ((f a).getD zs) := fun ac w fr s => by
  simp only [execOp, fr.ev hx, fr.ev hy, Sem.run_bind, run_lookup hT s p false]
  rfl
theorem y_lookup2 {f : Int → Option Value} {b m : Nat} {a : Int} {zs : Value} (hT : MapT P t k zs) (hx : evo st x = some (.map (some b))) (hy : evo st y = some (.int k a)) (p : Pick L (mp b k f m) L') :
    Yv E n ds st L P ⟨some d, .lookup t x y true, ty, pos, af, g⟩ (.tuple #[(f a).getD zs, .bool (f a).isSome]) := fun ac w fr s => by
  simp only [execOp, fr.ev hx, fr.ev hy, Sem.run_bind, run_lookup hT s p true]
  rfl
theorem set_heap {w : World} {b : Nat} {o : Obj} {o0 : Obj} (h : w.heap[b]? = some o0) : ({ w with heap := w.heap.setIfInBounds b o } : World).heap[b]? = some o := by
  have := (Array.getElem?_eq_some_iff.1 h).1
  simp [this]
theorem set_heap_ne {w : World} {b : Nat} {o : Obj} {x : Nat} (h : x ≠ b) : ({ w with heap := w.heap.setIfInBounds b o } : World).heap[x]? = w.heap[x]? := by
  simp [Array.getElem?_setIfInBounds_ne (Ne.symm h)]
theorem Hd.mapUpdate {f : Int → Option Value} {b m : Nat} {a : Int} {zs : Value} (hT : MapT P t k zs) (hx : evo st x = some (.map (some b))) (hy : evo st y = some (.int k a)) (hz : evo st z = some v) (p : Pick L (mp b k f m) L')
    (K : Hd E n ds st (mp b k (fun c => if c = a then some v else f c) (if (f a).isSome then m else m + 1) :: L') (LW r P ops Q rest)) :
    Hd E n ds st L (LW r P ops Q (⟨none, .mapUpdate t x y z, ty, pos, af, none⟩ :: rest)) :=
  Hd.opu rfl (by simp) fun ac w fr s => by
    obtain ⟨kt, vt, i, h1, h2, h3, h4⟩ := hT.ex
    obtain ⟨l, c, hb, hn, hm, hf⟩ := s.mp_at p
    have hck := run_checkKey (P := P) (w := w) (kt := kt) (k := .int k a) h2 (by simp [IsKey]) false 9999
    have hfk := run_findKey (P := P) (w := w) (kt := kt) h2 (findNow_fi k a l 0)
    have hg := fi_get l a 0
    rw [← hf] at hg
    have hsb : Instr.sameBits 10000 (.int k a) (.int k a) = true := by simp [Instr.sameBits]
    cases hfi : fi l a 0 with
    | none =>
      rw [hfi] at hg hfk
      simp only [Option.map_none] at hg
      have hno := fi_none hfi
      refine ⟨{ w with heap := w.heap.setIfInBounds b (.map ((l ++ [(a, v, c)]).map (ent k)).toArray (c + 1)) }, ?_, K _ _ fr ?_⟩
      · have e : ((l.map (ent k)).toArray.push { key := .int k a, val := v, born := c }) = ((l ++ [(a, v, c)]).map (ent k)).toArray := by apply Array.ext'; simp [ent]
        simp only [execOp, fr.ev hx, fr.ev hy, fr.ev hz, Instr.mapUpdate, Sem.run_bind, run_underlying h1, Result.andThen_ok, MapKept.run_getObj_map hb, hck, hfk, MapKept.run_setObj_map _ hb, e, Sem.run_pure]
      · refine Sat.putMp s p rfl rfl rfl (fun x hx => set_heap_ne hx) (set_heap hb) ?_ ?_ (fun b' => ?_)
        · rw [List.map_append, List.nodup_append]
          refine ⟨hn, by simp, fun x hx y hy => ?_⟩
          obtain ⟨e, he, rfl⟩ := List.mem_map.1 hx
          simp at hy; subst hy
          exact hno e he
        · rw [← hg]; simp [hm]
        · rw [getKV_app l a b' v c hno, hf]
    | some jv =>
      obtain ⟨j, u⟩ := jv
      rw [hfi] at hg hfk
      simp only [Option.map_some] at hg
      obtain ⟨bo, _, hj⟩ := fi_at l a 0 j u hfi
      rw [Nat.sub_zero] at hj
      have hjl := (List.getElem?_eq_some_iff.1 hj).1
      have hj' : l[j] = (a, u, bo) := by have h := hj; rw [List.getElem?_eq_getElem hjl] at h; simpa using h
      refine ⟨{ w with heap := w.heap.setIfInBounds b (.map ((l.set j (a, v, bo)).map (ent k)).toArray c) }, ?_, K _ _ fr ?_⟩
      · have e0 : (((l.map (ent k)).toArray[j]?).map (·.key)).getD (.int k a) = .int k a := by simp [hj, ent]
        have e : (l.map (ent k)).toArray.modify j (fun e => { e with key := .int k a, val := v }) = ((l.set j (a, v, bo)).map (ent k)).toArray := by
          apply Array.ext'
          rw [Array.toList_modify]
          apply List.ext_getElem?
          intro q
          simp only [List.getElem?_modify, List.getElem?_map, List.getElem?_set]
          by_cases hq : j = q
          · subst hq; simp [hjl, ent, hj']
          · simp [hq]
        simp only [execOp, fr.ev hx, fr.ev hy, fr.ev hz, Instr.mapUpdate, Sem.run_bind, run_underlying h1, Result.andThen_ok, MapKept.run_getObj_map hb, hck, hfk, Instr.keyThatStays, e0, hsb, if_true, Sem.run_pure, MapKept.run_setObj_map _ hb, e]
      · refine Sat.putMp s p rfl rfl rfl (fun x hx => set_heap_ne hx) (set_heap hb) ?_ ?_ (fun b' => ?_)
        · rw [List.map_set]
          have : ((l.map (·.1)).set j a) = l.map (·.1) := by
            apply List.ext_getElem?
            intro q
            rw [List.getElem?_set]
            by_cases hq : j = q
            · subst hq; simp [hjl, hj']
            · rw [if_neg hq]
          rw [this]; exact hn
        · rw [← hg]; simp [hm]
        · rw [modify_get l j a u v bo hj hn, hf]
theorem Hd.mapDelete {f : Int → Option Value} {b m : Nat} {a : Int} {zs : Value} (hT : MapT P t k zs) (hx : evo st x = some (.map (some b))) (hy : evo st y = some (.int k a)) (p : Pick L (mp b k f m) L')
    (K : Hd E n ds ((d, .tuple #[]) :: st) (mp b k (fun c => if c = a then none else f c) (if (f a).isSome then m - 1 else m) :: L') (LW r P ops Q rest)) (hd : d < n := by decide) :
    Hd E n ds st L (LW r P ops Q (⟨some d, .call ⟨.builtin .delete, #[x, y], #[t, t2]⟩, ty, pos, af, none⟩ :: rest)) :=
  Hd.op rfl (by simp) fun ac w fr s => by
    obtain ⟨kt, vt, i, h1, h2, h3, h4⟩ := hT.ex
    obtain ⟨l, c, hb, hn, hm, hf⟩ := s.mp_at p
    have hck := run_checkKey (P := P) (w := w) (kt := kt) (k := .int k a) h2 (by simp [IsKey]) l.isEmpty 9999
    have hfk := run_findKey (P := P) (w := w) (kt := kt) h2 (findNow_fi k a l 0)
    have hg := fi_get l a 0
    rw [← hf] at hg
    cases hfi : fi l a 0 with
    | none =>
      rw [hfi] at hg hfk
      simp only [Option.map_none] at hg
      have hno := fi_none hfi
      refine ⟨.tuple #[], { w with heap := w.heap.setIfInBounds b (.map (l.map (ent k)).toArray c) }, ?_, K _ _ (fr.put hd _) ?_⟩
      · simp only [execOp, resolve, List.map_toArray, List.map_cons, List.map_nil, fr.ev hx, fr.ev hy, invoke, builtin, Builtin.delete_, Sem.run_bind, Sem.run_pure, Result.andThen_ok]
        simp [run_underlying h1, MapKept.run_getObj_map hb, hck, hfk, MapKept.run_setObj_map _ hb]
      · refine Sat.putMp s p rfl rfl rfl (fun x hx => set_heap_ne hx) (set_heap hb) hn ?_ (fun b' => ?_)
        · rw [← hg]; simpa using hm
        · rw [← hf]
          by_cases hb' : b' = a
          · subst hb'; rw [if_pos rfl, ← hg]
          · rw [if_neg hb']
    | some jv =>
      obtain ⟨j, u⟩ := jv
      rw [hfi] at hg hfk
      simp only [Option.map_some] at hg
      obtain ⟨bo, _, hj⟩ := fi_at l a 0 j u hfi
      rw [Nat.sub_zero] at hj
      have hjl := (List.getElem?_eq_some_iff.1 hj).1
      have hj' : l[j] = (a, u, bo) := by have h := hj; rw [List.getElem?_eq_getElem hjl] at h; simpa using h
      refine ⟨.tuple #[], { w with heap := w.heap.setIfInBounds b (.map ((l.eraseIdx j).map (ent k)).toArray c) }, ?_, K _ _ (fr.put hd _) ?_⟩
      · have e : (l.map (ent k)).toArray.eraseIdxIfInBounds j = ((l.eraseIdx j).map (ent k)).toArray := by
          apply Array.ext'
          rw [Array.toList_eraseIdxIfInBounds]
          simp only [List.eraseIdx_eq_take_drop_succ, List.map_append, List.map_take, List.map_drop]
        simp only [execOp, resolve, List.map_toArray, List.map_cons, List.map_nil, fr.ev hx, fr.ev hy, invoke, builtin, Builtin.delete_, Sem.run_bind, Sem.run_pure, Result.andThen_ok]
        have e2 : (l.map (ent k)).eraseIdx j = (l.eraseIdx j).map (ent k) := by simp only [List.eraseIdx_eq_take_drop_succ, List.map_append, List.map_take, List.map_drop]
        simp [run_underlying h1, MapKept.run_getObj_map hb, hck, hfk, MapKept.run_setObj_map _ hb, e, e2]
      · refine Sat.putMp s p rfl rfl rfl (fun x hx => set_heap_ne hx) (set_heap hb) ?_ ?_ (fun b' => ?_)
        · exact (hn.sublist (List.Sublist.map _ (List.eraseIdx_sublist l j)))
        · rw [← hg]; simp [List.length_eraseIdx, hm]; omega
        · rw [erase_get l j a u bo hj hn, hf]
theorem y_lenM {f : Int → Option Value} {b m : Nat} {kt vt : TypeId} (hu : P.underlying t = some (.map kt vt)) (hx : evo st x = some (.map (some b))) (p : Pick L (mp b k f m) L') :
    Yv E n ds st L P ⟨some d, .call ⟨.builtin .len, #[x], #[t]⟩, ty, pos, af, g⟩ (.int .i64 (m : Int)) := fun a w fr s => by
  obtain ⟨l, c, hb, hn, hm, hf⟩ := s.mp_at p
  simp only [execOp, resolve, List.map_toArray, List.map_cons, List.map_nil, fr.ev hx]
  simp [invoke, builtin, Builtin.len_, run_underlying hu, MapKept.run_getObj_map hb, goInt, go_sem, hm]
end
end Go.RX
