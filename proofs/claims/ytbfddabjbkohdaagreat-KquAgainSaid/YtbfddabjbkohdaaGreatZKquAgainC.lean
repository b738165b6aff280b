/-
  Maps whose keys are structs of two integers (printed after RxM and RxN). No program is named here. From a contract that answers true and leaves the old memory alone to the law's row. No program is named here. Arguments opened, whatever their shape (numbers, bools, strings, structs, slices, one in the other): a Lean value, its cells, and what can be read of the old memory. No program is named here. Facts of the seat's program: its types, which functions have a body, what is built. copy(dst, src): dst a part of a slice that is owned. No program is named here. 'and' and 'or' within a region that only reads: their ways meet again. No program is named here. Iterators whose own memory, at the end, tells what they told. No program is named here. Functions of three results. No program is named here.
-/
import Derived.ProofKit
import Derived.Carry
import Derived.Deep.Slices
import Derived.DataElems
import Derived.Test.YtbfddabjbkohdaaGreatRows
import Derived.Laws.CopyOwn
import Derived.Test.YtbfddabjbkohdaaGreatZKquAgainB
namespace Go.RX
set_option linter.unusedSimpArgs false
set_option linter.unusedVariables false
set_option linter.unnecessarySimpa false
open Go.MapKept
section
variable {E : World} {n : Nat} {ds : List Deferred} {st st' : List (Nat × Value)} {L L' L'' : List SP} {r : Option Nat} {P : Program} {Q : Exit → Act → World → Prop} {ops : Array Oper} {rest : List Oper}
variable {d : Nat} {ty t t2 : TypeId} {pos : String} {af : Array Edge} {g : Option (Nat × Bool)} {x y z : Operand} {v u : Value} {k : IntKind} {p q : Bool}
abbrev kyP (k : IntKind) (a : Int × Int) : Value := .agg #[.int k a.1, .int k a.2]
abbrev KVP := (Int × Int) × Value × Nat
def entP (k : IntKind) (e : KVP) : MapEntry := ⟨kyP k e.1, e.2.1, e.2.2⟩
structure KeyP (P : Program) (kt : TypeId) (k : IntKind) : Prop where
 eq : eqfl P 8 kt = some [.int k, .int k]
 ag : agk P kt = some true
 ck : ∃ f0 f1 : Field, P.underlying kt = some (.struct #[f0, f1]) ∧ P.underlying f0.type = some (.int k) ∧ P.underlying f1.type = some (.int k) ∧ agk P f0.type = some false ∧ agk P f1.type = some false ∧ f0.offset = 0 ∧ f1.offset = 1
def isIn : Option TypeDesc → IntKind → Bool
 | some (.int a), k => decide (a = k)
 | _, _ => false
def isII : Option (List TypeDesc) → IntKind → Bool
 | some [.int a, .int b], k => decide (a = k) && decide (b = k)
 | _, _ => false
theorem isIn_of {o : Option TypeDesc} {k : IntKind} (h : isIn o k = true) : o = some (.int k) := by
 unfold isIn at h
 split at h
 ·simp only [decide_eq_true_eq] at h; rw [h]
 ·cases h
theorem isII_of {o : Option (List TypeDesc)} {k : IntKind} (h : isII o k = true) : o = some [.int k, .int k] := by
 unfold isII at h
 split at h
 ·simp only [Bool.and_eq_true, decide_eq_true_eq] at h; rw [h.1, h.2]
 ·cases h
def keyPb (P : Program) (kt : TypeId) (k : IntKind) : Bool :=
 isII (eqfl P 8 kt) k && decide (agk P kt = some true) && (match P.underlying kt with
  | some (.struct fs) => (match fs.toList with
   | [f0, f1] => isIn (P.underlying f0.type) k && isIn (P.underlying f1.type) k && decide (agk P f0.type = some false) && decide (agk P f1.type = some false) && Nat.beq f0.offset 0 && Nat.beq f1.offset 1
   | _ => false)
  | _ => false)
theorem KeyP.of {kt : TypeId} (h : keyPb P kt k = true) : KeyP P kt k := by
 unfold keyPb at h; simp only [Bool.and_eq_true, decide_eq_true_eq] at h
 obtain ⟨⟨h1, h2⟩, h3⟩ := h
 refine ⟨isII_of h1, h2, ?_⟩
 split at h3
 ·rename_i fs hu
  split at h3
  ·rename_i f0 f1 hf
   simp only [Bool.and_eq_true, decide_eq_true_eq] at h3
   obtain ⟨⟨⟨⟨⟨a, b⟩, c⟩, d⟩, e⟩, f⟩ := h3
   refine ⟨f0, f1, ?_, isIn_of a, isIn_of b, c, d, Nat.eq_of_beq_eq_true e, Nat.eq_of_beq_eq_true f⟩; rw [hu]
   obtain ⟨l⟩ := fs
   simp only at hf; rw [hf]
  ·cases h3
 ·cases h3
theorem run_checkKeyP {w : World} {kt : TypeId} {a : Int × Int} (h : KeyP P kt k) (e : Bool) (n : Nat) : (Instr.checkKey e (n + 2) kt (kyP k a)).run P w = .ok () w := by
 obtain ⟨f0, f1, hu, u0, u1, a0, a1, o0, o1⟩ := h.ck
 have p0 : (part f0.type #[.int k a.1, .int k a.2] f0.offset).run P w = .ok (.int k a.1) w := run_part1 a0 (by rw [o0]; rfl) w
 have p1 : (part f1.type #[.int k a.1, .int k a.2] f1.offset).run P w = .ok (.int k a.2) w := run_part1 a1 (by rw [o1]; rfl) w
 have c0 : (Instr.checkKey e (n + 1) f0.type (.int k a.1)).run P w = .ok () w := run_checkKey u0 (by simp [IsKey]) e n
 have c1 : (Instr.checkKey e (n + 1) f1.type (.int k a.2)).run P w = .ok () w := run_checkKey u1 (by simp [IsKey]) e n
 rw [Instr.checkKey]; simp only [Sem.run_bind, run_underlying hu, Result.andThen_ok]
 by_cases n0 : f0.name = "_" <;> by_cases n1 : f1.name = "_" <;> simp [n0, n1, p0, p1, c0, c1, Sem.run_bind]
theorem run_equalP {w : World} {kt : TypeId} {a b : Int × Int} (h : KeyP P kt k) : (Op.equal kt (kyP k a) (kyP k b)).run P w = .ok (decide (a = b)) w := by
 have := eqfl_run 8 kt _ h.eq 10000 (by omega) [.int k a.1, .int k a.2] [.int k b.1, .int k b.2] (kyP k a) (kyP k b) w rfl rfl (by simp [fits, fitv]) (.inl ⟨h.ag, rfl⟩) (.inl ⟨h.ag, rfl⟩)
 rw [show Op.equal kt (kyP k a) (kyP k b) = Op.equalIn 10000 kt (kyP k a) (kyP k b) from rfl, this]
 congr 1
 obtain ⟨a1, a2⟩ := a
 obtain ⟨b1, b2⟩ := b
 by_cases h1 : a1 = b1 <;> by_cases h2 : a2 = b2 <;> simp [allEq, eqv, h1, h2]
structure MapTP (P : Program) (t : TypeId) (k : IntKind) (zs : Value) : Prop where
 ex : ∃ kt vt i, P.underlying t = some (.map kt vt) ∧ KeyP P kt k ∧ P.info? vt = some i ∧ i.zero = some zs
def mapzP (P : Program) (t : TypeId) (k : IntKind) : Option Value :=
 match P.underlying t with
 | some (.map kt vt) => bif keyPb P kt k then ((P.info? vt).bind (·.zero)) else none
 | _ => none
theorem MapTP.of {zs : Value} (h : mapzP P t k = some zs) : MapTP P t k zs := by
 unfold mapzP at h
 split at h
 ·rename_i kt vt hu
  cases hk : keyPb P kt k <;> rw [hk] at h
  ·cases h
  ·cases hi : P.info? vt with
   | none => simp [hi] at h
   | some i =>
    cases hz : i.zero with
    | none => simp [hi, hz] at h
    | some z =>
     simp [hi, hz] at h; subst h; exact ⟨kt, vt, i, hu, KeyP.of hk, hi, hz⟩
 ·cases h
def getKVP (l : List KVP) (a : Int × Int) : Option Value := (l.find? fun e => e.1 == a).map (·.2.1)
def fiP (l : List KVP) (a : Int × Int) : Nat → Option (Nat × Value) := fun i => match l with
 | [] => none
 | e :: r => if a = e.1 then some (i, e.2.1) else fiP r a (i + 1)
theorem run_findAskP {w : World} {kt : TypeId} (h : KeyP P kt k) : ∀ (l : List KVP) (a : Int × Int) (i : Nat), (Instr.findAsking kt (kyP k a) (l.map (entP k)) i).run P w = .ok (fiP l a i) w
 | [], _, _ => rfl
 | e :: r, a, i => by
  rw [List.map_cons, Instr.findAsking]; simp only [Sem.run_bind, entP, run_equalP h, Result.andThen_ok]; unfold fiP
  by_cases hc : a = e.1
  ·simp [hc]
  ·rw [if_neg hc]
   simp only [hc, decide_false, Bool.false_eq_true, if_false]; exact run_findAskP h r a (i + 1)
theorem run_findKeyP {w : World} {kt : TypeId} (h : KeyP P kt k) (l : List KVP) (a : Int × Int) (i : Nat) : (Instr.findKey kt (kyP k a) (l.map (entP k))).run P w = .ok (fiP l a 0) w := by
 obtain ⟨f0, f1, hu, _⟩ := h.ck
 have := run_findAskP (w := w) h l a 0
 cases l with
 | nil => simp [Instr.findKey, run_underlying hu, Instr.findNow, fiP]
 | cons e r =>
  simp only [List.map_cons] at this ⊢; simpa [Instr.findKey, run_underlying hu, Instr.findNow, Instr.sameNow] using this
theorem fi_getP : ∀ (l : List KVP) (a : Int × Int) (i : Nat), (fiP l a i).map (·.2) = getKVP l a
 | [], _, _ => rfl
 | e :: r, a, i => by
  unfold fiP getKVP
  by_cases h : a = e.1
  ·rw [if_pos h]; simp [h]
  ·rw [if_neg h, fi_getP r a (i + 1)]
   have : (e.1 == a) = false := by simpa using Ne.symm h
   simp [getKVP, List.find?_cons, this]
theorem fi_atP : ∀ (l : List KVP) (a : Int × Int) (i j : Nat) (v : Value), fiP l a i = some (j, v) → ∃ b, i ≤ j ∧ l[j - i]? = some (a, v, b)
 | [], _, _, _, _, h => by cases h
 | e :: r, a, i, j, v, h => by
  unfold fiP at h
  by_cases hc : a = e.1
  ·rw [if_pos hc] at h
   simp only [Option.some.injEq, Prod.mk.injEq] at h
   obtain ⟨rfl, rfl⟩ := h
   exact ⟨e.2.2, Nat.le_refl _, by simp [hc]⟩
  ·rw [if_neg hc] at h
   obtain ⟨b, h1, h2⟩ := fi_atP r a (i + 1) j v h
   refine ⟨b, by omega, ?_⟩; rw [show j - i = (j - (i + 1)) + 1 by omega]; simpa using h2
theorem fi_noneP : ∀ {l : List KVP} {a : Int × Int} {i : Nat}, fiP l a i = none → ∀ e ∈ l, e.1 ≠ a
 | [], _, _, _ => fun e he => by cases he
 | e :: r, a, i, h => by
  unfold fiP at h
  by_cases hc : a = e.1
  ·rw [if_pos hc] at h; cases h
  ·rw [if_neg hc] at h
   intro e' he'
   rcases List.mem_cons.1 he' with rfl | he'
   ·exact Ne.symm hc
   ·exact fi_noneP h e' he'
theorem getKV_noneP {l : List KVP} {a : Int × Int} (h : ∀ e ∈ l, e.1 ≠ a) : getKVP l a = none := by
 unfold getKVP; rw [Option.map_eq_none_iff, List.find?_eq_none]; intro e he; simpa using h e he
theorem getKV_appP (l : List KVP) (a b : Int × Int) (v : Value) (c : Nat) (h : ∀ e ∈ l, e.1 ≠ a) : getKVP (l ++ [(a, v, c)]) b = if b = a then some v else getKVP l b := by
 unfold getKVP; rw [List.find?_append]
 by_cases hb : b = a
 ·subst hb
  have : l.find? (fun e => e.1 == b) = none := by rw [List.find?_eq_none]; intro e he; simpa using h e he
  rw [this]; simp
 ·rw [if_neg hb]
  have : ([(a, v, c)] : List KVP).find? (fun e => e.1 == b) = none := by simp [Ne.symm hb]
  rw [this]; simp
theorem modify_getP : ∀ (l : List KVP) (j : Nat) (a : Int × Int) (u v : Value) (c : Nat), l[j]? = some (a, u, c) → (l.map (·.1)).Nodup → ∀ b, getKVP (l.set j (a, v, c)) b = if b = a then some v else getKVP l b
 | [], _, _, _, _, _, h, _, _ => by simp at h
 | e :: r, 0, a, u, v, c, h, hn, b => by
  simp only [List.getElem?_cons_zero, Option.some.injEq] at h; subst h; simp only [List.set_cons_zero, getKVP, List.find?_cons]
  by_cases hb : b = a
  ·subst hb; simp
  ·have : (a == b) = false := by simpa using Ne.symm hb
   simp [this, hb]
 | e :: r, j + 1, a, u, v, c, h, hn, b => by
  simp only [List.getElem?_cons_succ] at h; simp only [List.map_cons, List.nodup_cons] at hn
  have ih := modify_getP r j a u v c h hn.2 b
  simp only [List.set_cons_succ, getKVP, List.find?_cons]
  have hea : e.1 ≠ a := fun he => hn.1 (by rw [he]; exact List.mem_map.2 ⟨_, List.mem_of_getElem? h, rfl⟩)
  by_cases hb : b = a
  ·subst hb
   have : (e.1 == b) = false := by simpa using hea
   simp only [this]; simpa [getKVP] using ih
  ·cases hc : (e.1 == b) with
   | true => simp [hb]
   | false => simpa [getKVP] using ih
theorem erase_getP : ∀ (l : List KVP) (j : Nat) (a : Int × Int) (u : Value) (c : Nat), l[j]? = some (a, u, c) → (l.map (·.1)).Nodup → ∀ b, getKVP (l.eraseIdx j) b = if b = a then none else getKVP l b
 | [], _, _, _, _, h, _, _ => by simp at h
 | e :: r, 0, a, u, c, h, hn, b => by
  simp only [List.getElem?_cons_zero, Option.some.injEq] at h; subst h; simp only [List.map_cons, List.nodup_cons] at hn; simp only [List.eraseIdx_cons_zero]
  by_cases hb : b = a
  ·subst hb
   rw [if_pos rfl]; exact getKV_noneP fun e he h => hn.1 (by rw [← h]; exact List.mem_map.2 ⟨e, he, rfl⟩)
  ·have : (a == b) = false := by simpa using Ne.symm hb
   simp [getKVP, List.find?_cons, this, hb]
 | e :: r, j + 1, a, u, c, h, hn, b => by
  simp only [List.getElem?_cons_succ] at h; simp only [List.map_cons, List.nodup_cons] at hn
  have ih := erase_getP r j a u c h hn.2 b
  simp only [List.eraseIdx_cons_succ, getKVP, List.find?_cons]
  have hea : e.1 ≠ a := fun he => hn.1 (by rw [he]; exact List.mem_map.2 ⟨_, List.mem_of_getElem? h, rfl⟩)
  by_cases hb : b = a
  ·subst hb
   have : (e.1 == b) = false := by simpa using hea
   simp only [this]; simpa [getKVP] using ih
  ·cases hc : (e.1 == b) with
   | true => simp [hb]
   | false => simpa [getKVP] using ih
structure mpP (b : Nat) (k : IntKind) (f : Int × Int → Option Value) (m : Nat) (h : PH) : Prop where
 at_ : ∃ (l : List KVP) (clock : Nat), h (b, none) = some (.obj (.map (l.map (entP k)).toArray clock)) ∧ (l.map (·.1)).Nodup ∧ l.length = m ∧ (∀ a, f a = getKVP l a) ∧ (l.map (·.2.2)).Nodup ∧ ∀ e ∈ l, e.2.2 < clock
theorem Sat.mp_atP {f : Int × Int → Option Value} {b m : Nat} {w : World} (s : Sat E L w) (p : Pick L (RX.mpP b k f m) L') : ∃ (l : List KVP) (clock : Nat), w.heap[b]? = some (.map (l.map (entP k)).toArray clock) ∧ (l.map (·.1)).Nodup ∧ l.length = m ∧ (∀ a, f a = getKVP l a) ∧ (l.map (·.2.2)).Nodup ∧ ∀ e ∈ l, e.2.2 < clock := by
 obtain ⟨h1, s1, ⟨l, c, hb, r⟩⟩ := sep.one p s.2.2.2
 exact ⟨l, c, (hpo_obj (s1 _ _ hb)).1, r⟩
theorem Sat.putMpP {f f' : Int × Int → Option Value} {b m m' : Nat} {w w' : World} {l' : List KVP} {c' : Nat} (s : Sat E L w) (p : Pick L (RX.mpP b k f m) L') (hos : (w'.os, w'.drawn) = (w.os, w.drawn)) (ht : w'.tape = w.tape) (ho : w'.output = w.output)
  (hk : ∀ x, x ≠ b → w'.heap[x]? = w.heap[x]?) (hb : w'.heap[b]? = some (.map (l'.map (entP k)).toArray c')) (hn : (l'.map (·.1)).Nodup) (hm : l'.length = m') (hf : ∀ a, f' a = getKVP l' a) (hB : (l'.map (·.2.2)).Nodup ∧ ∀ e ∈ l', e.2.2 < c') : Sat E (RX.mpP b k f' m' :: L') w' := by
 obtain ⟨l, c, hb0, _⟩ := s.mp_atP p
 refine ⟨os_drawn hos s.1, ht.trans s.2.1, ho.trans s.2.2.1, sep_upd (p.sep s.2.2.2) fun h1 x s1 => ⟨fun z hz => ?_, ⟨l', c', ?_, hn, hm, hf, hB⟩⟩⟩
 ·obtain ⟨zb, zi⟩ := z
  by_cases hzb : zb = b
  ·subst hzb
   obtain ⟨l0, c0, hx, _⟩ := x.at_
   cases zi with
   | none => rw [hx] at hz; cases hz
   | some i =>
    show hpo w'.heap[zb]? _ = hpo w.heap[zb]? _
    rw [hb, hb0]; rfl
  ·show hpo _ _ = hpo _ _
   rw [hk zb hzb]
 ·obtain ⟨l0, c0, hx, _⟩ := x.at_
  show (if (h1 (b, none)).isSome then RX.hp w' (b, none) else none) = _
  rw [hx]
  show hpo w'.heap[b]? none = _
  rw [hb]; rfl
theorem Hd.makeMapP (k : IntKind) (K : ∀ b, Hd E n ds ((d, .map (some b)) :: st) (mpP b k (fun _ => none) 0 :: L) (LW r P ops Q rest)) (hd : d < n := by decide) :
  Hd E n ds st L (LW r P ops Q (⟨some d, .makeMap t none, ty, pos, af, none⟩ :: rest)) :=
 Hd.op rfl (by simp) fun a w f s => by
  refine ⟨.map (some w.heap.size), { w with heap := w.heap.push (.map #[] 0) }, ?_, K w.heap.size _ _ (f.put hd _) ?_⟩
  ·simp only [execOp]
   simp [Instr.makeMap, newObj, Sem.run, go_sem]
  ·exact (s.new (.map #[] 0)).mp fun _ e => sep_head e fun k' x => ⟨[], 0, x.kind, by simp, rfl, fun _ => rfl, by simp, by simp⟩
theorem run_lookupP {f : Int × Int → Option Value} {b m : Nat} {a : Int × Int} {zs : Value} {w : World} (hT : MapTP P t k zs) (s : Sat E L w) (p : Pick L (mpP b k f m) L') (ok : Bool) :
  (Instr.lookup t (.map (some b)) (kyP k a) ok).run P w = .ok (if ok then .tuple #[(f a).getD zs, .bool (f a).isSome] else (f a).getD zs) w := by
 obtain ⟨kt, vt, i, h1, h2, h3, h4⟩ := hT.ex
 obtain ⟨l, c, hb, hn, hm, hf, hbn, hbl⟩ := s.mp_atP p
 have hck := run_checkKeyP (P := P) (w := w) (a := a) h2 (l.map (entP k)).toArray.isEmpty 9998
 have hfk := run_findKeyP (P := P) (w := w) h2 l a 0
 have hg := fi_getP l a 0
 rw [← hf] at hg; simp only [Instr.lookup, Sem.run_bind, run_underlying h1, Result.andThen_ok, MapKept.run_getObj_map hb, hck, hfk, Sem.run_pure]
 cases hfi : fiP l a 0 with
 | none =>
  rw [hfi] at hg; simp only [Option.map_none] at hg; simp only [zeroValue, typeInfo, Sem.run_bind, Result.andThen_ok]; rw [← hg]
  cases ok <;> simp [h3, h4]
 | some jv =>
  rw [hfi] at hg; simp only [Option.map_some] at hg; rw [← hg]
  cases ok <;> simp
theorem y_lookupP {f : Int × Int → Option Value} {b m : Nat} {a : Int × Int} {zs : Value} (hT : MapTP P t k zs) (hx : evo st x = some (.map (some b))) (hy : evo st y = some (kyP k a)) (p : Pick L (mpP b k f m) L') :
  Yv E n ds st L P ⟨some d, .lookup t x y false, ty, pos, af, g⟩ ((f a).getD zs) := fun ac w fr s => by
 simp only [execOp, fr.ev hx, fr.ev hy, Sem.run_bind, run_lookupP hT s p false]
 rfl
theorem y_lookup2P {f : Int × Int → Option Value} {b m : Nat} {a : Int × Int} {zs : Value} (hT : MapTP P t k zs) (hx : evo st x = some (.map (some b))) (hy : evo st y = some (kyP k a)) (p : Pick L (mpP b k f m) L') :
  Yv E n ds st L P ⟨some d, .lookup t x y true, ty, pos, af, g⟩ (.tuple #[(f a).getD zs, .bool (f a).isSome]) := fun ac w fr s => by
 simp only [execOp, fr.ev hx, fr.ev hy, Sem.run_bind, run_lookupP hT s p true]
 rfl
theorem Hd.mapUpdateP {f : Int × Int → Option Value} {b m : Nat} {a : Int × Int} {zs : Value} (hT : MapTP P t k zs) (hx : evo st x = some (.map (some b))) (hy : evo st y = some (kyP k a)) (hz : evo st z = some v) (p : Pick L (mpP b k f m) L')
  (K : Hd E n ds st (mpP b k (fun c => if c = a then some v else f c) (if (f a).isSome then m else m + 1) :: L') (LW r P ops Q rest)) :
  Hd E n ds st L (LW r P ops Q (⟨none, .mapUpdate t x y z, ty, pos, af, none⟩ :: rest)) :=
 Hd.opu rfl (by simp) fun ac w fr s => by
  obtain ⟨kt, vt, i, h1, h2, h3, h4⟩ := hT.ex
  obtain ⟨l, c, hb, hn, hm, hf, hbn, hbl⟩ := s.mp_atP p
  have hck := run_checkKeyP (P := P) (w := w) (a := a) h2 false 9998
  have hfk := run_findKeyP (P := P) (w := w) h2 l a 0
  have hg := fi_getP l a 0
  rw [← hf] at hg
  have hsb : Instr.sameBits 10000 (kyP k a) (kyP k a) = true := by simp [Instr.sameBits]
  cases hfi : fiP l a 0 with
  | none =>
   rw [hfi] at hg hfk; simp only [Option.map_none] at hg
   have hno := fi_noneP hfi
   refine ⟨{ w with heap := w.heap.setIfInBounds b (.map ((l ++ [(a, v, c)]).map (entP k)).toArray (c + 1)) }, ?_, K _ _ fr ?_⟩
   ·have e : ((l.map (entP k)).toArray.push { key := kyP k a, val := v, born := c }) = ((l ++ [(a, v, c)]).map (entP k)).toArray := by apply Array.ext'; simp [entP]
    simp only [execOp, fr.ev hx, fr.ev hy, fr.ev hz, Instr.mapUpdate, Sem.run_bind, run_underlying h1, Result.andThen_ok, MapKept.run_getObj_map hb, hck, hfk, MapKept.run_setObj_map _ hb, e, Sem.run_pure]
   ·refine Sat.putMpP s p rfl rfl rfl (fun x hx => set_heap_ne hx) (set_heap hb) ?_ ?_ (fun b' => ?_) ?_
    ·rw [List.map_append, List.nodup_append]
     refine ⟨hn, by simp, fun x hx y hy => ?_⟩
     obtain ⟨e, he, rfl⟩ := List.mem_map.1 hx
     simp at hy; subst hy; exact hno e he
    ·rw [← hg]; simp [hm]
    ·rw [getKV_appP l a b' v c hno, hf]
    ·refine ⟨?_, fun e he => ?_⟩
     ·rw [List.map_append, List.nodup_append]
      refine ⟨hbn, by simp, fun x hx y hy => ?_⟩
      obtain ⟨e, he, rfl⟩ := List.mem_map.1 hx
      simp at hy; subst hy; exact Nat.ne_of_lt (hbl e he)
     ·rcases List.mem_append.1 he with he | he
      ·exact Nat.lt_succ_of_lt (hbl e he)
      ·obtain rfl : e = (a, v, c) := by simpa using he
       exact Nat.lt_succ_self c
  | some jv =>
   obtain ⟨j, u⟩ := jv
   rw [hfi] at hg hfk; simp only [Option.map_some] at hg
   obtain ⟨bo, _, hj⟩ := fi_atP l a 0 j u hfi
   rw [Nat.sub_zero] at hj
   have hjl := (List.getElem?_eq_some_iff.1 hj).1
   have hj' : l[j] = (a, u, bo) := by have h := hj; rw [List.getElem?_eq_getElem hjl] at h; simpa using h
   refine ⟨{ w with heap := w.heap.setIfInBounds b (.map ((l.set j (a, v, bo)).map (entP k)).toArray c) }, ?_, K _ _ fr ?_⟩
   ·have e0 : (((l.map (entP k)).toArray[j]?).map (·.key)).getD (kyP k a) = kyP k a := by simp [hj, entP]
    have e : (l.map (entP k)).toArray.modify j (fun e => { e with key := kyP k a, val := v }) = ((l.set j (a, v, bo)).map (entP k)).toArray := by
     apply Array.ext'; rw [Array.toList_modify]; apply List.ext_getElem?; intro q; simp only [List.getElem?_modify, List.getElem?_map, List.getElem?_set]
     by_cases hq : j = q
     ·subst hq; simp [hjl, entP, hj']
     ·simp [hq]
    simp only [execOp, fr.ev hx, fr.ev hy, fr.ev hz, Instr.mapUpdate, Sem.run_bind, run_underlying h1, Result.andThen_ok, MapKept.run_getObj_map hb, hck, hfk, Instr.keyThatStays, e0, hsb, if_true, Sem.run_pure, MapKept.run_setObj_map _ hb, e]
   ·refine Sat.putMpP s p rfl rfl rfl (fun x hx => set_heap_ne hx) (set_heap hb) ?_ ?_ (fun b' => ?_) ?_
    ·rw [List.map_set]
     have : ((l.map (·.1)).set j a) = l.map (·.1) := by
      apply List.ext_getElem?; intro q; rw [List.getElem?_set]
      by_cases hq : j = q
      ·subst hq; simp [hjl, hj']
      ·rw [if_neg hq]
     rw [this]; exact hn
    ·rw [← hg]; simp [hm]
    ·rw [modify_getP l j a u v bo hj hn, hf]
    ·refine ⟨?_, fun e he => ?_⟩
     ·rw [List.map_set]
      have : ((l.map (·.2.2)).set j bo) = l.map (·.2.2) := by
       apply List.ext_getElem?; intro q; rw [List.getElem?_set]
       by_cases hq : j = q
       ·subst hq; simp [hjl, hj']
       ·rw [if_neg hq]
      rw [this]; exact hbn
     ·rcases List.mem_or_eq_of_mem_set he with he | rfl
      ·exact hbl e he
      ·exact hbl (a, u, bo) (List.mem_of_getElem? hj)
theorem Hd.mapDelete0P {f : Int × Int → Option Value} {b m : Nat} {a : Int × Int} {zs : Value} (hT : MapTP P t k zs) (hx : evo st x = some (.map (some b))) (hy : evo st y = some (kyP k a)) (p : Pick L (mpP b k f m) L')
  (K : Hd E n ds st (mpP b k (fun c => if c = a then none else f c) (if (f a).isSome then m - 1 else m) :: L') (LW r P ops Q rest)) :
  Hd E n ds st L (LW r P ops Q (⟨none, .call ⟨.builtin .delete, #[x, y], #[t, t2]⟩, ty, pos, af, none⟩ :: rest)) :=
 Hd.op rfl (by simp) fun ac w fr s => by
  obtain ⟨kt, vt, i, h1, h2, h3, h4⟩ := hT.ex
  obtain ⟨l, c, hb, hn, hm, hf, hbn, hbl⟩ := s.mp_atP p
  have hck := run_checkKeyP (P := P) (w := w) (a := a) h2 l.isEmpty 9998
  have hfk := run_findKeyP (P := P) (w := w) h2 l a 0
  have hg := fi_getP l a 0
  rw [← hf] at hg
  cases hfi : fiP l a 0 with
  | none =>
   rw [hfi] at hg hfk; simp only [Option.map_none] at hg
   have hno := fi_noneP hfi
   refine ⟨.tuple #[], { w with heap := w.heap.setIfInBounds b (.map (l.map (entP k)).toArray c) }, ?_, K _ _ fr ?_⟩
   ·simp only [execOp, resolve, List.map_toArray, List.map_cons, List.map_nil, fr.ev hx, fr.ev hy, invoke, builtin, Builtin.delete_, Sem.run_bind, Sem.run_pure, Result.andThen_ok]
    simp [run_underlying h1, MapKept.run_getObj_map hb, hck, hfk, MapKept.run_setObj_map _ hb]
   ·refine Sat.putMpP s p rfl rfl rfl (fun x hx => set_heap_ne hx) (set_heap hb) hn ?_ (fun b' => ?_) ?_
    ·rw [← hg]; simpa using hm
    ·rw [← hf]
     by_cases hb' : b' = a
     ·subst hb'; rw [if_pos rfl, ← hg]
     ·rw [if_neg hb']
    ·exact ⟨hbn, hbl⟩
  | some jv =>
   obtain ⟨j, u⟩ := jv
   rw [hfi] at hg hfk; simp only [Option.map_some] at hg
   obtain ⟨bo, _, hj⟩ := fi_atP l a 0 j u hfi
   rw [Nat.sub_zero] at hj
   have hjl := (List.getElem?_eq_some_iff.1 hj).1
   have hj' : l[j] = (a, u, bo) := by have h := hj; rw [List.getElem?_eq_getElem hjl] at h; simpa using h
   refine ⟨.tuple #[], { w with heap := w.heap.setIfInBounds b (.map ((l.eraseIdx j).map (entP k)).toArray c) }, ?_, K _ _ fr ?_⟩
   ·have e : (l.map (entP k)).toArray.eraseIdxIfInBounds j = ((l.eraseIdx j).map (entP k)).toArray := by
     apply Array.ext'; rw [Array.toList_eraseIdxIfInBounds]; simp only [List.eraseIdx_eq_take_drop_succ, List.map_append, List.map_take, List.map_drop]
    simp only [execOp, resolve, List.map_toArray, List.map_cons, List.map_nil, fr.ev hx, fr.ev hy, invoke, builtin, Builtin.delete_, Sem.run_bind, Sem.run_pure, Result.andThen_ok]
    have e2 : (l.map (entP k)).eraseIdx j = (l.eraseIdx j).map (entP k) := by simp only [List.eraseIdx_eq_take_drop_succ, List.map_append, List.map_take, List.map_drop]
    simp [run_underlying h1, MapKept.run_getObj_map hb, hck, hfk, MapKept.run_setObj_map _ hb, e, e2]
   ·refine Sat.putMpP s p rfl rfl rfl (fun x hx => set_heap_ne hx) (set_heap hb) ?_ ?_ (fun b' => ?_) ?_
    ·exact (hn.sublist (List.Sublist.map _ (List.eraseIdx_sublist l j)))
    ·rw [← hg]; simp [List.length_eraseIdx, hm]; omega
    ·rw [erase_getP l j a u bo hj hn, hf]
    ·exact ⟨hbn.sublist (List.Sublist.map _ (List.eraseIdx_sublist l j)), fun e he => hbl e (List.mem_of_mem_eraseIdx he)⟩
structure MpIP (f : Int × Int → Option Value) (m : Nat) (l : List KVP) (c : Nat) : Prop where
 keys : (l.map (·.1)).Nodup
 len : l.length = m
 get : ∀ a, f a = getKVP l a
 nd : (l.map (·.2.2)).Nodup
 lt : ∀ e ∈ l, e.2.2 < c
abbrev moP (b : Nat) (k : IntKind) (l : List KVP) (c : Nat) : SP := ob b (.map (l.map (entP k)).toArray c)
theorem mp_inP {f : Int × Int → Option Value} {b m c : Nat} {l : List KVP} (h : MpIP f m l c) : ∀ q, sep (moP b k l c :: L) q → sep (mpP b k f m :: L) q := fun _ s => sep_head s fun _ x => ⟨⟨l, c, x.kind, h.keys, h.len, h.get, h.nd, h.lt⟩⟩
theorem Hd.mpOutP {f : Int × Int → Option Value} {b m : Nat} {K : Act → World → Prop} (p : Pick L (mpP b k f m) L') (h : ∀ l c, MpIP f m l c → Hd E n ds st (moP b k l c :: L') K) : Hd E n ds st L K := fun a w fr s => by
 obtain ⟨h1, h2, d, aa, bb, ⟨⟨l, c, hb, x1, x2, x3, x4, x5⟩⟩, y⟩ := p.sep s.2.2.2
 exact h l c ⟨x1, x2, x3, x4, x5⟩ a w fr ⟨s.1, s.2.1, s.2.2.1, h1, h2, d, aa, bb, ⟨hb⟩, y⟩
theorem Hd.rangeMapP {b c : Nat} {l : List KVP} {kt vt : TypeId} (hu : P.underlying t = some (.map kt vt)) (hx : evo st x = some (.map (some b))) (p : Pick L (moP b k l c) L')
  (K : ∀ rb, Hd E n ds ((d, .pointer (some ⟨rb, 0, none⟩)) :: st) (io rb b c [] :: L) (LW r P ops Q rest)) (hd : d < n := by decide) :
  Hd E n ds st L (LW r P ops Q (⟨some d, .range t x, ty, pos, af, none⟩ :: rest)) :=
 Hd.op rfl (by simp) fun a w f s => by
  have hb := s.ob_at p
  refine ⟨.pointer (some ⟨w.heap.size, 0, none⟩), { w with heap := w.heap.push (.mapIter (some b) c #[] c) }, ?_, K w.heap.size _ _ (f.put hd _) (s.new (.mapIter (some b) c #[] c))⟩; simp only [execOp, f.ev hx]; simp [Instr.range, run_underlying hu, getObj, newObj, Sem.run, hb, go_sem]
def tupOP (k : IntKind) : Option KVP → Value
 | none => .tuple #[.bool false]
 | some e => .tuple #[.bool true, kyP k e.1, e.2.1]
def seenOP (seen : List Nat) : Option KVP → List Nat
 | none => seen
 | some e => seen ++ [e.2.2]
def NxOP (l : List KVP) (seen : List Nat) : Option KVP → Prop
 | none => ∀ e ∈ l, e.2.2 ∈ seen
 | some e => e ∈ l ∧ e.2.2 ∉ seen
theorem Hd.nextMapP {rb b c : Nat} {l : List KVP} {seen : List Nat} (hx : evo st x = some (.pointer (some ⟨rb, 0, none⟩))) (p : Pick L (io rb b c seen) L') (p2 : Pick L (moP b k l c) L'') (hlt : ∀ e ∈ l, e.2.2 < c)
  (K : ∀ o : Option KVP, NxOP l seen o → Hd E n ds ((d, tupOP k o) :: st) (io rb b c (seenOP seen o) :: L') (LW r P ops Q rest)) (hd : d < n := by decide) :
  Hd E n ds st L (LW r P ops Q (⟨some d, .next x false, ty, pos, af, none⟩ :: rest)) :=
 Hd.op rfl (by simp) fun a w f s => by
  have hr := s.ob_at p
  have hb := s.ob_at p2
  rcases run_next_at (P := P) w ty rb b c c seen.toArray (l.map (entP k)).toArray c hr hb (fun e he => by
   obtain ⟨e0, h0, rfl⟩ := List.mem_map.1 (show e ∈ l.map (entP k) from he)
   exact hlt e0 h0) (Nat.le_refl c) with ⟨h0, hrun⟩ | ⟨e, he, w1, hw, hrun⟩
  ·refine ⟨_, w, by simp only [execOp, f.ev hx, Sem.run_bind, hrun]; rfl, K none (fun e he => ?_) _ _ (f.put hd _) (s.mp fun _ q => p.sep q)⟩
   have := all_seen (l.map (entP k)).toArray seen.toArray h0 (entP k e) (show entP k e ∈ l.map (entP k) from List.mem_map.2 ⟨e, he, rfl⟩)
   simpa [entP] using this
  ·obtain ⟨hem, hes⟩ := mem_left he
   obtain ⟨e0, h0, rfl⟩ := List.mem_map.1 (show e ∈ l.map (entP k) from hem)
   have s1 : Sat E L w1 := by
    rcases hw with rfl | rfl
    ·exact s
    ·exact s.draw
   have hr1 := s1.ob_at p
   refine ⟨_, _, by simp only [execOp, f.ev hx, Sem.run_bind, hrun]; rfl, K (some e0) ⟨h0, by simpa [entP] using hes⟩ _ _ (f.put hd _) ?_⟩
   have hlt := (Array.getElem?_eq_some_iff.1 hr1).1
   refine Sat.put s1 p rfl rfl rfl (fun x hx => ?_) ?_
   ·simp [ChangeMaps.setBlock, Array.getElem?_setIfInBounds_ne (Ne.symm hx)]
   ·simp [ChangeMaps.setBlock, hlt, seenOP, entP]
theorem y_entryP {rb b c : Nat} {l : List KVP} {seen : List Nat} {e : KVP} (hx : evo st x = some (.pointer (some ⟨rb, 0, none⟩))) (p : Pick L (io rb b c (seen ++ [e.2.2])) L') (p2 : Pick L (moP b k l c) L'') (he : e ∈ l) (hn : (l.map (·.2.2)).Nodup) :
  Yv E n ds st L P ⟨some d, .entry x, ty, pos, af, g⟩ (.tuple #[kyP k e.1, e.2.1]) := fun a w f s => by
 have hr := s.ob_at p
 have hb := s.ob_at p2
 have h := run_entry_at (P := P) w rb b c seen.toArray (l.map (entP k)).toArray c (entP k e) (by rw [hr]; simp [entP]) hb (show entP k e ∈ l.map (entP k) from List.mem_map.2 ⟨e, he, rfl⟩) (show ((l.map (entP k)).map (·.born)).Nodup by
  rw [List.map_map]
  exact hn)
 simp only [execOp, f.ev hx, Sem.run_bind, h]
 rfl
structure EsIP (l es : List KVP) : Prop where
 nd : es.Nodup
 mem : ∀ e ∈ es, e ∈ l
theorem EsIP.nil (l : List KVP) : EsIP l [] := ⟨.nil, fun e h => by cases h⟩
theorem EsIP.step {l es : List KVP} (h : EsIP l es) {e : KVP} (he : e ∈ l) (hn : e.2.2 ∉ es.map (·.2.2)) : EsIP l (es ++ [e]) :=
 ⟨by rw [List.nodup_append]; exact ⟨h.nd, by simp, fun a ha b hb hab => by
   obtain rfl : b = e := by simpa using hb
   subst hab
   exact hn (List.mem_map.2 ⟨a, ha, rfl⟩)⟩, fun a ha => by
  rcases List.mem_append.1 ha with ha | ha
  ·exact h.mem a ha
  ·obtain rfl : a = e := by simpa using ha
   exact he⟩
structure KeysOfP (f : Int × Int → Option Value) (ks : List (Int × Int)) : Prop where
 nd : ks.Nodup
 mem : ∀ a, a ∈ ks ↔ (f a).isSome = true
theorem getKV_someP {l : List KVP} {a : Int × Int} : (getKVP l a).isSome = true ↔ a ∈ l.map (·.1) := by
 unfold getKVP; rw [Option.isSome_map, List.find?_isSome, List.mem_map]
 constructor
 ·rintro ⟨e, he, h⟩; exact ⟨e, he, by simpa using h⟩
 ·rintro ⟨e, he, h⟩; exact ⟨e, he, by simpa using h⟩
theorem es_keysP {f : Int × Int → Option Value} {m c : Nat} {l es : List KVP} (h : MpIP f m l c) (hE : EsIP l es) (hall : ∀ e ∈ l, e.2.2 ∈ es.map (·.2.2)) : KeysOfP f (es.map (·.1)) where
 nd := by
  have hk := h.keys
  have hi := inj_of_map (fun e : KVP => e.1) hk
  refine List.pairwise_map.2 (hE.nd.imp_of_mem fun {a b} ha hb hab e => hab (hi a (hE.mem a ha) b (hE.mem b hb) e))
 mem a := by
  rw [h.get a, getKV_someP]
  constructor
  ·intro ha
   obtain ⟨e, he, rfl⟩ := List.mem_map.1 ha
   exact List.mem_map.2 ⟨e, hE.mem e he, rfl⟩
  ·intro ha
   obtain ⟨e, he, rfl⟩ := List.mem_map.1 ha
   obtain ⟨e2, he2, hb⟩ := List.mem_map.1 (hall e he)
   obtain rfl := inj_of_map (fun e : KVP => e.2.2) h.nd e2 (hE.mem e2 he2) e he hb
   exact List.mem_map.2 ⟨e2, he2, rfl⟩
theorem y_lookupK {f : Int × Int → Option Value} {b m : Nat} {a1 a2 : Int} {zs : Value} (hT : MapTP P t k zs) (hx : evo st x = some (.map (some b))) (hy : evo st y = some (.agg #[.int k a1, .int k a2])) (p : Pick L (mpP b k f m) L') :
  Yv E n ds st L P ⟨some d, .lookup t x y false, ty, pos, af, g⟩ ((f (a1, a2)).getD zs) := y_lookupP (a := (a1, a2)) hT hx hy p
theorem y_lookup2K {f : Int × Int → Option Value} {b m : Nat} {a1 a2 : Int} {zs : Value} (hT : MapTP P t k zs) (hx : evo st x = some (.map (some b))) (hy : evo st y = some (.agg #[.int k a1, .int k a2])) (p : Pick L (mpP b k f m) L') :
  Yv E n ds st L P ⟨some d, .lookup t x y true, ty, pos, af, g⟩ (.tuple #[(f (a1, a2)).getD zs, .bool (f (a1, a2)).isSome]) := y_lookup2P (a := (a1, a2)) hT hx hy p
theorem Hd.mapUpdateK {f : Int × Int → Option Value} {b m : Nat} {a1 a2 : Int} {zs : Value} (hT : MapTP P t k zs) (hx : evo st x = some (.map (some b))) (hy : evo st y = some (.agg #[.int k a1, .int k a2])) (hz : evo st z = some v) (p : Pick L (mpP b k f m) L')
  (K : Hd E n ds st (mpP b k (fun c => if c = (a1, a2) then some v else f c) (if (f (a1, a2)).isSome then m else m + 1) :: L') (LW r P ops Q rest)) :
  Hd E n ds st L (LW r P ops Q (⟨none, .mapUpdate t x y z, ty, pos, af, none⟩ :: rest)) := Hd.mapUpdateP (a := (a1, a2)) hT hx hy hz p K
theorem Hd.mapDelete0K {f : Int × Int → Option Value} {b m : Nat} {a1 a2 : Int} {zs : Value} (hT : MapTP P t k zs) (hx : evo st x = some (.map (some b))) (hy : evo st y = some (.agg #[.int k a1, .int k a2])) (p : Pick L (mpP b k f m) L')
  (K : Hd E n ds st (mpP b k (fun c => if c = (a1, a2) then none else f c) (if (f (a1, a2)).isSome then m - 1 else m) :: L') (LW r P ops Q rest)) :
  Hd E n ds st L (LW r P ops Q (⟨none, .call ⟨.builtin .delete, #[x, y], #[t, t2]⟩, ty, pos, af, none⟩ :: rest)) := Hd.mapDelete0P (a := (a1, a2)) hT hx hy p K
theorem y_lookup2G {f : Int × Int → Option Value} {b m : Nat} {a1 a2 : Int} {zs : Value} {M : SP} (hM : ∀ (L0 : List SP) q, sep (M :: L0) q → sep (mpP b k f m :: L0) q) (hT : MapTP P t k zs) (hx : evo st x = some (.map (some b))) (hy : evo st y = some (.agg #[.int k a1, .int k a2])) (p : Pick L M L') :
  Yv E n ds st L P ⟨some d, .lookup t x y true, ty, pos, af, g⟩ (.tuple #[(f (a1, a2)).getD zs, .bool (f (a1, a2)).isSome]) := fun ac w fr s =>
 y_lookup2K hT hx hy Pick.here ac w fr (s.mp fun q h => hM L' q (p.sep h))
theorem y_extOP (o : Option KVP) (hx : evo st x = some (tupOP k o)) : Yv E n ds st L P ⟨some d, .extract x 0, ty, pos, af, g⟩ (.bool o.isSome) := by
 cases o with
 | none => exact y_extract hx rfl
 | some e => exact y_extract hx rfl
end
end Go.RX
namespace Go.RX
set_option linter.unusedSimpArgs false
set_option linter.unusedVariables false
set_option linter.unnecessarySimpa false
open Go.ChangeShapes Go.WideShapes Go.ChangeAt Go.RowKit
theorem old_sat (W : World) : Sat W [Old W] W :=
 ⟨⟨rfl, Nat.le_refl _⟩, rfl, rfl, hp W, fun _ => none, fun _ => .inr rfl, Sub.rfl', (fun _ _ e => by cases e), fun _ _ => rfl, trivial⟩
theorem hpo_up {o : Obj} {y : Option Obj} (h : ∀ q c, hpo (some o) q = some c → hpo y q = some c) : y = some o := by
 cases o with
 | cells cs e fz =>
  have h0 := h none (.blk cs.size e fz) rfl
  obtain ⟨c', rfl, hs⟩ := hpo_blk h0
  congr 2
  apply Array.ext hs; intro i hi hi'
  have := h (some i) (.cell cs[i] (decide (fz.1 ≤ i) && decide (i < fz.2))) (by simp [hpo, Array.getElem?_eq_getElem hi'])
  simp only [hpo, Array.getElem?_eq_getElem hi, Option.map_some, Option.some.injEq, Ce.cell.injEq, and_true] at this; exact this
 | _ => exact (hpo_obj (h none _ rfl)).1
theorem below_of_sat {W W' : World} {L : List SP} (s : Sat W L W') {L' : List SP} (p : Pick L (Old W) L') : Below W.heap.size W W' := by
 obtain ⟨h1, s1, x⟩ := sep.one p s.2.2.2
 have hb : ∀ k, k < W.heap.size → W'.heap[k]? = W.heap[k]? := fun k hk => by
  obtain ⟨o, ho⟩ : ∃ o, W.heap[k]? = some o := ⟨_, Array.getElem?_eq_getElem hk⟩
  rw [ho]; refine hpo_up fun q c hc => ?_
  refine s1 (k, q) c ?_; rw [x (k, q) hk]
  show hpo W.heap[k]? q = some c
  rw [ho]; exact hc
 refine ⟨s.1.1, s.2.1, s.2.2.1, ?_, hb⟩
 rcases Nat.eq_zero_or_pos W.heap.size with h | h
 ·omega
 ·have h1 := hb (W.heap.size - 1) (by omega)
  rw [Array.getElem?_eq_getElem (by omega : W.heap.size - 1 < W.heap.size)] at h1
  have := (Array.getElem?_eq_some_iff.1 h1).1
  omega
theorem law_calls {P : Program} {f : FuncId} {args : List Value} {W : World} (h : Ct P f args.toArray [Old W] (fun _ : Unit => .bool true) (fun _ => [Old W])) :
  Calls P f args.toArray W (fun e W' => e = .returned (.bool true) ∧ Below W.heap.size W W') :=
 (h W W (old_sat W)).mono fun e W' ⟨_, he, s⟩ => ⟨he, below_of_sat s .here⟩
section
variable {H : Type} {enc : TypeId × Value → H} {P : Program}
theorem trodAll_below (hl : laidOutB P = true) {W W' : World} (hb : Below W.heap.size W W') : ∀ {ts : List TypeId} {vs : List Value} {ds : List (DataW H)} {ps : List MemPlace},
  (∀ t ∈ ts, P.readableRec t = true ∧ t < P.types.size) → DataW.TrodAll enc P W 0 (fun _ => true) true ts vs ds ps → (∀ x ∈ ps, x.block < W.heap.size) → DataW.TrodAll enc P W' 0 (fun b => decide (b < W.heap.size)) true ts vs ds ps
 | [], [], [], _, _, h, _ => h
 | _ :: _, _ :: _, _ :: _, _, hr, ⟨p, q, h1, h2, e⟩, hlt => ⟨p, q, Below.trod hl (hr _ (by simp)).1 (hr _ (by simp)).2 h1 hb (fun x hx => hlt x (by rw [e]; exact List.mem_append_left _ hx)),
   trodAll_below hl hb (fun t ht => hr t (by simp [ht])) h2 (fun x hx => hlt x (by rw [e]; exact List.mem_append_right _ hx)), e⟩
 | [], _ :: _, _, _, _, h, _ => h.elim
 | [], [], _ :: _, _, _, h, _ => h.elim
 | _ :: _, [], _, _, _, h, _ => h.elim
 | _ :: _, _ :: _, [], _, _, h, _ => h.elim
theorem law_post {fn : Func} {s : ChangeSpec} {tb : TypeId} {W W' : World} {args : Array Value} {ds : List (DataW H)} {p : List MemPlace} (hl : laidOutB P = true)
  (hres : fn.resultTypes = #[tb]) (htb : P.underlying tb = some .bool) (hv : s.vars = []) (hs : s.fn H (ds ++ []) = { results := [.lit (.bool true)], args := ds })
  (hr : ∀ t ∈ fn.params.toList, P.readableRec t = true ∧ t < P.types.size)
  (hW : DataW.Whole enc P fn.params.toList s.vars false W args.toList ds [] p) (hA : DataW.TrodAll enc P W 0 (fun _ => true) true fn.params.toList args.toList ds p) (hb : Below W.heap.size W W') :
  s.post enc P fn false true false false W args (.bool true) W' := by
 have hlt : ∀ x ∈ p, x.block < W.heap.size := fun x hx => by simpa using hW.lt x hx
 refine ⟨ds, [], p, [], p, [], hW, ?_, ?_, ?_, hb.frame _, fun h => by cases h⟩
 ·rw [hs, hres]; exact trodAll_mk1 (shut_bool htb true)
 ·rw [hs]; exact trodAll_below hl hb hr hA hlt
 ·rw [hv, hs]; rfl
end
inductive Sh
 | int (k : IntKind) | bool | str | slice (s : Sh) | struct (l : Sh) | nil | fld (s r : Sh)
structure SL (α : Type) where
 l : List α
 ad : Option Addr
 cap : Nat
@[reducible] def Sh.T : Sh → Type
 | .int _ => Int
 | .bool => Bool
 | .str => ByteArray
 | .slice s => SL s.T
 | .struct l => l.T
 | .nil => Unit
 | .fld s r => s.T × r.T
def Sh.size : Sh → Nat
 | .struct l => l.size
 | .nil => 0
 | .fld s r => s.size + r.size
 | _ => 1
def Sh.enc : (s : Sh) → s.T → List Value
 | .int k, x => [.int k x]
 | .bool, x => [.bool x]
 | .str, x => [.string x]
 | .slice _, x => [.slice x.ad x.l.length x.cap]
 | .struct l, x => l.enc x
 | .nil, _ => []
 | .fld s r, x => s.enc x.1 ++ r.enc x.2
def Sh.ok (W : World) : (s : Sh) → s.T → Prop
 | .int k, x => InK k x
 | .bool, _ => True
 | .str, x => x.size ≤ maxLen
 | .slice s, x => RdS [Old W] s.size x.ad x.l.length (x.l.flatMap s.enc) ∧ x.l.length ≤ x.cap ∧ x.cap ≤ maxLen ∧ (x.ad = none → x.cap = 0) ∧ ∀ y ∈ x.l, s.ok W y
 | .struct l, x => l.ok W x
 | .nil, _ => True
 | .fld s r, x => s.ok W x.1 ∧ r.ok W x.2
mutual
def Sh.fits (P : Program) : Sh → TypeId → Bool
 | .int k, t => match P.underlying t with | some (.int k') => decide (k = k') | _ => false
 | .bool, t => match P.underlying t with | some .bool => true | _ => false
 | .str, t => match P.underlying t with | some .string => true | _ => false
 | .slice s, t => match P.underlying t with | some (.slice e) => s.fits P e && Nat.beq (P.cellsOf e) s.size && Nat.ble 1 s.size | _ => false
 | .struct l, t => match P.underlying t with | some (.struct fs) => l.fitsF P 0 fs.toList && Nat.beq (P.cellsOf t) l.size | _ => false
 | .nil, _ => false
 | .fld _ _, _ => false
def Sh.fitsF (P : Program) : Sh → Nat → List Field → Bool
 | .nil, _, [] => true
 | .fld s r, off, f :: fs => Nat.beq f.offset off && Nat.beq (P.cellsOf f.type) s.size && s.fits P f.type && r.fitsF P (off + s.size) fs
 | _, _, _ => false
end
theorem Sh.enc_len : ∀ (s : Sh) (x : s.T), (s.enc x).length = s.size
 | .int _, _ => rfl
 | .bool, _ => rfl
 | .str, _ => rfl
 | .slice _, _ => rfl
 | .struct l, x => Sh.enc_len l x
 | .nil, _ => rfl
 | .fld s r, x => by simp only [Sh.enc, Sh.size, List.length_append, Sh.enc_len s, Sh.enc_len r]
theorem inK_wf {k : IntKind} {n : Int} (h : (Lit.int k n).wf = true) : InK k n := by
 simp only [Lit.wf, Bool.and_eq_true, decide_eq_true_eq] at h
 cases k <;> simp only [IntKind.min, IntKind.max, IntKind.bits, IntKind.signed, InK] at h ⊢ <;> simp at h <;> omega
theorem pick_list {α : Type} {p : Nat → α → Prop} : ∀ {m : Nat}, (∀ i, i < m → ∃ x, p i x) → ∃ xs : List α, xs.length = m ∧ ∀ i x, xs[i]? = some x → p i x
 | 0, _ => ⟨[], rfl, fun i x h => by simp at h⟩
 | m + 1, h => by
  obtain ⟨xs, hl, hp⟩ := pick_list (m := m) fun i hi => h i (by omega)
  obtain ⟨x, hx⟩ := h m (by omega)
  refine ⟨xs ++ [x], by simp [hl], fun i y hy => ?_⟩
  by_cases hi : i < xs.length
  ·rw [List.getElem?_append_left hi] at hy; exact hp i y hy
  ·rw [List.getElem?_append_right (by omega)] at hy
   by_cases h0 : i = xs.length
   ·subst h0; simp at hy; subst hy; rw [hl]; exact hx
   ·rw [List.getElem?_eq_none (by simp; omega)] at hy; cases hy
theorem flat_at {α : Type} (enc : α → List Value) (m : Nat) (hm : ∀ x, (enc x).length = m) (h1 : 1 ≤ m) : ∀ {xs : List α} {j : Nat} {v : Value}, (xs.flatMap enc)[j]? = some v → ∃ x, xs[j / m]? = some x ∧ (enc x)[j % m]? = some v
 | [], _, _, h => by simp at h
 | y :: xs, j, v, h => by
  rw [List.flatMap_cons] at h
  by_cases hj : j < m
  ·rw [List.getElem?_append_left (by rw [hm]; exact hj)] at h
   rw [Nat.div_eq_of_lt hj, Nat.mod_eq_of_lt hj]; exact ⟨y, rfl, h⟩
  ·rw [List.getElem?_append_right (by rw [hm]; omega), hm] at h
   obtain ⟨x, h2, h3⟩ := flat_at enc m hm h1 h
   refine ⟨x, ?_, ?_⟩
   ·rw [show j / m = (j - m) / m + 1 by rw [Nat.div_eq_sub_div (by omega) (by omega)]]; simpa using h2
   ·rw [Nat.mod_eq_sub_mod (by omega)]; exact h3
theorem flat1 (k : IntKind) (xs : List Int) : xs.flatMap (Sh.int k).enc = xs.map (Value.int k) := by
 induction xs with
 | nil => rfl
 | cons x xs ih => rw [List.flatMap_cons, ih]; rfl
theorem rd_int {k : IntKind} {W : World} {x : (Sh.slice (.int k)).T} (h : (Sh.slice (.int k)).ok W x) : RdS [Old W] 1 x.ad x.l.length (x.l.map (Value.int k)) := by
 have := h.1; rwa [flat1] at this
section
variable {H : Type} {enc : TypeId × Value → H} {P : Program} {W : World} {held : Bool}
theorem rdS_of {a : Addr} {m sz : Nat} {us : List Value} (hsz : 1 ≤ sz) (hl : us.length = m * sz) (h : ∀ j v, us[j]? = some v → W.cell? (a.add j) = some v) : RdS [Old W] sz (some a) m us := fun k s => by
 refine ⟨hl, ?_⟩
 rcases Nat.eq_zero_or_pos m with h0 | h0
 ·exact .inl h0
 right
 have hpos : 0 < us.length := by rw [hl]; exact Nat.mul_pos h0 hsz
 obtain ⟨v0, e0⟩ : ∃ v, us[0]? = some v := ⟨_, List.getElem?_eq_getElem hpos⟩
 have c0 := h 0 v0 e0
 simp only [Addr.add, if_true] at c0; unfold World.cell? at c0
 split at c0
 ·rename_i c e fz hb
  split at c0
  ·cases c0
  ·rename_i hsp
   have hsp' : a.spot = none := by cases h : a.spot <;> simp_all
   obtain ⟨h1, s1, x⟩ := sep.one .here s
   have hlt : a.block < W.heap.size := (Array.getElem?_eq_some_iff.1 hb).1
   refine ⟨a.block, a.off, by cases a; simp_all, fun j v e => ?_⟩
   have := h j v e
   have h2 : W.cell? ⟨a.block, a.off + j, none⟩ = some v := by
    unfold Addr.add at this
    split at this
    ·rename_i h0; subst h0; cases a; simp_all
    ·exact this
   obtain ⟨_, fz', hh⟩ := hp_cell h2
   exact ⟨fz', s1 _ _ (by rw [x _ hlt]; exact hh)⟩
 ·cases c0
theorem open_all : ∀ (s : Sh),
    (∀ (t : TypeId) (fuel : Nat) (cs : List Value) (x : DataW H × List MemPlace), s.fits P t = true → DataW.trod enc P W 0 (fun _ => true) held fuel t cs = some x → ∃ v : s.T, cs = s.enc v ∧ s.ok W v) ∧
    (∀ (off : Nat) (fs : List Field) (fuel : Nat) (cs : List Value) (xs : List (DataW H × List MemPlace)), s.fitsF P off fs = true → (fs.mapM fun f => DataW.trod enc P W 0 (fun _ => true) held fuel f.type ((cs.drop f.offset).take (P.cellsOf f.type))) = some xs → off + s.size = cs.length →
      ∃ v : s.T, cs.drop off = s.enc v ∧ s.ok W v)
  | .int k => by
    refine ⟨fun t fuel cs x hf h => ?_, fun off fs _ _ _ hf => by simp [Sh.fitsF] at hf⟩
    ·
      simp only [Sh.fits] at hf
      split at hf
      · rename_i k' hu
        have := of_decide_eq_true hf
        subst this
        obtain ⟨m, rfl, rfl, hw⟩ := DataW.trod_int hu h
        exact ⟨m, rfl, inK_wf hw⟩
      · cases hf
  | .bool => by
    refine ⟨fun t fuel cs x hf h => ?_, fun off fs _ _ _ hf => by simp [Sh.fitsF] at hf⟩
    ·
      simp only [Sh.fits] at hf
      split at hf
      · rename_i hu
        cases fuel with
        | zero => simp [DataW.trod] at h
        | succ fuel =>
          unfold DataW.trod at h
          rw [hu] at h
          dsimp only at h
          split at h <;> first | cases h; done | skip
          all_goals first | (exact ⟨_, rfl, trivial⟩) | (simp_all; done)
      · cases hf
  | .str => by
    refine ⟨fun t fuel cs x hf h => ?_, fun off fs _ _ _ hf => by simp [Sh.fitsF] at hf⟩
    ·
      simp only [Sh.fits] at hf
      split at hf
      · rename_i hu
        cases fuel with
        | zero => simp [DataW.trod] at h
        | succ fuel =>
          unfold DataW.trod at h
          rw [hu] at h
          dsimp only at h
          split at h <;> first | cases h; done | skip
          all_goals first | (split at h; · (rename_i hsz; exact ⟨_, rfl, hsz⟩); · cases h) | (simp_all; done) | (simp at h; exact ⟨_, rfl, h.1⟩)
      · cases hf
  | .slice s => by
    refine ⟨fun t fuel cs x hf h => ?_, fun off fs _ _ _ hf => by simp [Sh.fitsF] at hf⟩
    ·
      simp only [Sh.fits] at hf
      split at hf
      · rename_i e hu
        simp only [Bool.and_eq_true] at hf
        have hce := Nat.eq_of_beq_eq_true hf.1.2
        have h1 := Nat.le_of_ble_eq_true hf.2
        rcases Deep.open_slice hu h with ⟨rfl, _⟩ | ⟨a, len, cap, m, n, D, Pl, rfl, hb, hlc, hcm, hm, hx, hall⟩
        · exact ⟨⟨[], none, 0⟩, rfl, RdS.none _ _ _, Nat.le_refl _, by simp, fun _ => rfl, fun y hy => by simp at hy⟩
        · simp only [if_true] at hm
          obtain ⟨xs, hl, hp⟩ := pick_list (α := s.T) (p := fun i x => (∀ j v, (s.enc x)[j]? = some v → W.cell? ((a.add (i * P.cellsOf e)).add j) = some v) ∧ s.ok W x) (m := len) (fun i hi => by
            obtain ⟨cs', e1, e2⟩ := hall i (by omega)
            obtain ⟨v, rfl, ho⟩ := (open_all s).1 _ _ _ _ hf.1.1 e2
            have := (World.cells?_some e1)
            refine ⟨v, fun j u hj => ?_, ho⟩
            have hjl := (List.getElem?_eq_some_iff.1 hj).1
            rw [this.2.2 j (by rw [hce, ← Sh.enc_len s v]; exact hjl)]; exact hj)
          refine ⟨⟨xs, some a, cap⟩, by simp [Sh.enc, hl], ?_, by simpa [hl] using hlc, hcm, (fun h => by cases h), fun y hy => ?_⟩
          · refine rdS_of h1 (flat_len s.enc s.size (Sh.enc_len s) xs) fun j v hj => ?_
            obtain ⟨x, e1, e2⟩ := flat_at s.enc s.size (Sh.enc_len s) h1 hj
            have := (hp _ _ e1).1 _ _ e2
            rw [hce] at this
            rw [show j = j / s.size * s.size + j % s.size by rw [Nat.mul_comm]; exact (Nat.div_add_mod _ _).symm]
            rw [Addr.add_add] at this
            exact this
          · obtain ⟨i, hi⟩ := List.getElem?_of_mem hy
            exact (hp i y hi).2
      · cases hf
  | .struct l => by
    refine ⟨fun t fuel cs x hf h => ?_, fun off fs _ _ _ hf => by simp [Sh.fitsF] at hf⟩
    ·
      simp only [Sh.fits] at hf
      split at hf
      · rename_i fs hu
        simp only [Bool.and_eq_true] at hf
        have hce := Nat.eq_of_beq_eq_true hf.2
        cases fuel with
        | zero => simp [DataW.trod] at h
        | succ fuel =>
          unfold DataW.trod at h
          rw [hu] at h
          dsimp only at h
          split at h
          · rename_i hl
            obtain ⟨xs, hx, _⟩ := Option.map_eq_some_iff.1 h
            obtain ⟨v, hv, ho⟩ := (open_all l).2 0 fs.toList fuel cs xs hf.1 hx (by rw [Nat.zero_add, hl, hce])
            exact ⟨v, hv, ho⟩
          · cases h
      · cases hf
  | .nil => by
    refine ⟨fun t fuel cs x hf => by simp [Sh.fits] at hf, fun off fs fuel cs xs hf h hl => ?_⟩
    ·
      refine ⟨(), ?_, trivial⟩
      simp only [Sh.size] at hl
      rw [List.drop_of_length_le (by omega)]; rfl
  | .fld s r => by
    refine ⟨fun t fuel cs x hf => by simp [Sh.fits] at hf, fun off fs fuel cs xs hf h hl => ?_⟩
    ·
      cases fs with
      | nil => simp [Sh.fitsF] at hf
      | cons f fs =>
        simp only [Sh.fitsF, Bool.and_eq_true] at hf
        have ho := Nat.eq_of_beq_eq_true hf.1.1.1
        have hc := Nat.eq_of_beq_eq_true hf.1.1.2
        simp only [Sh.size] at hl
        simp only [List.mapM_cons, bind, Option.bind_eq_some_iff] at h
        obtain ⟨y, hy, ys, hys, _⟩ := h
        rw [ho, hc] at hy
        obtain ⟨v, hv, hv2⟩ := (open_all s).1 _ _ _ _ hf.1.2 hy
        obtain ⟨u, hu, hu2⟩ := (open_all r).2 (off + s.size) fs fuel cs ys hf.2 hys (by omega)
        refine ⟨(v, u), ?_, hv2, hu2⟩
        show _ = s.enc v ++ r.enc u
        rw [← hv, ← hu, ← List.drop_drop, List.take_append_drop]
theorem open_arg {s : Sh} {t : TypeId} {r : Reach} {b0 : Nat} {v : Value} {d : DataW H} {p : List MemPlace} (hf : s.fits P t = true) (hv : Value.okWide P W r b0 t v) (h : DataW.Trod enc P W 0 (fun _ => true) held t v d p) :
  ∃ x : s.T, v.cells.toList = s.enc x ∧ s.ok W x := by
 obtain ⟨fuel, h⟩ := h
 exact (open_all s).1 _ _ _ _ hf h
def Sh.one : Sh → Bool
 | .int _ | .bool | .str | .slice _ => true
 | _ => false
theorem okW_one {t : TypeId} {r : Reach} {b0 : Nat} {v : Value} {s : Sh} (hf : s.fits P t = true) (ho : s.one = true) (hv : Value.okWide P W r b0 t v) {x : s.T} (h : v.cells.toList = s.enc x) : [v] = s.enc x := by
 cases s <;> simp only [Sh.one] at ho <;> first | cases ho; done | skip
 all_goals
  simp only [Sh.fits] at hf
  split at hf <;> first | cases hf; done | skip
  rename_i hu
  unfold Value.okWide at hv; rw [hu] at hv; dsimp only at hv; unfold Cell.okWide at hv; rw [hu] at hv
  cases v <;> first | exact h | skip
  all_goals (exfalso; dsimp only at hv; unfold Cell.ok at hv; rw [hu] at hv; exact hv)
end
end Go.RX
namespace Go.Proofs.YtbfddabjbkohdaaGreat
set_option linter.unusedSimpArgs false
set_option linter.unusedVariables false
set_option linter.unnecessarySimpa false
open Go.RX
namespace Fx
theorem ag3 : agk Tryz.prog 3 = some false := by kernel_rfl
theorem sz3 : szk Tryz.prog 3 = some 1 := by kernel_rfl
theorem zr3 : zrk Tryz.prog 3 = some ([.int .i64 0]) := by kernel_rfl
theorem ty3 : tyr Tryz.prog 3 = some (1, 8, 1) := by kernel_rfl
theorem ag4 : agk Tryz.prog 4 = some false := by kernel_rfl
theorem sz4 : szk Tryz.prog 4 = some 1 := by kernel_rfl
theorem ag5 : agk Tryz.prog 5 = some false := by kernel_rfl
theorem sz5 : szk Tryz.prog 5 = some 1 := by kernel_rfl
theorem zr5 : zrk Tryz.prog 5 = some ([.int .u8 0]) := by kernel_rfl
theorem ty5 : tyr Tryz.prog 5 = some (1, 1, 1) := by kernel_rfl
theorem ag30 : agk Tryz.prog 30 = some false := by kernel_rfl
theorem sz30 : szk Tryz.prog 30 = some 1 := by kernel_rfl
theorem ag31 : agk Tryz.prog 31 = some false := by kernel_rfl
theorem sz31 : szk Tryz.prog 31 = some 1 := by kernel_rfl
theorem zr31 : zrk Tryz.prog 31 = some ([.slice none 0 0]) := by kernel_rfl
theorem ag33 : agk Tryz.prog 33 = some true := by kernel_rfl
theorem sz33 : szk Tryz.prog 33 = some 5 := by kernel_rfl
theorem ag35 : agk Tryz.prog 35 = some false := by kernel_rfl
theorem sz35 : szk Tryz.prog 35 = some 1 := by kernel_rfl
theorem zr35 : zrk Tryz.prog 35 = some ([.int .i64 0]) := by kernel_rfl
theorem ag38 : agk Tryz.prog 38 = some false := by kernel_rfl
theorem sz38 : szk Tryz.prog 38 = some 1 := by kernel_rfl
theorem ag39 : agk Tryz.prog 39 = some false := by kernel_rfl
theorem sz39 : szk Tryz.prog 39 = some 1 := by kernel_rfl
theorem ag44 : agk Tryz.prog 44 = some false := by kernel_rfl
theorem sz44 : szk Tryz.prog 44 = some 1 := by kernel_rfl
theorem zr44 : zrk Tryz.prog 44 = some ([.slice none 0 0]) := by kernel_rfl
theorem ag67 : agk Tryz.prog 67 = some false := by kernel_rfl
theorem sz67 : szk Tryz.prog 67 = some 1 := by kernel_rfl
theorem ag68 : agk Tryz.prog 68 = some false := by kernel_rfl
theorem ag82 : agk Tryz.prog 82 = some true := by kernel_rfl
theorem sz82 : szk Tryz.prog 82 = some 4 := by kernel_rfl
theorem zr82 : zrk Tryz.prog 82 = some ([.int .i64 0, .int .i64 0, .int .i64 0, .int .i64 0]) := by kernel_rfl
theorem ty82 : tyr Tryz.prog 82 = some (4, 32, 4) := by kernel_rfl
theorem ag84 : agk Tryz.prog 84 = some true := by kernel_rfl
theorem sz84 : szk Tryz.prog 84 = some 2 := by kernel_rfl
theorem zr84 : zrk Tryz.prog 84 = some ([.int .i64 0, .int .i64 0]) := by kernel_rfl
theorem ag105 : agk Tryz.prog 105 = some true := by kernel_rfl
theorem sz105 : szk Tryz.prog 105 = some 7 := by kernel_rfl
theorem zr105 : zrk Tryz.prog 105 = some ([.bool false, .bool false, .bool false, .bool false, .bool false, .int .u64 0, .int .u64 0]) := by kernel_rfl
theorem ag129 : agk Tryz.prog 129 = some false := by kernel_rfl
theorem sz129 : szk Tryz.prog 129 = some 1 := by kernel_rfl
theorem sz130 : szk Tryz.prog 130 = some 32 := by kernel_rfl
theorem sz131 : szk Tryz.prog 131 = some 32 := by kernel_rfl
theorem ag170 : agk Tryz.prog 170 = some true := by kernel_rfl
theorem sz170 : szk Tryz.prog 170 = some 2 := by kernel_rfl
theorem zr170 : zrk Tryz.prog 170 = some ([.int .i64 0, .int .i64 0]) := by kernel_rfl
theorem ty170 : tyr Tryz.prog 170 = some (2, 16, 2) := by kernel_rfl
theorem ag172 : agk Tryz.prog 172 = some true := by kernel_rfl
theorem sz172 : szk Tryz.prog 172 = some 4 := by kernel_rfl
theorem zr172 : zrk Tryz.prog 172 = some ([.int .i64 0, .int .i64 0, .bool false, .int .u64 0]) := by kernel_rfl
theorem ag173 : agk Tryz.prog 173 = some false := by kernel_rfl
theorem sz173 : szk Tryz.prog 173 = some 1 := by kernel_rfl
theorem ag190 : agk Tryz.prog 190 = some true := by kernel_rfl
theorem sz190 : szk Tryz.prog 190 = some 3 := by kernel_rfl
theorem zr190 : zrk Tryz.prog 190 = some ([.bool false, .int .i64 0, .int .i64 0]) := by kernel_rfl
theorem ag191 : agk Tryz.prog 191 = some false := by kernel_rfl
theorem sz191 : szk Tryz.prog 191 = some 1 := by kernel_rfl
theorem zr191 : zrk Tryz.prog 191 = some ([.pointer none]) := by kernel_rfl
theorem ty191 : tyr Tryz.prog 191 = some (1, 8, 1) := by kernel_rfl
theorem ag194 : agk Tryz.prog 194 = some false := by kernel_rfl
theorem sz194 : szk Tryz.prog 194 = some 1 := by kernel_rfl
theorem ag196 : agk Tryz.prog 196 = some true := by kernel_rfl
theorem sz196 : szk Tryz.prog 196 = some 7 := by kernel_rfl
theorem zr196 : zrk Tryz.prog 196 = some ([.int .i64 0, .int .i64 0, .pointer none, .bool false, .bool false, .int .u64 0, .int .u64 0]) := by kernel_rfl
theorem sz197 : szk Tryz.prog 197 = some 14 := by kernel_rfl
theorem ag205 : agk Tryz.prog 205 = some false := by kernel_rfl
theorem sz205 : szk Tryz.prog 205 = some 1 := by kernel_rfl
theorem ag207 : agk Tryz.prog 207 = some true := by kernel_rfl
theorem sz207 : szk Tryz.prog 207 = some 288 := by kernel_rfl
theorem ag208 : agk Tryz.prog 208 = some false := by kernel_rfl
theorem sz208 : szk Tryz.prog 208 = some 1 := by kernel_rfl
theorem sz218 : szk Tryz.prog 218 = some 8 := by kernel_rfl
theorem sz219 : szk Tryz.prog 219 = some 16 := by kernel_rfl
theorem ag221 : agk Tryz.prog 221 = some true := by kernel_rfl
theorem sz221 : szk Tryz.prog 221 = some 20 := by kernel_rfl
theorem zr221 : zrk Tryz.prog 221 = some ([.int .i64 0, .int .i64 0, .bool false, .bool false, .slice none 0 0, .bool false, .int .u64 0, .int .u64 0, .int .i64 0, .int .i64 0, .bool false, .bool false, .slice none 0 0, .bool false, .int .u64 0, .int .u64 0, .int .i64 0, .bool false, .int .i64 0, .slice none 0 0]) := by kernel_rfl
theorem ty221 : tyr Tryz.prog 221 = some (20, 192, 20) := by kernel_rfl
theorem ag238 : agk Tryz.prog 238 = some false := by kernel_rfl
theorem sz238 : szk Tryz.prog 238 = some 1 := by kernel_rfl
theorem zr238 : zrk Tryz.prog 238 = some ([.slice none 0 0]) := by kernel_rfl
theorem ag241 : agk Tryz.prog 241 = some true := by kernel_rfl
theorem sz241 : szk Tryz.prog 241 = some 2 := by kernel_rfl
theorem zr241 : zrk Tryz.prog 241 = some ([.int .i64 0, .int .i64 0]) := by kernel_rfl
theorem ty241 : tyr Tryz.prog 241 = some (2, 16, 2) := by kernel_rfl
theorem eqt82 : EqT Tryz.prog 82 [.int .i64, .int .i64, .int .i64, .int .i64] 4 := ⟨by kernel_rfl, by kernel_rfl, by kernel_rfl, by kernel_rfl, by kernel_rfl⟩
theorem eqt241 : EqT Tryz.prog 241 [.int .i64, .int .i64] 2 := ⟨by kernel_rfl, by kernel_rfl, by kernel_rfl, by kernel_rfl, by kernel_rfl⟩
theorem mapt79 : MapTP Tryz.prog 79 .i64 (.int .i64 0) := MapTP.of (by kernel_rfl)
theorem mapt173 : MapTP Tryz.prog 173 .i64 (.agg ([.int .i64 0, .int .i64 0, .bool false, .int .u64 0]).toArray) := MapTP.of (by kernel_rfl)
theorem fk14 : fnk Tryz.prog 14 = true := by kernel_rfl
theorem fk16 : fnk Tryz.prog 16 = true := by kernel_rfl
theorem fk17 : fnk Tryz.prog 17 = true := by kernel_rfl
theorem fk27 : fnk Tryz.prog 27 = true := by kernel_rfl
theorem fk30 : fnk Tryz.prog 30 = true := by kernel_rfl
theorem fk31 : fnk Tryz.prog 31 = true := by kernel_rfl
theorem fk32 : fnk Tryz.prog 32 = true := by kernel_rfl
theorem fk33 : fnk Tryz.prog 33 = true := by kernel_rfl
theorem fk34 : fnk Tryz.prog 34 = true := by kernel_rfl
theorem fk35 : fnk Tryz.prog 35 = true := by kernel_rfl
theorem fk43 : fnk Tryz.prog 43 = true := by kernel_rfl
theorem fk49 : fnk Tryz.prog 49 = true := by kernel_rfl
theorem fk50 : fnk Tryz.prog 50 = true := by kernel_rfl
theorem fk52 : fnk Tryz.prog 52 = true := by kernel_rfl
theorem fk53 : fnk Tryz.prog 53 = true := by kernel_rfl
theorem fk54 : fnk Tryz.prog 54 = true := by kernel_rfl
theorem fk55 : fnk Tryz.prog 55 = true := by kernel_rfl
theorem fk56 : fnk Tryz.prog 56 = true := by kernel_rfl
theorem fk57 : fnk Tryz.prog 57 = true := by kernel_rfl
theorem fk58 : fnk Tryz.prog 58 = true := by kernel_rfl
theorem fk59 : fnk Tryz.prog 59 = true := by kernel_rfl
theorem fk60 : fnk Tryz.prog 60 = true := by kernel_rfl
theorem fk61 : fnk Tryz.prog 61 = true := by kernel_rfl
theorem fk62 : fnk Tryz.prog 62 = true := by kernel_rfl
theorem fk63 : fnk Tryz.prog 63 = true := by kernel_rfl
theorem fk64 : fnk Tryz.prog 64 = true := by kernel_rfl
theorem fk65 : fnk Tryz.prog 65 = true := by kernel_rfl
theorem fk66 : fnk Tryz.prog 66 = true := by kernel_rfl
theorem fk67 : fnk Tryz.prog 67 = true := by kernel_rfl
theorem fk68 : fnk Tryz.prog 68 = true := by kernel_rfl
theorem fk69 : fnk Tryz.prog 69 = true := by kernel_rfl
theorem fk71 : fnk Tryz.prog 71 = true := by kernel_rfl
theorem fk79 : fnk Tryz.prog 79 = true := by kernel_rfl
theorem fk85 : fnk Tryz.prog 85 = true := by kernel_rfl
theorem fk86 : fnk Tryz.prog 86 = true := by kernel_rfl
theorem fk87 : fnk Tryz.prog 87 = true := by kernel_rfl
theorem fk88 : fnk Tryz.prog 88 = true := by kernel_rfl
theorem fk89 : fnk Tryz.prog 89 = true := by kernel_rfl
theorem fk90 : fnk Tryz.prog 90 = true := by kernel_rfl
theorem fk91 : fnk Tryz.prog 91 = true := by kernel_rfl
theorem fk92 : fnk Tryz.prog 92 = true := by kernel_rfl
theorem fk93 : fnk Tryz.prog 93 = true := by kernel_rfl
theorem fk101 : fnk Tryz.prog 101 = true := by kernel_rfl
theorem fk102 : fnk Tryz.prog 102 = true := by kernel_rfl
theorem fk103 : fnk Tryz.prog 103 = true := by kernel_rfl
theorem fk104 : fnk Tryz.prog 104 = true := by kernel_rfl
theorem fk108 : fnk Tryz.prog 108 = true := by kernel_rfl
theorem fk109 : fnk Tryz.prog 109 = true := by kernel_rfl
theorem fk110 : fnk Tryz.prog 110 = true := by kernel_rfl
theorem fk111 : fnk Tryz.prog 111 = true := by kernel_rfl
theorem fk112 : fnk Tryz.prog 112 = true := by kernel_rfl
theorem fk113 : fnk Tryz.prog 113 = true := by kernel_rfl
theorem fk114 : fnk Tryz.prog 114 = true := by kernel_rfl
theorem fk115 : fnk Tryz.prog 115 = true := by kernel_rfl
theorem fk116 : fnk Tryz.prog 116 = true := by kernel_rfl
theorem fk117 : fnk Tryz.prog 117 = true := by kernel_rfl
theorem fk118 : fnk Tryz.prog 118 = true := by kernel_rfl
theorem fk119 : fnk Tryz.prog 119 = true := by kernel_rfl
theorem fk120 : fnk Tryz.prog 120 = true := by kernel_rfl
theorem fk121 : fnk Tryz.prog 121 = true := by kernel_rfl
theorem fk122 : fnk Tryz.prog 122 = true := by kernel_rfl
theorem fk123 : fnk Tryz.prog 123 = true := by kernel_rfl
theorem fk124 : fnk Tryz.prog 124 = true := by kernel_rfl
theorem fk125 : fnk Tryz.prog 125 = true := by kernel_rfl
theorem fk126 : fnk Tryz.prog 126 = true := by kernel_rfl
theorem fk127 : fnk Tryz.prog 127 = true := by kernel_rfl
theorem fk128 : fnk Tryz.prog 128 = true := by kernel_rfl
theorem fk129 : fnk Tryz.prog 129 = true := by kernel_rfl
theorem fk130 : fnk Tryz.prog 130 = true := by kernel_rfl
theorem fk131 : fnk Tryz.prog 131 = true := by kernel_rfl
theorem fk132 : fnk Tryz.prog 132 = true := by kernel_rfl
theorem fk133 : fnk Tryz.prog 133 = true := by kernel_rfl
theorem fk134 : fnk Tryz.prog 134 = true := by kernel_rfl
theorem fk135 : fnk Tryz.prog 135 = true := by kernel_rfl
theorem fk136 : fnk Tryz.prog 136 = true := by kernel_rfl
theorem fk137 : fnk Tryz.prog 137 = true := by kernel_rfl
theorem fk138 : fnk Tryz.prog 138 = true := by kernel_rfl
theorem fk139 : fnk Tryz.prog 139 = true := by kernel_rfl
theorem fk140 : fnk Tryz.prog 140 = true := by kernel_rfl
theorem fk141 : fnk Tryz.prog 141 = true := by kernel_rfl
theorem fk142 : fnk Tryz.prog 142 = true := by kernel_rfl
theorem fk143 : fnk Tryz.prog 143 = true := by kernel_rfl
theorem fk144 : fnk Tryz.prog 144 = true := by kernel_rfl
theorem fk154 : fnk Tryz.prog 154 = true := by kernel_rfl
theorem fk155 : fnk Tryz.prog 155 = true := by kernel_rfl
theorem fk156 : fnk Tryz.prog 156 = true := by kernel_rfl
theorem fk157 : fnk Tryz.prog 157 = true := by kernel_rfl
theorem fk158 : fnk Tryz.prog 158 = true := by kernel_rfl
theorem fk159 : fnk Tryz.prog 159 = true := by kernel_rfl
theorem fk161 : fnk Tryz.prog 161 = true := by kernel_rfl
theorem fk162 : fnk Tryz.prog 162 = true := by kernel_rfl
theorem fk167 : fnk Tryz.prog 167 = true := by kernel_rfl
theorem fk168 : fnk Tryz.prog 168 = true := by kernel_rfl
theorem fk169 : fnk Tryz.prog 169 = true := by kernel_rfl
theorem fk170 : fnk Tryz.prog 170 = true := by kernel_rfl
theorem fk171 : fnk Tryz.prog 171 = true := by kernel_rfl
theorem fk172 : fnk Tryz.prog 172 = true := by kernel_rfl
theorem fk173 : fnk Tryz.prog 173 = true := by kernel_rfl
theorem fk175 : fnk Tryz.prog 175 = true := by kernel_rfl
theorem fk176 : fnk Tryz.prog 176 = true := by kernel_rfl
theorem fk177 : fnk Tryz.prog 177 = true := by kernel_rfl
theorem fk178 : fnk Tryz.prog 178 = true := by kernel_rfl
theorem fk179 : fnk Tryz.prog 179 = true := by kernel_rfl
theorem fk180 : fnk Tryz.prog 180 = true := by kernel_rfl
theorem fk181 : fnk Tryz.prog 181 = true := by kernel_rfl
theorem fk182 : fnk Tryz.prog 182 = true := by kernel_rfl
theorem fk183 : fnk Tryz.prog 183 = true := by kernel_rfl
theorem fk184 : fnk Tryz.prog 184 = true := by kernel_rfl
theorem fk189 : fnk Tryz.prog 189 = true := by kernel_rfl
theorem fk193 : fnk Tryz.prog 193 = true := by kernel_rfl
theorem fk195 : fnk Tryz.prog 195 = true := by kernel_rfl
theorem fk196 : fnk Tryz.prog 196 = true := by kernel_rfl
theorem fk197 : fnk Tryz.prog 197 = true := by kernel_rfl
theorem fk198 : fnk Tryz.prog 198 = true := by kernel_rfl
theorem fk199 : fnk Tryz.prog 199 = true := by kernel_rfl
theorem fk200 : fnk Tryz.prog 200 = true := by kernel_rfl
theorem fk203 : fnk Tryz.prog 203 = true := by kernel_rfl
theorem fk215 : fnk Tryz.prog 215 = true := by kernel_rfl
theorem mixed : Tryz.prog.follows .mixedOrders = true := by kernel_rfl
theorem bd8_96 (x1 : Int) (x2 : Int) : Tryz.prog.built 84 [(0, .int .i64 x1), (1, .int .i64 x2)] = some #[.int .i64 x1, .int .i64 x2] := by kernel_rfl
theorem bd8_125 (x3 : Int) (x4 : Int) : Tryz.prog.built 84 [(0, .int .i64 x3), (1, .int .i64 x4)] = some #[.int .i64 x3, .int .i64 x4] := by kernel_rfl
theorem bd16_3 (x1 : Option Addr) (x2 : Option Addr) : Tryz.prog.built 41 [(0, .pointer x1), (1, .pointer x2)] = some #[.pointer x1, .pointer x2] := by kernel_rfl
theorem bs17_31  : bltS Tryz.prog 31 0 [] = some (5, []) := by kernel_rfl
theorem bs27_8  : bltS Tryz.prog 31 1 [(0, .int .u8 97)] = some (5, [.int .u8 97]) := by kernel_rfl
theorem bs27_24 (x1 : Int) (x2 : Int) (x3 : Int) (x4 : Int) (x5 : Int) (x6 : Int) (x7 : Int) (x8 : Int) (x9 : Int) (x10 : Int) (x11 : Int) (x12 : Int) (x13 : Int) (x14 : Int) (x15 : Int) (x16 : Int) : bltS Tryz.prog 67 4 [(0, .agg #[.int .i64 x1, .int .i64 x2, .int .i64 x3, .int .i64 x4]), (1, .agg #[.int .i64 x5, .int .i64 x6, .int .i64 x7, .int .i64 x8]), (2, .agg #[.int .i64 x9, .int .i64 x10, .int .i64 x11, .int .i64 x12]), (3, .agg #[.int .i64 x13, .int .i64 x14, .int .i64 x15, .int .i64 x16])] = some (82, [.int .i64 x1, .int .i64 x2, .int .i64 x3, .int .i64 x4, .int .i64 x5, .int .i64 x6, .int .i64 x7, .int .i64 x8, .int .i64 x9, .int .i64 x10, .int .i64 x11, .int .i64 x12, .int .i64 x13, .int .i64 x14, .int .i64 x15, .int .i64 x16]) := by kernel_rfl
theorem bs27_27 (x17 : Int) (x18 : Int) (x19 : Int) (x20 : Int) (x21 : Int) (x22 : Int) (x23 : Int) (x24 : Int) : bltS Tryz.prog 67 2 [(0, .agg #[.int .i64 x17, .int .i64 x18, .int .i64 x19, .int .i64 x20]), (1, .agg #[.int .i64 x21, .int .i64 x22, .int .i64 x23, .int .i64 x24])] = some (82, [.int .i64 x17, .int .i64 x18, .int .i64 x19, .int .i64 x20, .int .i64 x21, .int .i64 x22, .int .i64 x23, .int .i64 x24]) := by kernel_rfl
theorem bs27_33 (x25 : Int) (x26 : Int) (x27 : Int) (x28 : Int) : bltS Tryz.prog 67 1 [(0, .agg #[.int .i64 x25, .int .i64 x26, .int .i64 x27, .int .i64 x28])] = some (82, [.int .i64 x25, .int .i64 x26, .int .i64 x27, .int .i64 x28]) := by kernel_rfl
theorem bd30_40 (x1 : Int) (x2 : Int) : Tryz.prog.built 170 [(0, .int .i64 x1), (1, .int .i64 x2)] = some #[.int .i64 x1, .int .i64 x2] := by kernel_rfl
theorem bd32_8 (x1 : Option Addr) (x2 : Option Nat) : Tryz.prog.built 175 [(0, .pointer x1), (1, .map x2)] = some #[.pointer x1, .map x2] := by kernel_rfl
theorem bd33_35 (x1 : Int) (x2 : Int) (x3 : Int) : Tryz.prog.built 82 [(0, .int .i64 x1), (1, .int .i64 x2), (2, .int .i64 256), (3, .int .i64 x3)] = some #[.int .i64 x1, .int .i64 x2, .int .i64 256, .int .i64 x3] := by kernel_rfl
theorem bs33_36 (x4 : Int) (x5 : Int) (x6 : Int) (x7 : Int) : bltS Tryz.prog 67 1 [(0, .agg #[.int .i64 x4, .int .i64 x5, .int .i64 x6, .int .i64 x7])] = some (82, [.int .i64 x4, .int .i64 x5, .int .i64 x6, .int .i64 x7]) := by kernel_rfl
theorem bd34_27 (x1 : Int) (x2 : Int) (x3 : Int) : Tryz.prog.built 82 [(0, .int .i64 x1), (1, .int .i64 x2), (2, .int .i64 x3)] = some #[.int .i64 x1, .int .i64 x2, .int .i64 x3, .int .i64 0] := by kernel_rfl
theorem bs34_28 (x4 : Int) (x5 : Int) (x6 : Int) (x7 : Int) : bltS Tryz.prog 67 1 [(0, .agg #[.int .i64 x4, .int .i64 x5, .int .i64 x6, .int .i64 x7])] = some (82, [.int .i64 x4, .int .i64 x5, .int .i64 x6, .int .i64 x7]) := by kernel_rfl
theorem bd35_13 (x1 : Int) (x2 : Int) (x3 : Int) (x4 : Int) : Tryz.prog.built 82 [(0, .int .i64 x1), (1, .int .i64 x2), (2, .int .i64 x3), (3, .int .i64 x4)] = some #[.int .i64 x1, .int .i64 x2, .int .i64 x3, .int .i64 x4] := by kernel_rfl
theorem bd43_20  : Tryz.prog.built 105 [] = some #[.bool false, .bool false, .bool false, .bool false, .bool false, .int .u64 0, .int .u64 0] := by kernel_rfl
theorem bd43_40 (x1 : Int) (x2 : Int) : Tryz.prog.built 105 [(0, .bool true), (5, .int .u64 x1), (6, .int .u64 x2)] = some #[.bool true, .bool false, .bool false, .bool false, .bool false, .int .u64 x1, .int .u64 x2] := by kernel_rfl
theorem bs57_109 (x2 : Int) (x3 : Int) (x4 : Bool) (x5 : Bool) (x6 : Option Addr) (x7 : Nat) (x8 : Nat) (x9 : Bool) (x10 : Int) (x11 : Int) (x12 : Int) (x13 : Int) (x14 : Bool) (x15 : Bool) (x16 : Option Addr) (x17 : Nat) (x18 : Nat) (x19 : Bool) (x20 : Int) (x21 : Int) (x22 : Int) (x23 : Bool) (x24 : Int) (x25 : Option Addr) (x26 : Nat) (x27 : Nat) : bltS Tryz.prog 129 1 [(0, .agg #[.int .i64 x2, .int .i64 x3, .bool x4, .bool x5, .slice x6 x7 x8, .bool x9, .int .u64 x10, .int .u64 x11, .int .i64 x12, .int .i64 x13, .bool x14, .bool x15, .slice x16 x17 x18, .bool x19, .int .u64 x20, .int .u64 x21, .int .i64 x22, .bool x23, .int .i64 x24, .slice x25 x26 x27])] = some (221, [.int .i64 x2, .int .i64 x3, .bool x4, .bool x5, .slice x6 x7 x8, .bool x9, .int .u64 x10, .int .u64 x11, .int .i64 x12, .int .i64 x13, .bool x14, .bool x15, .slice x16 x17 x18, .bool x19, .int .u64 x20, .int .u64 x21, .int .i64 x22, .bool x23, .int .i64 x24, .slice x25 x26 x27]) := by kernel_rfl
theorem bd59_73 (x1 : Int) : Tryz.prog.built 190 [(0, .bool true), (1, .int .i64 x1), (2, .int .i64 0)] = some #[.bool true, .int .i64 x1, .int .i64 0] := by kernel_rfl
theorem bd92_16 (x1 : Int) (x2 : Int) : Tryz.prog.built 170 [(0, .int .i64 x1), (1, .int .i64 x2)] = some #[.int .i64 x1, .int .i64 x2] := by kernel_rfl
theorem bd92_83 (x3 : Int) (x4 : Int) (x5 : Int) : Tryz.prog.built 172 [(0, .int .i64 x3), (1, .int .i64 x4), (2, .bool true), (3, .int .u64 x5)] = some #[.int .i64 x3, .int .i64 x4, .bool true, .int .u64 x5] := by kernel_rfl
theorem bs93_25 (x1 : Int) (x2 : Int) : bltS Tryz.prog 178 1 [(0, .agg #[.int .i64 x1, .int .i64 x2])] = some (170, [.int .i64 x1, .int .i64 x2]) := by kernel_rfl
theorem bd109_5  : Tryz.prog.built 199 [] = some #[.int .i64 0, .int .i64 0, .pointer none, .bool false, .bool false, .int .u64 0, .int .u64 0, .int .i64 0, .int .i64 0, .pointer none, .bool false, .bool false, .int .u64 0, .int .u64 0, .bool false, .int .i64 0, .slice none 0 0] := by kernel_rfl
theorem bs114_21 (x1 : Int) : bltS Tryz.prog 44 1 [(0, .int .i64 x1)] = some (3, [.int .i64 x1]) := by kernel_rfl
theorem bs133_112 (x1 : Int) : bltS Tryz.prog 44 1 [(0, .int .i64 x1)] = some (3, [.int .i64 x1]) := by kernel_rfl
theorem bs133_133 (x2 : Option Addr) : bltS Tryz.prog 208 1 [(0, .pointer x2)] = some (191, [.pointer x2]) := by kernel_rfl
theorem bs134_114 (x2 : Int) : bltS Tryz.prog 44 1 [(0, .int .i64 x2)] = some (3, [.int .i64 x2]) := by kernel_rfl
theorem bs134_139 (x3 : Int) (x4 : Int) (x5 : Bool) (x6 : Bool) (x7 : Option Addr) (x8 : Nat) (x9 : Nat) (x10 : Bool) (x11 : Int) (x12 : Int) (x13 : Int) (x14 : Int) (x15 : Bool) (x16 : Bool) (x17 : Option Addr) (x18 : Nat) (x19 : Nat) (x20 : Bool) (x21 : Int) (x22 : Int) (x23 : Int) (x24 : Bool) (x25 : Int) (x26 : Option Addr) (x27 : Nat) (x28 : Nat) : bltS Tryz.prog 129 1 [(0, .agg #[.int .i64 x3, .int .i64 x4, .bool x5, .bool x6, .slice x7 x8 x9, .bool x10, .int .u64 x11, .int .u64 x12, .int .i64 x13, .int .i64 x14, .bool x15, .bool x16, .slice x17 x18 x19, .bool x20, .int .u64 x21, .int .u64 x22, .int .i64 x23, .bool x24, .int .i64 x25, .slice x26 x27 x28])] = some (221, [.int .i64 x3, .int .i64 x4, .bool x5, .bool x6, .slice x7 x8 x9, .bool x10, .int .u64 x11, .int .u64 x12, .int .i64 x13, .int .i64 x14, .bool x15, .bool x16, .slice x17 x18 x19, .bool x20, .int .u64 x21, .int .u64 x22, .int .i64 x23, .bool x24, .int .i64 x25, .slice x26 x27 x28]) := by kernel_rfl
theorem bd142_24 (x1 : Int) (x2 : Int) : Tryz.prog.built 241 [(0, .int .i64 x1), (1, .int .i64 x2)] = some #[.int .i64 x1, .int .i64 x2] := by kernel_rfl
theorem bs142_25 (x3 : Int) (x4 : Int) : bltS Tryz.prog 238 1 [(0, .agg #[.int .i64 x3, .int .i64 x4])] = some (241, [.int .i64 x3, .int .i64 x4]) := by kernel_rfl
theorem bd154_20 (x1 : Int) (x2 : Int) : Tryz.prog.built 82 [(0, .int .i64 x1), (1, .int .i64 x2)] = some #[.int .i64 x1, .int .i64 x2, .int .i64 0, .int .i64 0] := by kernel_rfl
theorem bs155_5  : bltS Tryz.prog 67 0 [] = some (82, []) := by kernel_rfl
theorem bs156_10 (x1 : Int) (x2 : Int) (x3 : Int) (x4 : Int) : bltS Tryz.prog 67 1 [(0, .agg #[.int .i64 x1, .int .i64 x2, .int .i64 x3, .int .i64 x4])] = some (82, [.int .i64 x1, .int .i64 x2, .int .i64 x3, .int .i64 x4]) := by kernel_rfl
theorem bs160_15 (x1 : Int) (x2 : Int) : bltS Tryz.prog 44 2 [(0, .int .i64 x1), (1, .int .i64 x2)] = some (3, [.int .i64 x1, .int .i64 x2]) := by kernel_rfl
theorem bd168_12 (x1 : Option Addr) (x2 : Nat) (x3 : Nat) : Tryz.prog.built 263 [(0, .slice x1 x2 x3), (5, .bool true)] = some #[.slice x1 x2 x3, .int .i64 0, .int .i64 0, .int .u64 0, .int .u64 0, .bool true] := by kernel_rfl
theorem bs170_17 (x1 : Int) : bltS Tryz.prog 44 1 [(0, .int .i64 x1)] = some (3, [.int .i64 x1]) := by kernel_rfl
theorem bd171_36 (x1 : Int) (x2 : Int) : Tryz.prog.built 190 [(0, .bool true), (1, .int .i64 x1), (2, .int .i64 x2)] = some #[.bool true, .int .i64 x1, .int .i64 x2] := by kernel_rfl
theorem bs171_47 (x3 : Option Addr) : bltS Tryz.prog 208 1 [(0, .pointer x3)] = some (191, [.pointer x3]) := by kernel_rfl
theorem bs179_5  : bltS Tryz.prog 44 0 [] = some (3, []) := by kernel_rfl
theorem bs181_55  : bltS Tryz.prog 31 1 [(0, .int .u8 1)] = some (5, [.int .u8 1]) := by kernel_rfl
theorem bs182_71  : bltS Tryz.prog 31 1 [(0, .int .u8 1)] = some (5, [.int .u8 1]) := by kernel_rfl
theorem bs184_12 (x1 : Int) (x2 : Int) : bltS Tryz.prog 238 1 [(0, .agg #[.int .i64 x1, .int .i64 x2])] = some (241, [.int .i64 x1, .int .i64 x2]) := by kernel_rfl
theorem bd216_16 (x1 : Int) (x2 : Int) : Tryz.prog.built 241 [(0, .int .i64 x1), (1, .int .i64 x2)] = some #[.int .i64 x1, .int .i64 x2] := by kernel_rfl
end Fx
end Go.Proofs.YtbfddabjbkohdaaGreat
namespace Go.RX
set_option linter.unusedSimpArgs false
set_option linter.unusedVariables false
set_option linter.unnecessarySimpa false
section
variable {E : World} {n : Nat} {ds : List Deferred} {st st' : List (Nat × Value)} {L L' : List SP} {r : Option Nat} {P : Program} {Q : Exit → Act → World → Prop} {ops : Array Oper} {rest : List Oper}
variable {d : Nat} {ty t t2 : TypeId} {pos : String} {af : Array Edge} {x y : Operand} {v : Value} {k : IntKind}
theorem Hd.copyOwn {e bytes m cap q dl dc sl sc : Nat} {ad sad : Option Addr} {us vs : List Value} (ht : P.underlying t = some (.slice e)) (hi : tyr P e = some (1, bytes, 1))
  (hx : evo st x = some (.slice (cutA ad 1 q cap) dl dc)) (hy : evo st y = some (.slice sad sl sc)) (hp : Pick L (own e 1 ad m cap us) L') (hR : RdS L 1 sad sl vs) (hq : q + dl ≤ m) (h1 : ∀ u ∈ vs, u.oneCell' = true)
  (K : Hd E n ds ((d, .int .i64 ((min sl dl : Nat) : Int)) :: st) (own e 1 ad m cap (us.take q ++ vs.take (min sl dl) ++ us.drop (q + min sl dl)) :: L') (LW r P ops Q rest)) (hd : d < n := by decide) :
  Hd E n ds st L (LW r P ops Q (⟨some d, .call ⟨.builtin .copy, #[x, y], #[t, t2]⟩, ty, pos, af, none⟩ :: rest)) :=
 Hd.op rfl (by simp) fun a w f s => by
  obtain ⟨ti, zv, h1', h2', h3', h4', h5'⟩ := tyr_parts hi
  have hsz : (P.info? e).map (·.size) = some 1 := by rw [h1']; simp [h3']
  obtain ⟨hvl, hsrc⟩ := hR _ s.2.2.2
  have s' : Sat E (own e 1 ad m cap us :: L') w := s.mp fun _ k => hp.sep k
  obtain ⟨hos, htp, hou, k1, k2, dd, s1, s2, ⟨hul, hv⟩, hL⟩ := s'
  by_cases h0 : min sl dl = 0
  ·refine ⟨.int .i64 0, w, ?_, ?_⟩
   ·have hrun := run_copy_none (P := P) w t t2 ty e (cutA ad 1 q cap) sad dl dc sl sc ht hsz h0
    simp only [execOp, resolve, List.map_toArray, List.map_cons, List.map_nil, f.ev hx, f.ev hy, invoke, builtin, Sem.run_bind, Sem.run_pure, Result.andThen_ok, hrun]
    rfl
   ·rw [h0] at K
    refine K _ _ (f.put hd _) ⟨hos, htp, hou, k1, k2, dd, s1, s2, ?_, hL⟩; simpa using ⟨hul, hv⟩
  ·have hds : dl ≠ 0 := fun h => h0 (by rw [h]; simp)
   have hsl : sl ≠ 0 := fun h => h0 (by rw [h]; simp)
   rcases hv with ⟨rfl, rfl⟩ | ⟨b, off, sp, rfl, hmc, hcm, hsp, hpt⟩
   ·omega
   have hA : cutA (some ⟨b, off, none⟩) 1 q cap = some ⟨b, off + q, none⟩ := by
    unfold cutA; rw [if_neg (by omega)]; simp [add_flat]
   obtain ⟨sb, so, rfl, hsc⟩ : ∃ sb so, sad = some ⟨sb, so, none⟩ ∧ ∀ j v, vs[j]? = some v → w.cell? ⟨sb, so + j, none⟩ = some v := by
    rcases hsrc with h | ⟨sb, so, e, hc⟩
    ·omega
    ·exact ⟨sb, so, e, fun j v hj => by obtain ⟨_, hb⟩ := hc j v hj; exact cell_hp hb⟩
   have hnl : (vs.take (min sl dl)).length = min sl dl * 1 := by rw [List.length_take, hvl]; omega
   have hf := run_firstCells_some (P := P) w 1 (min sl dl) ⟨sb, so, none⟩ sl sc (vs.take (min sl dl)) hnl (fun j v hj => by
    rw [add_flat]; refine hsc j v ?_
    have hj2 := (List.getElem?_eq_some_iff.1 hj).1
    rw [List.length_take] at hj2
    rwa [List.getElem?_take_of_lt (by omega)] at hj)
   have s0 : Sat E (seg b off (us ++ sp) :: L') w := ⟨hos, htp, hou, k1, k2, dd, s1, s2, hpt, hL⟩
   have hul' : us.length = m := by omega
   obtain ⟨w', hst, s''⟩ := Sat.storeSeg (P := P) (q := q) (vs := vs.take (min sl dl)) s0 (by rw [List.length_append, hnl]; omega) (by rw [List.length_append]; omega) (fun u hu => h1 u (List.mem_of_mem_take hu))
   refine ⟨.int .i64 ((min sl dl : Nat) : Int), w', ?_, K _ _ (f.put hd _) (s''.mp fun h hh => sep_head hh fun k x => ?_)⟩
   ·have hun : (Builtin.copy_ #[t, t2] ty #[.slice (some ⟨b, off + q, none⟩) dl dc, .slice (some ⟨sb, so, none⟩) sl sc]).run P w = .ok (goInt (min sl dl : Nat)) w' := by
     have hm : Nat.min sl dl = min sl dl := rfl
     simp [Builtin.copy_, run_underlying ht, sizeOf, typeInfo, h1', Builtin.lenOf, h3', hm, hf, hst]
    rw [hA] at hx; simp only [execOp, resolve, List.map_toArray, List.map_cons, List.map_nil, f.ev hx, f.ev hy, invoke, builtin, Sem.run_bind, Sem.run_pure, Result.andThen_ok, hun]
    rfl
   ·rw [hnl, Nat.mul_one] at x
    have htot : (us.take q ++ vs.take (min sl dl) ++ us.drop (q + min sl dl)).length = m * 1 := by
     simp only [List.length_append, List.length_take, List.length_drop, hul', hvl]; omega
    refine ⟨htot, .inr ⟨b, off, sp, rfl, hmc, hcm, hsp, ?_⟩⟩; rw [List.take_append_of_le_length (by omega), List.drop_append_of_le_length (by omega)] at x; simpa only [List.append_assoc] using x
end
section
variable {P : Program} {E : World} {n : Nat} {ds : List Deferred} {st : List (Nat × Value)} {L : List SP} {ops : Array Oper} {C : World → Prop} {Kq : Act → Prop} {p : Bool}
theorem wpQuiet_append {l2 : List Oper} : ∀ {l1 : List Oper} {a : Act}, wpQuiet P ops C (fun a' => wpQuiet P ops C Kq l2 a') l1 a → wpQuiet P ops C Kq (l1 ++ l2) a
 | [], _, h => h
 | o :: r, a, h => by
  simp only [List.cons_append]; unfold wpQuiet at h ⊢
  split
  ·rename_i hw
   rw [if_pos hw] at h
   obtain ⟨v, h1, h2⟩ := h
   exact ⟨v, h1, wpQuiet_append h2⟩
  ·rename_i hw
   rw [if_neg hw] at h; exact wpQuiet_append h
theorem Hq.andg {l : List Oper} (m gd dd : Nat) (sk : List (Nat × Value)) {q : Bool} (hv : look st gd = some (.bool p)) (_hk : sub st sk)
  (hT : p = true → Hq n ds ((gd, .bool true) :: st) (QW P ops C (fun a => Fr n ds ((dd, .bool q) :: sk) a) (l.take m)))
  (hF : p = false → Hq n ds ((gd, .bool false) :: st) (QW P ops C (fun a => Fr n ds ((dd, .bool false) :: sk) a) (l.take m)))
  (K : Hq n ds ((dd, .bool (p && q)) :: sk) (QW P ops C Kq (l.drop m))) : Hq n ds st (QW P ops C Kq l) := fun a f => by
 have h : wpQuiet P ops C (fun a' => wpQuiet P ops C Kq (l.drop m) a') (l.take m) a := by
  have h1 : wpQuiet P ops C (fun a => Fr n ds ((dd, .bool (p && q)) :: sk) a) (l.take m) a :=
   (Hq.part hv (fun hp => by subst hp; exact hT rfl) (fun hp => by subst hp; exact hF rfl) : Hq n ds st (QW P ops C (fun a => Fr n ds ((dd, .bool (p && q)) :: sk) a) (l.take m))) a f
  exact wpQuiet_mono' h1 fun a f => K a f
 have := wpQuiet_append h
 rwa [List.take_append_drop] at this
where
  wpQuiet_mono' {K1 K2 : Act → Prop} : ∀ {l : List Oper} {a : Act}, wpQuiet P ops C K1 l a → (∀ a, K1 a → K2 a) → wpQuiet P ops C K2 l a
    | [], _, h, hk => hk _ h
    | o :: r, a, h, hk => by
      unfold wpQuiet at h ⊢
      split
      · rename_i hw
        rw [if_pos hw] at h
        obtain ⟨v, h1, h2⟩ := h
        exact ⟨v, h1, wpQuiet_mono' h2 hk⟩
      · rename_i hw
        rw [if_neg hw] at h
        exact wpQuiet_mono' h hk
theorem Hq.org {l : List Oper} (m gd dd : Nat) (sk : List (Nat × Value)) {q : Bool} (hv : look st gd = some (.bool p)) (_hk : sub st sk)
  (hT : p = true → Hq n ds ((gd, .bool true) :: st) (QW P ops C (fun a => Fr n ds ((dd, .bool true) :: sk) a) (l.take m)))
  (hF : p = false → Hq n ds ((gd, .bool false) :: st) (QW P ops C (fun a => Fr n ds ((dd, .bool q) :: sk) a) (l.take m)))
  (K : Hq n ds ((dd, .bool (p || q)) :: sk) (QW P ops C Kq (l.drop m))) : Hq n ds st (QW P ops C Kq l) := fun a f => by
 have h : wpQuiet P ops C (fun a' => wpQuiet P ops C Kq (l.drop m) a') (l.take m) a := by
  have h1 : wpQuiet P ops C (fun a => Fr n ds ((dd, .bool (p || q)) :: sk) a) (l.take m) a :=
   (Hq.part hv (fun hp => by subst hp; exact hT rfl) (fun hp => by subst hp; exact hF rfl) : Hq n ds st (QW P ops C (fun a => Fr n ds ((dd, .bool (p || q)) :: sk) a) (l.take m))) a f
  exact Hq.andg.wpQuiet_mono' h1 fun a f => K a f
 have := wpQuiet_append h
 rwa [List.take_append_drop] at this
theorem Hq.mend {st' : List (Nat × Value)} (hs : sub st st') : Hq n ds st (QW P ops C (fun a => Fr n ds st' a) []) := fun _ f => f.sub hs
end
section
variable {E : World} {n : Nat} {ds : List Deferred} {st st' : List (Nat × Value)} {L L' : List SP} {r : Option Nat} {P : Program} {Q : Exit → Act → World → Prop} {ops : Array Oper} {rest : List Oper}
variable {d : Nat} {ty t t2 : TypeId} {pos : String} {af : Array Edge} {g : Option (Nat × Bool)} {x y z : Operand} {v u : Value} {k : IntKind} {p q : Bool}
theorem sep_right {M N N' : List SP} {k : PH} (h : ∀ k, sep N k → sep N' k) (s : sep (M ++ N) k) : sep (M ++ N') k := by
 obtain ⟨h1, h2, d, s1, s2, x, y⟩ := sep_append s
 exact sep_join d s1 s2 x (h _ y)
end
section
variable {P : Program} {E : World} {n : Nat} {ds : List Deferred} {st : List (Nat × Value)} {L L' : List SP}
theorem results_ctt {fn : Func} {ta tb tc : Nat} {t : TypeId} {b o : Nat} {us : List Value} {tmps : Array Value} {v u : Value} {w : World} (hr : fn.results = #[.cell ta t, .tmp tb, .tmp tc]) (ha : agk P t = some true) (hx : tmps.getD ta undef = .pointer (some ⟨b, o, none⟩)) (hv : tmps.getD tb undef = v) (hu : tmps.getD tc undef = u)
  (hR : Rd L b o us) (hz : szk P t = some us.length) (s : Sat E L w) : (results fn tmps).run P w = .ok (.tuple #[.agg us.toArray, v, u]) w := by
 have hc : (loadCells ⟨b, o, none⟩ us.length).run P w = .ok us.toArray w := run_loadCells_list w _ us fun j v e => by
  have := hR.cell s e
  unfold Addr.add
  split
  ·rename_i h0; subst h0; simpa using this
  ·exact this
 have hl : (loadVar t ⟨b, o, none⟩).run P w = .ok (.agg us.toArray) w := by
  simp only [loadVar, Sem.run_bind, run_isAgg ha, Result.andThen, if_true, run_sizeOf' hz, hc]
  rfl
 have hx2 : tmps[ta]?.getD undef = .pointer (some ⟨b, o, none⟩) := by simpa using hx
 have hv2 : tmps[tb]?.getD undef = v := by simpa using hv
 have hu2 : tmps[tc]?.getD undef = u := by simpa using hu
 simp [results, hr, hx2, hv2, hu2, asAddr, hl]
theorem Hd.retCTT {fn : Func} {ta tb tc : Nat} {t : TypeId} {b o : Nat} {us : List Value} {v u : Value} {ι : Type} {val : ι → Value} {post : ι → List SP} (hr : fn.results = #[.cell ta t, .tmp tb, .tmp tc]) (i : ι) (ha : agk P t = some true) (hx : look st ta = some (.pointer (some ⟨b, o, none⟩))) (hv : look st tb = some v) (hu : look st tc = some u)
  (hR : Rd L b o us) (hz : szk P t = some us.length) (hi : val i = .tuple #[.agg us.toArray, v, u]) (hl : ∀ k, sep L k → sep (post i) k) :
  Hd E n [] st L ((bodyPost P fn fun e w' => ∃ i, e = .returned (val i) ∧ Sat E (post i) w') .ret) := fun a w f s =>
 bodyPost_ret (results_ctt (v := v) (u := u) hr ha (by simp [f.at_ ta _ hx]) (by simp [f.at_ tb _ hv]) (by simp [f.at_ tc _ hu]) hR hz s) f.defs ⟨i, by rw [hi], s.mp hl⟩
theorem results_3 {fn : Func} {ta tb tc : Nat} {tmps : Array Value} {v1 v u : Value} {w : World} (hr : fn.results = #[.tmp ta, .tmp tb, .tmp tc]) (hx : tmps.getD ta undef = v1) (hv : tmps.getD tb undef = v) (hu : tmps.getD tc undef = u) : (results fn tmps).run P w = .ok (.tuple #[v1, v, u]) w := by
 have hx2 : tmps[ta]?.getD undef = v1 := by simpa using hx
 have hv2 : tmps[tb]?.getD undef = v := by simpa using hv
 have hu2 : tmps[tc]?.getD undef = u := by simpa using hu
 simp [results, hr, hx2, hv2, hu2]
theorem Hd.ret3 {fn : Func} {ta tb tc : Nat} {v1 v u : Value} {ι : Type} {val : ι → Value} {post : ι → List SP} (hr : fn.results = #[.tmp ta, .tmp tb, .tmp tc]) (i : ι) (hx : look st ta = some v1) (hv : look st tb = some v) (hu : look st tc = some u) (hi : val i = .tuple #[v1, v, u]) (hl : ∀ k, sep L k → sep (post i) k) :
  Hd E n [] st L ((bodyPost P fn fun e w' => ∃ i, e = .returned (val i) ∧ Sat E (post i) w') .ret) := fun a w f s =>
 bodyPost_ret (results_3 (v1 := v1) (v := v) (u := u) hr (by simp [f.at_ ta _ hx]) (by simp [f.at_ tb _ hv]) (by simp [f.at_ tc _ hu])) f.defs ⟨i, by rw [hi], s.mp hl⟩
end
section
variable {E : World} {n : Nat} {ds : List Deferred} {st : List (Nat × Value)} {L : List SP} {P : Program}
variable {d : Nat} {ty t : TypeId} {pos : String} {af : Array Edge} {g : Option (Nat × Bool)} {x : Operand} {v : Value}
theorem y_fieldv1 {fs : Array Field} {i q ft : Nat} {cs : List Value} (hu : P.underlying t = some (.struct fs)) (hf : (fs[i]?).map (fun f => (f.offset, f.type)) = some (q, ft)) (ha : agk P ft = some false) (hx : evo st x = some (.agg cs.toArray)) (hc : cs[q]? = some v) :
  Yv E n ds st L P ⟨some d, .field t x i, ty, pos, af, g⟩ v := fun a w f _ => by
 cases hfi : fs[i]? with
 | none => rw [hfi] at hf; cases hf
 | some fl =>
  rw [hfi] at hf
  obtain ⟨rfl, rfl⟩ := Prod.mk.inj (Option.some.inj hf)
  simp only [execOp, f.ev hx]; simp only [Instr.field, Sem.run_bind, run_underlying hu, Result.andThen, hfi]; simp [asAgg, run_part1 (P := P) (cs := cs.toArray) ha (by simpa using hc)]
end
end Go.RX
