/-
  Ranges over maps whose keys are integers. No program is named here.
-/
import Derived.Maps.RangeRun
import Derived.ChangeKeysEq
import Derived.Laws.CopyOwn
import Derived.Shelf.SlSortCmp.NoneTotal
import Derived.Shelf.SortM.Plain
import Derived.Shelf.SortM.SortNone
import Derived.Test.YtbfddabjbkohdaaGreatRows
import Derived.Test.YtbfddabjbkohdaaGreatZChangeKernelsB
set_option linter.unusedSimpArgs false
set_option linter.unusedVariables false
set_option linter.unnecessarySimpa false
namespace Go.RX
open Go.MapKept
section
variable {E : World} {n : Nat} {ds : List Deferred} {st st' : List (Nat × Value)} {L L' L'' : List SP} {r : Option Nat} {P : Program} {Q : Exit → Act → World → Prop} {ops : Array Oper} {rest : List Oper}
variable {d : Nat} {ty t t2 : TypeId} {pos : String} {af : Array Edge} {g : Option (Nat × Bool)} {x y z : Operand} {v u : Value} {k : IntKind} {p q : Bool}
structure MpI (f : Int → Option Value) (m : Nat) (l : List KV) (c : Nat) : Prop where
 keys : (l.map (·.1)).Nodup
 len : l.length = m
 get : ∀ a, f a = getKV l a
 nd : (l.map (·.2.2)).Nodup
 lt : ∀ e ∈ l, e.2.2 < c
abbrev mo (b : Nat) (k : IntKind) (l : List KV) (c : Nat) : SP := ob b (.map (l.map (ent k)).toArray c)
abbrev io (rb b c : Nat) (seen : List Nat) : SP := ob rb (.mapIter (some b) c seen.toArray c)
theorem mp_in {f : Int → Option Value} {b m c : Nat} {l : List KV} (h : MpI f m l c) : ∀ q, sep (mo b k l c :: L) q → sep (mp b k f m :: L) q := fun _ s => sep_head s fun _ x => ⟨⟨l, c, x.kind, h.keys, h.len, h.get, h.nd, h.lt⟩⟩
theorem Hd.mpOut {f : Int → Option Value} {b m : Nat} {K : Act → World → Prop} (p : Pick L (mp b k f m) L') (h : ∀ l c, MpI f m l c → Hd E n ds st (mo b k l c :: L') K) : Hd E n ds st L K := fun a w fr s => by
 obtain ⟨h1, h2, d, aa, bb, ⟨⟨l, c, hb, x1, x2, x3, x4, x5⟩⟩, y⟩ := p.sep s.2.2.2
 exact h l c ⟨x1, x2, x3, x4, x5⟩ a w fr ⟨s.1, s.2.1, s.2.2.1, h1, h2, d, aa, bb, ⟨hb⟩, y⟩
theorem Hd.rangeMap {b c : Nat} {l : List KV} {kt vt : TypeId} (hu : P.underlying t = some (.map kt vt)) (hx : evo st x = some (.map (some b))) (p : Pick L (mo b k l c) L')
  (K : ∀ rb, Hd E n ds ((d, .pointer (some ⟨rb, 0, none⟩)) :: st) (io rb b c [] :: L) (LW r P ops Q rest)) (hd : d < n := by decide) :
  Hd E n ds st L (LW r P ops Q (⟨some d, .range t x, ty, pos, af, none⟩ :: rest)) :=
 Hd.op rfl (by simp) fun a w f s => by
  have hb := s.ob_at p
  refine ⟨.pointer (some ⟨w.heap.size, 0, none⟩), { w with heap := w.heap.push (.mapIter (some b) c #[] c) }, ?_, K w.heap.size _ _ (f.put hd _) (s.new (.mapIter (some b) c #[] c))⟩; simp only [execOp, f.ev hx]; simp [Instr.range, run_underlying hu, getObj, newObj, Sem.run, hb, go_sem]
def tupO (k : IntKind) : Option KV → Value
 | none => .tuple #[.bool false]
 | some e => .tuple #[.bool true, .int k e.1, e.2.1]
def seenO (seen : List Nat) : Option KV → List Nat
 | none => seen
 | some e => seen ++ [e.2.2]
def NxO (l : List KV) (seen : List Nat) : Option KV → Prop
 | none => ∀ e ∈ l, e.2.2 ∈ seen
 | some e => e ∈ l ∧ e.2.2 ∉ seen
theorem Hd.nextMap {rb b c : Nat} {l : List KV} {seen : List Nat} (hx : evo st x = some (.pointer (some ⟨rb, 0, none⟩))) (p : Pick L (io rb b c seen) L') (p2 : Pick L (mo b k l c) L'') (hlt : ∀ e ∈ l, e.2.2 < c)
  (K : ∀ o : Option KV, NxO l seen o → Hd E n ds ((d, tupO k o) :: st) (io rb b c (seenO seen o) :: L') (LW r P ops Q rest)) (hd : d < n := by decide) :
  Hd E n ds st L (LW r P ops Q (⟨some d, .next x false, ty, pos, af, none⟩ :: rest)) :=
 Hd.op rfl (by simp) fun a w f s => by
  have hr := s.ob_at p
  have hb := s.ob_at p2
  rcases run_next_at (P := P) w ty rb b c c seen.toArray (l.map (ent k)).toArray c hr hb (fun e he => by
   obtain ⟨e0, h0, rfl⟩ := List.mem_map.1 (show e ∈ l.map (ent k) from he)
   exact hlt e0 h0) (Nat.le_refl c) with ⟨h0, hrun⟩ | ⟨e, he, w1, hw, hrun⟩
  ·refine ⟨_, w, by simp only [execOp, f.ev hx, Sem.run_bind, hrun]; rfl, K none (fun e he => ?_) _ _ (f.put hd _) (s.mp fun _ q => p.sep q)⟩
   have := all_seen (l.map (ent k)).toArray seen.toArray h0 (ent k e) (show ent k e ∈ l.map (ent k) from List.mem_map.2 ⟨e, he, rfl⟩)
   simpa [ent] using this
  ·obtain ⟨hem, hes⟩ := mem_left he
   obtain ⟨e0, h0, rfl⟩ := List.mem_map.1 (show e ∈ l.map (ent k) from hem)
   have s1 : Sat E L w1 := by
    rcases hw with rfl | rfl
    ·exact s
    ·exact s.draw
   have hr1 := s1.ob_at p
   refine ⟨_, _, by simp only [execOp, f.ev hx, Sem.run_bind, hrun]; rfl, K (some e0) ⟨h0, by simpa [ent] using hes⟩ _ _ (f.put hd _) ?_⟩
   have hlt := (Array.getElem?_eq_some_iff.1 hr1).1
   refine Sat.put s1 p rfl rfl rfl (fun x hx => ?_) ?_
   ·simp [ChangeMaps.setBlock, Array.getElem?_setIfInBounds_ne (Ne.symm hx)]
   ·simp [ChangeMaps.setBlock, hlt, seenO, ent]
theorem y_entry {rb b c : Nat} {l : List KV} {seen : List Nat} {e : KV} (hx : evo st x = some (.pointer (some ⟨rb, 0, none⟩))) (p : Pick L (io rb b c (seen ++ [e.2.2])) L') (p2 : Pick L (mo b k l c) L'') (he : e ∈ l) (hn : (l.map (·.2.2)).Nodup) :
  Yv E n ds st L P ⟨some d, .entry x, ty, pos, af, g⟩ (.tuple #[.int k e.1, e.2.1]) := fun a w f s => by
 have hr := s.ob_at p
 have hb := s.ob_at p2
 have h := run_entry_at (P := P) w rb b c seen.toArray (l.map (ent k)).toArray c (ent k e) (by rw [hr]; simp [ent]) hb (show ent k e ∈ l.map (ent k) from List.mem_map.2 ⟨e, he, rfl⟩) (show ((l.map (ent k)).map (·.born)).Nodup by
  rw [List.map_map]
  exact hn)
 simp only [execOp, f.ev hx, Sem.run_bind, h]
 rfl
structure EsI (l es : List KV) : Prop where
 nd : es.Nodup
 mem : ∀ e ∈ es, e ∈ l
theorem EsI.nil (l : List KV) : EsI l [] := ⟨.nil, fun e h => by cases h⟩
theorem EsI.step {l es : List KV} (h : EsI l es) {e : KV} (he : e ∈ l) (hn : e.2.2 ∉ es.map (·.2.2)) : EsI l (es ++ [e]) :=
 ⟨by rw [List.nodup_append]; exact ⟨h.nd, by simp, fun a ha b hb hab => by
   obtain rfl : b = e := by simpa using hb
   subst hab
   exact hn (List.mem_map.2 ⟨a, ha, rfl⟩)⟩, fun a ha => by
  rcases List.mem_append.1 ha with ha | ha
  ·exact h.mem a ha
  ·obtain rfl : a = e := by simpa using ha
   exact he⟩
theorem inj_of_map {α β : Type} (f : α → β) : ∀ {l : List α}, (l.map f).Nodup → ∀ a ∈ l, ∀ b ∈ l, f a = f b → a = b
 | [], _, a, ha, _, _, _ => by cases ha
 | x :: l, h, a, ha, b, hb, e => by
  rw [List.map_cons, List.nodup_cons] at h
  rcases List.mem_cons.1 ha with h1 | h1
  ·rcases List.mem_cons.1 hb with h2 | h2
   ·rw [h1, h2]
   ·exact (h.1 (List.mem_map.2 ⟨b, h2, by rw [← e, h1]⟩)).elim
  ·rcases List.mem_cons.1 hb with h2 | h2
   ·exact (h.1 (List.mem_map.2 ⟨a, h1, by rw [e, h2]⟩)).elim
   ·exact inj_of_map f h.2 a h1 b h2 e
structure KeysOf (f : Int → Option Value) (ks : List Int) : Prop where
 nd : ks.Nodup
 mem : ∀ a, a ∈ ks ↔ (f a).isSome = true
theorem getKV_some {l : List KV} {a : Int} : (getKV l a).isSome = true ↔ a ∈ l.map (·.1) := by
 unfold getKV; rw [Option.isSome_map, List.find?_isSome, List.mem_map]
 constructor
 ·rintro ⟨e, he, h⟩; exact ⟨e, he, by simpa using h⟩
 ·rintro ⟨e, he, h⟩; exact ⟨e, he, by simpa using h⟩
theorem es_keys {f : Int → Option Value} {m c : Nat} {l es : List KV} (h : MpI f m l c) (hE : EsI l es) (hall : ∀ e ∈ l, e.2.2 ∈ es.map (·.2.2)) : KeysOf f (es.map (·.1)) where
 nd := by
  have hk := h.keys
  have hi := inj_of_map (fun e : KV => e.1) hk
  refine List.pairwise_map.2 (hE.nd.imp_of_mem fun {a b} ha hb hab e => hab (hi a (hE.mem a ha) b (hE.mem b hb) e))
 mem a := by
  rw [h.get a, getKV_some]
  constructor
  ·intro ha
   obtain ⟨e, he, rfl⟩ := List.mem_map.1 ha
   exact List.mem_map.2 ⟨e, hE.mem e he, rfl⟩
  ·intro ha
   obtain ⟨e, he, rfl⟩ := List.mem_map.1 ha
   obtain ⟨e2, he2, hb⟩ := List.mem_map.1 (hall e he)
   obtain rfl := inj_of_map (fun e : KV => e.2.2) h.nd e2 (hE.mem e2 he2) e he hb
   exact List.mem_map.2 ⟨e2, he2, rfl⟩
theorem es_pre {f : Int → Option Value} {m c : Nat} {l es : List KV} (h : MpI f m l c) (hE : EsI l es) : (es.map (·.1)).Nodup ∧ ∀ a ∈ es.map (·.1), (f a).isSome = true :=
 ⟨List.pairwise_map.2 (hE.nd.imp_of_mem fun {a b} ha hb hab e => hab (inj_of_map (fun e : KV => e.1) h.keys a (hE.mem a ha) b (hE.mem b hb) e)), fun a ha => by
  obtain ⟨e, he, rfl⟩ := List.mem_map.1 ha
  rw [h.get, getKV_some]
  exact List.mem_map.2 ⟨e, hE.mem e he, rfl⟩⟩
end
section
variable {P : Program} {E : World} {n : Nat} {ds : List Deferred} {st : List (Nat × Value)} {L L' : List SP}
theorem results_ct {fn : Func} {ta tb : Nat} {t : TypeId} {b o : Nat} {us : List Value} {tmps : Array Value} {v : Value} {w : World} (hr : fn.results = #[.cell ta t, .tmp tb]) (ha : agk P t = some true) (hx : tmps.getD ta undef = .pointer (some ⟨b, o, none⟩)) (hv : tmps.getD tb undef = v)
  (hR : Rd L b o us) (hz : szk P t = some us.length) (s : Sat E L w) : (results fn tmps).run P w = .ok (.tuple #[.agg us.toArray, v]) w := by
 have hc : (loadCells ⟨b, o, none⟩ us.length).run P w = .ok us.toArray w := run_loadCells_list w _ us fun j v e => by
  have := hR.cell s e
  unfold Addr.add
  split
  ·rename_i h0; subst h0; simpa using this
  ·exact this
 have hl : (loadVar t ⟨b, o, none⟩).run P w = .ok (.agg us.toArray) w := by
  simp only [loadVar, Sem.run_bind, run_isAgg ha, Result.andThen, if_true, run_sizeOf' hz, hc]
  rfl
 have hx2 : tmps[ta]?.getD undef = .pointer (some ⟨b, o, none⟩) := by simpa using hx
 have hv2 : tmps[tb]?.getD undef = v := by simpa using hv
 simp [results, hr, hx2, hv2, asAddr, hl]
theorem Hd.ownTake {e sz m cap : Nat} {ad : Option Addr} {us : List Value} {K : Act → World → Prop} (p : Pick L (own e sz ad m cap us) L') (l : Nat) (us1 us2 : List Value) (hl : l ≤ m) (hu : us = us1 ++ us2) (h1 : us1.length = l * sz)
  (h : Hd E n ds st (own e sz ad l cap us1 :: L') K) : Hd E n ds st L K := Hd.heap _ (fun k s => by subst hu; exact sep_head (p.sep s) fun _ x => own_take hl h1 x) h
theorem Hd.retCT {fn : Func} {ta tb : Nat} {t : TypeId} {b o : Nat} {us : List Value} {v : Value} {ι : Type} {val : ι → Value} {post : ι → List SP} (hr : fn.results = #[.cell ta t, .tmp tb]) (i : ι) (ha : agk P t = some true) (hx : look st ta = some (.pointer (some ⟨b, o, none⟩))) (hu : look st tb = some v)
  (hR : Rd L b o us) (hz : szk P t = some us.length) (hv : val i = .tuple #[.agg us.toArray, v]) (hl : ∀ k, sep L k → sep (post i) k) :
  Hd E n [] st L ((bodyPost P fn fun e w' => ∃ i, e = .returned (val i) ∧ Sat E (post i) w') .ret) := fun a w f s =>
 bodyPost_ret (results_ct (v := v) hr ha (by simp [f.at_ ta _ hx]) (by simp [f.at_ tb _ hu]) hR hz s) f.defs ⟨i, by rw [hv], s.mp hl⟩
end
section
variable {E : World} {n : Nat} {ds : List Deferred} {st st' : List (Nat × Value)} {L L' : List SP} {r : Option Nat} {P : Program} {Q : Exit → Act → World → Prop} {ops : Array Oper} {rest : List Oper}
variable {d : Nat} {ty t t2 : TypeId} {pos : String} {af : Array Edge} {g : Option (Nat × Bool)} {x y z : Operand} {v u : Value} {k : IntKind} {p q : Bool}
theorem Hd.mapDelete0 {f : Int → Option Value} {b m : Nat} {a : Int} {zs : Value} (hT : MapT P t k zs) (hx : evo st x = some (.map (some b))) (hy : evo st y = some (.int k a)) (p : Pick L (mp b k f m) L')
  (K : Hd E n ds st (mp b k (fun c => if c = a then none else f c) (if (f a).isSome then m - 1 else m) :: L') (LW r P ops Q rest)) :
  Hd E n ds st L (LW r P ops Q (⟨none, .call ⟨.builtin .delete, #[x, y], #[t, t2]⟩, ty, pos, af, none⟩ :: rest)) :=
 Hd.op rfl (by simp) fun ac w fr s => by
  obtain ⟨kt, vt, i, h1, h2, h3, h4⟩ := hT.ex
  obtain ⟨l, c, hb, hn, hm, hf, hbn, hbl⟩ := s.mp_at p
  have hck := run_checkKey (P := P) (w := w) (kt := kt) (k := .int k a) h2 (by simp [IsKey]) l.isEmpty 9999
  have hfk := run_findKey (P := P) (w := w) (kt := kt) h2 (findNow_fi k a l 0)
  have hg := fi_get l a 0
  rw [← hf] at hg
  cases hfi : fi l a 0 with
  | none =>
   rw [hfi] at hg hfk; simp only [Option.map_none] at hg
   have hno := fi_none hfi
   refine ⟨.tuple #[], { w with heap := w.heap.setIfInBounds b (.map (l.map (ent k)).toArray c) }, ?_, K _ _ fr ?_⟩
   ·simp only [execOp, resolve, List.map_toArray, List.map_cons, List.map_nil, fr.ev hx, fr.ev hy, invoke, builtin, Builtin.delete_, Sem.run_bind, Sem.run_pure, Result.andThen_ok]
    simp [run_underlying h1, MapKept.run_getObj_map hb, hck, hfk, MapKept.run_setObj_map _ hb]
   ·refine Sat.putMp s p rfl rfl rfl (fun x hx => set_heap_ne hx) (set_heap hb) hn ?_ (fun b' => ?_) ?_
    ·rw [← hg]; simpa using hm
    ·rw [← hf]
     by_cases hb' : b' = a
     ·subst hb'; rw [if_pos rfl, ← hg]
     ·rw [if_neg hb']
    ·exact ⟨hbn, hbl⟩
  | some jv =>
   obtain ⟨j, u⟩ := jv
   rw [hfi] at hg hfk; simp only [Option.map_some] at hg
   obtain ⟨bo, _, hj⟩ := fi_at l a 0 j u hfi
   rw [Nat.sub_zero] at hj
   have hjl := (List.getElem?_eq_some_iff.1 hj).1
   have hj' : l[j] = (a, u, bo) := by have h := hj; rw [List.getElem?_eq_getElem hjl] at h; simpa using h
   refine ⟨.tuple #[], { w with heap := w.heap.setIfInBounds b (.map ((l.eraseIdx j).map (ent k)).toArray c) }, ?_, K _ _ fr ?_⟩
   ·have e : (l.map (ent k)).toArray.eraseIdxIfInBounds j = ((l.eraseIdx j).map (ent k)).toArray := by
     apply Array.ext'; rw [Array.toList_eraseIdxIfInBounds]; simp only [List.eraseIdx_eq_take_drop_succ, List.map_append, List.map_take, List.map_drop]
    simp only [execOp, resolve, List.map_toArray, List.map_cons, List.map_nil, fr.ev hx, fr.ev hy, invoke, builtin, Builtin.delete_, Sem.run_bind, Sem.run_pure, Result.andThen_ok]
    have e2 : (l.map (ent k)).eraseIdx j = (l.eraseIdx j).map (ent k) := by simp only [List.eraseIdx_eq_take_drop_succ, List.map_append, List.map_take, List.map_drop]
    simp [run_underlying h1, MapKept.run_getObj_map hb, hck, hfk, MapKept.run_setObj_map _ hb, e, e2]
   ·refine Sat.putMp s p rfl rfl rfl (fun x hx => set_heap_ne hx) (set_heap hb) ?_ ?_ (fun b' => ?_) ?_
    ·exact (hn.sublist (List.Sublist.map _ (List.eraseIdx_sublist l j)))
    ·rw [← hg]; simp [List.length_eraseIdx, hm]; omega
    ·rw [erase_get l j a u bo hj hn, hf]
    ·exact ⟨hbn.sublist (List.Sublist.map _ (List.eraseIdx_sublist l j)), fun e he => hbl e (List.mem_of_mem_eraseIdx he)⟩
end
end Go.RX
namespace Go.RX
section
variable {P : Program}
def flF (P : Program) (g : TypeId → Option (List TypeDesc)) : Nat → List Field → Option (List TypeDesc)
 | _, [] => some []
 | off, f :: fs => bif f.name != "_" && Nat.beq f.offset off then
   match g f.type with
   | some sh => bif decide (szk P f.type = some sh.length) then
     match flF P g (off + sh.length) fs with
     | some r => some (sh ++ r)
     | none => none
    else none
   | none => none
  else none
def eqfl (P : Program) : Nat → TypeId → Option (List TypeDesc)
 | 0, _ => none
 | d + 1, t => match P.underlying t with
  | some (.struct _) => bif P.stoodInHeld t then none else bif decide (agk P t = some true) then flF P (eqfl P d) 0 (P.fieldsOf t).toList else none
  | some (.array n e) => bif decide (agk P t = some true) then (match eqfl P d e, P.info? e with
   | some sh, some _ => bif decide (szk P e = some sh.length) && Nat.beq (P.cellsOf e) sh.length then some (List.replicate n sh).flatten else none
   | _, _ => none) else none
  | some u => bif decide (agk P t = some false) then some [u] else none
  | none => none
def VOf (P : Program) (t : TypeId) (xs : List Value) (x : Value) : Prop := (agk P t = some true ∧ x = .agg xs.toArray) ∨ (agk P t = some false ∧ xs = [x])
theorem fits_app {s1 s2 : List TypeDesc} : ∀ {a c b d : List Value}, a.length = s1.length → c.length = s1.length → fits (s1 ++ s2) (a ++ b) (c ++ d) = true → fits s1 a c = true ∧ fits s2 b d = true := by
 induction s1 with
 | nil => intro a c b d h1 h2 h; obtain rfl := List.eq_nil_of_length_eq_zero h1; obtain rfl := List.eq_nil_of_length_eq_zero h2; exact ⟨rfl, h⟩
 | cons u s ih =>
  intro a c b d h1 h2 h
  cases a with
  | nil => simp at h1
  | cons x a =>
   cases c with
   | nil => simp at h2
   | cons y c =>
    simp only [List.cons_append, fits, Bool.and_eq_true] at h ⊢
    have := ih (by simpa using h1) (by simpa using h2) h.2
    exact ⟨⟨h.1, this.1⟩, this.2⟩
theorem allEq_app : ∀ {a c b d : List Value}, a.length = c.length → allEq (a ++ b) (c ++ d) = (allEq a c && allEq b d) := by
 intro a
 induction a with
 | nil => intro c b d h; obtain rfl := List.eq_nil_of_length_eq_zero h.symm; simp [allEq]
 | cons x a ih =>
  intro c b d h
  cases c with
  | nil => simp at h
  | cons y c => simp only [List.cons_append, allEq]; rw [ih (by simpa using h), Bool.and_assoc]
theorem part_of {t : TypeId} {X : List Value} {off m : Nat} (ha : ∃ b, agk P t = some b) (hz : szk P t = some m) (hm : agk P t = some false → m = 1) (hl : off + m ≤ X.length) (w : World) :
  ∃ x, (part t X.toArray off).run P w = .ok x w ∧ VOf P t ((X.drop off).take m) x := by
 obtain ⟨b, hb⟩ := ha
 cases b with
 | true =>
  refine ⟨_, run_partn hb hz w, .inl ⟨hb, ?_⟩⟩; simp [List.extract_eq_take_drop]
 | false =>
  obtain rfl := hm hb
  have h1 : off < X.length := by omega
  refine ⟨X[off], run_part1 hb (by simp [h1]) w, .inr ⟨hb, ?_⟩⟩; rw [List.drop_eq_getElem_cons h1]; rfl
theorem eqfl_ag {d : Nat} {t : TypeId} {sh : List TypeDesc} (h : eqfl P d t = some sh) : ∃ b, agk P t = some b ∧ (b = false → sh.length = 1) := by
 cases d with
 | zero => cases h
 | succ d =>
  unfold eqfl at h
  split at h
  ·cases hs : P.stoodInHeld t <;> rw [hs] at h
   ·by_cases ha : agk P t = some true
    ·exact ⟨true, ha, fun e => by cases e⟩
    ·simp [ha] at h
   ·cases h
  ·by_cases ha : agk P t = some true
   ·exact ⟨true, ha, fun e => by cases e⟩
   ·simp [ha] at h
  ·by_cases ha : agk P t = some false
   ·simp [ha] at h; subst h; exact ⟨false, ha, fun _ => rfl⟩
   ·simp [ha] at h
  ·cases h
theorem eqF_run {g : TypeId → Option (List TypeDesc)} {D : Nat} (hg : ∀ t sh, g t = some sh → (∃ b, agk P t = some b ∧ (b = false → sh.length = 1)) ∧ ∀ xs ys x y w, xs.length = sh.length → ys.length = sh.length → fits sh xs ys = true → VOf P t xs x → VOf P t ys y → (Op.equalIn D t x y).run P w = .ok (allEq xs ys) w) (X Y : List Value) :
  ∀ (fs : List Field) (off : Nat) (sh : List TypeDesc) (w : World), flF P g off fs = some sh → (X.drop off).length = sh.length → (Y.drop off).length = sh.length → fits sh (X.drop off) (Y.drop off) = true → off ≤ X.length → off ≤ Y.length →
   (Op.eqFields D X.toArray Y.toArray fs).run P w = .ok (allEq (X.drop off) (Y.drop off)) w
 | [], off, sh, w, h, hx, hy, _, _, _ => by
  simp only [flF, Option.some.injEq] at h; subst h
  obtain h1 := List.eq_nil_of_length_eq_zero hx
  rw [h1]; simp [Op.eqFields, allEq]
 | f :: fs, off, sh, w, h, hx, hy, hf, hox, hoy => by
  unfold flF at h
  cases hb : (f.name != "_" && Nat.beq f.offset off) with
  | false => rw [hb] at h; cases h
  | true =>
   rw [hb, cond_true] at h; simp only [Bool.and_eq_true, bne_iff_ne, ne_eq] at hb
   have ho := Nat.eq_of_beq_eq_true hb.2
   split at h
   ·rename_i s1 hs1
    by_cases hz : szk P f.type = some s1.length
    ·simp only [hz, decide_true, cond_true] at h
     split at h
     ·rename_i r hr
      simp only [Option.some.injEq] at h; subst h; rw [List.length_append] at hx hy; rw [List.length_drop] at hx hy
      obtain ⟨⟨b, ha, hb1⟩, hrun⟩ := hg _ _ hs1
      have hm : agk P f.type = some false → s1.length = 1 := fun e => hb1 (by rw [ha] at e; exact Option.some.inj e)
      obtain ⟨x, px, vx⟩ := part_of (X := X) (off := off) ⟨b, ha⟩ hz hm (by omega) w
      obtain ⟨y, py, vy⟩ := part_of (X := Y) (off := off) ⟨b, ha⟩ hz hm (by omega) w
      have ex : X.drop off = (X.drop off).take s1.length ++ X.drop (off + s1.length) := by rw [← List.drop_drop, List.take_append_drop]
      have ey : Y.drop off = (Y.drop off).take s1.length ++ Y.drop (off + s1.length) := by rw [← List.drop_drop, List.take_append_drop]
      have lx : ((X.drop off).take s1.length).length = s1.length := by rw [List.length_take, List.length_drop]; omega
      have ly : ((Y.drop off).take s1.length).length = s1.length := by rw [List.length_take, List.length_drop]; omega
      have hf2 := hf
      rw [ex, ey] at hf2
      obtain ⟨f1, f2⟩ := fits_app lx ly hf2
      have e1 := hrun _ _ x y w lx ly f1 vx vy
      have ih := eqF_run hg X Y fs (off + s1.length) r w hr (by rw [List.length_drop]; omega) (by rw [List.length_drop]; omega) f2 (by omega) (by omega)
      have hall : allEq (X.drop off) (Y.drop off) = (allEq ((X.drop off).take s1.length) ((Y.drop off).take s1.length) && allEq (X.drop (off + s1.length)) (Y.drop (off + s1.length))) := by
       rw [← allEq_app (by rw [lx, ly]), ← ex, ← ey]
      rw [hall]; rw [← ho] at px py; simp only [Op.eqFields, hb.1, not_false_eq_true, if_true, ne_eq, Sem.run_bind, px, py, Result.andThen_ok, e1]
      cases he : allEq ((X.drop off).take s1.length) ((Y.drop off).take s1.length) with
      | true => simpa using ih
      | false => simp
     ·cases h
    ·simp [hz] at h
   ·cases h
theorem eqI_run {D : Nat} {e : TypeId} {sh : List TypeDesc} (hc : P.cellsOf e = sh.length) (hz : szk P e = some sh.length) (ha : ∃ b, agk P e = some b ∧ (b = false → sh.length = 1))
  (hg : ∀ xs ys x y w, xs.length = sh.length → ys.length = sh.length → fits sh xs ys = true → VOf P e xs x → VOf P e ys y → (Op.equalIn D e x y).run P w = .ok (allEq xs ys) w) (X Y : List Value) :
  ∀ (n i : Nat) (w : World), (X.drop (i * sh.length)).length = n * sh.length → (Y.drop (i * sh.length)).length = n * sh.length → fits (List.replicate n sh).flatten (X.drop (i * sh.length)) (Y.drop (i * sh.length)) = true → i * sh.length ≤ X.length → i * sh.length ≤ Y.length →
   (Op.eqItems D e (P.cellsOf e) X.toArray Y.toArray (List.range' i n)).run P w = .ok (allEq (X.drop (i * sh.length)) (Y.drop (i * sh.length))) w
 | 0, i, w, hx, hy, _, _, _ => by
  have h1 : X.drop (i * sh.length) = [] := List.eq_nil_of_length_eq_zero (by rw [hx]; simp)
  rw [h1]; simp [Op.eqItems, allEq]
 | n + 1, i, w, hx, hy, hf, hox, hoy => by
  obtain ⟨b, hab, hb1⟩ := ha
  have hm : agk P e = some false → sh.length = 1 := fun q => hb1 (by rw [hab] at q; exact Option.some.inj q)
  have hx' := hx
  have hy' := hy
  rw [Nat.succ_mul, List.length_drop] at hx hy
  obtain ⟨x, px, vx⟩ := part_of (X := X) (off := i * sh.length) ⟨b, hab⟩ hz hm (by omega) w
  obtain ⟨y, py, vy⟩ := part_of (X := Y) (off := i * sh.length) ⟨b, hab⟩ hz hm (by omega) w
  have ex : X.drop (i * sh.length) = (X.drop (i * sh.length)).take sh.length ++ X.drop ((i + 1) * sh.length) := by rw [Nat.succ_mul, ← List.drop_drop, List.take_append_drop]
  have ey : Y.drop (i * sh.length) = (Y.drop (i * sh.length)).take sh.length ++ Y.drop ((i + 1) * sh.length) := by rw [Nat.succ_mul, ← List.drop_drop, List.take_append_drop]
  have lx : ((X.drop (i * sh.length)).take sh.length).length = sh.length := by rw [List.length_take, List.length_drop]; omega
  have ly : ((Y.drop (i * sh.length)).take sh.length).length = sh.length := by rw [List.length_take, List.length_drop]; omega
  have hf2 := hf
  rw [List.replicate_succ, List.flatten_cons, ex, ey] at hf2
  obtain ⟨f1, f2⟩ := fits_app lx ly hf2
  have e1 := hg _ _ x y w lx ly f1 vx vy
  have hs : (i + 1) * sh.length = i * sh.length + sh.length := Nat.succ_mul _ _
  have ih := eqI_run hc hz ⟨b, hab, hb1⟩ hg X Y n (i + 1) w (by rw [List.length_drop, hs]; omega) (by rw [List.length_drop, hs]; omega) f2 (by omega) (by omega)
  have hall : allEq (X.drop (i * sh.length)) (Y.drop (i * sh.length)) = (allEq ((X.drop (i * sh.length)).take sh.length) ((Y.drop (i * sh.length)).take sh.length) && allEq (X.drop ((i + 1) * sh.length)) (Y.drop ((i + 1) * sh.length))) := by
   rw [← allEq_app (by rw [lx, ly]), ← ex, ← ey]
  rw [hall]; rw [hc] at ih ⊢; simp only [List.range'_succ, Op.eqItems, Sem.run_bind, px, py, Result.andThen_ok, e1]
  cases he : allEq ((X.drop (i * sh.length)).take sh.length) ((Y.drop (i * sh.length)).take sh.length) with
  | true => simpa using ih
  | false => simp
theorem eqfl_run : ∀ (d : Nat) (t : TypeId) (sh : List TypeDesc), eqfl P d t = some sh → ∀ (D : Nat), d ≤ D → ∀ xs ys x y w, xs.length = sh.length → ys.length = sh.length → fits sh xs ys = true → VOf P t xs x → VOf P t ys y →
  (Op.equalIn D t x y).run P w = .ok (allEq xs ys) w
 | 0, _, _, h => by cases h
 | d + 1, t, sh, h => fun D hD xs ys x y w hlx hly hf vx vy => by
  obtain ⟨D, rfl⟩ : ∃ D', D = D' + 1 := ⟨D - 1, by omega⟩
  have ih : ∀ t sh, eqfl P d t = some sh → (∃ b, agk P t = some b ∧ (b = false → sh.length = 1)) ∧ ∀ xs ys x y w, xs.length = sh.length → ys.length = sh.length → fits sh xs ys = true → VOf P t xs x → VOf P t ys y → (Op.equalIn D t x y).run P w = .ok (allEq xs ys) w :=
   fun t sh h => ⟨eqfl_ag h, fun xs ys x y w => eqfl_run d t sh h D (by omega) xs ys x y w⟩
  unfold eqfl at h
  split at h
  ·rename_i fs hu
   cases hs : P.stoodInHeld t <;> rw [hs] at h
   ·by_cases ha : agk P t = some true
    ·simp only [ha, decide_true, cond_true, cond_false] at h
     have hu' : P.underlying t = some (.struct (P.fieldsOf t)) := by
      have : P.fieldsOf t = fs := by unfold Program.fieldsOf; rw [hu]
      rw [this]; exact hu
     rcases vx with ⟨_, rfl⟩ | ⟨q, _⟩
     ·rcases vy with ⟨_, rfl⟩ | ⟨q, _⟩
      ·rw [run_equalIn_struct w D t _ _ hu' hs]
       have := eqF_run ih xs ys _ 0 sh w h (by simpa using hlx) (by simpa using hly) (by simpa using hf) (Nat.zero_le _) (Nat.zero_le _)
       simpa using this
      ·rw [ha] at q; cases q
     ·rw [ha] at q; cases q
    ·simp [ha] at h
   ·cases h
  ·rename_i n e hu
   by_cases ha : agk P t = some true
   ·simp only [ha, decide_true, cond_true] at h
    split at h
    ·rename_i s1 inf hs1 hinf
     cases hcz : (decide (szk P e = some s1.length) && Nat.beq (P.cellsOf e) s1.length) <;> rw [hcz] at h
     ·cases h
     ·simp only [cond_true, Option.some.injEq] at h
      subst h; simp only [Bool.and_eq_true, decide_eq_true_eq] at hcz
      have hc := Nat.eq_of_beq_eq_true hcz.2
      have hfl : ((List.replicate n s1).flatten).length = n * s1.length := by simp
      rw [hfl] at hlx hly
      rcases vx with ⟨_, rfl⟩ | ⟨q, _⟩
      ·rcases vy with ⟨_, rfl⟩ | ⟨q, _⟩
       ·rw [run_equalIn_array w D _ _ hu hinf, List.range_eq_range']
        have := eqI_run (D := D) hc hcz.1 (ih _ _ hs1).1 (ih _ _ hs1).2 xs ys n 0 w (by simpa using hlx) (by simpa using hly) (by simpa using hf) (by simp) (by simp)
        simpa using this
       ·rw [ha] at q; cases q
      ·rw [ha] at q; cases q
    ·cases h
   ·simp [ha] at h
  ·rename_i u h1 h2 hu
   by_cases ha : agk P t = some false
   ·simp only [ha, decide_true, cond_true, Option.some.injEq] at h
    subst h
    rcases vx with ⟨q, _⟩ | ⟨_, rfl⟩
    ·rw [ha] at q; cases q
    rcases vy with ⟨q, _⟩ | ⟨_, rfl⟩
    ·rw [ha] at q; cases q
    simp only [fits, Bool.and_true] at hf; rw [run_equalIn_fit hu hf w]; simp [allEq]
   ·simp [ha] at h
  ·cases h
end
section
variable {P : Program} {E : World} {n : Nat} {ds : List Deferred} {st : List (Nat × Value)} {L : List SP} {d : Nat} {t t2 ty : TypeId} {x y : Operand} {pos : String} {af : Array Edge} {g : Option (Nat × Bool)}
end
end Go.RX
namespace Go.RX
open Go.MapKept
section
variable {E : World} {n : Nat} {ds : List Deferred} {st st' : List (Nat × Value)} {L L' L'' : List SP} {r : Option Nat} {P : Program} {Q : Exit → Act → World → Prop} {ops : Array Oper} {rest : List Oper}
variable {d : Nat} {ty t t2 : TypeId} {pos : String} {af : Array Edge} {g : Option (Nat × Bool)} {x y z : Operand} {v u : Value} {k : IntKind} {p q : Bool}
abbrev kyP (k : IntKind) (a : Int × Int) : Value := .agg #[.int k a.1, .int k a.2]
abbrev KVP := (Int × Int) × Value × Nat
def entP (k : IntKind) (e : KVP) : MapEntry := ⟨kyP k e.1, e.2.1, e.2.2⟩
structure KeyP (P : Program) (kt : TypeId) (k : IntKind) : Prop where
 eq : eqfl P 8 kt = some [.int k, .int k]
 ag : agk P kt = some true
 ck : ∃ f0 f1 : Field, P.underlying kt = some (.struct #[f0, f1]) ∧ P.underlying f0.type = some (.int k) ∧ P.underlying f1.type = some (.int k) ∧ agk P f0.type = some false ∧ agk P f1.type = some false ∧ f0.offset = 0 ∧ f1.offset = 1
def isIn : Option TypeDesc → IntKind → Bool
 | some (.int a), k => decide (a = k)
 | _, _ => false
def isII : Option (List TypeDesc) → IntKind → Bool
 | some [.int a, .int b], k => decide (a = k) && decide (b = k)
 | _, _ => false
theorem isIn_of {o : Option TypeDesc} {k : IntKind} (h : isIn o k = true) : o = some (.int k) := by
 unfold isIn at h
 split at h
 ·simp only [decide_eq_true_eq] at h; rw [h]
 ·cases h
theorem isII_of {o : Option (List TypeDesc)} {k : IntKind} (h : isII o k = true) : o = some [.int k, .int k] := by
 unfold isII at h
 split at h
 ·simp only [Bool.and_eq_true, decide_eq_true_eq] at h; rw [h.1, h.2]
 ·cases h
def keyPb (P : Program) (kt : TypeId) (k : IntKind) : Bool :=
 isII (eqfl P 8 kt) k && decide (agk P kt = some true) && (match P.underlying kt with
  | some (.struct fs) => (match fs.toList with
   | [f0, f1] => isIn (P.underlying f0.type) k && isIn (P.underlying f1.type) k && decide (agk P f0.type = some false) && decide (agk P f1.type = some false) && Nat.beq f0.offset 0 && Nat.beq f1.offset 1
   | _ => false)
  | _ => false)
theorem KeyP.of {kt : TypeId} (h : keyPb P kt k = true) : KeyP P kt k := by
 unfold keyPb at h; simp only [Bool.and_eq_true, decide_eq_true_eq] at h
 obtain ⟨⟨h1, h2⟩, h3⟩ := h
 refine ⟨isII_of h1, h2, ?_⟩
 split at h3
 ·rename_i fs hu
  split at h3
  ·rename_i f0 f1 hf
   simp only [Bool.and_eq_true, decide_eq_true_eq] at h3
   obtain ⟨⟨⟨⟨⟨a, b⟩, c⟩, d⟩, e⟩, f⟩ := h3
   refine ⟨f0, f1, ?_, isIn_of a, isIn_of b, c, d, Nat.eq_of_beq_eq_true e, Nat.eq_of_beq_eq_true f⟩; rw [hu]
   obtain ⟨l⟩ := fs
   simp only at hf; rw [hf]
  ·cases h3
 ·cases h3
theorem run_checkKeyP {w : World} {kt : TypeId} {a : Int × Int} (h : KeyP P kt k) (e : Bool) (n : Nat) : (Instr.checkKey e (n + 2) kt (kyP k a)).run P w = .ok () w := by
 obtain ⟨f0, f1, hu, u0, u1, a0, a1, o0, o1⟩ := h.ck
 have p0 : (part f0.type #[.int k a.1, .int k a.2] f0.offset).run P w = .ok (.int k a.1) w := run_part1 a0 (by rw [o0]; rfl) w
 have p1 : (part f1.type #[.int k a.1, .int k a.2] f1.offset).run P w = .ok (.int k a.2) w := run_part1 a1 (by rw [o1]; rfl) w
 have c0 : (Instr.checkKey e (n + 1) f0.type (.int k a.1)).run P w = .ok () w := run_checkKey u0 (by simp [IsKey]) e n
 have c1 : (Instr.checkKey e (n + 1) f1.type (.int k a.2)).run P w = .ok () w := run_checkKey u1 (by simp [IsKey]) e n
 rw [Instr.checkKey]; simp only [Sem.run_bind, run_underlying hu, Result.andThen_ok]
 by_cases n0 : f0.name = "_" <;> by_cases n1 : f1.name = "_" <;> simp [n0, n1, p0, p1, c0, c1, Sem.run_bind]
theorem run_equalP {w : World} {kt : TypeId} {a b : Int × Int} (h : KeyP P kt k) : (Op.equal kt (kyP k a) (kyP k b)).run P w = .ok (decide (a = b)) w := by
 have := eqfl_run 8 kt _ h.eq 10000 (by omega) [.int k a.1, .int k a.2] [.int k b.1, .int k b.2] (kyP k a) (kyP k b) w rfl rfl (by simp [fits, fitv]) (.inl ⟨h.ag, rfl⟩) (.inl ⟨h.ag, rfl⟩)
 rw [show Op.equal kt (kyP k a) (kyP k b) = Op.equalIn 10000 kt (kyP k a) (kyP k b) from rfl, this]
 congr 1
 obtain ⟨a1, a2⟩ := a
 obtain ⟨b1, b2⟩ := b
 by_cases h1 : a1 = b1 <;> by_cases h2 : a2 = b2 <;> simp [allEq, eqv, h1, h2]
structure MapTP (P : Program) (t : TypeId) (k : IntKind) (zs : Value) : Prop where
 ex : ∃ kt vt i, P.underlying t = some (.map kt vt) ∧ KeyP P kt k ∧ P.info? vt = some i ∧ i.zero = some zs
def mapzP (P : Program) (t : TypeId) (k : IntKind) : Option Value :=
 match P.underlying t with
 | some (.map kt vt) => bif keyPb P kt k then ((P.info? vt).bind (·.zero)) else none
 | _ => none
theorem MapTP.of {zs : Value} (h : mapzP P t k = some zs) : MapTP P t k zs := by
 unfold mapzP at h
 split at h
 ·rename_i kt vt hu
  cases hk : keyPb P kt k <;> rw [hk] at h
  ·cases h
  ·cases hi : P.info? vt with
   | none => simp [hi] at h
   | some i =>
    cases hz : i.zero with
    | none => simp [hi, hz] at h
    | some z =>
     simp [hi, hz] at h; subst h; exact ⟨kt, vt, i, hu, KeyP.of hk, hi, hz⟩
 ·cases h
def getKVP (l : List KVP) (a : Int × Int) : Option Value := (l.find? fun e => e.1 == a).map (·.2.1)
def fiP (l : List KVP) (a : Int × Int) : Nat → Option (Nat × Value) := fun i => match l with
 | [] => none
 | e :: r => if a = e.1 then some (i, e.2.1) else fiP r a (i + 1)
theorem run_findAskP {w : World} {kt : TypeId} (h : KeyP P kt k) : ∀ (l : List KVP) (a : Int × Int) (i : Nat), (Instr.findAsking kt (kyP k a) (l.map (entP k)) i).run P w = .ok (fiP l a i) w
 | [], _, _ => rfl
 | e :: r, a, i => by
  rw [List.map_cons, Instr.findAsking]; simp only [Sem.run_bind, entP, run_equalP h, Result.andThen_ok]; unfold fiP
  by_cases hc : a = e.1
  ·simp [hc]
  ·rw [if_neg hc]
   simp only [hc, decide_false, Bool.false_eq_true, if_false]; exact run_findAskP h r a (i + 1)
theorem run_findKeyP {w : World} {kt : TypeId} (h : KeyP P kt k) (l : List KVP) (a : Int × Int) (i : Nat) : (Instr.findKey kt (kyP k a) (l.map (entP k))).run P w = .ok (fiP l a 0) w := by
 obtain ⟨f0, f1, hu, _⟩ := h.ck
 have := run_findAskP (w := w) h l a 0
 cases l with
 | nil => simp [Instr.findKey, run_underlying hu, Instr.findNow, fiP]
 | cons e r =>
  simp only [List.map_cons] at this ⊢; simpa [Instr.findKey, run_underlying hu, Instr.findNow, Instr.sameNow] using this
theorem fi_getP : ∀ (l : List KVP) (a : Int × Int) (i : Nat), (fiP l a i).map (·.2) = getKVP l a
 | [], _, _ => rfl
 | e :: r, a, i => by
  unfold fiP getKVP
  by_cases h : a = e.1
  ·rw [if_pos h]; simp [h]
  ·rw [if_neg h, fi_getP r a (i + 1)]
   have : (e.1 == a) = false := by simpa using Ne.symm h
   simp [getKVP, List.find?_cons, this]
theorem fi_atP : ∀ (l : List KVP) (a : Int × Int) (i j : Nat) (v : Value), fiP l a i = some (j, v) → ∃ b, i ≤ j ∧ l[j - i]? = some (a, v, b)
 | [], _, _, _, _, h => by cases h
 | e :: r, a, i, j, v, h => by
  unfold fiP at h
  by_cases hc : a = e.1
  ·rw [if_pos hc] at h
   simp only [Option.some.injEq, Prod.mk.injEq] at h
   obtain ⟨rfl, rfl⟩ := h
   exact ⟨e.2.2, Nat.le_refl _, by simp [hc]⟩
  ·rw [if_neg hc] at h
   obtain ⟨b, h1, h2⟩ := fi_atP r a (i + 1) j v h
   refine ⟨b, by omega, ?_⟩; rw [show j - i = (j - (i + 1)) + 1 by omega]; simpa using h2
theorem fi_noneP : ∀ {l : List KVP} {a : Int × Int} {i : Nat}, fiP l a i = none → ∀ e ∈ l, e.1 ≠ a
 | [], _, _, _ => fun e he => by cases he
 | e :: r, a, i, h => by
  unfold fiP at h
  by_cases hc : a = e.1
  ·rw [if_pos hc] at h; cases h
  ·rw [if_neg hc] at h
   intro e' he'
   rcases List.mem_cons.1 he' with rfl | he'
   ·exact Ne.symm hc
   ·exact fi_noneP h e' he'
theorem getKV_noneP {l : List KVP} {a : Int × Int} (h : ∀ e ∈ l, e.1 ≠ a) : getKVP l a = none := by
 unfold getKVP; rw [Option.map_eq_none_iff, List.find?_eq_none]; intro e he; simpa using h e he
theorem getKV_appP (l : List KVP) (a b : Int × Int) (v : Value) (c : Nat) (h : ∀ e ∈ l, e.1 ≠ a) : getKVP (l ++ [(a, v, c)]) b = if b = a then some v else getKVP l b := by
 unfold getKVP; rw [List.find?_append]
 by_cases hb : b = a
 ·subst hb
  have : l.find? (fun e => e.1 == b) = none := by rw [List.find?_eq_none]; intro e he; simpa using h e he
  rw [this]; simp
 ·rw [if_neg hb]
  have : ([(a, v, c)] : List KVP).find? (fun e => e.1 == b) = none := by simp [Ne.symm hb]
  rw [this]; simp
theorem modify_getP : ∀ (l : List KVP) (j : Nat) (a : Int × Int) (u v : Value) (c : Nat), l[j]? = some (a, u, c) → (l.map (·.1)).Nodup → ∀ b, getKVP (l.set j (a, v, c)) b = if b = a then some v else getKVP l b
 | [], _, _, _, _, _, h, _, _ => by simp at h
 | e :: r, 0, a, u, v, c, h, hn, b => by
  simp only [List.getElem?_cons_zero, Option.some.injEq] at h; subst h; simp only [List.set_cons_zero, getKVP, List.find?_cons]
  by_cases hb : b = a
  ·subst hb; simp
  ·have : (a == b) = false := by simpa using Ne.symm hb
   simp [this, hb]
 | e :: r, j + 1, a, u, v, c, h, hn, b => by
  simp only [List.getElem?_cons_succ] at h; simp only [List.map_cons, List.nodup_cons] at hn
  have ih := modify_getP r j a u v c h hn.2 b
  simp only [List.set_cons_succ, getKVP, List.find?_cons]
  have hea : e.1 ≠ a := fun he => hn.1 (by rw [he]; exact List.mem_map.2 ⟨_, List.mem_of_getElem? h, rfl⟩)
  by_cases hb : b = a
  ·subst hb
   have : (e.1 == b) = false := by simpa using hea
   simp only [this]; simpa [getKVP] using ih
  ·cases hc : (e.1 == b) with
   | true => simp [hb]
   | false => simpa [getKVP] using ih
theorem erase_getP : ∀ (l : List KVP) (j : Nat) (a : Int × Int) (u : Value) (c : Nat), l[j]? = some (a, u, c) → (l.map (·.1)).Nodup → ∀ b, getKVP (l.eraseIdx j) b = if b = a then none else getKVP l b
 | [], _, _, _, _, h, _, _ => by simp at h
 | e :: r, 0, a, u, c, h, hn, b => by
  simp only [List.getElem?_cons_zero, Option.some.injEq] at h; subst h; simp only [List.map_cons, List.nodup_cons] at hn; simp only [List.eraseIdx_cons_zero]
  by_cases hb : b = a
  ·subst hb
   rw [if_pos rfl]; exact getKV_noneP fun e he h => hn.1 (by rw [← h]; exact List.mem_map.2 ⟨e, he, rfl⟩)
  ·have : (a == b) = false := by simpa using Ne.symm hb
   simp [getKVP, List.find?_cons, this, hb]
 | e :: r, j + 1, a, u, c, h, hn, b => by
  simp only [List.getElem?_cons_succ] at h; simp only [List.map_cons, List.nodup_cons] at hn
  have ih := erase_getP r j a u c h hn.2 b
  simp only [List.eraseIdx_cons_succ, getKVP, List.find?_cons]
  have hea : e.1 ≠ a := fun he => hn.1 (by rw [he]; exact List.mem_map.2 ⟨_, List.mem_of_getElem? h, rfl⟩)
  by_cases hb : b = a
  ·subst hb
   have : (e.1 == b) = false := by simpa using hea
   simp only [this]; simpa [getKVP] using ih
  ·cases hc : (e.1 == b) with
   | true => simp [hb]
   | false => simpa [getKVP] using ih
structure mpP (b : Nat) (k : IntKind) (f : Int × Int → Option Value) (m : Nat) (h : PH) : Prop where
 at_ : ∃ (l : List KVP) (clock : Nat), h (b, none) = some (.obj (.map (l.map (entP k)).toArray clock)) ∧ (l.map (·.1)).Nodup ∧ l.length = m ∧ (∀ a, f a = getKVP l a) ∧ (l.map (·.2.2)).Nodup ∧ ∀ e ∈ l, e.2.2 < clock
theorem Sat.mp_atP {f : Int × Int → Option Value} {b m : Nat} {w : World} (s : Sat E L w) (p : Pick L (RX.mpP b k f m) L') : ∃ (l : List KVP) (clock : Nat), w.heap[b]? = some (.map (l.map (entP k)).toArray clock) ∧ (l.map (·.1)).Nodup ∧ l.length = m ∧ (∀ a, f a = getKVP l a) ∧ (l.map (·.2.2)).Nodup ∧ ∀ e ∈ l, e.2.2 < clock := by
 obtain ⟨h1, s1, ⟨l, c, hb, r⟩⟩ := sep.one p s.2.2.2
 exact ⟨l, c, (hpo_obj (s1 _ _ hb)).1, r⟩
theorem Sat.putMpP {f f' : Int × Int → Option Value} {b m m' : Nat} {w w' : World} {l' : List KVP} {c' : Nat} (s : Sat E L w) (p : Pick L (RX.mpP b k f m) L') (hos : (w'.os, w'.drawn) = (w.os, w.drawn)) (ht : w'.tape = w.tape) (ho : w'.output = w.output)
  (hk : ∀ x, x ≠ b → w'.heap[x]? = w.heap[x]?) (hb : w'.heap[b]? = some (.map (l'.map (entP k)).toArray c')) (hn : (l'.map (·.1)).Nodup) (hm : l'.length = m') (hf : ∀ a, f' a = getKVP l' a) (hB : (l'.map (·.2.2)).Nodup ∧ ∀ e ∈ l', e.2.2 < c') : Sat E (RX.mpP b k f' m' :: L') w' := by
 obtain ⟨l, c, hb0, _⟩ := s.mp_atP p
 refine ⟨os_drawn hos s.1, ht.trans s.2.1, ho.trans s.2.2.1, sep_upd (p.sep s.2.2.2) fun h1 x s1 => ⟨fun z hz => ?_, ⟨l', c', ?_, hn, hm, hf, hB⟩⟩⟩
 ·obtain ⟨zb, zi⟩ := z
  by_cases hzb : zb = b
  ·subst hzb
   obtain ⟨l0, c0, hx, _⟩ := x.at_
   cases zi with
   | none => rw [hx] at hz; cases hz
   | some i =>
    show hpo w'.heap[zb]? _ = hpo w.heap[zb]? _
    rw [hb, hb0]; rfl
  ·show hpo _ _ = hpo _ _
   rw [hk zb hzb]
 ·obtain ⟨l0, c0, hx, _⟩ := x.at_
  show (if (h1 (b, none)).isSome then RX.hp w' (b, none) else none) = _
  rw [hx]
  show hpo w'.heap[b]? none = _
  rw [hb]; rfl
theorem Hd.makeMapP (k : IntKind) (K : ∀ b, Hd E n ds ((d, .map (some b)) :: st) (mpP b k (fun _ => none) 0 :: L) (LW r P ops Q rest)) (hd : d < n := by decide) :
  Hd E n ds st L (LW r P ops Q (⟨some d, .makeMap t none, ty, pos, af, none⟩ :: rest)) :=
 Hd.op rfl (by simp) fun a w f s => by
  refine ⟨.map (some w.heap.size), { w with heap := w.heap.push (.map #[] 0) }, ?_, K w.heap.size _ _ (f.put hd _) ?_⟩
  ·simp only [execOp]
   simp [Instr.makeMap, newObj, Sem.run, go_sem]
  ·exact (s.new (.map #[] 0)).mp fun _ e => sep_head e fun k' x => ⟨[], 0, x.kind, by simp, rfl, fun _ => rfl, by simp, by simp⟩
theorem run_lookupP {f : Int × Int → Option Value} {b m : Nat} {a : Int × Int} {zs : Value} {w : World} (hT : MapTP P t k zs) (s : Sat E L w) (p : Pick L (mpP b k f m) L') (ok : Bool) :
  (Instr.lookup t (.map (some b)) (kyP k a) ok).run P w = .ok (if ok then .tuple #[(f a).getD zs, .bool (f a).isSome] else (f a).getD zs) w := by
 obtain ⟨kt, vt, i, h1, h2, h3, h4⟩ := hT.ex
 obtain ⟨l, c, hb, hn, hm, hf, hbn, hbl⟩ := s.mp_atP p
 have hck := run_checkKeyP (P := P) (w := w) (a := a) h2 (l.map (entP k)).toArray.isEmpty 9998
 have hfk := run_findKeyP (P := P) (w := w) h2 l a 0
 have hg := fi_getP l a 0
 rw [← hf] at hg; simp only [Instr.lookup, Sem.run_bind, run_underlying h1, Result.andThen_ok, MapKept.run_getObj_map hb, hck, hfk, Sem.run_pure]
 cases hfi : fiP l a 0 with
 | none =>
  rw [hfi] at hg; simp only [Option.map_none] at hg; simp only [zeroValue, typeInfo, Sem.run_bind, Result.andThen_ok]; rw [← hg]
  cases ok <;> simp [h3, h4]
 | some jv =>
  rw [hfi] at hg; simp only [Option.map_some] at hg; rw [← hg]
  cases ok <;> simp
theorem y_lookupP {f : Int × Int → Option Value} {b m : Nat} {a : Int × Int} {zs : Value} (hT : MapTP P t k zs) (hx : evo st x = some (.map (some b))) (hy : evo st y = some (kyP k a)) (p : Pick L (mpP b k f m) L') :
  Yv E n ds st L P ⟨some d, .lookup t x y false, ty, pos, af, g⟩ ((f a).getD zs) := fun ac w fr s => by
 simp only [execOp, fr.ev hx, fr.ev hy, Sem.run_bind, run_lookupP hT s p false]
 rfl
theorem y_lookup2P {f : Int × Int → Option Value} {b m : Nat} {a : Int × Int} {zs : Value} (hT : MapTP P t k zs) (hx : evo st x = some (.map (some b))) (hy : evo st y = some (kyP k a)) (p : Pick L (mpP b k f m) L') :
  Yv E n ds st L P ⟨some d, .lookup t x y true, ty, pos, af, g⟩ (.tuple #[(f a).getD zs, .bool (f a).isSome]) := fun ac w fr s => by
 simp only [execOp, fr.ev hx, fr.ev hy, Sem.run_bind, run_lookupP hT s p true]
 rfl
theorem Hd.mapUpdateP {f : Int × Int → Option Value} {b m : Nat} {a : Int × Int} {zs : Value} (hT : MapTP P t k zs) (hx : evo st x = some (.map (some b))) (hy : evo st y = some (kyP k a)) (hz : evo st z = some v) (p : Pick L (mpP b k f m) L')
  (K : Hd E n ds st (mpP b k (fun c => if c = a then some v else f c) (if (f a).isSome then m else m + 1) :: L') (LW r P ops Q rest)) :
  Hd E n ds st L (LW r P ops Q (⟨none, .mapUpdate t x y z, ty, pos, af, none⟩ :: rest)) :=
 Hd.opu rfl (by simp) fun ac w fr s => by
  obtain ⟨kt, vt, i, h1, h2, h3, h4⟩ := hT.ex
  obtain ⟨l, c, hb, hn, hm, hf, hbn, hbl⟩ := s.mp_atP p
  have hck := run_checkKeyP (P := P) (w := w) (a := a) h2 false 9998
  have hfk := run_findKeyP (P := P) (w := w) h2 l a 0
  have hg := fi_getP l a 0
  rw [← hf] at hg
  have hsb : Instr.sameBits 10000 (kyP k a) (kyP k a) = true := by simp [Instr.sameBits]
  cases hfi : fiP l a 0 with
  | none =>
   rw [hfi] at hg hfk; simp only [Option.map_none] at hg
   have hno := fi_noneP hfi
   refine ⟨{ w with heap := w.heap.setIfInBounds b (.map ((l ++ [(a, v, c)]).map (entP k)).toArray (c + 1)) }, ?_, K _ _ fr ?_⟩
   ·have e : ((l.map (entP k)).toArray.push { key := kyP k a, val := v, born := c }) = ((l ++ [(a, v, c)]).map (entP k)).toArray := by apply Array.ext'; simp [entP]
    simp only [execOp, fr.ev hx, fr.ev hy, fr.ev hz, Instr.mapUpdate, Sem.run_bind, run_underlying h1, Result.andThen_ok, MapKept.run_getObj_map hb, hck, hfk, MapKept.run_setObj_map _ hb, e, Sem.run_pure]
   ·refine Sat.putMpP s p rfl rfl rfl (fun x hx => set_heap_ne hx) (set_heap hb) ?_ ?_ (fun b' => ?_) ?_
    ·rw [List.map_append, List.nodup_append]
     refine ⟨hn, by simp, fun x hx y hy => ?_⟩
     obtain ⟨e, he, rfl⟩ := List.mem_map.1 hx
     simp at hy; subst hy; exact hno e he
    ·rw [← hg]; simp [hm]
    ·rw [getKV_appP l a b' v c hno, hf]
    ·refine ⟨?_, fun e he => ?_⟩
     ·rw [List.map_append, List.nodup_append]
      refine ⟨hbn, by simp, fun x hx y hy => ?_⟩
      obtain ⟨e, he, rfl⟩ := List.mem_map.1 hx
      simp at hy; subst hy; exact Nat.ne_of_lt (hbl e he)
     ·rcases List.mem_append.1 he with he | he
      ·exact Nat.lt_succ_of_lt (hbl e he)
      ·obtain rfl : e = (a, v, c) := by simpa using he
       exact Nat.lt_succ_self c
  | some jv =>
   obtain ⟨j, u⟩ := jv
   rw [hfi] at hg hfk; simp only [Option.map_some] at hg
   obtain ⟨bo, _, hj⟩ := fi_atP l a 0 j u hfi
   rw [Nat.sub_zero] at hj
   have hjl := (List.getElem?_eq_some_iff.1 hj).1
   have hj' : l[j] = (a, u, bo) := by have h := hj; rw [List.getElem?_eq_getElem hjl] at h; simpa using h
   refine ⟨{ w with heap := w.heap.setIfInBounds b (.map ((l.set j (a, v, bo)).map (entP k)).toArray c) }, ?_, K _ _ fr ?_⟩
   ·have e0 : (((l.map (entP k)).toArray[j]?).map (·.key)).getD (kyP k a) = kyP k a := by simp [hj, entP]
    have e : (l.map (entP k)).toArray.modify j (fun e => { e with key := kyP k a, val := v }) = ((l.set j (a, v, bo)).map (entP k)).toArray := by
     apply Array.ext'; rw [Array.toList_modify]; apply List.ext_getElem?; intro q; simp only [List.getElem?_modify, List.getElem?_map, List.getElem?_set]
     by_cases hq : j = q
     ·subst hq; simp [hjl, entP, hj']
     ·simp [hq]
    simp only [execOp, fr.ev hx, fr.ev hy, fr.ev hz, Instr.mapUpdate, Sem.run_bind, run_underlying h1, Result.andThen_ok, MapKept.run_getObj_map hb, hck, hfk, Instr.keyThatStays, e0, hsb, if_true, Sem.run_pure, MapKept.run_setObj_map _ hb, e]
   ·refine Sat.putMpP s p rfl rfl rfl (fun x hx => set_heap_ne hx) (set_heap hb) ?_ ?_ (fun b' => ?_) ?_
    ·rw [List.map_set]
     have : ((l.map (·.1)).set j a) = l.map (·.1) := by
      apply List.ext_getElem?; intro q; rw [List.getElem?_set]
      by_cases hq : j = q
      ·subst hq; simp [hjl, hj']
      ·rw [if_neg hq]
     rw [this]; exact hn
    ·rw [← hg]; simp [hm]
    ·rw [modify_getP l j a u v bo hj hn, hf]
    ·refine ⟨?_, fun e he => ?_⟩
     ·rw [List.map_set]
      have : ((l.map (·.2.2)).set j bo) = l.map (·.2.2) := by
       apply List.ext_getElem?; intro q; rw [List.getElem?_set]
       by_cases hq : j = q
       ·subst hq; simp [hjl, hj']
       ·rw [if_neg hq]
      rw [this]; exact hbn
     ·rcases List.mem_or_eq_of_mem_set he with he | rfl
      ·exact hbl e he
      ·exact hbl (a, u, bo) (List.mem_of_getElem? hj)
theorem Hd.mapDelete0P {f : Int × Int → Option Value} {b m : Nat} {a : Int × Int} {zs : Value} (hT : MapTP P t k zs) (hx : evo st x = some (.map (some b))) (hy : evo st y = some (kyP k a)) (p : Pick L (mpP b k f m) L')
  (K : Hd E n ds st (mpP b k (fun c => if c = a then none else f c) (if (f a).isSome then m - 1 else m) :: L') (LW r P ops Q rest)) :
  Hd E n ds st L (LW r P ops Q (⟨none, .call ⟨.builtin .delete, #[x, y], #[t, t2]⟩, ty, pos, af, none⟩ :: rest)) :=
 Hd.op rfl (by simp) fun ac w fr s => by
  obtain ⟨kt, vt, i, h1, h2, h3, h4⟩ := hT.ex
  obtain ⟨l, c, hb, hn, hm, hf, hbn, hbl⟩ := s.mp_atP p
  have hck := run_checkKeyP (P := P) (w := w) (a := a) h2 l.isEmpty 9998
  have hfk := run_findKeyP (P := P) (w := w) h2 l a 0
  have hg := fi_getP l a 0
  rw [← hf] at hg
  cases hfi : fiP l a 0 with
  | none =>
   rw [hfi] at hg hfk; simp only [Option.map_none] at hg
   have hno := fi_noneP hfi
   refine ⟨.tuple #[], { w with heap := w.heap.setIfInBounds b (.map (l.map (entP k)).toArray c) }, ?_, K _ _ fr ?_⟩
   ·simp only [execOp, resolve, List.map_toArray, List.map_cons, List.map_nil, fr.ev hx, fr.ev hy, invoke, builtin, Builtin.delete_, Sem.run_bind, Sem.run_pure, Result.andThen_ok]
    simp [run_underlying h1, MapKept.run_getObj_map hb, hck, hfk, MapKept.run_setObj_map _ hb]
   ·refine Sat.putMpP s p rfl rfl rfl (fun x hx => set_heap_ne hx) (set_heap hb) hn ?_ (fun b' => ?_) ?_
    ·rw [← hg]; simpa using hm
    ·rw [← hf]
     by_cases hb' : b' = a
     ·subst hb'; rw [if_pos rfl, ← hg]
     ·rw [if_neg hb']
    ·exact ⟨hbn, hbl⟩
  | some jv =>
   obtain ⟨j, u⟩ := jv
   rw [hfi] at hg hfk; simp only [Option.map_some] at hg
   obtain ⟨bo, _, hj⟩ := fi_atP l a 0 j u hfi
   rw [Nat.sub_zero] at hj
   have hjl := (List.getElem?_eq_some_iff.1 hj).1
   have hj' : l[j] = (a, u, bo) := by have h := hj; rw [List.getElem?_eq_getElem hjl] at h; simpa using h
   refine ⟨.tuple #[], { w with heap := w.heap.setIfInBounds b (.map ((l.eraseIdx j).map (entP k)).toArray c) }, ?_, K _ _ fr ?_⟩
   ·have e : (l.map (entP k)).toArray.eraseIdxIfInBounds j = ((l.eraseIdx j).map (entP k)).toArray := by
     apply Array.ext'; rw [Array.toList_eraseIdxIfInBounds]; simp only [List.eraseIdx_eq_take_drop_succ, List.map_append, List.map_take, List.map_drop]
    simp only [execOp, resolve, List.map_toArray, List.map_cons, List.map_nil, fr.ev hx, fr.ev hy, invoke, builtin, Builtin.delete_, Sem.run_bind, Sem.run_pure, Result.andThen_ok]
    have e2 : (l.map (entP k)).eraseIdx j = (l.eraseIdx j).map (entP k) := by simp only [List.eraseIdx_eq_take_drop_succ, List.map_append, List.map_take, List.map_drop]
    simp [run_underlying h1, MapKept.run_getObj_map hb, hck, hfk, MapKept.run_setObj_map _ hb, e, e2]
   ·refine Sat.putMpP s p rfl rfl rfl (fun x hx => set_heap_ne hx) (set_heap hb) ?_ ?_ (fun b' => ?_) ?_
    ·exact (hn.sublist (List.Sublist.map _ (List.eraseIdx_sublist l j)))
    ·rw [← hg]; simp [List.length_eraseIdx, hm]; omega
    ·rw [erase_getP l j a u bo hj hn, hf]
    ·exact ⟨hbn.sublist (List.Sublist.map _ (List.eraseIdx_sublist l j)), fun e he => hbl e (List.mem_of_mem_eraseIdx he)⟩
structure MpIP (f : Int × Int → Option Value) (m : Nat) (l : List KVP) (c : Nat) : Prop where
 keys : (l.map (·.1)).Nodup
 len : l.length = m
 get : ∀ a, f a = getKVP l a
 nd : (l.map (·.2.2)).Nodup
 lt : ∀ e ∈ l, e.2.2 < c
abbrev moP (b : Nat) (k : IntKind) (l : List KVP) (c : Nat) : SP := ob b (.map (l.map (entP k)).toArray c)
theorem mp_inP {f : Int × Int → Option Value} {b m c : Nat} {l : List KVP} (h : MpIP f m l c) : ∀ q, sep (moP b k l c :: L) q → sep (mpP b k f m :: L) q := fun _ s => sep_head s fun _ x => ⟨⟨l, c, x.kind, h.keys, h.len, h.get, h.nd, h.lt⟩⟩
theorem Hd.mpOutP {f : Int × Int → Option Value} {b m : Nat} {K : Act → World → Prop} (p : Pick L (mpP b k f m) L') (h : ∀ l c, MpIP f m l c → Hd E n ds st (moP b k l c :: L') K) : Hd E n ds st L K := fun a w fr s => by
 obtain ⟨h1, h2, d, aa, bb, ⟨⟨l, c, hb, x1, x2, x3, x4, x5⟩⟩, y⟩ := p.sep s.2.2.2
 exact h l c ⟨x1, x2, x3, x4, x5⟩ a w fr ⟨s.1, s.2.1, s.2.2.1, h1, h2, d, aa, bb, ⟨hb⟩, y⟩
theorem Hd.rangeMapP {b c : Nat} {l : List KVP} {kt vt : TypeId} (hu : P.underlying t = some (.map kt vt)) (hx : evo st x = some (.map (some b))) (p : Pick L (moP b k l c) L')
  (K : ∀ rb, Hd E n ds ((d, .pointer (some ⟨rb, 0, none⟩)) :: st) (io rb b c [] :: L) (LW r P ops Q rest)) (hd : d < n := by decide) :
  Hd E n ds st L (LW r P ops Q (⟨some d, .range t x, ty, pos, af, none⟩ :: rest)) :=
 Hd.op rfl (by simp) fun a w f s => by
  have hb := s.ob_at p
  refine ⟨.pointer (some ⟨w.heap.size, 0, none⟩), { w with heap := w.heap.push (.mapIter (some b) c #[] c) }, ?_, K w.heap.size _ _ (f.put hd _) (s.new (.mapIter (some b) c #[] c))⟩; simp only [execOp, f.ev hx]; simp [Instr.range, run_underlying hu, getObj, newObj, Sem.run, hb, go_sem]
def tupOP (k : IntKind) : Option KVP → Value
 | none => .tuple #[.bool false]
 | some e => .tuple #[.bool true, kyP k e.1, e.2.1]
def seenOP (seen : List Nat) : Option KVP → List Nat
 | none => seen
 | some e => seen ++ [e.2.2]
def NxOP (l : List KVP) (seen : List Nat) : Option KVP → Prop
 | none => ∀ e ∈ l, e.2.2 ∈ seen
 | some e => e ∈ l ∧ e.2.2 ∉ seen
theorem Hd.nextMapP {rb b c : Nat} {l : List KVP} {seen : List Nat} (hx : evo st x = some (.pointer (some ⟨rb, 0, none⟩))) (p : Pick L (io rb b c seen) L') (p2 : Pick L (moP b k l c) L'') (hlt : ∀ e ∈ l, e.2.2 < c)
  (K : ∀ o : Option KVP, NxOP l seen o → Hd E n ds ((d, tupOP k o) :: st) (io rb b c (seenOP seen o) :: L') (LW r P ops Q rest)) (hd : d < n := by decide) :
  Hd E n ds st L (LW r P ops Q (⟨some d, .next x false, ty, pos, af, none⟩ :: rest)) :=
 Hd.op rfl (by simp) fun a w f s => by
  have hr := s.ob_at p
  have hb := s.ob_at p2
  rcases run_next_at (P := P) w ty rb b c c seen.toArray (l.map (entP k)).toArray c hr hb (fun e he => by
   obtain ⟨e0, h0, rfl⟩ := List.mem_map.1 (show e ∈ l.map (entP k) from he)
   exact hlt e0 h0) (Nat.le_refl c) with ⟨h0, hrun⟩ | ⟨e, he, w1, hw, hrun⟩
  ·refine ⟨_, w, by simp only [execOp, f.ev hx, Sem.run_bind, hrun]; rfl, K none (fun e he => ?_) _ _ (f.put hd _) (s.mp fun _ q => p.sep q)⟩
   have := all_seen (l.map (entP k)).toArray seen.toArray h0 (entP k e) (show entP k e ∈ l.map (entP k) from List.mem_map.2 ⟨e, he, rfl⟩)
   simpa [entP] using this
  ·obtain ⟨hem, hes⟩ := mem_left he
   obtain ⟨e0, h0, rfl⟩ := List.mem_map.1 (show e ∈ l.map (entP k) from hem)
   have s1 : Sat E L w1 := by
    rcases hw with rfl | rfl
    ·exact s
    ·exact s.draw
   have hr1 := s1.ob_at p
   refine ⟨_, _, by simp only [execOp, f.ev hx, Sem.run_bind, hrun]; rfl, K (some e0) ⟨h0, by simpa [entP] using hes⟩ _ _ (f.put hd _) ?_⟩
   have hlt := (Array.getElem?_eq_some_iff.1 hr1).1
   refine Sat.put s1 p rfl rfl rfl (fun x hx => ?_) ?_
   ·simp [ChangeMaps.setBlock, Array.getElem?_setIfInBounds_ne (Ne.symm hx)]
   ·simp [ChangeMaps.setBlock, hlt, seenOP, entP]
theorem y_entryP {rb b c : Nat} {l : List KVP} {seen : List Nat} {e : KVP} (hx : evo st x = some (.pointer (some ⟨rb, 0, none⟩))) (p : Pick L (io rb b c (seen ++ [e.2.2])) L') (p2 : Pick L (moP b k l c) L'') (he : e ∈ l) (hn : (l.map (·.2.2)).Nodup) :
  Yv E n ds st L P ⟨some d, .entry x, ty, pos, af, g⟩ (.tuple #[kyP k e.1, e.2.1]) := fun a w f s => by
 have hr := s.ob_at p
 have hb := s.ob_at p2
 have h := run_entry_at (P := P) w rb b c seen.toArray (l.map (entP k)).toArray c (entP k e) (by rw [hr]; simp [entP]) hb (show entP k e ∈ l.map (entP k) from List.mem_map.2 ⟨e, he, rfl⟩) (show ((l.map (entP k)).map (·.born)).Nodup by
  rw [List.map_map]
  exact hn)
 simp only [execOp, f.ev hx, Sem.run_bind, h]
 rfl
structure EsIP (l es : List KVP) : Prop where
 nd : es.Nodup
 mem : ∀ e ∈ es, e ∈ l
theorem EsIP.nil (l : List KVP) : EsIP l [] := ⟨.nil, fun e h => by cases h⟩
theorem EsIP.step {l es : List KVP} (h : EsIP l es) {e : KVP} (he : e ∈ l) (hn : e.2.2 ∉ es.map (·.2.2)) : EsIP l (es ++ [e]) :=
 ⟨by rw [List.nodup_append]; exact ⟨h.nd, by simp, fun a ha b hb hab => by
   obtain rfl : b = e := by simpa using hb
   subst hab
   exact hn (List.mem_map.2 ⟨a, ha, rfl⟩)⟩, fun a ha => by
  rcases List.mem_append.1 ha with ha | ha
  ·exact h.mem a ha
  ·obtain rfl : a = e := by simpa using ha
   exact he⟩
structure KeysOfP (f : Int × Int → Option Value) (ks : List (Int × Int)) : Prop where
 nd : ks.Nodup
 mem : ∀ a, a ∈ ks ↔ (f a).isSome = true
theorem getKV_someP {l : List KVP} {a : Int × Int} : (getKVP l a).isSome = true ↔ a ∈ l.map (·.1) := by
 unfold getKVP; rw [Option.isSome_map, List.find?_isSome, List.mem_map]
 constructor
 ·rintro ⟨e, he, h⟩; exact ⟨e, he, by simpa using h⟩
 ·rintro ⟨e, he, h⟩; exact ⟨e, he, by simpa using h⟩
theorem es_keysP {f : Int × Int → Option Value} {m c : Nat} {l es : List KVP} (h : MpIP f m l c) (hE : EsIP l es) (hall : ∀ e ∈ l, e.2.2 ∈ es.map (·.2.2)) : KeysOfP f (es.map (·.1)) where
 nd := by
  have hk := h.keys
  have hi := inj_of_map (fun e : KVP => e.1) hk
  refine List.pairwise_map.2 (hE.nd.imp_of_mem fun {a b} ha hb hab e => hab (hi a (hE.mem a ha) b (hE.mem b hb) e))
 mem a := by
  rw [h.get a, getKV_someP]
  constructor
  ·intro ha
   obtain ⟨e, he, rfl⟩ := List.mem_map.1 ha
   exact List.mem_map.2 ⟨e, hE.mem e he, rfl⟩
  ·intro ha
   obtain ⟨e, he, rfl⟩ := List.mem_map.1 ha
   obtain ⟨e2, he2, hb⟩ := List.mem_map.1 (hall e he)
   obtain rfl := inj_of_map (fun e : KVP => e.2.2) h.nd e2 (hE.mem e2 he2) e he hb
   exact List.mem_map.2 ⟨e2, he2, rfl⟩
theorem y_lookupK {f : Int × Int → Option Value} {b m : Nat} {a1 a2 : Int} {zs : Value} (hT : MapTP P t k zs) (hx : evo st x = some (.map (some b))) (hy : evo st y = some (.agg #[.int k a1, .int k a2])) (p : Pick L (mpP b k f m) L') :
  Yv E n ds st L P ⟨some d, .lookup t x y false, ty, pos, af, g⟩ ((f (a1, a2)).getD zs) := y_lookupP (a := (a1, a2)) hT hx hy p
theorem y_lookup2K {f : Int × Int → Option Value} {b m : Nat} {a1 a2 : Int} {zs : Value} (hT : MapTP P t k zs) (hx : evo st x = some (.map (some b))) (hy : evo st y = some (.agg #[.int k a1, .int k a2])) (p : Pick L (mpP b k f m) L') :
  Yv E n ds st L P ⟨some d, .lookup t x y true, ty, pos, af, g⟩ (.tuple #[(f (a1, a2)).getD zs, .bool (f (a1, a2)).isSome]) := y_lookup2P (a := (a1, a2)) hT hx hy p
theorem Hd.mapUpdateK {f : Int × Int → Option Value} {b m : Nat} {a1 a2 : Int} {zs : Value} (hT : MapTP P t k zs) (hx : evo st x = some (.map (some b))) (hy : evo st y = some (.agg #[.int k a1, .int k a2])) (hz : evo st z = some v) (p : Pick L (mpP b k f m) L')
  (K : Hd E n ds st (mpP b k (fun c => if c = (a1, a2) then some v else f c) (if (f (a1, a2)).isSome then m else m + 1) :: L') (LW r P ops Q rest)) :
  Hd E n ds st L (LW r P ops Q (⟨none, .mapUpdate t x y z, ty, pos, af, none⟩ :: rest)) := Hd.mapUpdateP (a := (a1, a2)) hT hx hy hz p K
theorem Hd.mapDelete0K {f : Int × Int → Option Value} {b m : Nat} {a1 a2 : Int} {zs : Value} (hT : MapTP P t k zs) (hx : evo st x = some (.map (some b))) (hy : evo st y = some (.agg #[.int k a1, .int k a2])) (p : Pick L (mpP b k f m) L')
  (K : Hd E n ds st (mpP b k (fun c => if c = (a1, a2) then none else f c) (if (f (a1, a2)).isSome then m - 1 else m) :: L') (LW r P ops Q rest)) :
  Hd E n ds st L (LW r P ops Q (⟨none, .call ⟨.builtin .delete, #[x, y], #[t, t2]⟩, ty, pos, af, none⟩ :: rest)) := Hd.mapDelete0P (a := (a1, a2)) hT hx hy p K
theorem y_lookup2G {f : Int × Int → Option Value} {b m : Nat} {a1 a2 : Int} {zs : Value} {M : SP} (hM : ∀ (L0 : List SP) q, sep (M :: L0) q → sep (mpP b k f m :: L0) q) (hT : MapTP P t k zs) (hx : evo st x = some (.map (some b))) (hy : evo st y = some (.agg #[.int k a1, .int k a2])) (p : Pick L M L') :
  Yv E n ds st L P ⟨some d, .lookup t x y true, ty, pos, af, g⟩ (.tuple #[(f (a1, a2)).getD zs, .bool (f (a1, a2)).isSome]) := fun ac w fr s =>
 y_lookup2K hT hx hy Pick.here ac w fr (s.mp fun q h => hM L' q (p.sep h))
theorem y_extOP (o : Option KVP) (hx : evo st x = some (tupOP k o)) : Yv E n ds st L P ⟨some d, .extract x 0, ty, pos, af, g⟩ (.bool o.isSome) := by
 cases o with
 | none => exact y_extract hx rfl
 | some e => exact y_extract hx rfl
end
end Go.RX
namespace Go.RX
section
variable {E : World} {n : Nat} {ds : List Deferred} {st st' : List (Nat × Value)} {L L' : List SP} {r : Option Nat} {P : Program} {Q : Exit → Act → World → Prop} {ops : Array Oper} {rest : List Oper}
variable {d : Nat} {ty t t2 : TypeId} {pos : String} {af : Array Edge} {g : Option (Nat × Bool)} {x y z : Operand} {v u : Value} {k : IntKind} {p q : Bool}
theorem Hd.clearTail {e sz m cap l : Nat} {zs : List Value} {ad : Option Addr} {us : List Value} (ht : P.underlying t = some (.slice e)) (hz : zrk P e = some zs) (hzl : zs.length = sz) (hz1 : zs.all (·.oneCell') = true)
  (hx : evo st x = some (.slice (cutA ad sz l cap) (m - l) (cap - l))) (hp : Pick L (own e sz ad m cap us) L') (hl : l ≤ m)
  (K : Hd E n ds st (own e sz ad l cap (us.take (l * sz)) :: L') (LW r P ops Q rest)) :
  Hd E n ds st L (LW r P ops Q (⟨none, .call ⟨.builtin .clear, #[x], #[t]⟩, ty, pos, af, none⟩ :: rest)) :=
 Hd.op rfl (by simp) fun a w f s => by
  have s' : Sat E (own e sz ad m cap us :: L') w := s.mp fun _ k => hp.sep k
  have hsplit : us = us.take (l * sz) ++ us.drop (l * sz) := (List.take_append_drop _ _).symm
  have hul : us.length = m * sz := by obtain ⟨_, _, _, _, _, _, _, _, ⟨h, _⟩, _⟩ := s'; exact h
  have hlm : l * sz ≤ m * sz := Nat.mul_le_mul_right _ hl
  have htl : (us.take (l * sz)).length = l * sz := by rw [List.length_take, hul]; omega
  have done : ∀ w', Sat E (own e sz ad m cap us :: L') w' → Sat E (own e sz ad l cap (us.take (l * sz)) :: L') w' := fun w' s => s.mp fun h hh => sep_head hh fun k x => own_take hl htl (by rw [List.take_append_drop]; exact x)
  by_cases h0 : m - l = 0
  ·refine ⟨.tuple #[], w, ?_, K _ _ f (done w s')⟩
   simp only [execOp, resolve, List.map_toArray, List.map_cons, List.map_nil, f.ev hx, invoke, builtin, Sem.run_bind, Sem.run_pure, Result.andThen_ok]; rw [h0]
   cases cutA ad sz l cap <;> simp [Builtin.clear_, run_underlying ht]
  obtain ⟨hos, htp, hou, k1, k2, dd, s1, s2, ⟨_, hv⟩, hL⟩ := s'
  rcases hv with ⟨rfl, rfl⟩ | ⟨b, off, sp, rfl, hmc, hcm, hsp, hpt⟩
  ·omega
  have hA : cutA (some ⟨b, off, none⟩) sz l cap = some ⟨b, off + l * sz, none⟩ := by
   unfold cutA; rw [if_neg (by omega)]; simp [add_flat]
  have s0 : Sat E (seg b off (us ++ sp) :: L') w := ⟨hos, htp, hou, k1, k2, dd, s1, s2, hpt, hL⟩
  obtain ⟨z, hzr, hzc⟩ := run_zero' (P := P) hz w
  have hzn : (Builtin.zeroCells z.cells (m - l)).toList.length = (m - l) * sz := by rw [hzc]; simp [Builtin.zeroCells, hzl]
  have hzo : ∀ v ∈ (Builtin.zeroCells z.cells (m - l)).toList, v.oneCell' = true := fun v hv => by
   rw [hzc] at hv; simp only [Builtin.zeroCells, Array.toList_map, List.mem_map, Array.toList_range, List.mem_range, List.size_toArray] at hv
   obtain ⟨i, hi, rfl⟩ := hv
   have hz0 : 0 < zs.length := by
    rcases Nat.eq_zero_or_pos zs.length with h | h
    ·rw [h, Nat.mul_zero] at hi; omega
    ·exact h
   have hlt : i % zs.length < zs.length := Nat.mod_lt _ hz0
   rw [List.all_eq_true] at hz1; rw [getElem!_pos zs.toArray _ (by simpa using hlt)]; exact hz1 _ (by simp)
  by_cases hne : 0 < (us ++ sp).length
  ·obtain ⟨w', hst, s'⟩ := Sat.storeSeg (P := P) (q := l * sz) (vs := (Builtin.zeroCells z.cells (m - l)).toList) s0 (by rw [List.length_append, hzn, hul, Nat.sub_mul]; omega) hne hzo
   refine ⟨.tuple #[], w', ?_, K _ _ f (s'.mp fun h hh => sep_head hh fun k x => ?_)⟩
   ·simp only [execOp, resolve, List.map_toArray, List.map_cons, List.map_nil, f.ev hx, invoke, builtin, Sem.run_bind, Sem.run_pure, Result.andThen_ok, hA]
    obtain ⟨q, hq⟩ := Nat.exists_eq_succ_of_ne_zero h0
    rw [hq] at hst ⊢; simp [Builtin.clear_, run_underlying ht, hzr, hst]
   ·have e1 : (us ++ sp).take (l * sz) = us.take (l * sz) := by rw [List.take_append_of_le_length (by rw [hul]; omega)]
    have e2 : (us ++ sp).drop (l * sz + (Builtin.zeroCells z.cells (m - l)).toList.length) = sp := by
     have e3 : l * sz + (m - l) * sz = us.length := by rw [hul, Nat.sub_mul]; omega
     rw [hzn, e3, List.drop_left]
    rw [e1, e2, List.append_assoc] at x; refine ⟨htl, .inr ⟨b, off, (Builtin.zeroCells z.cells (m - l)).toList ++ sp, rfl, by omega, hcm, ?_, x⟩⟩; rw [List.length_append, hzn, hsp, ← Nat.add_mul]; congr 1; omega
  ·have hu : us.length = 0 := by simp at hne ⊢; simp [hne]
   have hsz : sz = 0 := by
    rw [hul] at hu
    rcases Nat.eq_zero_or_pos sz with h | h
    ·exact h
    ·have := Nat.mul_pos (show 0 < m by omega) h; omega
   have hzz : zs = [] := List.eq_nil_of_length_eq_zero (by omega)
   refine ⟨.tuple #[], w, ?_, K _ _ f (done w ⟨hos, htp, hou, k1, k2, dd, s1, s2, ⟨hul, .inr ⟨b, off, sp, rfl, hmc, hcm, hsp, hpt⟩⟩, hL⟩)⟩; simp only [execOp, resolve, List.map_toArray, List.map_cons, List.map_nil, f.ev hx, invoke, builtin, Sem.run_bind, Sem.run_pure, Result.andThen_ok, hA]
   obtain ⟨q, hq⟩ := Nat.exists_eq_succ_of_ne_zero h0
   have hze : (Builtin.zeroCells z.cells (m - l)).toList = [] := List.eq_nil_of_length_eq_zero (by rw [hzn, hsz, Nat.mul_zero])
   rw [hq] at hze ⊢; simp [Builtin.clear_, run_underlying ht, hzr, hze, storeCells]
end
section
variable {E : World} {n : Nat} {ds : List Deferred} {st st' : List (Nat × Value)} {L L' : List SP} {r : Option Nat} {P : Program} {Q : Exit → Act → World → Prop} {ops : Array Oper} {rest : List Oper}
variable {d : Nat} {ty t t2 : TypeId} {pos : String} {af : Array Edge} {x y : Operand} {v : Value} {k : IntKind}
theorem Hd.copyOwn {e bytes m cap q dl dc sl sc : Nat} {ad sad : Option Addr} {us vs : List Value} (ht : P.underlying t = some (.slice e)) (hi : tyr P e = some (1, bytes, 1))
  (hx : evo st x = some (.slice (cutA ad 1 q cap) dl dc)) (hy : evo st y = some (.slice sad sl sc)) (hp : Pick L (own e 1 ad m cap us) L') (hR : RdS L 1 sad sl vs) (hq : q + dl ≤ m) (h1 : ∀ u ∈ vs, u.oneCell' = true)
  (K : Hd E n ds ((d, .int .i64 ((min sl dl : Nat) : Int)) :: st) (own e 1 ad m cap (us.take q ++ vs.take (min sl dl) ++ us.drop (q + min sl dl)) :: L') (LW r P ops Q rest)) (hd : d < n := by decide) :
  Hd E n ds st L (LW r P ops Q (⟨some d, .call ⟨.builtin .copy, #[x, y], #[t, t2]⟩, ty, pos, af, none⟩ :: rest)) :=
 Hd.op rfl (by simp) fun a w f s => by
  obtain ⟨ti, zv, h1', h2', h3', h4', h5'⟩ := tyr_parts hi
  have hsz : (P.info? e).map (·.size) = some 1 := by rw [h1']; simp [h3']
  obtain ⟨hvl, hsrc⟩ := hR _ s.2.2.2
  have s' : Sat E (own e 1 ad m cap us :: L') w := s.mp fun _ k => hp.sep k
  obtain ⟨hos, htp, hou, k1, k2, dd, s1, s2, ⟨hul, hv⟩, hL⟩ := s'
  by_cases h0 : min sl dl = 0
  ·refine ⟨.int .i64 0, w, ?_, ?_⟩
   ·have hrun := run_copy_none (P := P) w t t2 ty e (cutA ad 1 q cap) sad dl dc sl sc ht hsz h0
    simp only [execOp, resolve, List.map_toArray, List.map_cons, List.map_nil, f.ev hx, f.ev hy, invoke, builtin, Sem.run_bind, Sem.run_pure, Result.andThen_ok, hrun]
    rfl
   ·rw [h0] at K
    refine K _ _ (f.put hd _) ⟨hos, htp, hou, k1, k2, dd, s1, s2, ?_, hL⟩; simpa using ⟨hul, hv⟩
  ·have hds : dl ≠ 0 := fun h => h0 (by rw [h]; simp)
   have hsl : sl ≠ 0 := fun h => h0 (by rw [h]; simp)
   rcases hv with ⟨rfl, rfl⟩ | ⟨b, off, sp, rfl, hmc, hcm, hsp, hpt⟩
   ·omega
   have hA : cutA (some ⟨b, off, none⟩) 1 q cap = some ⟨b, off + q, none⟩ := by
    unfold cutA; rw [if_neg (by omega)]; simp [add_flat]
   obtain ⟨sb, so, rfl, hsc⟩ : ∃ sb so, sad = some ⟨sb, so, none⟩ ∧ ∀ j v, vs[j]? = some v → w.cell? ⟨sb, so + j, none⟩ = some v := by
    rcases hsrc with h | ⟨sb, so, e, hc⟩
    ·omega
    ·exact ⟨sb, so, e, fun j v hj => by obtain ⟨_, hb⟩ := hc j v hj; exact cell_hp hb⟩
   have hnl : (vs.take (min sl dl)).length = min sl dl * 1 := by rw [List.length_take, hvl]; omega
   have hf := run_firstCells_some (P := P) w 1 (min sl dl) ⟨sb, so, none⟩ sl sc (vs.take (min sl dl)) hnl (fun j v hj => by
    rw [add_flat]; refine hsc j v ?_
    have hj2 := (List.getElem?_eq_some_iff.1 hj).1
    rw [List.length_take] at hj2
    rwa [List.getElem?_take_of_lt (by omega)] at hj)
   have s0 : Sat E (seg b off (us ++ sp) :: L') w := ⟨hos, htp, hou, k1, k2, dd, s1, s2, hpt, hL⟩
   have hul' : us.length = m := by omega
   obtain ⟨w', hst, s''⟩ := Sat.storeSeg (P := P) (q := q) (vs := vs.take (min sl dl)) s0 (by rw [List.length_append, hnl]; omega) (by rw [List.length_append]; omega) (fun u hu => h1 u (List.mem_of_mem_take hu))
   refine ⟨.int .i64 ((min sl dl : Nat) : Int), w', ?_, K _ _ (f.put hd _) (s''.mp fun h hh => sep_head hh fun k x => ?_)⟩
   ·have hun : (Builtin.copy_ #[t, t2] ty #[.slice (some ⟨b, off + q, none⟩) dl dc, .slice (some ⟨sb, so, none⟩) sl sc]).run P w = .ok (goInt (min sl dl : Nat)) w' := by
     have hm : Nat.min sl dl = min sl dl := rfl
     simp [Builtin.copy_, run_underlying ht, sizeOf, typeInfo, h1', Builtin.lenOf, h3', hm, hf, hst]
    rw [hA] at hx; simp only [execOp, resolve, List.map_toArray, List.map_cons, List.map_nil, f.ev hx, f.ev hy, invoke, builtin, Sem.run_bind, Sem.run_pure, Result.andThen_ok, hun]
    rfl
   ·rw [hnl, Nat.mul_one] at x
    have htot : (us.take q ++ vs.take (min sl dl) ++ us.drop (q + min sl dl)).length = m * 1 := by
     simp only [List.length_append, List.length_take, List.length_drop, hul', hvl]; omega
    refine ⟨htot, .inr ⟨b, off, sp, rfl, hmc, hcm, hsp, ?_⟩⟩; rw [List.take_append_of_le_length (by omega), List.drop_append_of_le_length (by omega)] at x; simpa only [List.append_assoc] using x
end
section
variable {P : Program} {E : World} {n : Nat} {ds : List Deferred} {st : List (Nat × Value)} {L : List SP} {ops : Array Oper} {C : World → Prop} {Kq : Act → Prop} {p : Bool}
theorem wpQuiet_append {l2 : List Oper} : ∀ {l1 : List Oper} {a : Act}, wpQuiet P ops C (fun a' => wpQuiet P ops C Kq l2 a') l1 a → wpQuiet P ops C Kq (l1 ++ l2) a
 | [], _, h => h
 | o :: r, a, h => by
  simp only [List.cons_append]; unfold wpQuiet at h ⊢
  split
  ·rename_i hw
   rw [if_pos hw] at h
   obtain ⟨v, h1, h2⟩ := h
   exact ⟨v, h1, wpQuiet_append h2⟩
  ·rename_i hw
   rw [if_neg hw] at h; exact wpQuiet_append h
theorem Hq.andg {l : List Oper} (m gd dd : Nat) (sk : List (Nat × Value)) {q : Bool} (hv : look st gd = some (.bool p)) (_hk : sub st sk)
  (hT : p = true → Hq n ds ((gd, .bool true) :: st) (QW P ops C (fun a => Fr n ds ((dd, .bool q) :: sk) a) (l.take m)))
  (hF : p = false → Hq n ds ((gd, .bool false) :: st) (QW P ops C (fun a => Fr n ds ((dd, .bool false) :: sk) a) (l.take m)))
  (K : Hq n ds ((dd, .bool (p && q)) :: sk) (QW P ops C Kq (l.drop m))) : Hq n ds st (QW P ops C Kq l) := fun a f => by
 have h : wpQuiet P ops C (fun a' => wpQuiet P ops C Kq (l.drop m) a') (l.take m) a := by
  have h1 : wpQuiet P ops C (fun a => Fr n ds ((dd, .bool (p && q)) :: sk) a) (l.take m) a :=
   (Hq.part hv (fun hp => by subst hp; exact hT rfl) (fun hp => by subst hp; exact hF rfl) : Hq n ds st (QW P ops C (fun a => Fr n ds ((dd, .bool (p && q)) :: sk) a) (l.take m))) a f
  exact wpQuiet_mono' h1 fun a f => K a f
 have := wpQuiet_append h
 rwa [List.take_append_drop] at this
where
  wpQuiet_mono' {K1 K2 : Act → Prop} : ∀ {l : List Oper} {a : Act}, wpQuiet P ops C K1 l a → (∀ a, K1 a → K2 a) → wpQuiet P ops C K2 l a
    | [], _, h, hk => hk _ h
    | o :: r, a, h, hk => by
      unfold wpQuiet at h ⊢
      split
      · rename_i hw
        rw [if_pos hw] at h
        obtain ⟨v, h1, h2⟩ := h
        exact ⟨v, h1, wpQuiet_mono' h2 hk⟩
      · rename_i hw
        rw [if_neg hw] at h
        exact wpQuiet_mono' h hk
theorem Hq.org {l : List Oper} (m gd dd : Nat) (sk : List (Nat × Value)) {q : Bool} (hv : look st gd = some (.bool p)) (_hk : sub st sk)
  (hT : p = true → Hq n ds ((gd, .bool true) :: st) (QW P ops C (fun a => Fr n ds ((dd, .bool true) :: sk) a) (l.take m)))
  (hF : p = false → Hq n ds ((gd, .bool false) :: st) (QW P ops C (fun a => Fr n ds ((dd, .bool q) :: sk) a) (l.take m)))
  (K : Hq n ds ((dd, .bool (p || q)) :: sk) (QW P ops C Kq (l.drop m))) : Hq n ds st (QW P ops C Kq l) := fun a f => by
 have h : wpQuiet P ops C (fun a' => wpQuiet P ops C Kq (l.drop m) a') (l.take m) a := by
  have h1 : wpQuiet P ops C (fun a => Fr n ds ((dd, .bool (p || q)) :: sk) a) (l.take m) a :=
   (Hq.part hv (fun hp => by subst hp; exact hT rfl) (fun hp => by subst hp; exact hF rfl) : Hq n ds st (QW P ops C (fun a => Fr n ds ((dd, .bool (p || q)) :: sk) a) (l.take m))) a f
  exact Hq.andg.wpQuiet_mono' h1 fun a f => K a f
 have := wpQuiet_append h
 rwa [List.take_append_drop] at this
theorem Hq.mend {st' : List (Nat × Value)} (hs : sub st st') : Hq n ds st (QW P ops C (fun a => Fr n ds st' a) []) := fun _ f => f.sub hs
end
section
variable {E : World} {n : Nat} {ds : List Deferred} {st st' : List (Nat × Value)} {L L' : List SP} {r : Option Nat} {P : Program} {Q : Exit → Act → World → Prop} {ops : Array Oper} {rest : List Oper}
variable {d : Nat} {ty t t2 : TypeId} {pos : String} {af : Array Edge} {g : Option (Nat × Bool)} {x y z : Operand} {v u : Value} {k : IntKind} {p q : Bool}
theorem sep_right {M N N' : List SP} {k : PH} (h : ∀ k, sep N k → sep N' k) (s : sep (M ++ N) k) : sep (M ++ N') k := by
 obtain ⟨h1, h2, d, s1, s2, x, y⟩ := sep_append s
 exact sep_join d s1 s2 x (h _ y)
end
section
variable {P : Program} {E : World} {n : Nat} {ds : List Deferred} {st : List (Nat × Value)} {L L' : List SP}
theorem results_ctt {fn : Func} {ta tb tc : Nat} {t : TypeId} {b o : Nat} {us : List Value} {tmps : Array Value} {v u : Value} {w : World} (hr : fn.results = #[.cell ta t, .tmp tb, .tmp tc]) (ha : agk P t = some true) (hx : tmps.getD ta undef = .pointer (some ⟨b, o, none⟩)) (hv : tmps.getD tb undef = v) (hu : tmps.getD tc undef = u)
  (hR : Rd L b o us) (hz : szk P t = some us.length) (s : Sat E L w) : (results fn tmps).run P w = .ok (.tuple #[.agg us.toArray, v, u]) w := by
 have hc : (loadCells ⟨b, o, none⟩ us.length).run P w = .ok us.toArray w := run_loadCells_list w _ us fun j v e => by
  have := hR.cell s e
  unfold Addr.add
  split
  ·rename_i h0; subst h0; simpa using this
  ·exact this
 have hl : (loadVar t ⟨b, o, none⟩).run P w = .ok (.agg us.toArray) w := by
  simp only [loadVar, Sem.run_bind, run_isAgg ha, Result.andThen, if_true, run_sizeOf' hz, hc]
  rfl
 have hx2 : tmps[ta]?.getD undef = .pointer (some ⟨b, o, none⟩) := by simpa using hx
 have hv2 : tmps[tb]?.getD undef = v := by simpa using hv
 have hu2 : tmps[tc]?.getD undef = u := by simpa using hu
 simp [results, hr, hx2, hv2, hu2, asAddr, hl]
theorem Hd.retCTT {fn : Func} {ta tb tc : Nat} {t : TypeId} {b o : Nat} {us : List Value} {v u : Value} {ι : Type} {val : ι → Value} {post : ι → List SP} (hr : fn.results = #[.cell ta t, .tmp tb, .tmp tc]) (i : ι) (ha : agk P t = some true) (hx : look st ta = some (.pointer (some ⟨b, o, none⟩))) (hv : look st tb = some v) (hu : look st tc = some u)
  (hR : Rd L b o us) (hz : szk P t = some us.length) (hi : val i = .tuple #[.agg us.toArray, v, u]) (hl : ∀ k, sep L k → sep (post i) k) :
  Hd E n [] st L ((bodyPost P fn fun e w' => ∃ i, e = .returned (val i) ∧ Sat E (post i) w') .ret) := fun a w f s =>
 bodyPost_ret (results_ctt (v := v) (u := u) hr ha (by simp [f.at_ ta _ hx]) (by simp [f.at_ tb _ hv]) (by simp [f.at_ tc _ hu]) hR hz s) f.defs ⟨i, by rw [hi], s.mp hl⟩
theorem results_3 {fn : Func} {ta tb tc : Nat} {tmps : Array Value} {v1 v u : Value} {w : World} (hr : fn.results = #[.tmp ta, .tmp tb, .tmp tc]) (hx : tmps.getD ta undef = v1) (hv : tmps.getD tb undef = v) (hu : tmps.getD tc undef = u) : (results fn tmps).run P w = .ok (.tuple #[v1, v, u]) w := by
 have hx2 : tmps[ta]?.getD undef = v1 := by simpa using hx
 have hv2 : tmps[tb]?.getD undef = v := by simpa using hv
 have hu2 : tmps[tc]?.getD undef = u := by simpa using hu
 simp [results, hr, hx2, hv2, hu2]
theorem Hd.ret3 {fn : Func} {ta tb tc : Nat} {v1 v u : Value} {ι : Type} {val : ι → Value} {post : ι → List SP} (hr : fn.results = #[.tmp ta, .tmp tb, .tmp tc]) (i : ι) (hx : look st ta = some v1) (hv : look st tb = some v) (hu : look st tc = some u) (hi : val i = .tuple #[v1, v, u]) (hl : ∀ k, sep L k → sep (post i) k) :
  Hd E n [] st L ((bodyPost P fn fun e w' => ∃ i, e = .returned (val i) ∧ Sat E (post i) w') .ret) := fun a w f s =>
 bodyPost_ret (results_3 (v1 := v1) (v := v) (u := u) hr (by simp [f.at_ ta _ hx]) (by simp [f.at_ tb _ hv]) (by simp [f.at_ tc _ hu])) f.defs ⟨i, by rw [hi], s.mp hl⟩
end
section
variable {E : World} {n : Nat} {ds : List Deferred} {st : List (Nat × Value)} {L : List SP} {P : Program}
variable {d : Nat} {ty t : TypeId} {pos : String} {af : Array Edge} {g : Option (Nat × Bool)} {x : Operand} {v : Value}
theorem y_fieldv1 {fs : Array Field} {i q ft : Nat} {cs : List Value} (hu : P.underlying t = some (.struct fs)) (hf : (fs[i]?).map (fun f => (f.offset, f.type)) = some (q, ft)) (ha : agk P ft = some false) (hx : evo st x = some (.agg cs.toArray)) (hc : cs[q]? = some v) :
  Yv E n ds st L P ⟨some d, .field t x i, ty, pos, af, g⟩ v := fun a w f _ => by
 cases hfi : fs[i]? with
 | none => rw [hfi] at hf; cases hf
 | some fl =>
  rw [hfi] at hf
  obtain ⟨rfl, rfl⟩ := Prod.mk.inj (Option.some.inj hf)
  simp only [execOp, f.ev hx]; simp only [Instr.field, Sem.run_bind, run_underlying hu, Result.andThen, hfi]; simp [asAgg, run_part1 (P := P) (cs := cs.toArray) ha (by simpa using hc)]
end
section
variable {E : World} {n : Nat} {ds : List Deferred} {st : List (Nat × Value)} {L L' : List SP} {r : Option Nat} {P : Program} {Q : Exit → Act → World → Prop}
def MkS : List Nat → SP
 | [] => pu True
 | r0 :: rs => RX.ex fun _ : Unit => [ob r0 (.deferred (some [])), MkS rs]
theorem MkS.cons {r0 : Nat} {rs : List Nat} {L : List SP} : ∀ k, sep (ob r0 (.deferred (some [])) :: MkS rs :: L) k → sep (MkS (r0 :: rs) :: L) k :=
 fun k s => Ent.sep (.ex () (.pick (.here) (.pick .here .same))) k s
end
section
variable {E : World} {n : Nat} {ds : List Deferred} {st st' : List (Nat × Value)} {L L' M : List SP} {r : Option Nat} {P : Program} {Q : Exit → Act → World → Prop} {ops : Array Oper} {rest : List Oper}
variable {d : Nat} {ty t t2 : TypeId} {pos : String} {af : Array Edge} {g : Option (Nat × Bool)} {x y z : Operand} {v u : Value} {k : IntKind} {p q : Bool}
variable {md : Region.Mode} {S : World → Prop} {J : Nat → Bool}
structure Waits (md : Region.Mode) (ops : Array Oper) (i : Nat) (D : List Nat) : Prop where
 up : ∀ (j : Nat) oj, ops[j]? = some oj → j ∈ D → ∃ e ∈ oj.after, Region.binds md e = true ∧ (e.on = i ∨ e.on ∈ D)
 dn : ∀ (j : Nat) oj, ops[j]? = some oj → j ∉ D → ∀ e ∈ oj.after, Region.binds md e = true → e.on ≠ i
theorem wpAnyHz_firstT {i : Nat} {oi : Oper} {v : Value} {D : List Nat} (hi : ops[i]? = some oi) (hsel : ∀ (j : Nat) (o : Oper) cs b, ops[j]? = some o → o.op ≠ .select cs b) (hW : Waits md ops i D)
  (hJ : ∀ (j : Nat) oj, ops[j]? = some oj → j ∉ D → J j = true) (hnd : ∀ (j : Nat) (o : Oper), ops[j]? = some o → ∀ c, o.op ≠ .defer c) :
  ∀ (fuel : Nat) (listed : Array Bool) (a : Act) (w : World),
   (∀ j oj, ops[j]? = some oj → j ≠ i → listed.getD j true = false → (∀ e ∈ oj.after, Region.binds md e = true → e.on ≠ i) → oi.apart ops oj = true) →
   (∀ j ∈ D, listed[j]? ≠ some true) →
   i ∈ Region.ready md ops listed → YieldsIn P ops S oi v a → S w →
   wpAnyHz r P md ops Q S J fuel (listed.setIfInBounds i true) (a.put oi.dst v) w → wpAnyHz r P md ops Q S J (fuel + 1) listed a w := by
 intro fuel
 induction fuel with
 | zero =>
  intro listed a w _ _ hr hy hS H; refine ⟨fun h => (by rw [h] at hr; cases hr), fun j hj => ?_⟩
  by_cases hji : j = i
  ·subst hji; exact hy.wpOpIn hi (hnd _ _ hi) hS ⟨fun _ => hS, H⟩
  ·have := ready_mono hj hji
   rw [H.1] at this
   cases this
 | succ fuel ih =>
  intro listed a w hfree hD hr hy hS H; refine ⟨fun h => (by rw [h] at hr; cases hr), fun j hj => ?_⟩
  by_cases hji : j = i
  ·subst hji; exact hy.wpOpIn hi (hnd _ _ hi) hS ⟨fun _ => hS, H⟩
  ·have h1 := H.2 j (ready_mono hj hji)
   obtain ⟨hjun, oj, hoj, hall⟩ := mem_ready.1 hj
   have hlist : ∀ q, listed[q]? ≠ some true → q < listed.size → ∀ e ∈ oj.after, Region.binds md e = true → e.on ≠ q := fun q hq hql e he hb heq => by
    have h1 := hall e he hb
    rw [heq] at h1; rw [Array.getElem?_eq_getElem hql] at hq; simp [hql] at h1; exact hq (by rw [h1])
   have hnoti : ∀ e ∈ oj.after, Region.binds md e = true → e.on ≠ i := fun e he hb heq => by
    have h1 := hall e he hb
    have h0 := (mem_ready.1 hr).1
    rw [heq] at h1
    rcases Nat.lt_or_ge i listed.size with h' | h'
    ·simp [h'] at h0 h1; rw [h0] at h1; cases h1
    ·simp [Array.getElem?_eq_none h'] at h1
   have hjD : j ∉ D := fun hjD => by
    obtain ⟨e, he, hb, h2⟩ := hW.up j oj hoj hjD
    rcases h2 with h2 | h2
    ·exact hnoti e he hb h2
    ·have h3 := hall e he hb
     have h4 := hD e.on h2
     rcases Nat.lt_or_ge e.on listed.size with h' | h'
     ·rw [Array.getElem?_eq_getElem h'] at h4
      simp [h'] at h3; exact h4 (by rw [h3])
     ·simp [Array.getElem?_eq_none h'] at h3
   have h2 := wpOpIn_putIn hoj (hnd _ _ hoj) (hfree j oj hoj hji hjun hnoti) (fun cs b => hsel i oi cs b hi) (fun cs b => hsel j oj cs b hoj) hy h1
   have hfree' : ∀ k ok, ops[k]? = some ok → k ≠ i → (listed.setIfInBounds j true).getD k true = false →
     (∀ e ∈ ok.after, Region.binds md e = true → e.on ≠ i) → oi.apart ops ok = true := fun k ok hk hki hun hno => by
    refine hfree k ok hk hki ?_ hno
    by_cases hjk : j = k
    ·subst hjk; exact hjun
    ·rw [getD_set_ne true hjk] at hun; exact hun
   have hD' : ∀ q ∈ D, (listed.setIfInBounds j true)[q]? ≠ some true := fun q hq => by
    have hne : j ≠ q := fun e => hjD (e ▸ hq)
    rw [Array.getElem?_setIfInBounds_ne hne]; exact hD q hq
   have hJj := hJ j oj hoj hjD
   refine wpOpIn_mono (fun a' w' h3 => ⟨fun _ => h3.2.1 hJj, ih (listed.setIfInBounds j true) a' w' hfree' hD' (ready_mono hr (Ne.symm hji)) h3.1 (h3.2.1 hJj) ?_⟩) h2; rw [Array.setIfInBounds_comm _ _ hji]; exact h3.2.2
def jOkT (md : Region.Mode) (ops : Array Oper) (J : Nat → Bool) (i : Nat) (D : List Nat) (listed : Array Bool) : Bool :=
 (ops.all fun o => !isDefer o.op) && ((List.range ops.size).all fun j => J j || D.contains j) &&
 ((List.range ops.size).all fun j => match ops[j]? with
  | some oj => bif D.contains j then oj.after.any (fun e => Region.binds md e && (Nat.beq e.on i || D.contains e.on)) else oj.after.all fun e => !(Region.binds md e && Nat.beq e.on i)
  | none => true) && D.all fun j => match listed[j]? with
  | some b => !b
  | none => true
theorem jOkT_J {i : Nat} {D : List Nat} {listed : Array Bool} (h : jOkT md ops J i D listed = true) : ∀ (j : Nat) oj, ops[j]? = some oj → j ∉ D → J j = true := fun j oj hj hn => by
 simp only [jOkT, Bool.and_eq_true] at h
 have := List.all_eq_true.1 h.1.1.2 j (List.mem_range.2 (Array.getElem?_eq_some_iff.1 hj).1)
 simp only [Bool.or_eq_true, List.contains_iff_mem] at this; exact this.resolve_right hn
theorem jOkT_nd {i : Nat} {D : List Nat} {listed : Array Bool} (h : jOkT md ops J i D listed = true) : ∀ (j : Nat) (o : Oper), ops[j]? = some o → ∀ c, o.op ≠ .defer c := fun j o hj c hc => by
 simp only [jOkT, Bool.and_eq_true] at h
 have := Array.all_eq_true'.1 h.1.1.1 o (Array.mem_of_getElem? hj)
 rw [hc] at this; cases this
theorem jOkT_W {i : Nat} {D : List Nat} {listed : Array Bool} (h : jOkT md ops J i D listed = true) : Waits md ops i D := by
 simp only [jOkT, Bool.and_eq_true] at h
 have hh : ∀ (j : Nat) oj, ops[j]? = some oj → (bif D.contains j then oj.after.any (fun e => Region.binds md e && (Nat.beq e.on i || D.contains e.on)) else oj.after.all fun e => !(Region.binds md e && Nat.beq e.on i)) = true := fun j oj hj => by
  have := List.all_eq_true.1 h.1.2 j (List.mem_range.2 (Array.getElem?_eq_some_iff.1 hj).1)
  simpa only [hj] using this
 constructor
 ·intro j oj hj hD
  have := hh j oj hj
  rw [List.contains_iff_mem.2 hD, cond_true] at this
  obtain ⟨e, he, h2⟩ := Array.any_eq_true'.1 this
  simp only [Bool.and_eq_true, Bool.or_eq_true, List.contains_iff_mem] at h2; exact ⟨e, he, h2.1, h2.2.imp Nat.eq_of_beq_eq_true id⟩
 ·intro j oj hj hD e he hb heq
  have := hh j oj hj
  have hc : D.contains j = false := by
   cases hcc : D.contains j with
   | false => rfl
   | true => exact absurd (List.contains_iff_mem.1 hcc) hD
  rw [hc, cond_false] at this
  have h2 := Array.all_eq_true'.1 this e he
  rw [hb, heq] at h2; simp at h2
theorem jOkT_D {i : Nat} {D : List Nat} {listed : Array Bool} (h : jOkT md ops J i D listed = true) : ∀ j ∈ D, listed[j]? ≠ some true := fun j hj hl => by
 simp only [jOkT, Bool.and_eq_true] at h
 have := List.all_eq_true.1 h.2 j hj
 rw [hl] at this
 cases this
theorem Hd.takeT (D : List Nat) (i : Nat) {op : Op} {f : Nat} {listed : Array Bool} (hi : ops[i]? = some ⟨some d, op, ty, pos, af, none⟩) (hs : Region.noSelect ops = true) (hf : Region.free .any ops listed i = true)
  (hr : (Region.ready .any ops listed).contains i = true) (hJ : jOkT .any ops J i D listed = true) (hx : Yv E n ds st M P ⟨some d, op, ty, pos, af, none⟩ v) (hab : ∀ (a : Act) w, (⟨some d, op, ty, pos, af, none⟩ : Oper).about P w a.eval = none)
  (hM : ∀ k, sep L k → sep M k) (K : Hd E n ds ((d, v) :: st) L (ZW r P ops Q (Sat E M) J f (listed.setIfInBounds i true))) (hd : d < n := by decide) :
  Hd E n ds st L (ZW r P ops Q (Sat E M) J (f + 1) listed) := fun a w fr s => by
 refine wpAnyHz_firstT hi (Region.noSelect_spec hs) (jOkT_W hJ) (jOkT_J hJ) (jOkT_nd hJ) f listed a w (Region.free_spec hi hf) (jOkT_D hJ) (by simpa using hr) ?_ (s.mp hM) (K _ w (fr.put hd v) s); exact ⟨.inl ⟨by simp [Region.wanted], fun w sw => hx a w fr sw⟩, fun w => hab a w⟩
end
def u8of (i : Int) : UInt8 := UInt8.ofNat i.toNat
theorem B_u8of {i : Int} (h : InK .u8 i) : B (u8of i) = .int .u8 i := by
 simp only [InK] at h
 have : ((u8of i).toNat : Int) = i := by
  unfold u8of
  have h1 : i.toNat < 256 := by omega
  simp only [UInt8.toNat_ofNat']; omega
 rw [B, this]
theorem map_u8of {l : List Int} (h : ∀ y ∈ l, InK .u8 y) : (l.map u8of).map B = l.map (Value.int .u8) := by
 rw [List.map_map]; exact List.map_congr_left fun y hy => B_u8of (h y hy)
theorem rd_u8 {W : World} {x : (Sh.slice (.int .u8)).T} (h : (Sh.slice (.int .u8)).ok W x) : RdS [Old W] 1 x.ad (x.l.map u8of).length ((x.l.map u8of).map B) := by
 rw [map_u8of h.2.2.2.2, List.length_map]; exact rd_int h
end Go.RX
namespace Go.RX
open Go.Sort Go.Proofs Go.Shelf
section
variable {P : Program}
theorem hp_grow {w : World} {os : Array Obj} : Sub (hp w) (hp (grow w os)) := fun k c e => by
 unfold hp at e ⊢
 have hb : k.1 < w.heap.size := Decidable.byContradiction fun h => by
  rw [Array.getElem?_eq_none (by omega)] at e
  cases k.2 <;> simp [hpo] at e
 show hpo (w.heap ++ os)[k.1]? k.2 = _
 rw [Array.getElem?_append_left hb]; exact e
theorem Sat.grow' {E w : World} {L : List SP} (s : Sat E L w) (os : Array Obj) : Sat E L (grow w os) := ⟨s.1, s.2.1, s.2.2.1, s.2.2.2.up hp_grow⟩
theorem Sat.ahead' {E w : World} {L : List SP} (s : Sat E L w) (n : Nat) : Sat E L (Go.Sort.ahead w n) := ⟨⟨s.1.1, Nat.le_trans s.1.2 (Nat.le_add_right _ _)⟩, s.2⟩
theorem flatK_list {α : Type} [Inhabited α] {enc : α → List Value} {k : Nat} (hk : ∀ x, (enc x).length = k) (hk0 : 0 < k) (xs : List α) : (flatK enc k xs.toArray).toList = xs.flatMap enc := by
 have hfl : (xs.flatMap enc).length = xs.length * k := by
  induction xs with
  | nil => simp
  | cons x xs ih => simp only [List.flatMap_cons, List.length_append, ih, hk, List.length_cons, Nat.succ_mul]; omega
 apply List.ext_getElem?; intro t
 by_cases ht : t < xs.length * k
 ·have h1 : t / k < xs.length := Nat.div_lt_of_lt_mul (by rwa [Nat.mul_comm])
  have h2 : t % k < k := Nat.mod_lt _ hk0
  have h3 : xs[t / k]? = some xs[t / k] := List.getElem?_eq_getElem h1
  have h4 : t % k < (enc xs[t / k]).length := by rw [hk]; exact h2
  have h5 := flat_cells enc k hk h3 (t % k) _ (List.getElem?_eq_getElem h4)
  rw [Nat.div_add_mod'] at h5; rw [h5]
  have h6 : t < (flatK enc k xs.toArray).size := by simpa using ht
  rw [Array.getElem?_toList, Array.getElem?_eq_getElem h6]
  congr 1
  have := get_flatK enc k xs.toArray t (by simpa using ht)
  rw [getElem!_pos _ t h6] at this; rw [this]; simp [h1, h4]
 ·rw [List.getElem?_eq_none (by simpa using Nat.le_of_not_lt ht), List.getElem?_eq_none (by rw [hfl]; omega)]
theorem Sat.sortW {α : Type} [Inhabited α] {enc : α → List Value} {k : Nat} (hk : ∀ x, (enc x).length = k) (hk0 : 0 < k) {E w : World} {L : List SP} {b o : Nat} {xs ys : List α} (hl : ys.length = xs.length) (h0 : 0 < xs.length) (s : Sat E (seg b o (xs.flatMap enc) :: L) w) (n : Nat) (os : Array Obj) :
  Sat E (seg b o (ys.flatMap enc) :: L) (sortWorldK enc k w b o n ys.toArray os) := by
 unfold sortWorldK putRowK; refine Sat.grow' ?_ os
 have s1 := s.ahead' n
 have hfx : (xs.flatMap enc).length = xs.length * k := by rw [← flatK_list hk hk0]; simp
 have hfy : (ys.flatMap enc).length = ys.length * k := by rw [← flatK_list hk hk0]; simp
 obtain ⟨h1, hs, x⟩ := sep.one Pick.here s1.2.2.2
 obtain ⟨cs, e, fz, hb, hc⟩ := seg_at hs x (by rw [hfx]; exact Nat.mul_pos h0 hk0)
 have hsz : ∀ i, i < xs.length * k → o + i < cs.size := fun i hi => by
  have := (hc i _ (List.getElem?_eq_getElem (by rw [hfx]; exact hi))).1
  exact (Array.getElem?_eq_some_iff.1 this).1
 refine Sat.putSeg (cs := cs) (cs' := putCells id o (flatK enc k ys.toArray) cs) (e := e) (fz := fz) s1 .here (by rw [hfx, hfy, hl]) rfl rfl rfl (fun z hz => ?_) hb ?_ (by simp [putCells]) (fun i hi => ?_) (fun i v hi => ?_)
 ·show (mapBlock _ _ _).heap[z]? = _
  unfold mapBlock; simp [Array.getElem?_modify, Ne.symm hz]
 ·show (mapBlock _ _ _).heap[b]? = _
  unfold mapBlock; simp only [Array.getElem?_modify, if_true]; rw [hb]; rfl
 ·unfold putCells
  rw [Array.getElem?_mapIdx]
  cases hcs : cs[i]? with
  | none => rfl
  | some c =>
   simp only [Option.map_some]; rw [if_neg]; rw [size_flatK]; rw [hfx, ← hl] at hi; simp only [List.size_toArray]; omega
 ·have hi' : i < ys.length * k := by rw [← hfy]; exact (List.getElem?_eq_some_iff.1 hi).1
  have hoi : o + i < cs.size := hsz i (by rw [← hl]; exact hi')
  unfold putCells; rw [Array.getElem?_mapIdx, Array.getElem?_eq_getElem hoi]; simp only [Option.map_some]; rw [if_pos ⟨by omega, by rw [size_flatK]; simp only [List.size_toArray]; omega⟩, show o + i - o = i by omega]; rw [← flatK_list hk hk0, Array.getElem?_toList] at hi
  have h6 := (Array.getElem?_eq_some_iff.1 hi).1
  rw [Array.getElem?_eq_getElem h6] at hi; rw [getElem!_pos _ i h6]; exact hi
theorem Sat.holdsK {α : Type} [Inhabited α] {enc : α → List Value} {k : Nat} (hk : ∀ x, (enc x).length = k) (hk0 : 0 < k) {E w : World} {L : List SP} {b o : Nat} {xs : List α} (h0 : 0 < xs.length) (s : Sat E (seg b o (xs.flatMap enc) :: L) w) : HoldsK enc k w b o xs.toArray ∧ b < w.heap.size := by
 have hfx : (xs.flatMap enc).length = xs.length * k := by rw [← flatK_list hk hk0]; simp
 obtain ⟨h1, hs, x⟩ := sep.one Pick.here s.2.2.2
 obtain ⟨cs, e, fz, hb, hc⟩ := seg_at hs x (by rw [hfx]; exact Nat.mul_pos h0 hk0)
 refine ⟨fun j hj => ?_, (Array.getElem?_eq_some_iff.1 hb).1⟩
 have hj' : j < (xs.flatMap enc).length := by rw [hfx]; simpa using hj
 have hcj := hc j _ (List.getElem?_eq_getElem hj')
 have e1 : (flatK enc k xs.toArray)[j]! = (xs.flatMap enc)[j] := by
  rw [getElem!_pos _ j hj]
  have : (flatK enc k xs.toArray).toList[j]? = (xs.flatMap enc)[j]? := by rw [flatK_list hk hk0]
  rw [Array.getElem?_toList, Array.getElem?_eq_getElem hj, List.getElem?_eq_getElem hj'] at this; exact Option.some.inj this
 refine ⟨?_, ?_⟩
 ·unfold World.cell?
  simp only [hb, Option.isSome_none, Bool.false_eq_true, if_false]; rw [hcj.1, e1]; rfl
 ·unfold World.frozen?
  simp only [hb]
  first | exact hcj.2 | (simpa using hcj.2)
theorem grow_of {W w' : World} (s : Sat W [Old W] w') : ∃ q os', w' = grow (W.drewN q) os' := by
 have hb := below_of_sat s .here
 refine ⟨w'.drawn - W.drawn, w'.heap.extract W.heap.size w'.heap.size, ?_⟩
 have hh : w'.heap = W.heap ++ w'.heap.extract W.heap.size w'.heap.size := by
  apply Array.ext_getElem?; intro i
  by_cases hi : i < W.heap.size
  ·rw [Array.getElem?_append_left hi]; exact hb.block i hi
  ·rw [Array.getElem?_append_right (by omega), Array.getElem?_extract]
   by_cases h2 : i < w'.heap.size
   ·rw [if_pos (by omega)]; congr 1; omega
   ·rw [if_neg (by omega), Array.getElem?_eq_none (by omega)]
 have hd : W.drawn + (w'.drawn - W.drawn) = w'.drawn := by have := s.1.2; omega
 obtain ⟨wh, wt, wd, wo, wu⟩ := w'
 obtain ⟨⟨h1, _⟩, h2, h3, _⟩ := s
 simp only at h1 h2 h3 hh hd; subst h1; subst h2; subst h3; unfold grow; simp [World.drewN, hd, ← hh]
theorem cmpLays_of {α : Type} [Inhabited α] {g : Nat} {enc : α → List Value} {k : Nat} {cf : α → α → Int} {b o size : Nat} {w : World}
  (h : ∀ (L : List SP) x y, Ct P g #[.agg (enc x).toArray, .agg (enc y).toArray] L (fun _ : Unit => .int .i64 (cf x y)) (fun _ => L)) : CmpLays P g #[] enc k cf b o size w := fun m os dk _ x y =>
 (h [Old _] x y _ _ (old_sat _)).mono fun _ _ ⟨_, he, s⟩ => ⟨he, grow_of s⟩
end
section
theorem hp_growO {w : World} {os : Array Obj} : Sub (hp w) (hp (grow w os)) := fun k c e => by
 unfold hp at e ⊢
 have hb : k.1 < w.heap.size := Decidable.byContradiction fun h => by
  rw [Array.getElem?_eq_none (by omega)] at e
  cases k.2 <;> simp [hpo] at e
 show hpo (w.heap ++ os)[k.1]? k.2 = _
 rw [Array.getElem?_append_left hb]; exact e
theorem Sat.growO {E w : World} {L : List SP} (s : Sat E L w) (os : Array Obj) : Sat E L (grow w os) := ⟨s.1, s.2.1, s.2.2.1, s.2.2.2.up hp_growO⟩
theorem Sat.aheadO {E w : World} {L : List SP} (s : Sat E L w) (n : Nat) : Sat E L (Go.Sort.ahead w n) := ⟨⟨s.1.1, Nat.le_trans s.1.2 (Nat.le_add_right _ _)⟩, s.2⟩
theorem Sat.holds1 {k : IntKind} {E w : World} {L : List SP} {b o : Nat} {xs : List Int} (h0 : 0 < xs.length) (s : Sat E (seg b o (xs.map (Value.int k)) :: L) w) : Holds (Value.int k) w b o xs.toArray ∧ b < w.heap.size := by
 obtain ⟨h1, hs, x⟩ := sep.one Pick.here s.2.2.2
 obtain ⟨cs, e, fz, hb, hc⟩ := seg_at hs x (by rw [List.length_map]; exact h0)
 refine ⟨fun j hj => ?_, (Array.getElem?_eq_some_iff.1 hb).1⟩
 have hj' : j < xs.length := by simpa using hj
 have hcj := hc j (.int k xs[j]) (by rw [List.getElem?_map, List.getElem?_eq_getElem hj']; rfl)
 have e1 : xs.toArray[j]! = xs[j] := by rw [getElem!_pos _ j hj]; rfl
 refine ⟨?_, ?_⟩
 ·unfold World.cell?
  simp only [hb, Option.isSome_none, Bool.false_eq_true, if_false]; rw [hcj.1, e1]
 ·unfold World.frozen?
  simp only [hb]
  first | exact hcj.2 | (simpa using hcj.2)
theorem Sat.sort1 {k : IntKind} {E w : World} {L : List SP} {b o : Nat} {xs ys : List Int} (hl : ys.length = xs.length) (h0 : 0 < xs.length) (s : Sat E (seg b o (xs.map (Value.int k)) :: L) w) (n : Nat) (os : Array Obj) :
  Sat E (seg b o (ys.map (Value.int k)) :: L) (grow (putRow (Value.int k) (Go.Sort.ahead w n) b o ys.toArray) os) := by
 unfold putRow; refine Sat.growO ?_ os
 have s1 := s.aheadO n
 obtain ⟨h1, hs, x⟩ := sep.one Pick.here s1.2.2.2
 obtain ⟨cs, e, fz, hb, hc⟩ := seg_at hs x (by rw [List.length_map]; exact h0)
 have hsz : ∀ i, i < xs.length → o + i < cs.size := fun i hi => by
  have := (hc i (.int k xs[i]) (by rw [List.getElem?_map, List.getElem?_eq_getElem hi]; rfl)).1
  exact (Array.getElem?_eq_some_iff.1 this).1
 refine Sat.putSeg (cs := cs) (cs' := putCells (Value.int k) o ys.toArray cs) (e := e) (fz := fz) s1 .here (by rw [List.length_map, List.length_map, hl]) rfl rfl rfl (fun z hz => ?_) hb ?_ (by simp [putCells]) (fun i hi => ?_) (fun i v hi => ?_)
 ·show (mapBlock _ _ _).heap[z]? = _
  unfold mapBlock; simp [Array.getElem?_modify, Ne.symm hz]
 ·show (mapBlock _ _ _).heap[b]? = _
  unfold mapBlock; simp only [Array.getElem?_modify, if_true]; rw [hb]; rfl
 ·unfold putCells
  rw [Array.getElem?_mapIdx]
  cases hcs : cs[i]? with
  | none => rfl
  | some c =>
   simp only [Option.map_some]; rw [if_neg]; rw [List.length_map, ← hl] at hi; simp only [List.size_toArray]; omega
 ·have hi' : i < ys.length := by have := (List.getElem?_eq_some_iff.1 hi).1; rwa [List.length_map] at this
  have hoi : o + i < cs.size := hsz i (by rw [← hl]; exact hi')
  unfold putCells; rw [Array.getElem?_mapIdx, Array.getElem?_eq_getElem hoi]; simp only [Option.map_some]; rw [if_pos ⟨by omega, by simp only [List.size_toArray]; omega⟩, show o + i - o = i by omega]; rw [List.getElem?_map, List.getElem?_eq_getElem hi'] at hi; rw [getElem!_pos _ i (by simpa using hi')]; exact hi
end
end Go.RX
set_option maxRecDepth 8000
set_option maxHeartbeats 2000000
open Go.RX.Hd (yv y2 n1 fk sk sr tH callE heldK qo qk qn qt qz qv endH thenN slots)
namespace Go.Proofs.YtbfddabjbkohdaaGreat
open Go.RX
namespace Fx
theorem ag3 : agk Tryz.prog 3 = some false := by kernel_rfl
theorem sz3 : szk Tryz.prog 3 = some 1 := by kernel_rfl
theorem zr3 : zrk Tryz.prog 3 = some ([.int .i64 0]) := by kernel_rfl
theorem ty3 : tyr Tryz.prog 3 = some (1, 8, 1) := by kernel_rfl
theorem ag4 : agk Tryz.prog 4 = some false := by kernel_rfl
theorem sz4 : szk Tryz.prog 4 = some 1 := by kernel_rfl
theorem ag5 : agk Tryz.prog 5 = some false := by kernel_rfl
theorem sz5 : szk Tryz.prog 5 = some 1 := by kernel_rfl
theorem zr5 : zrk Tryz.prog 5 = some ([.int .u8 0]) := by kernel_rfl
theorem ty5 : tyr Tryz.prog 5 = some (1, 1, 1) := by kernel_rfl
theorem ag30 : agk Tryz.prog 30 = some false := by kernel_rfl
theorem sz30 : szk Tryz.prog 30 = some 1 := by kernel_rfl
theorem ag31 : agk Tryz.prog 31 = some false := by kernel_rfl
theorem sz31 : szk Tryz.prog 31 = some 1 := by kernel_rfl
theorem zr31 : zrk Tryz.prog 31 = some ([.slice none 0 0]) := by kernel_rfl
theorem ag33 : agk Tryz.prog 33 = some true := by kernel_rfl
theorem sz33 : szk Tryz.prog 33 = some 5 := by kernel_rfl
theorem ag34 : agk Tryz.prog 34 = some false := by kernel_rfl
theorem ag35 : agk Tryz.prog 35 = some false := by kernel_rfl
theorem sz35 : szk Tryz.prog 35 = some 1 := by kernel_rfl
theorem zr35 : zrk Tryz.prog 35 = some ([.int .i64 0]) := by kernel_rfl
theorem ag38 : agk Tryz.prog 38 = some false := by kernel_rfl
theorem sz38 : szk Tryz.prog 38 = some 1 := by kernel_rfl
theorem ag39 : agk Tryz.prog 39 = some false := by kernel_rfl
theorem sz39 : szk Tryz.prog 39 = some 1 := by kernel_rfl
theorem ag44 : agk Tryz.prog 44 = some false := by kernel_rfl
theorem sz44 : szk Tryz.prog 44 = some 1 := by kernel_rfl
theorem zr44 : zrk Tryz.prog 44 = some ([.slice none 0 0]) := by kernel_rfl
theorem ag51 : agk Tryz.prog 51 = some true := by kernel_rfl
theorem sz51 : szk Tryz.prog 51 = some 2 := by kernel_rfl
theorem zr51 : zrk Tryz.prog 51 = some ([.int .i64 0, .int .i64 0]) := by kernel_rfl
theorem ty51 : tyr Tryz.prog 51 = some (2, 16, 2) := by kernel_rfl
theorem ag82 : agk Tryz.prog 82 = some true := by kernel_rfl
theorem sz82 : szk Tryz.prog 82 = some 4 := by kernel_rfl
theorem zr82 : zrk Tryz.prog 82 = some ([.int .i64 0, .int .i64 0, .int .i64 0, .int .i64 0]) := by kernel_rfl
theorem ty82 : tyr Tryz.prog 82 = some (4, 32, 4) := by kernel_rfl
theorem ag102 : agk Tryz.prog 102 = some false := by kernel_rfl
theorem ag105 : agk Tryz.prog 105 = some true := by kernel_rfl
theorem sz105 : szk Tryz.prog 105 = some 7 := by kernel_rfl
theorem zr105 : zrk Tryz.prog 105 = some ([.bool false, .bool false, .bool false, .bool false, .bool false, .int .u64 0, .int .u64 0]) := by kernel_rfl
theorem sz108 : szk Tryz.prog 108 = some 3 := by kernel_rfl
theorem ag110 : agk Tryz.prog 110 = some false := by kernel_rfl
theorem sz110 : szk Tryz.prog 110 = some 1 := by kernel_rfl
theorem zr110 : zrk Tryz.prog 110 = some ([.slice none 0 0]) := by kernel_rfl
theorem ag113 : agk Tryz.prog 113 = some true := by kernel_rfl
theorem sz113 : szk Tryz.prog 113 = some 3 := by kernel_rfl
theorem zr113 : zrk Tryz.prog 113 = some ([.int .i64 0, .int .i64 0, .int .i64 0]) := by kernel_rfl
theorem ty113 : tyr Tryz.prog 113 = some (3, 24, 3) := by kernel_rfl
theorem ag129 : agk Tryz.prog 129 = some false := by kernel_rfl
theorem sz129 : szk Tryz.prog 129 = some 1 := by kernel_rfl
theorem sz130 : szk Tryz.prog 130 = some 32 := by kernel_rfl
theorem sz131 : szk Tryz.prog 131 = some 32 := by kernel_rfl
theorem ag143 : agk Tryz.prog 143 = some false := by kernel_rfl
theorem sz143 : szk Tryz.prog 143 = some 1 := by kernel_rfl
theorem ag148 : agk Tryz.prog 148 = some true := by kernel_rfl
theorem sz148 : szk Tryz.prog 148 = some 5 := by kernel_rfl
theorem zr148 : zrk Tryz.prog 148 = some ([.int .i64 0, .int .i64 0, .int .i64 0, .int .u64 0, .int .u64 0]) := by kernel_rfl
theorem ag170 : agk Tryz.prog 170 = some true := by kernel_rfl
theorem sz170 : szk Tryz.prog 170 = some 2 := by kernel_rfl
theorem zr170 : zrk Tryz.prog 170 = some ([.int .i64 0, .int .i64 0]) := by kernel_rfl
theorem ty170 : tyr Tryz.prog 170 = some (2, 16, 2) := by kernel_rfl
theorem ag172 : agk Tryz.prog 172 = some true := by kernel_rfl
theorem sz172 : szk Tryz.prog 172 = some 4 := by kernel_rfl
theorem zr172 : zrk Tryz.prog 172 = some ([.int .i64 0, .int .i64 0, .bool false, .int .u64 0]) := by kernel_rfl
theorem ag173 : agk Tryz.prog 173 = some false := by kernel_rfl
theorem sz173 : szk Tryz.prog 173 = some 1 := by kernel_rfl
theorem ag186 : agk Tryz.prog 186 = some true := by kernel_rfl
theorem sz186 : szk Tryz.prog 186 = some 96 := by kernel_rfl
theorem ag190 : agk Tryz.prog 190 = some true := by kernel_rfl
theorem sz190 : szk Tryz.prog 190 = some 3 := by kernel_rfl
theorem zr190 : zrk Tryz.prog 190 = some ([.bool false, .int .i64 0, .int .i64 0]) := by kernel_rfl
theorem ag191 : agk Tryz.prog 191 = some false := by kernel_rfl
theorem sz191 : szk Tryz.prog 191 = some 1 := by kernel_rfl
theorem zr191 : zrk Tryz.prog 191 = some ([.pointer none]) := by kernel_rfl
theorem ty191 : tyr Tryz.prog 191 = some (1, 8, 1) := by kernel_rfl
theorem ag194 : agk Tryz.prog 194 = some false := by kernel_rfl
theorem sz194 : szk Tryz.prog 194 = some 1 := by kernel_rfl
theorem ag196 : agk Tryz.prog 196 = some true := by kernel_rfl
theorem sz196 : szk Tryz.prog 196 = some 7 := by kernel_rfl
theorem zr196 : zrk Tryz.prog 196 = some ([.int .i64 0, .int .i64 0, .pointer none, .bool false, .bool false, .int .u64 0, .int .u64 0]) := by kernel_rfl
theorem sz197 : szk Tryz.prog 197 = some 14 := by kernel_rfl
theorem ag202 : agk Tryz.prog 202 = some true := by kernel_rfl
theorem sz202 : szk Tryz.prog 202 = some 2 := by kernel_rfl
theorem zr202 : zrk Tryz.prog 202 = some ([.int .i64 0, .int .i64 0]) := by kernel_rfl
theorem ag205 : agk Tryz.prog 205 = some false := by kernel_rfl
theorem sz205 : szk Tryz.prog 205 = some 1 := by kernel_rfl
theorem ag207 : agk Tryz.prog 207 = some true := by kernel_rfl
theorem sz207 : szk Tryz.prog 207 = some 288 := by kernel_rfl
theorem ag208 : agk Tryz.prog 208 = some false := by kernel_rfl
theorem sz208 : szk Tryz.prog 208 = some 1 := by kernel_rfl
theorem sz218 : szk Tryz.prog 218 = some 8 := by kernel_rfl
theorem sz219 : szk Tryz.prog 219 = some 16 := by kernel_rfl
theorem ag221 : agk Tryz.prog 221 = some true := by kernel_rfl
theorem sz221 : szk Tryz.prog 221 = some 20 := by kernel_rfl
theorem zr221 : zrk Tryz.prog 221 = some ([.int .i64 0, .int .i64 0, .bool false, .bool false, .slice none 0 0, .bool false, .int .u64 0, .int .u64 0, .int .i64 0, .int .i64 0, .bool false, .bool false, .slice none 0 0, .bool false, .int .u64 0, .int .u64 0, .int .i64 0, .bool false, .int .i64 0, .slice none 0 0]) := by kernel_rfl
theorem ty221 : tyr Tryz.prog 221 = some (20, 192, 20) := by kernel_rfl
theorem ag238 : agk Tryz.prog 238 = some false := by kernel_rfl
theorem sz238 : szk Tryz.prog 238 = some 1 := by kernel_rfl
theorem zr238 : zrk Tryz.prog 238 = some ([.slice none 0 0]) := by kernel_rfl
theorem ag241 : agk Tryz.prog 241 = some true := by kernel_rfl
theorem sz241 : szk Tryz.prog 241 = some 2 := by kernel_rfl
theorem zr241 : zrk Tryz.prog 241 = some ([.int .i64 0, .int .i64 0]) := by kernel_rfl
theorem ty241 : tyr Tryz.prog 241 = some (2, 16, 2) := by kernel_rfl
theorem eqt82 : EqT Tryz.prog 82 [.int .i64, .int .i64, .int .i64, .int .i64] 4 := ⟨by kernel_rfl, by kernel_rfl, by kernel_rfl, by kernel_rfl, by kernel_rfl⟩
theorem eqt113 : EqT Tryz.prog 113 [.int .i64, .int .i64, .int .i64] 3 := ⟨by kernel_rfl, by kernel_rfl, by kernel_rfl, by kernel_rfl, by kernel_rfl⟩
theorem eqt241 : EqT Tryz.prog 241 [.int .i64, .int .i64] 2 := ⟨by kernel_rfl, by kernel_rfl, by kernel_rfl, by kernel_rfl, by kernel_rfl⟩
theorem mapt42 : MapT Tryz.prog 42 .i64 (.int .i64 0) := MapT.of (by kernel_rfl)
theorem mapt143 : MapT Tryz.prog 143 .i64 (.agg ([.int .i64 0, .int .i64 0, .int .i64 0, .int .u64 0, .int .u64 0]).toArray) := MapT.of (by kernel_rfl)
theorem mapt173 : MapTP Tryz.prog 173 .i64 (.agg ([.int .i64 0, .int .i64 0, .bool false, .int .u64 0]).toArray) := MapTP.of (by kernel_rfl)
theorem fk14 : fnk Tryz.prog 14 = true := by kernel_rfl
theorem fk16 : fnk Tryz.prog 16 = true := by kernel_rfl
theorem fk17 : fnk Tryz.prog 17 = true := by kernel_rfl
theorem fk18 : fnk Tryz.prog 18 = true := by kernel_rfl
theorem fk19 : fnk Tryz.prog 19 = true := by kernel_rfl
theorem fk22 : fnk Tryz.prog 22 = true := by kernel_rfl
theorem fk31 : fnk Tryz.prog 31 = true := by kernel_rfl
theorem fk32 : fnk Tryz.prog 32 = true := by kernel_rfl
theorem fk33 : fnk Tryz.prog 33 = true := by kernel_rfl
theorem fk34 : fnk Tryz.prog 34 = true := by kernel_rfl
theorem fk41 : fnk Tryz.prog 41 = true := by kernel_rfl
theorem fk42 : fnk Tryz.prog 42 = true := by kernel_rfl
theorem fk43 : fnk Tryz.prog 43 = true := by kernel_rfl
theorem fk44 : fnk Tryz.prog 44 = true := by kernel_rfl
theorem fk45 : fnk Tryz.prog 45 = true := by kernel_rfl
theorem fk46 : fnk Tryz.prog 46 = true := by kernel_rfl
theorem fk47 : fnk Tryz.prog 47 = true := by kernel_rfl
theorem fk48 : fnk Tryz.prog 48 = true := by kernel_rfl
theorem fk49 : fnk Tryz.prog 49 = true := by kernel_rfl
theorem fk50 : fnk Tryz.prog 50 = true := by kernel_rfl
theorem fk52 : fnk Tryz.prog 52 = true := by kernel_rfl
theorem fk53 : fnk Tryz.prog 53 = true := by kernel_rfl
theorem fk54 : fnk Tryz.prog 54 = true := by kernel_rfl
theorem fk55 : fnk Tryz.prog 55 = true := by kernel_rfl
theorem fk56 : fnk Tryz.prog 56 = true := by kernel_rfl
theorem fk57 : fnk Tryz.prog 57 = true := by kernel_rfl
theorem fk58 : fnk Tryz.prog 58 = true := by kernel_rfl
theorem fk59 : fnk Tryz.prog 59 = true := by kernel_rfl
theorem fk60 : fnk Tryz.prog 60 = true := by kernel_rfl
theorem fk61 : fnk Tryz.prog 61 = true := by kernel_rfl
theorem fk62 : fnk Tryz.prog 62 = true := by kernel_rfl
theorem fk63 : fnk Tryz.prog 63 = true := by kernel_rfl
theorem fk64 : fnk Tryz.prog 64 = true := by kernel_rfl
theorem fk65 : fnk Tryz.prog 65 = true := by kernel_rfl
theorem fk66 : fnk Tryz.prog 66 = true := by kernel_rfl
theorem fk67 : fnk Tryz.prog 67 = true := by kernel_rfl
theorem fk68 : fnk Tryz.prog 68 = true := by kernel_rfl
theorem fk69 : fnk Tryz.prog 69 = true := by kernel_rfl
theorem fk70 : fnk Tryz.prog 70 = true := by kernel_rfl
theorem fk71 : fnk Tryz.prog 71 = true := by kernel_rfl
theorem fk72 : fnk Tryz.prog 72 = true := by kernel_rfl
theorem fk73 : fnk Tryz.prog 73 = true := by kernel_rfl
theorem fk74 : fnk Tryz.prog 74 = true := by kernel_rfl
theorem fk79 : fnk Tryz.prog 79 = true := by kernel_rfl
theorem fk87 : fnk Tryz.prog 87 = true := by kernel_rfl
theorem fk91 : fnk Tryz.prog 91 = true := by kernel_rfl
theorem fk92 : fnk Tryz.prog 92 = true := by kernel_rfl
theorem fk93 : fnk Tryz.prog 93 = true := by kernel_rfl
theorem fk99 : fnk Tryz.prog 99 = true := by kernel_rfl
theorem fk100 : fnk Tryz.prog 100 = true := by kernel_rfl
theorem fk101 : fnk Tryz.prog 101 = true := by kernel_rfl
theorem fk102 : fnk Tryz.prog 102 = true := by kernel_rfl
theorem fk103 : fnk Tryz.prog 103 = true := by kernel_rfl
theorem fk104 : fnk Tryz.prog 104 = true := by kernel_rfl
theorem fk105 : fnk Tryz.prog 105 = true := by kernel_rfl
theorem fk106 : fnk Tryz.prog 106 = true := by kernel_rfl
theorem fk107 : fnk Tryz.prog 107 = true := by kernel_rfl
theorem fk108 : fnk Tryz.prog 108 = true := by kernel_rfl
theorem fk109 : fnk Tryz.prog 109 = true := by kernel_rfl
theorem fk110 : fnk Tryz.prog 110 = true := by kernel_rfl
theorem fk111 : fnk Tryz.prog 111 = true := by kernel_rfl
theorem fk112 : fnk Tryz.prog 112 = true := by kernel_rfl
theorem fk113 : fnk Tryz.prog 113 = true := by kernel_rfl
theorem fk114 : fnk Tryz.prog 114 = true := by kernel_rfl
theorem fk115 : fnk Tryz.prog 115 = true := by kernel_rfl
theorem fk116 : fnk Tryz.prog 116 = true := by kernel_rfl
theorem fk117 : fnk Tryz.prog 117 = true := by kernel_rfl
theorem fk118 : fnk Tryz.prog 118 = true := by kernel_rfl
theorem fk119 : fnk Tryz.prog 119 = true := by kernel_rfl
theorem fk120 : fnk Tryz.prog 120 = true := by kernel_rfl
theorem fk121 : fnk Tryz.prog 121 = true := by kernel_rfl
theorem fk122 : fnk Tryz.prog 122 = true := by kernel_rfl
theorem fk123 : fnk Tryz.prog 123 = true := by kernel_rfl
theorem fk124 : fnk Tryz.prog 124 = true := by kernel_rfl
theorem fk125 : fnk Tryz.prog 125 = true := by kernel_rfl
theorem fk126 : fnk Tryz.prog 126 = true := by kernel_rfl
theorem fk127 : fnk Tryz.prog 127 = true := by kernel_rfl
theorem fk128 : fnk Tryz.prog 128 = true := by kernel_rfl
theorem fk129 : fnk Tryz.prog 129 = true := by kernel_rfl
theorem fk130 : fnk Tryz.prog 130 = true := by kernel_rfl
theorem fk131 : fnk Tryz.prog 131 = true := by kernel_rfl
theorem fk132 : fnk Tryz.prog 132 = true := by kernel_rfl
theorem fk133 : fnk Tryz.prog 133 = true := by kernel_rfl
theorem fk134 : fnk Tryz.prog 134 = true := by kernel_rfl
theorem fk135 : fnk Tryz.prog 135 = true := by kernel_rfl
theorem fk136 : fnk Tryz.prog 136 = true := by kernel_rfl
theorem fk137 : fnk Tryz.prog 137 = true := by kernel_rfl
theorem fk138 : fnk Tryz.prog 138 = true := by kernel_rfl
theorem fk139 : fnk Tryz.prog 139 = true := by kernel_rfl
theorem fk140 : fnk Tryz.prog 140 = true := by kernel_rfl
theorem fk141 : fnk Tryz.prog 141 = true := by kernel_rfl
theorem fk142 : fnk Tryz.prog 142 = true := by kernel_rfl
theorem fk143 : fnk Tryz.prog 143 = true := by kernel_rfl
theorem fk144 : fnk Tryz.prog 144 = true := by kernel_rfl
theorem fk145 : fnk Tryz.prog 145 = true := by kernel_rfl
theorem fk146 : fnk Tryz.prog 146 = true := by kernel_rfl
theorem fk147 : fnk Tryz.prog 147 = true := by kernel_rfl
theorem fk157 : fnk Tryz.prog 157 = true := by kernel_rfl
theorem fk158 : fnk Tryz.prog 158 = true := by kernel_rfl
theorem fk159 : fnk Tryz.prog 159 = true := by kernel_rfl
theorem fk161 : fnk Tryz.prog 161 = true := by kernel_rfl
theorem fk162 : fnk Tryz.prog 162 = true := by kernel_rfl
theorem fk166 : fnk Tryz.prog 166 = true := by kernel_rfl
theorem fk167 : fnk Tryz.prog 167 = true := by kernel_rfl
theorem fk168 : fnk Tryz.prog 168 = true := by kernel_rfl
theorem fk169 : fnk Tryz.prog 169 = true := by kernel_rfl
theorem fk170 : fnk Tryz.prog 170 = true := by kernel_rfl
theorem fk171 : fnk Tryz.prog 171 = true := by kernel_rfl
theorem fk172 : fnk Tryz.prog 172 = true := by kernel_rfl
theorem fk173 : fnk Tryz.prog 173 = true := by kernel_rfl
theorem fk175 : fnk Tryz.prog 175 = true := by kernel_rfl
theorem fk176 : fnk Tryz.prog 176 = true := by kernel_rfl
theorem fk177 : fnk Tryz.prog 177 = true := by kernel_rfl
theorem fk178 : fnk Tryz.prog 178 = true := by kernel_rfl
theorem fk179 : fnk Tryz.prog 179 = true := by kernel_rfl
theorem fk180 : fnk Tryz.prog 180 = true := by kernel_rfl
theorem fk181 : fnk Tryz.prog 181 = true := by kernel_rfl
theorem fk182 : fnk Tryz.prog 182 = true := by kernel_rfl
theorem fk183 : fnk Tryz.prog 183 = true := by kernel_rfl
theorem fk184 : fnk Tryz.prog 184 = true := by kernel_rfl
theorem fk185 : fnk Tryz.prog 185 = true := by kernel_rfl
theorem fk186 : fnk Tryz.prog 186 = true := by kernel_rfl
theorem fk187 : fnk Tryz.prog 187 = true := by kernel_rfl
theorem fk193 : fnk Tryz.prog 193 = true := by kernel_rfl
theorem fk195 : fnk Tryz.prog 195 = true := by kernel_rfl
theorem fk196 : fnk Tryz.prog 196 = true := by kernel_rfl
theorem fk197 : fnk Tryz.prog 197 = true := by kernel_rfl
theorem fk198 : fnk Tryz.prog 198 = true := by kernel_rfl
theorem fk199 : fnk Tryz.prog 199 = true := by kernel_rfl
theorem fk200 : fnk Tryz.prog 200 = true := by kernel_rfl
theorem fk201 : fnk Tryz.prog 201 = true := by kernel_rfl
theorem fk203 : fnk Tryz.prog 203 = true := by kernel_rfl
theorem fk215 : fnk Tryz.prog 215 = true := by kernel_rfl
theorem mixed : Tryz.prog.follows .mixedOrders = true := by kernel_rfl
theorem bd12_209 (x1 : Int) (x2 : Int) : Tryz.prog.built 113 [(0, .int .i64 x1), (2, .int .i64 x2)] = some #[.int .i64 x1, .int .i64 0, .int .i64 x2] := by kernel_rfl
theorem bd16_3 (x1 : Option Addr) (x2 : Option Addr) : Tryz.prog.built 41 [(0, .pointer x1), (1, .pointer x2)] = some #[.pointer x1, .pointer x2] := by kernel_rfl
theorem bs17_31  : bltS Tryz.prog 31 0 [] = some (5, []) := by kernel_rfl
theorem bd18_15 (x1 : Option Addr) (x2 : Int) (x3 : Option Nat) : Tryz.prog.built 145 [(0, .pointer x1), (1, .int .i64 x2), (2, .map x3)] = some #[.pointer x1, .int .i64 x2, .map x3] := by kernel_rfl
theorem bd19_92 (x1 : Int) (x2 : Int) (x3 : Int) (x4 : Int) (x5 : Int) : Tryz.prog.built 148 [(0, .int .i64 x1), (1, .int .i64 x2), (2, .int .i64 x3), (3, .int .u64 x4), (4, .int .u64 x5)] = some #[.int .i64 x1, .int .i64 x2, .int .i64 x3, .int .u64 x4, .int .u64 x5] := by kernel_rfl
theorem bd19_131 (x6 : Int) (x7 : Int) (x8 : Int) (x9 : Int) (x10 : Int) : Tryz.prog.built 148 [(0, .int .i64 x6), (1, .int .i64 x7), (2, .int .i64 x8), (3, .int .u64 x9), (4, .int .u64 x10)] = some #[.int .i64 x6, .int .i64 x7, .int .i64 x8, .int .u64 x9, .int .u64 x10] := by kernel_rfl
theorem bd22_24 (x1 : Int) (x2 : Int) : Tryz.prog.built 51 [(0, .int .i64 x1), (1, .int .i64 x2)] = some #[.int .i64 x1, .int .i64 x2] := by kernel_rfl
theorem bs22_25 (x3 : Int) (x4 : Int) : bltS Tryz.prog 47 1 [(0, .agg #[.int .i64 x3, .int .i64 x4])] = some (51, [.int .i64 x3, .int .i64 x4]) := by kernel_rfl
theorem bd32_8 (x1 : Option Addr) (x2 : Option Nat) : Tryz.prog.built 175 [(0, .pointer x1), (1, .map x2)] = some #[.pointer x1, .map x2] := by kernel_rfl
theorem bd33_35 (x1 : Int) (x2 : Int) (x3 : Int) : Tryz.prog.built 82 [(0, .int .i64 x1), (1, .int .i64 x2), (2, .int .i64 256), (3, .int .i64 x3)] = some #[.int .i64 x1, .int .i64 x2, .int .i64 256, .int .i64 x3] := by kernel_rfl
theorem bs33_36 (x4 : Int) (x5 : Int) (x6 : Int) (x7 : Int) : bltS Tryz.prog 67 1 [(0, .agg #[.int .i64 x4, .int .i64 x5, .int .i64 x6, .int .i64 x7])] = some (82, [.int .i64 x4, .int .i64 x5, .int .i64 x6, .int .i64 x7]) := by kernel_rfl
theorem bd34_27 (x1 : Int) (x2 : Int) (x3 : Int) : Tryz.prog.built 82 [(0, .int .i64 x1), (1, .int .i64 x2), (2, .int .i64 x3)] = some #[.int .i64 x1, .int .i64 x2, .int .i64 x3, .int .i64 0] := by kernel_rfl
theorem bs34_28 (x4 : Int) (x5 : Int) (x6 : Int) (x7 : Int) : bltS Tryz.prog 67 1 [(0, .agg #[.int .i64 x4, .int .i64 x5, .int .i64 x6, .int .i64 x7])] = some (82, [.int .i64 x4, .int .i64 x5, .int .i64 x6, .int .i64 x7]) := by kernel_rfl
theorem bd41_27  : Tryz.prog.built 113 [(0, .int .i64 1), (2, .int .i64 36)] = some #[.int .i64 1, .int .i64 0, .int .i64 36] := by kernel_rfl
theorem bs41_28 (x1 : Int) (x2 : Int) (x3 : Int) : bltS Tryz.prog 110 1 [(0, .agg #[.int .i64 x1, .int .i64 x2, .int .i64 x3])] = some (113, [.int .i64 x1, .int .i64 x2, .int .i64 x3]) := by kernel_rfl
theorem bd43_20  : Tryz.prog.built 105 [] = some #[.bool false, .bool false, .bool false, .bool false, .bool false, .int .u64 0, .int .u64 0] := by kernel_rfl
theorem bd43_40 (x1 : Int) (x2 : Int) : Tryz.prog.built 105 [(0, .bool true), (5, .int .u64 x1), (6, .int .u64 x2)] = some #[.bool true, .bool false, .bool false, .bool false, .bool false, .int .u64 x1, .int .u64 x2] := by kernel_rfl
theorem bd46_6  : Tryz.prog.built 202 [(0, .int .i64 2), (1, .int .i64 1)] = some #[.int .i64 2, .int .i64 1] := by kernel_rfl
theorem bd46_7  : Tryz.prog.built 202 [(0, .int .i64 4), (1, .int .i64 4)] = some #[.int .i64 4, .int .i64 4] := by kernel_rfl
theorem bd46_8  : Tryz.prog.built 202 [(0, .int .i64 32), (1, .int .i64 32)] = some #[.int .i64 32, .int .i64 32] := by kernel_rfl
theorem bd46_9 (x1 : Int) (x2 : Int) (x3 : Int) (x4 : Int) (x5 : Int) (x6 : Int) : Tryz.prog.built 203 [(0, .agg #[.int .i64 x1, .int .i64 x2]), (1, .agg #[.int .i64 x3, .int .i64 x4]), (2, .agg #[.int .i64 x5, .int .i64 x6])] = some #[.int .i64 x1, .int .i64 x2, .int .i64 x3, .int .i64 x4, .int .i64 x5, .int .i64 x6] := by kernel_rfl
theorem bd47_9  : Tryz.prog.built 202 [(0, .int .i64 2), (1, .int .i64 1)] = some #[.int .i64 2, .int .i64 1] := by kernel_rfl
theorem bd47_10  : Tryz.prog.built 202 [(0, .int .i64 4), (1, .int .i64 2)] = some #[.int .i64 4, .int .i64 2] := by kernel_rfl
theorem bd47_11 (x1 : Int) (x2 : Int) (x3 : Int) (x4 : Int) : Tryz.prog.built 204 [(0, .agg #[.int .i64 x1, .int .i64 x2]), (1, .agg #[.int .i64 x3, .int .i64 x4])] = some #[.int .i64 x1, .int .i64 x2, .int .i64 x3, .int .i64 x4] := by kernel_rfl
theorem bd47_31 (x5 : Int) (x6 : Int) : Tryz.prog.built 82 [(0, .int .i64 x5), (1, .int .i64 x6)] = some #[.int .i64 x5, .int .i64 x6, .int .i64 0, .int .i64 0] := by kernel_rfl
theorem bs47_65 (x7 : Int) (x8 : Int) (x9 : Int) (x10 : Int) : bltS Tryz.prog 67 1 [(0, .agg #[.int .i64 x7, .int .i64 x8, .int .i64 x9, .int .i64 x10])] = some (82, [.int .i64 x7, .int .i64 x8, .int .i64 x9, .int .i64 x10]) := by kernel_rfl
theorem bs57_109 (x2 : Int) (x3 : Int) (x4 : Bool) (x5 : Bool) (x6 : Option Addr) (x7 : Nat) (x8 : Nat) (x9 : Bool) (x10 : Int) (x11 : Int) (x12 : Int) (x13 : Int) (x14 : Bool) (x15 : Bool) (x16 : Option Addr) (x17 : Nat) (x18 : Nat) (x19 : Bool) (x20 : Int) (x21 : Int) (x22 : Int) (x23 : Bool) (x24 : Int) (x25 : Option Addr) (x26 : Nat) (x27 : Nat) : bltS Tryz.prog 129 1 [(0, .agg #[.int .i64 x2, .int .i64 x3, .bool x4, .bool x5, .slice x6 x7 x8, .bool x9, .int .u64 x10, .int .u64 x11, .int .i64 x12, .int .i64 x13, .bool x14, .bool x15, .slice x16 x17 x18, .bool x19, .int .u64 x20, .int .u64 x21, .int .i64 x22, .bool x23, .int .i64 x24, .slice x25 x26 x27])] = some (221, [.int .i64 x2, .int .i64 x3, .bool x4, .bool x5, .slice x6 x7 x8, .bool x9, .int .u64 x10, .int .u64 x11, .int .i64 x12, .int .i64 x13, .bool x14, .bool x15, .slice x16 x17 x18, .bool x19, .int .u64 x20, .int .u64 x21, .int .i64 x22, .bool x23, .int .i64 x24, .slice x25 x26 x27]) := by kernel_rfl
theorem bd59_73 (x1 : Int) : Tryz.prog.built 190 [(0, .bool true), (1, .int .i64 x1), (2, .int .i64 0)] = some #[.bool true, .int .i64 x1, .int .i64 0] := by kernel_rfl
theorem bd72_40  : Tryz.prog.built 148 [] = some #[.int .i64 0, .int .i64 0, .int .i64 0, .int .u64 0, .int .u64 0] := by kernel_rfl
theorem bd92_16 (x1 : Int) (x2 : Int) : Tryz.prog.built 170 [(0, .int .i64 x1), (1, .int .i64 x2)] = some #[.int .i64 x1, .int .i64 x2] := by kernel_rfl
theorem bd92_83 (x3 : Int) (x4 : Int) (x5 : Int) : Tryz.prog.built 172 [(0, .int .i64 x3), (1, .int .i64 x4), (2, .bool true), (3, .int .u64 x5)] = some #[.int .i64 x3, .int .i64 x4, .bool true, .int .u64 x5] := by kernel_rfl
theorem bs93_25 (x1 : Int) (x2 : Int) : bltS Tryz.prog 178 1 [(0, .agg #[.int .i64 x1, .int .i64 x2])] = some (170, [.int .i64 x1, .int .i64 x2]) := by kernel_rfl
theorem bs99_10 (x1 : Int) (x2 : Int) (x3 : Int) : bltS Tryz.prog 110 1 [(0, .agg #[.int .i64 x1, .int .i64 x2, .int .i64 x3])] = some (113, [.int .i64 x1, .int .i64 x2, .int .i64 x3]) := by kernel_rfl
theorem bd109_5  : Tryz.prog.built 199 [] = some #[.int .i64 0, .int .i64 0, .pointer none, .bool false, .bool false, .int .u64 0, .int .u64 0, .int .i64 0, .int .i64 0, .pointer none, .bool false, .bool false, .int .u64 0, .int .u64 0, .bool false, .int .i64 0, .slice none 0 0] := by kernel_rfl
theorem bs114_21 (x1 : Int) : bltS Tryz.prog 44 1 [(0, .int .i64 x1)] = some (3, [.int .i64 x1]) := by kernel_rfl
theorem bs133_112 (x1 : Int) : bltS Tryz.prog 44 1 [(0, .int .i64 x1)] = some (3, [.int .i64 x1]) := by kernel_rfl
theorem bs133_133 (x2 : Option Addr) : bltS Tryz.prog 208 1 [(0, .pointer x2)] = some (191, [.pointer x2]) := by kernel_rfl
theorem bs134_114 (x2 : Int) : bltS Tryz.prog 44 1 [(0, .int .i64 x2)] = some (3, [.int .i64 x2]) := by kernel_rfl
theorem bs134_139 (x3 : Int) (x4 : Int) (x5 : Bool) (x6 : Bool) (x7 : Option Addr) (x8 : Nat) (x9 : Nat) (x10 : Bool) (x11 : Int) (x12 : Int) (x13 : Int) (x14 : Int) (x15 : Bool) (x16 : Bool) (x17 : Option Addr) (x18 : Nat) (x19 : Nat) (x20 : Bool) (x21 : Int) (x22 : Int) (x23 : Int) (x24 : Bool) (x25 : Int) (x26 : Option Addr) (x27 : Nat) (x28 : Nat) : bltS Tryz.prog 129 1 [(0, .agg #[.int .i64 x3, .int .i64 x4, .bool x5, .bool x6, .slice x7 x8 x9, .bool x10, .int .u64 x11, .int .u64 x12, .int .i64 x13, .int .i64 x14, .bool x15, .bool x16, .slice x17 x18 x19, .bool x20, .int .u64 x21, .int .u64 x22, .int .i64 x23, .bool x24, .int .i64 x25, .slice x26 x27 x28])] = some (221, [.int .i64 x3, .int .i64 x4, .bool x5, .bool x6, .slice x7 x8 x9, .bool x10, .int .u64 x11, .int .u64 x12, .int .i64 x13, .int .i64 x14, .bool x15, .bool x16, .slice x17 x18 x19, .bool x20, .int .u64 x21, .int .u64 x22, .int .i64 x23, .bool x24, .int .i64 x25, .slice x26 x27 x28]) := by kernel_rfl
theorem bd142_24 (x1 : Int) (x2 : Int) : Tryz.prog.built 241 [(0, .int .i64 x1), (1, .int .i64 x2)] = some #[.int .i64 x1, .int .i64 x2] := by kernel_rfl
theorem bs142_25 (x3 : Int) (x4 : Int) : bltS Tryz.prog 238 1 [(0, .agg #[.int .i64 x3, .int .i64 x4])] = some (241, [.int .i64 x3, .int .i64 x4]) := by kernel_rfl
theorem bs160_15 (x1 : Int) (x2 : Int) : bltS Tryz.prog 44 2 [(0, .int .i64 x1), (1, .int .i64 x2)] = some (3, [.int .i64 x1, .int .i64 x2]) := by kernel_rfl
theorem bd168_12 (x1 : Option Addr) (x2 : Nat) (x3 : Nat) : Tryz.prog.built 263 [(0, .slice x1 x2 x3), (5, .bool true)] = some #[.slice x1 x2 x3, .int .i64 0, .int .i64 0, .int .u64 0, .int .u64 0, .bool true] := by kernel_rfl
theorem bs170_17 (x1 : Int) : bltS Tryz.prog 44 1 [(0, .int .i64 x1)] = some (3, [.int .i64 x1]) := by kernel_rfl
theorem bd171_36 (x1 : Int) (x2 : Int) : Tryz.prog.built 190 [(0, .bool true), (1, .int .i64 x1), (2, .int .i64 x2)] = some #[.bool true, .int .i64 x1, .int .i64 x2] := by kernel_rfl
theorem bs171_47 (x3 : Option Addr) : bltS Tryz.prog 208 1 [(0, .pointer x3)] = some (191, [.pointer x3]) := by kernel_rfl
theorem bs179_5  : bltS Tryz.prog 44 0 [] = some (3, []) := by kernel_rfl
theorem bs181_55  : bltS Tryz.prog 31 1 [(0, .int .u8 1)] = some (5, [.int .u8 1]) := by kernel_rfl
theorem bs182_71  : bltS Tryz.prog 31 1 [(0, .int .u8 1)] = some (5, [.int .u8 1]) := by kernel_rfl
theorem bs184_12 (x1 : Int) (x2 : Int) : bltS Tryz.prog 238 1 [(0, .agg #[.int .i64 x1, .int .i64 x2])] = some (241, [.int .i64 x1, .int .i64 x2]) := by kernel_rfl
theorem bd194_32 (x1 : Int) (x2 : Int) (x3 : Int) : Tryz.prog.built 113 [(0, .int .i64 x1), (1, .int .i64 x2), (2, .int .i64 x3)] = some #[.int .i64 x1, .int .i64 x2, .int .i64 x3] := by kernel_rfl
theorem bs201_10 (x1 : Int) : bltS Tryz.prog 44 1 [(0, .int .i64 x1)] = some (3, [.int .i64 x1]) := by kernel_rfl
theorem bd216_16 (x1 : Int) (x2 : Int) : Tryz.prog.built 241 [(0, .int .i64 x1), (1, .int .i64 x2)] = some #[.int .i64 x1, .int .i64 x2] := by kernel_rfl
end Fx
end Go.Proofs.YtbfddabjbkohdaaGreat
