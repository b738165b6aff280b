/-
  Results: one that stands in a block, and one behind it. No program is named here. Values of nested structs and arrays (of plain fields) compared. No program is named here. Maps whose keys are structs of two integers (printed after RxM and RxN). No program is named here. Facts of the seat's program: its types, which functions have a body, what is built. A slice's own cells moved to the left (append(s[:i], s[j:]...)), and its last ones cleared: slices.Delete. No program is named here. copy(dst, src): dst a part of a slice that is owned. No program is named here. 'and' and 'or' within a region that only reads: their ways meet again. No program is named here. Iterators whose own memory, at the end, tells what they told. No program is named here. Functions of three results. No program is named here.
-/
import Derived.ChangeKeysEq
import Derived.Test.YtbfddabjbkohdaaGreatRows
import Derived.Laws.CopyOwn
import Derived.Test.YtbfddabjbkohdaaGreatZEplAgainB
namespace Go.RX
set_option linter.unusedSimpArgs false
set_option linter.unusedVariables false
set_option linter.unnecessarySimpa false
open Go.MapKept
section
variable {P : Program} {E : World} {n : Nat} {ds : List Deferred} {st : List (Nat × Value)} {L L' : List SP}
theorem results_ct {fn : Func} {ta tb : Nat} {t : TypeId} {b o : Nat} {us : List Value} {tmps : Array Value} {v : Value} {w : World} (hr : fn.results = #[.cell ta t, .tmp tb]) (ha : agk P t = some true) (hx : tmps.getD ta undef = .pointer (some ⟨b, o, none⟩)) (hv : tmps.getD tb undef = v)
    (hR : Rd L b o us) (hz : szk P t = some us.length) (s : Sat E L w) : (results fn tmps).run P w = .ok (.tuple #[.agg us.toArray, v]) w := by
  have hc : (loadCells ⟨b, o, none⟩ us.length).run P w = .ok us.toArray w := run_loadCells_list w _ us fun j v e => by
    have := hR.cell s e
    unfold Addr.add
    split
    · rename_i h0; subst h0; simpa using this
    · exact this
  have hl : (loadVar t ⟨b, o, none⟩).run P w = .ok (.agg us.toArray) w := by
    simp only [loadVar, Sem.run_bind, run_isAgg ha, Result.andThen, if_true, run_sizeOf' hz, hc]
    rfl
  have hx2 : tmps[ta]?.getD undef = .pointer (some ⟨b, o, none⟩) := by simpa using hx
  have hv2 : tmps[tb]?.getD undef = v := by simpa using hv
  simp [results, hr, hx2, hv2, asAddr, hl]
theorem Hd.ownTake {e sz m cap : Nat} {ad : Option Addr} {us : List Value} {K : Act → World → Prop} (p : Pick L (own e sz ad m cap us) L') (l : Nat) (us1 us2 : List Value) (hl : l ≤ m) (hu : us = us1 ++ us2) (h1 : us1.length = l * sz)
    (h : Hd E n ds st (own e sz ad l cap us1 :: L') K) : Hd E n ds st L K := Hd.heap _ (fun k s => by subst hu; exact sep_head (p.sep s) fun _ x => own_take hl h1 x) h
theorem Hd.retCT {fn : Func} {ta tb : Nat} {t : TypeId} {b o : Nat} {us : List Value} {v : Value} {ι : Type} {val : ι → Value} {post : ι → List SP} (hr : fn.results = #[.cell ta t, .tmp tb]) (i : ι) (ha : agk P t = some true) (hx : look st ta = some (.pointer (some ⟨b, o, none⟩))) (hu : look st tb = some v)
    (hR : Rd L b o us) (hz : szk P t = some us.length) (hv : val i = .tuple #[.agg us.toArray, v]) (hl : ∀ k, sep L k → sep (post i) k) :
    Hd E n [] st L ((bodyPost P fn fun e w' => ∃ i, e = .returned (val i) ∧ Sat E (post i) w') .ret) := fun a w f s =>
  bodyPost_ret (results_ct (v := v) hr ha (by simp [f.at_ ta _ hx]) (by simp [f.at_ tb _ hu]) hR hz s) f.defs ⟨i, by rw [hv], s.mp hl⟩
end
section
variable {E : World} {n : Nat} {ds : List Deferred} {st st' : List (Nat × Value)} {L L' : List SP} {r : Option Nat} {P : Program} {Q : Exit → Act → World → Prop} {ops : Array Oper} {rest : List Oper}
variable {d : Nat} {ty t t2 : TypeId} {pos : String} {af : Array Edge} {g : Option (Nat × Bool)} {x y z : Operand} {v u : Value} {k : IntKind} {p q : Bool}
theorem Hd.mapDelete0 {f : Int → Option Value} {b m : Nat} {a : Int} {zs : Value} (hT : MapT P t k zs) (hx : evo st x = some (.map (some b))) (hy : evo st y = some (.int k a)) (p : Pick L (mp b k f m) L')
    (K : Hd E n ds st (mp b k (fun c => if c = a then none else f c) (if (f a).isSome then m - 1 else m) :: L') (LW r P ops Q rest)) :
    Hd E n ds st L (LW r P ops Q (⟨none, .call ⟨.builtin .delete, #[x, y], #[t, t2]⟩, ty, pos, af, none⟩ :: rest)) :=
  Hd.op rfl (by simp) fun ac w fr s => by
    obtain ⟨kt, vt, i, h1, h2, h3, h4⟩ := hT.ex
    obtain ⟨l, c, hb, hn, hm, hf, hbn, hbl⟩ := s.mp_at p
    have hck := run_checkKey (P := P) (w := w) (kt := kt) (k := .int k a) h2 (by simp [IsKey]) l.isEmpty 9999
    have hfk := run_findKey (P := P) (w := w) (kt := kt) h2 (findNow_fi k a l 0)
    have hg := fi_get l a 0
    rw [← hf] at hg
    cases hfi : fi l a 0 with
    | none =>
      rw [hfi] at hg hfk
      simp only [Option.map_none] at hg
      have hno := fi_none hfi
      refine ⟨.tuple #[], { w with heap := w.heap.setIfInBounds b (.map (l.map (ent k)).toArray c) }, ?_, K _ _ fr ?_⟩
      · simp only [execOp, resolve, List.map_toArray, List.map_cons, List.map_nil, fr.ev hx, fr.ev hy, invoke, builtin, Builtin.delete_, Sem.run_bind, Sem.run_pure, Result.andThen_ok]
        simp [run_underlying h1, MapKept.run_getObj_map hb, hck, hfk, MapKept.run_setObj_map _ hb]
      · refine Sat.putMp s p rfl rfl rfl (fun x hx => set_heap_ne hx) (set_heap hb) hn ?_ (fun b' => ?_) ?_
        · rw [← hg]; simpa using hm
        · rw [← hf]
          by_cases hb' : b' = a
          · subst hb'; rw [if_pos rfl, ← hg]
          · rw [if_neg hb']
        · exact ⟨hbn, hbl⟩
    | some jv =>
      obtain ⟨j, u⟩ := jv
      rw [hfi] at hg hfk
      simp only [Option.map_some] at hg
      obtain ⟨bo, _, hj⟩ := fi_at l a 0 j u hfi
      rw [Nat.sub_zero] at hj
      have hjl := (List.getElem?_eq_some_iff.1 hj).1
      have hj' : l[j] = (a, u, bo) := by have h := hj; rw [List.getElem?_eq_getElem hjl] at h; simpa using h
      refine ⟨.tuple #[], { w with heap := w.heap.setIfInBounds b (.map ((l.eraseIdx j).map (ent k)).toArray c) }, ?_, K _ _ fr ?_⟩
      · have e : (l.map (ent k)).toArray.eraseIdxIfInBounds j = ((l.eraseIdx j).map (ent k)).toArray := by
          apply Array.ext'
          rw [Array.toList_eraseIdxIfInBounds]
          simp only [List.eraseIdx_eq_take_drop_succ, List.map_append, List.map_take, List.map_drop]
        simp only [execOp, resolve, List.map_toArray, List.map_cons, List.map_nil, fr.ev hx, fr.ev hy, invoke, builtin, Builtin.delete_, Sem.run_bind, Sem.run_pure, Result.andThen_ok]
        have e2 : (l.map (ent k)).eraseIdx j = (l.eraseIdx j).map (ent k) := by simp only [List.eraseIdx_eq_take_drop_succ, List.map_append, List.map_take, List.map_drop]
        simp [run_underlying h1, MapKept.run_getObj_map hb, hck, hfk, MapKept.run_setObj_map _ hb, e, e2]
      · refine Sat.putMp s p rfl rfl rfl (fun x hx => set_heap_ne hx) (set_heap hb) ?_ ?_ (fun b' => ?_) ?_
        · exact (hn.sublist (List.Sublist.map _ (List.eraseIdx_sublist l j)))
        · rw [← hg]; simp [List.length_eraseIdx, hm]; omega
        · rw [erase_get l j a u bo hj hn, hf]
        · exact ⟨hbn.sublist (List.Sublist.map _ (List.eraseIdx_sublist l j)), fun e he => hbl e (List.mem_of_mem_eraseIdx he)⟩
end
end Go.RX
namespace Go.RX
set_option linter.unusedSimpArgs false
set_option linter.unusedVariables false
set_option linter.unnecessarySimpa false
section
variable {P : Program}
def flF (P : Program) (g : TypeId → Option (List TypeDesc)) : Nat → List Field → Option (List TypeDesc)
  | _, [] => some []
  | off, f :: fs => bif f.name != "_" && Nat.beq f.offset off then
      match g f.type with
      | some sh => bif decide (szk P f.type = some sh.length) then
          match flF P g (off + sh.length) fs with
          | some r => some (sh ++ r)
          | none => none
        else none
      | none => none
    else none
def eqfl (P : Program) : Nat → TypeId → Option (List TypeDesc)
  | 0, _ => none
  | d + 1, t => match P.underlying t with
    | some (.struct _) => bif P.stoodInHeld t then none else bif decide (agk P t = some true) then flF P (eqfl P d) 0 (P.fieldsOf t).toList else none
    | some (.array n e) => bif decide (agk P t = some true) then (match eqfl P d e, P.info? e with
      | some sh, some _ => bif decide (szk P e = some sh.length) && Nat.beq (P.cellsOf e) sh.length then some (List.replicate n sh).flatten else none
      | _, _ => none) else none
    | some u => bif decide (agk P t = some false) then some [u] else none
    | none => none
end
section
variable {P : Program} {E : World} {n : Nat} {ds : List Deferred} {st : List (Nat × Value)} {L : List SP} {d : Nat} {t t2 ty : TypeId} {x y : Operand} {pos : String} {af : Array Edge} {g : Option (Nat × Bool)}
end
end Go.RX
namespace Go.RX
set_option linter.unusedSimpArgs false
set_option linter.unusedVariables false
set_option linter.unnecessarySimpa false
open Go.MapKept
section
variable {E : World} {n : Nat} {ds : List Deferred} {st st' : List (Nat × Value)} {L L' L'' : List SP} {r : Option Nat} {P : Program} {Q : Exit → Act → World → Prop} {ops : Array Oper} {rest : List Oper}
variable {d : Nat} {ty t t2 : TypeId} {pos : String} {af : Array Edge} {g : Option (Nat × Bool)} {x y z : Operand} {v u : Value} {k : IntKind} {p q : Bool}
abbrev KVP := (Int × Int) × Value × Nat
structure KeyP (P : Program) (kt : TypeId) (k : IntKind) : Prop where
  eq : eqfl P 8 kt = some [.int k, .int k]
  ag : agk P kt = some true
  ck : ∃ f0 f1 : Field, P.underlying kt = some (.struct #[f0, f1]) ∧ P.underlying f0.type = some (.int k) ∧ P.underlying f1.type = some (.int k) ∧ agk P f0.type = some false ∧ agk P f1.type = some false ∧ f0.offset = 0 ∧ f1.offset = 1
def isIn : Option TypeDesc → IntKind → Bool
  | some (.int a), k => decide (a = k)
  | _, _ => false
def isII : Option (List TypeDesc) → IntKind → Bool
  | some [.int a, .int b], k => decide (a = k) && decide (b = k)
  | _, _ => false
theorem isIn_of {o : Option TypeDesc} {k : IntKind} (h : isIn o k = true) : o = some (.int k) := by
  unfold isIn at h
  split at h
  · simp only [decide_eq_true_eq] at h; rw [h]
  · cases h
theorem isII_of {o : Option (List TypeDesc)} {k : IntKind} (h : isII o k = true) : o = some [.int k, .int k] := by
  unfold isII at h
  split at h
  · simp only [Bool.and_eq_true, decide_eq_true_eq] at h; rw [h.1, h.2]
  · cases h
def keyPb (P : Program) (kt : TypeId) (k : IntKind) : Bool :=
  isII (eqfl P 8 kt) k && decide (agk P kt = some true) && (match P.underlying kt with
    | some (.struct fs) => (match fs.toList with
      | [f0, f1] => isIn (P.underlying f0.type) k && isIn (P.underlying f1.type) k && decide (agk P f0.type = some false) && decide (agk P f1.type = some false) && Nat.beq f0.offset 0 && Nat.beq f1.offset 1
      | _ => false)
    | _ => false)
theorem KeyP.of {kt : TypeId} (h : keyPb P kt k = true) : KeyP P kt k := by
  unfold keyPb at h
  simp only [Bool.and_eq_true, decide_eq_true_eq] at h
  obtain ⟨⟨h1, h2⟩, h3⟩ := h
  refine ⟨isII_of h1, h2, ?_⟩
  split at h3
  · rename_i fs hu
    split at h3
    · rename_i f0 f1 hf
      simp only [Bool.and_eq_true, decide_eq_true_eq] at h3
      obtain ⟨⟨⟨⟨⟨a, b⟩, c⟩, d⟩, e⟩, f⟩ := h3
      refine ⟨f0, f1, ?_, isIn_of a, isIn_of b, c, d, Nat.eq_of_beq_eq_true e, Nat.eq_of_beq_eq_true f⟩
      rw [hu]
      obtain ⟨l⟩ := fs
      simp only at hf
      rw [hf]
    · cases h3
  · cases h3
structure MapTP (P : Program) (t : TypeId) (k : IntKind) (zs : Value) : Prop where
  ex : ∃ kt vt i, P.underlying t = some (.map kt vt) ∧ KeyP P kt k ∧ P.info? vt = some i ∧ i.zero = some zs
def mapzP (P : Program) (t : TypeId) (k : IntKind) : Option Value :=
  match P.underlying t with
  | some (.map kt vt) => bif keyPb P kt k then ((P.info? vt).bind (·.zero)) else none
  | _ => none
theorem MapTP.of {zs : Value} (h : mapzP P t k = some zs) : MapTP P t k zs := by
  unfold mapzP at h
  split at h
  · rename_i kt vt hu
    cases hk : keyPb P kt k <;> rw [hk] at h
    · cases h
    · cases hi : P.info? vt with
      | none => simp [hi] at h
      | some i =>
        cases hz : i.zero with
        | none => simp [hi, hz] at h
        | some z =>
          simp [hi, hz] at h
          subst h
          exact ⟨kt, vt, i, hu, KeyP.of hk, hi, hz⟩
  · cases h
structure EsIP (l es : List KVP) : Prop where
  nd : es.Nodup
  mem : ∀ e ∈ es, e ∈ l
theorem EsIP.nil (l : List KVP) : EsIP l [] := ⟨.nil, fun e h => by cases h⟩
theorem EsIP.step {l es : List KVP} (h : EsIP l es) {e : KVP} (he : e ∈ l) (hn : e.2.2 ∉ es.map (·.2.2)) : EsIP l (es ++ [e]) :=
  ⟨by rw [List.nodup_append]; exact ⟨h.nd, by simp, fun a ha b hb hab => by
      obtain rfl : b = e := by simpa using hb
      subst hab
      exact hn (List.mem_map.2 ⟨a, ha, rfl⟩)⟩, fun a ha => by
    rcases List.mem_append.1 ha with ha | ha
    · exact h.mem a ha
    · obtain rfl : a = e := by simpa using ha
      exact he⟩
end
end Go.RX
namespace Go.Proofs.YtbfddabjbkohdaaGreat
set_option linter.unusedSimpArgs false
set_option linter.unusedVariables false
set_option linter.unnecessarySimpa false
open Go.RX
namespace Fx
theorem ag3 : agk Tryz.prog 3 = some false := by kernel_rfl
theorem sz3 : szk Tryz.prog 3 = some 1 := by kernel_rfl
theorem zr3 : zrk Tryz.prog 3 = some ([.int .i64 0]) := by kernel_rfl
theorem ty3 : tyr Tryz.prog 3 = some (1, 8, 1) := by kernel_rfl
theorem ag4 : agk Tryz.prog 4 = some false := by kernel_rfl
theorem sz4 : szk Tryz.prog 4 = some 1 := by kernel_rfl
theorem ag5 : agk Tryz.prog 5 = some false := by kernel_rfl
theorem sz5 : szk Tryz.prog 5 = some 1 := by kernel_rfl
theorem zr5 : zrk Tryz.prog 5 = some ([.int .u8 0]) := by kernel_rfl
theorem ty5 : tyr Tryz.prog 5 = some (1, 1, 1) := by kernel_rfl
theorem ag30 : agk Tryz.prog 30 = some false := by kernel_rfl
theorem sz30 : szk Tryz.prog 30 = some 1 := by kernel_rfl
theorem ag31 : agk Tryz.prog 31 = some false := by kernel_rfl
theorem sz31 : szk Tryz.prog 31 = some 1 := by kernel_rfl
theorem zr31 : zrk Tryz.prog 31 = some ([.slice none 0 0]) := by kernel_rfl
theorem ag33 : agk Tryz.prog 33 = some true := by kernel_rfl
theorem sz33 : szk Tryz.prog 33 = some 5 := by kernel_rfl
theorem ag34 : agk Tryz.prog 34 = some false := by kernel_rfl
theorem ag35 : agk Tryz.prog 35 = some false := by kernel_rfl
theorem sz35 : szk Tryz.prog 35 = some 1 := by kernel_rfl
theorem zr35 : zrk Tryz.prog 35 = some ([.int .i64 0]) := by kernel_rfl
theorem ag38 : agk Tryz.prog 38 = some false := by kernel_rfl
theorem sz38 : szk Tryz.prog 38 = some 1 := by kernel_rfl
theorem ag39 : agk Tryz.prog 39 = some false := by kernel_rfl
theorem sz39 : szk Tryz.prog 39 = some 1 := by kernel_rfl
theorem ag44 : agk Tryz.prog 44 = some false := by kernel_rfl
theorem sz44 : szk Tryz.prog 44 = some 1 := by kernel_rfl
theorem zr44 : zrk Tryz.prog 44 = some ([.slice none 0 0]) := by kernel_rfl
theorem sz46 : szk Tryz.prog 46 = some 10 := by kernel_rfl
theorem ag47 : agk Tryz.prog 47 = some false := by kernel_rfl
theorem sz47 : szk Tryz.prog 47 = some 1 := by kernel_rfl
theorem ag51 : agk Tryz.prog 51 = some true := by kernel_rfl
theorem sz51 : szk Tryz.prog 51 = some 2 := by kernel_rfl
theorem zr51 : zrk Tryz.prog 51 = some ([.int .i64 0, .int .i64 0]) := by kernel_rfl
theorem ty51 : tyr Tryz.prog 51 = some (2, 16, 2) := by kernel_rfl
theorem ag105 : agk Tryz.prog 105 = some true := by kernel_rfl
theorem sz105 : szk Tryz.prog 105 = some 7 := by kernel_rfl
theorem zr105 : zrk Tryz.prog 105 = some ([.bool false, .bool false, .bool false, .bool false, .bool false, .int .u64 0, .int .u64 0]) := by kernel_rfl
theorem ag129 : agk Tryz.prog 129 = some false := by kernel_rfl
theorem sz129 : szk Tryz.prog 129 = some 1 := by kernel_rfl
theorem sz130 : szk Tryz.prog 130 = some 32 := by kernel_rfl
theorem sz131 : szk Tryz.prog 131 = some 32 := by kernel_rfl
theorem ag143 : agk Tryz.prog 143 = some false := by kernel_rfl
theorem sz143 : szk Tryz.prog 143 = some 1 := by kernel_rfl
theorem ag148 : agk Tryz.prog 148 = some true := by kernel_rfl
theorem sz148 : szk Tryz.prog 148 = some 5 := by kernel_rfl
theorem zr148 : zrk Tryz.prog 148 = some ([.int .i64 0, .int .i64 0, .int .i64 0, .int .u64 0, .int .u64 0]) := by kernel_rfl
theorem ag190 : agk Tryz.prog 190 = some true := by kernel_rfl
theorem sz190 : szk Tryz.prog 190 = some 3 := by kernel_rfl
theorem zr190 : zrk Tryz.prog 190 = some ([.bool false, .int .i64 0, .int .i64 0]) := by kernel_rfl
theorem ag191 : agk Tryz.prog 191 = some false := by kernel_rfl
theorem sz191 : szk Tryz.prog 191 = some 1 := by kernel_rfl
theorem zr191 : zrk Tryz.prog 191 = some ([.pointer none]) := by kernel_rfl
theorem ty191 : tyr Tryz.prog 191 = some (1, 8, 1) := by kernel_rfl
theorem ag194 : agk Tryz.prog 194 = some false := by kernel_rfl
theorem sz194 : szk Tryz.prog 194 = some 1 := by kernel_rfl
theorem ag196 : agk Tryz.prog 196 = some true := by kernel_rfl
theorem sz196 : szk Tryz.prog 196 = some 7 := by kernel_rfl
theorem zr196 : zrk Tryz.prog 196 = some ([.int .i64 0, .int .i64 0, .pointer none, .bool false, .bool false, .int .u64 0, .int .u64 0]) := by kernel_rfl
theorem sz197 : szk Tryz.prog 197 = some 14 := by kernel_rfl
theorem ag205 : agk Tryz.prog 205 = some false := by kernel_rfl
theorem sz205 : szk Tryz.prog 205 = some 1 := by kernel_rfl
theorem ag207 : agk Tryz.prog 207 = some true := by kernel_rfl
theorem sz207 : szk Tryz.prog 207 = some 288 := by kernel_rfl
theorem ag208 : agk Tryz.prog 208 = some false := by kernel_rfl
theorem sz208 : szk Tryz.prog 208 = some 1 := by kernel_rfl
theorem sz218 : szk Tryz.prog 218 = some 8 := by kernel_rfl
theorem sz219 : szk Tryz.prog 219 = some 16 := by kernel_rfl
theorem ag221 : agk Tryz.prog 221 = some true := by kernel_rfl
theorem sz221 : szk Tryz.prog 221 = some 20 := by kernel_rfl
theorem zr221 : zrk Tryz.prog 221 = some ([.int .i64 0, .int .i64 0, .bool false, .bool false, .slice none 0 0, .bool false, .int .u64 0, .int .u64 0, .int .i64 0, .int .i64 0, .bool false, .bool false, .slice none 0 0, .bool false, .int .u64 0, .int .u64 0, .int .i64 0, .bool false, .int .i64 0, .slice none 0 0]) := by kernel_rfl
theorem ty221 : tyr Tryz.prog 221 = some (20, 192, 20) := by kernel_rfl
theorem ag238 : agk Tryz.prog 238 = some false := by kernel_rfl
theorem sz238 : szk Tryz.prog 238 = some 1 := by kernel_rfl
theorem zr238 : zrk Tryz.prog 238 = some ([.slice none 0 0]) := by kernel_rfl
theorem ag241 : agk Tryz.prog 241 = some true := by kernel_rfl
theorem sz241 : szk Tryz.prog 241 = some 2 := by kernel_rfl
theorem zr241 : zrk Tryz.prog 241 = some ([.int .i64 0, .int .i64 0]) := by kernel_rfl
theorem ty241 : tyr Tryz.prog 241 = some (2, 16, 2) := by kernel_rfl
theorem eqt51 : EqT Tryz.prog 51 [.int .i64, .int .i64] 2 := ⟨by kernel_rfl, by kernel_rfl, by kernel_rfl, by kernel_rfl, by kernel_rfl⟩
theorem eqt241 : EqT Tryz.prog 241 [.int .i64, .int .i64] 2 := ⟨by kernel_rfl, by kernel_rfl, by kernel_rfl, by kernel_rfl, by kernel_rfl⟩
theorem mapt42 : MapT Tryz.prog 42 .i64 (.int .i64 0) := MapT.of (by kernel_rfl)
theorem mapt143 : MapT Tryz.prog 143 .i64 (.agg ([.int .i64 0, .int .i64 0, .int .i64 0, .int .u64 0, .int .u64 0]).toArray) := MapT.of (by kernel_rfl)
theorem fk13 : fnk Tryz.prog 13 = true := by kernel_rfl
theorem fk14 : fnk Tryz.prog 14 = true := by kernel_rfl
theorem fk15 : fnk Tryz.prog 15 = true := by kernel_rfl
theorem fk16 : fnk Tryz.prog 16 = true := by kernel_rfl
theorem fk17 : fnk Tryz.prog 17 = true := by kernel_rfl
theorem fk18 : fnk Tryz.prog 18 = true := by kernel_rfl
theorem fk19 : fnk Tryz.prog 19 = true := by kernel_rfl
theorem fk20 : fnk Tryz.prog 20 = true := by kernel_rfl
theorem fk23 : fnk Tryz.prog 23 = true := by kernel_rfl
theorem fk43 : fnk Tryz.prog 43 = true := by kernel_rfl
theorem fk49 : fnk Tryz.prog 49 = true := by kernel_rfl
theorem fk50 : fnk Tryz.prog 50 = true := by kernel_rfl
theorem fk51 : fnk Tryz.prog 51 = true := by kernel_rfl
theorem fk52 : fnk Tryz.prog 52 = true := by kernel_rfl
theorem fk53 : fnk Tryz.prog 53 = true := by kernel_rfl
theorem fk54 : fnk Tryz.prog 54 = true := by kernel_rfl
theorem fk55 : fnk Tryz.prog 55 = true := by kernel_rfl
theorem fk56 : fnk Tryz.prog 56 = true := by kernel_rfl
theorem fk57 : fnk Tryz.prog 57 = true := by kernel_rfl
theorem fk58 : fnk Tryz.prog 58 = true := by kernel_rfl
theorem fk59 : fnk Tryz.prog 59 = true := by kernel_rfl
theorem fk60 : fnk Tryz.prog 60 = true := by kernel_rfl
theorem fk61 : fnk Tryz.prog 61 = true := by kernel_rfl
theorem fk62 : fnk Tryz.prog 62 = true := by kernel_rfl
theorem fk63 : fnk Tryz.prog 63 = true := by kernel_rfl
theorem fk64 : fnk Tryz.prog 64 = true := by kernel_rfl
theorem fk65 : fnk Tryz.prog 65 = true := by kernel_rfl
theorem fk66 : fnk Tryz.prog 66 = true := by kernel_rfl
theorem fk67 : fnk Tryz.prog 67 = true := by kernel_rfl
theorem fk68 : fnk Tryz.prog 68 = true := by kernel_rfl
theorem fk69 : fnk Tryz.prog 69 = true := by kernel_rfl
theorem fk70 : fnk Tryz.prog 70 = true := by kernel_rfl
theorem fk71 : fnk Tryz.prog 71 = true := by kernel_rfl
theorem fk72 : fnk Tryz.prog 72 = true := by kernel_rfl
theorem fk73 : fnk Tryz.prog 73 = true := by kernel_rfl
theorem fk74 : fnk Tryz.prog 74 = true := by kernel_rfl
theorem fk75 : fnk Tryz.prog 75 = true := by kernel_rfl
theorem fk76 : fnk Tryz.prog 76 = true := by kernel_rfl
theorem fk77 : fnk Tryz.prog 77 = true := by kernel_rfl
theorem fk79 : fnk Tryz.prog 79 = true := by kernel_rfl
theorem fk101 : fnk Tryz.prog 101 = true := by kernel_rfl
theorem fk102 : fnk Tryz.prog 102 = true := by kernel_rfl
theorem fk103 : fnk Tryz.prog 103 = true := by kernel_rfl
theorem fk104 : fnk Tryz.prog 104 = true := by kernel_rfl
theorem fk108 : fnk Tryz.prog 108 = true := by kernel_rfl
theorem fk109 : fnk Tryz.prog 109 = true := by kernel_rfl
theorem fk110 : fnk Tryz.prog 110 = true := by kernel_rfl
theorem fk111 : fnk Tryz.prog 111 = true := by kernel_rfl
theorem fk112 : fnk Tryz.prog 112 = true := by kernel_rfl
theorem fk113 : fnk Tryz.prog 113 = true := by kernel_rfl
theorem fk114 : fnk Tryz.prog 114 = true := by kernel_rfl
theorem fk115 : fnk Tryz.prog 115 = true := by kernel_rfl
theorem fk116 : fnk Tryz.prog 116 = true := by kernel_rfl
theorem fk117 : fnk Tryz.prog 117 = true := by kernel_rfl
theorem fk118 : fnk Tryz.prog 118 = true := by kernel_rfl
theorem fk119 : fnk Tryz.prog 119 = true := by kernel_rfl
theorem fk120 : fnk Tryz.prog 120 = true := by kernel_rfl
theorem fk121 : fnk Tryz.prog 121 = true := by kernel_rfl
theorem fk122 : fnk Tryz.prog 122 = true := by kernel_rfl
theorem fk123 : fnk Tryz.prog 123 = true := by kernel_rfl
theorem fk124 : fnk Tryz.prog 124 = true := by kernel_rfl
theorem fk125 : fnk Tryz.prog 125 = true := by kernel_rfl
theorem fk126 : fnk Tryz.prog 126 = true := by kernel_rfl
theorem fk127 : fnk Tryz.prog 127 = true := by kernel_rfl
theorem fk128 : fnk Tryz.prog 128 = true := by kernel_rfl
theorem fk129 : fnk Tryz.prog 129 = true := by kernel_rfl
theorem fk130 : fnk Tryz.prog 130 = true := by kernel_rfl
theorem fk131 : fnk Tryz.prog 131 = true := by kernel_rfl
theorem fk132 : fnk Tryz.prog 132 = true := by kernel_rfl
theorem fk133 : fnk Tryz.prog 133 = true := by kernel_rfl
theorem fk134 : fnk Tryz.prog 134 = true := by kernel_rfl
theorem fk135 : fnk Tryz.prog 135 = true := by kernel_rfl
theorem fk136 : fnk Tryz.prog 136 = true := by kernel_rfl
theorem fk137 : fnk Tryz.prog 137 = true := by kernel_rfl
theorem fk138 : fnk Tryz.prog 138 = true := by kernel_rfl
theorem fk139 : fnk Tryz.prog 139 = true := by kernel_rfl
theorem fk140 : fnk Tryz.prog 140 = true := by kernel_rfl
theorem fk141 : fnk Tryz.prog 141 = true := by kernel_rfl
theorem fk142 : fnk Tryz.prog 142 = true := by kernel_rfl
theorem fk143 : fnk Tryz.prog 143 = true := by kernel_rfl
theorem fk144 : fnk Tryz.prog 144 = true := by kernel_rfl
theorem fk145 : fnk Tryz.prog 145 = true := by kernel_rfl
theorem fk146 : fnk Tryz.prog 146 = true := by kernel_rfl
theorem fk147 : fnk Tryz.prog 147 = true := by kernel_rfl
theorem fk149 : fnk Tryz.prog 149 = true := by kernel_rfl
theorem fk150 : fnk Tryz.prog 150 = true := by kernel_rfl
theorem fk152 : fnk Tryz.prog 152 = true := by kernel_rfl
theorem fk167 : fnk Tryz.prog 167 = true := by kernel_rfl
theorem fk168 : fnk Tryz.prog 168 = true := by kernel_rfl
theorem fk169 : fnk Tryz.prog 169 = true := by kernel_rfl
theorem fk170 : fnk Tryz.prog 170 = true := by kernel_rfl
theorem fk171 : fnk Tryz.prog 171 = true := by kernel_rfl
theorem fk172 : fnk Tryz.prog 172 = true := by kernel_rfl
theorem fk173 : fnk Tryz.prog 173 = true := by kernel_rfl
theorem fk175 : fnk Tryz.prog 175 = true := by kernel_rfl
theorem fk176 : fnk Tryz.prog 176 = true := by kernel_rfl
theorem fk177 : fnk Tryz.prog 177 = true := by kernel_rfl
theorem fk178 : fnk Tryz.prog 178 = true := by kernel_rfl
theorem fk179 : fnk Tryz.prog 179 = true := by kernel_rfl
theorem fk180 : fnk Tryz.prog 180 = true := by kernel_rfl
theorem fk181 : fnk Tryz.prog 181 = true := by kernel_rfl
theorem fk182 : fnk Tryz.prog 182 = true := by kernel_rfl
theorem fk183 : fnk Tryz.prog 183 = true := by kernel_rfl
theorem fk184 : fnk Tryz.prog 184 = true := by kernel_rfl
theorem fk185 : fnk Tryz.prog 185 = true := by kernel_rfl
theorem fk186 : fnk Tryz.prog 186 = true := by kernel_rfl
theorem fk187 : fnk Tryz.prog 187 = true := by kernel_rfl
theorem fk195 : fnk Tryz.prog 195 = true := by kernel_rfl
theorem fk196 : fnk Tryz.prog 196 = true := by kernel_rfl
theorem fk197 : fnk Tryz.prog 197 = true := by kernel_rfl
theorem fk198 : fnk Tryz.prog 198 = true := by kernel_rfl
theorem fk199 : fnk Tryz.prog 199 = true := by kernel_rfl
theorem fk200 : fnk Tryz.prog 200 = true := by kernel_rfl
theorem fk201 : fnk Tryz.prog 201 = true := by kernel_rfl
theorem fk203 : fnk Tryz.prog 203 = true := by kernel_rfl
theorem fk215 : fnk Tryz.prog 215 = true := by kernel_rfl
theorem mixed : Tryz.prog.follows .mixedOrders = true := by kernel_rfl
theorem bd13_18  : Tryz.prog.built 51 [(0, .int .i64 0), (1, .int .i64 4)] = some #[.int .i64 0, .int .i64 4] := by kernel_rfl
theorem bs13_19 (x1 : Int) (x2 : Int) : bltS Tryz.prog 47 1 [(0, .agg #[.int .i64 x1, .int .i64 x2])] = some (51, [.int .i64 x1, .int .i64 x2]) := by kernel_rfl
theorem bs13_22  : bltS Tryz.prog 31 1 [(0, .int .u8 97)] = some (5, [.int .u8 97]) := by kernel_rfl
theorem bd13_25  : Tryz.prog.built 51 [(0, .int .i64 0), (1, .int .i64 5)] = some #[.int .i64 0, .int .i64 5] := by kernel_rfl
theorem bs13_38 (x3 : Int) (x4 : Int) : bltS Tryz.prog 47 1 [(0, .agg #[.int .i64 x3, .int .i64 x4])] = some (51, [.int .i64 x3, .int .i64 x4]) := by kernel_rfl
theorem bs13_44 (x5 : Int) (x6 : Int) : bltS Tryz.prog 47 1 [(0, .agg #[.int .i64 x5, .int .i64 x6])] = some (51, [.int .i64 x5, .int .i64 x6]) := by kernel_rfl
theorem bs15_25 (x1 : Int) (x2 : Int) (x3 : Int) (x4 : Int) (x5 : Option Addr) (x6 : Nat) (x7 : Nat) : bltS Tryz.prog 22 1 [(0, .agg #[.int .i64 x1, .int .i64 x2, .int .i64 x3, .int .u64 x4, .slice x5 x6 x7])] = some (33, [.int .i64 x1, .int .i64 x2, .int .i64 x3, .int .u64 x4, .slice x5 x6 x7]) := by kernel_rfl
theorem bd16_3 (x1 : Option Addr) (x2 : Option Addr) : Tryz.prog.built 41 [(0, .pointer x1), (1, .pointer x2)] = some #[.pointer x1, .pointer x2] := by kernel_rfl
theorem bs17_31  : bltS Tryz.prog 31 0 [] = some (5, []) := by kernel_rfl
theorem bd18_15 (x1 : Option Addr) (x2 : Int) (x3 : Option Nat) : Tryz.prog.built 145 [(0, .pointer x1), (1, .int .i64 x2), (2, .map x3)] = some #[.pointer x1, .int .i64 x2, .map x3] := by kernel_rfl
theorem bd19_92 (x1 : Int) (x2 : Int) (x3 : Int) (x4 : Int) (x5 : Int) : Tryz.prog.built 148 [(0, .int .i64 x1), (1, .int .i64 x2), (2, .int .i64 x3), (3, .int .u64 x4), (4, .int .u64 x5)] = some #[.int .i64 x1, .int .i64 x2, .int .i64 x3, .int .u64 x4, .int .u64 x5] := by kernel_rfl
theorem bd19_131 (x6 : Int) (x7 : Int) (x8 : Int) (x9 : Int) (x10 : Int) : Tryz.prog.built 148 [(0, .int .i64 x6), (1, .int .i64 x7), (2, .int .i64 x8), (3, .int .u64 x9), (4, .int .u64 x10)] = some #[.int .i64 x6, .int .i64 x7, .int .i64 x8, .int .u64 x9, .int .u64 x10] := by kernel_rfl
theorem bd43_20  : Tryz.prog.built 105 [] = some #[.bool false, .bool false, .bool false, .bool false, .bool false, .int .u64 0, .int .u64 0] := by kernel_rfl
theorem bd43_40 (x1 : Int) (x2 : Int) : Tryz.prog.built 105 [(0, .bool true), (5, .int .u64 x1), (6, .int .u64 x2)] = some #[.bool true, .bool false, .bool false, .bool false, .bool false, .int .u64 x1, .int .u64 x2] := by kernel_rfl
theorem bs57_109 (x2 : Int) (x3 : Int) (x4 : Bool) (x5 : Bool) (x6 : Option Addr) (x7 : Nat) (x8 : Nat) (x9 : Bool) (x10 : Int) (x11 : Int) (x12 : Int) (x13 : Int) (x14 : Bool) (x15 : Bool) (x16 : Option Addr) (x17 : Nat) (x18 : Nat) (x19 : Bool) (x20 : Int) (x21 : Int) (x22 : Int) (x23 : Bool) (x24 : Int) (x25 : Option Addr) (x26 : Nat) (x27 : Nat) : bltS Tryz.prog 129 1 [(0, .agg #[.int .i64 x2, .int .i64 x3, .bool x4, .bool x5, .slice x6 x7 x8, .bool x9, .int .u64 x10, .int .u64 x11, .int .i64 x12, .int .i64 x13, .bool x14, .bool x15, .slice x16 x17 x18, .bool x19, .int .u64 x20, .int .u64 x21, .int .i64 x22, .bool x23, .int .i64 x24, .slice x25 x26 x27])] = some (221, [.int .i64 x2, .int .i64 x3, .bool x4, .bool x5, .slice x6 x7 x8, .bool x9, .int .u64 x10, .int .u64 x11, .int .i64 x12, .int .i64 x13, .bool x14, .bool x15, .slice x16 x17 x18, .bool x19, .int .u64 x20, .int .u64 x21, .int .i64 x22, .bool x23, .int .i64 x24, .slice x25 x26 x27]) := by kernel_rfl
theorem bd59_73 (x1 : Int) : Tryz.prog.built 190 [(0, .bool true), (1, .int .i64 x1), (2, .int .i64 0)] = some #[.bool true, .int .i64 x1, .int .i64 0] := by kernel_rfl
theorem bd72_40  : Tryz.prog.built 148 [] = some #[.int .i64 0, .int .i64 0, .int .i64 0, .int .u64 0, .int .u64 0] := by kernel_rfl
theorem bd109_5  : Tryz.prog.built 199 [] = some #[.int .i64 0, .int .i64 0, .pointer none, .bool false, .bool false, .int .u64 0, .int .u64 0, .int .i64 0, .int .i64 0, .pointer none, .bool false, .bool false, .int .u64 0, .int .u64 0, .bool false, .int .i64 0, .slice none 0 0] := by kernel_rfl
theorem bs114_21 (x1 : Int) : bltS Tryz.prog 44 1 [(0, .int .i64 x1)] = some (3, [.int .i64 x1]) := by kernel_rfl
theorem bs133_112 (x1 : Int) : bltS Tryz.prog 44 1 [(0, .int .i64 x1)] = some (3, [.int .i64 x1]) := by kernel_rfl
theorem bs133_133 (x2 : Option Addr) : bltS Tryz.prog 208 1 [(0, .pointer x2)] = some (191, [.pointer x2]) := by kernel_rfl
theorem bs134_114 (x2 : Int) : bltS Tryz.prog 44 1 [(0, .int .i64 x2)] = some (3, [.int .i64 x2]) := by kernel_rfl
theorem bs134_139 (x3 : Int) (x4 : Int) (x5 : Bool) (x6 : Bool) (x7 : Option Addr) (x8 : Nat) (x9 : Nat) (x10 : Bool) (x11 : Int) (x12 : Int) (x13 : Int) (x14 : Int) (x15 : Bool) (x16 : Bool) (x17 : Option Addr) (x18 : Nat) (x19 : Nat) (x20 : Bool) (x21 : Int) (x22 : Int) (x23 : Int) (x24 : Bool) (x25 : Int) (x26 : Option Addr) (x27 : Nat) (x28 : Nat) : bltS Tryz.prog 129 1 [(0, .agg #[.int .i64 x3, .int .i64 x4, .bool x5, .bool x6, .slice x7 x8 x9, .bool x10, .int .u64 x11, .int .u64 x12, .int .i64 x13, .int .i64 x14, .bool x15, .bool x16, .slice x17 x18 x19, .bool x20, .int .u64 x21, .int .u64 x22, .int .i64 x23, .bool x24, .int .i64 x25, .slice x26 x27 x28])] = some (221, [.int .i64 x3, .int .i64 x4, .bool x5, .bool x6, .slice x7 x8 x9, .bool x10, .int .u64 x11, .int .u64 x12, .int .i64 x13, .int .i64 x14, .bool x15, .bool x16, .slice x17 x18 x19, .bool x20, .int .u64 x21, .int .u64 x22, .int .i64 x23, .bool x24, .int .i64 x25, .slice x26 x27 x28]) := by kernel_rfl
theorem bd142_24 (x1 : Int) (x2 : Int) : Tryz.prog.built 241 [(0, .int .i64 x1), (1, .int .i64 x2)] = some #[.int .i64 x1, .int .i64 x2] := by kernel_rfl
theorem bs142_25 (x3 : Int) (x4 : Int) : bltS Tryz.prog 238 1 [(0, .agg #[.int .i64 x3, .int .i64 x4])] = some (241, [.int .i64 x3, .int .i64 x4]) := by kernel_rfl
theorem bs149_5  : bltS Tryz.prog 47 0 [] = some (51, []) := by kernel_rfl
theorem bs150_10 (x1 : Int) (x2 : Int) : bltS Tryz.prog 47 1 [(0, .agg #[.int .i64 x1, .int .i64 x2])] = some (51, [.int .i64 x1, .int .i64 x2]) := by kernel_rfl
theorem bd151_31 (x1 : Int) (x2 : Int) : Tryz.prog.built 51 [(0, .int .i64 x1), (1, .int .i64 x2)] = some #[.int .i64 x1, .int .i64 x2] := by kernel_rfl
theorem bd168_12 (x1 : Option Addr) (x2 : Nat) (x3 : Nat) : Tryz.prog.built 263 [(0, .slice x1 x2 x3), (5, .bool true)] = some #[.slice x1 x2 x3, .int .i64 0, .int .i64 0, .int .u64 0, .int .u64 0, .bool true] := by kernel_rfl
theorem bs170_17 (x1 : Int) : bltS Tryz.prog 44 1 [(0, .int .i64 x1)] = some (3, [.int .i64 x1]) := by kernel_rfl
theorem bd171_36 (x1 : Int) (x2 : Int) : Tryz.prog.built 190 [(0, .bool true), (1, .int .i64 x1), (2, .int .i64 x2)] = some #[.bool true, .int .i64 x1, .int .i64 x2] := by kernel_rfl
theorem bs171_47 (x3 : Option Addr) : bltS Tryz.prog 208 1 [(0, .pointer x3)] = some (191, [.pointer x3]) := by kernel_rfl
theorem bs179_5  : bltS Tryz.prog 44 0 [] = some (3, []) := by kernel_rfl
theorem bs181_55  : bltS Tryz.prog 31 1 [(0, .int .u8 1)] = some (5, [.int .u8 1]) := by kernel_rfl
theorem bs182_71  : bltS Tryz.prog 31 1 [(0, .int .u8 1)] = some (5, [.int .u8 1]) := by kernel_rfl
theorem bs184_12 (x1 : Int) (x2 : Int) : bltS Tryz.prog 238 1 [(0, .agg #[.int .i64 x1, .int .i64 x2])] = some (241, [.int .i64 x1, .int .i64 x2]) := by kernel_rfl
theorem bs201_10 (x1 : Int) : bltS Tryz.prog 44 1 [(0, .int .i64 x1)] = some (3, [.int .i64 x1]) := by kernel_rfl
theorem bd216_16 (x1 : Int) (x2 : Int) : Tryz.prog.built 241 [(0, .int .i64 x1), (1, .int .i64 x2)] = some #[.int .i64 x1, .int .i64 x2] := by kernel_rfl
end Fx
end Go.Proofs.YtbfddabjbkohdaaGreat
namespace Go.RX
set_option linter.unusedSimpArgs false
set_option linter.unusedVariables false
set_option linter.unnecessarySimpa false
section
variable {E : World} {n : Nat} {ds : List Deferred} {st st' : List (Nat × Value)} {L L' : List SP} {r : Option Nat} {P : Program} {Q : Exit → Act → World → Prop} {ops : Array Oper} {rest : List Oper}
variable {d : Nat} {ty t t2 : TypeId} {pos : String} {af : Array Edge} {g : Option (Nat × Bool)} {x y z : Operand} {v u : Value} {k : IntKind} {p q : Bool}
theorem Hd.clearTail {e sz m cap l : Nat} {zs : List Value} {ad : Option Addr} {us : List Value} (ht : P.underlying t = some (.slice e)) (hz : zrk P e = some zs) (hzl : zs.length = sz) (hz1 : zs.all (·.oneCell') = true)
    (hx : evo st x = some (.slice (cutA ad sz l cap) (m - l) (cap - l))) (hp : Pick L (own e sz ad m cap us) L') (hl : l ≤ m)
    (K : Hd E n ds st (own e sz ad l cap (us.take (l * sz)) :: L') (LW r P ops Q rest)) :
    Hd E n ds st L (LW r P ops Q (⟨none, .call ⟨.builtin .clear, #[x], #[t]⟩, ty, pos, af, none⟩ :: rest)) :=
  Hd.op rfl (by simp) fun a w f s => by
    have s' : Sat E (own e sz ad m cap us :: L') w := s.mp fun _ k => hp.sep k
    have hsplit : us = us.take (l * sz) ++ us.drop (l * sz) := (List.take_append_drop _ _).symm
    have hul : us.length = m * sz := by obtain ⟨_, _, _, _, _, _, _, _, ⟨h, _⟩, _⟩ := s'; exact h
    have hlm : l * sz ≤ m * sz := Nat.mul_le_mul_right _ hl
    have htl : (us.take (l * sz)).length = l * sz := by rw [List.length_take, hul]; omega
    have done : ∀ w', Sat E (own e sz ad m cap us :: L') w' → Sat E (own e sz ad l cap (us.take (l * sz)) :: L') w' := fun w' s => s.mp fun h hh => sep_head hh fun k x => own_take hl htl (by rw [List.take_append_drop]; exact x)
    by_cases h0 : m - l = 0
    · refine ⟨.tuple #[], w, ?_, K _ _ f (done w s')⟩
      simp only [execOp, resolve, List.map_toArray, List.map_cons, List.map_nil, f.ev hx, invoke, builtin, Sem.run_bind, Sem.run_pure, Result.andThen_ok]
      rw [h0]
      cases cutA ad sz l cap <;> simp [Builtin.clear_, run_underlying ht]
    obtain ⟨hos, htp, hou, k1, k2, dd, s1, s2, ⟨_, hv⟩, hL⟩ := s'
    rcases hv with ⟨rfl, rfl⟩ | ⟨b, off, sp, rfl, hmc, hcm, hsp, hpt⟩
    · omega
    have hA : cutA (some ⟨b, off, none⟩) sz l cap = some ⟨b, off + l * sz, none⟩ := by
      unfold cutA; rw [if_neg (by omega)]; simp [add_flat]
    have s0 : Sat E (seg b off (us ++ sp) :: L') w := ⟨hos, htp, hou, k1, k2, dd, s1, s2, hpt, hL⟩
    obtain ⟨z, hzr, hzc⟩ := run_zero' (P := P) hz w
    have hzn : (Builtin.zeroCells z.cells (m - l)).toList.length = (m - l) * sz := by rw [hzc]; simp [Builtin.zeroCells, hzl]
    have hzo : ∀ v ∈ (Builtin.zeroCells z.cells (m - l)).toList, v.oneCell' = true := fun v hv => by
      rw [hzc] at hv
      simp only [Builtin.zeroCells, Array.toList_map, List.mem_map, Array.toList_range, List.mem_range, List.size_toArray] at hv
      obtain ⟨i, hi, rfl⟩ := hv
      have hz0 : 0 < zs.length := by
        rcases Nat.eq_zero_or_pos zs.length with h | h
        · rw [h, Nat.mul_zero] at hi; omega
        · exact h
      have hlt : i % zs.length < zs.length := Nat.mod_lt _ hz0
      rw [List.all_eq_true] at hz1
      rw [getElem!_pos zs.toArray _ (by simpa using hlt)]
      exact hz1 _ (by simp)
    by_cases hne : 0 < (us ++ sp).length
    · obtain ⟨w', hst, s'⟩ := Sat.storeSeg (P := P) (q := l * sz) (vs := (Builtin.zeroCells z.cells (m - l)).toList) s0 (by rw [List.length_append, hzn, hul, Nat.sub_mul]; omega) hne hzo
      refine ⟨.tuple #[], w', ?_, K _ _ f (s'.mp fun h hh => sep_head hh fun k x => ?_)⟩
      · simp only [execOp, resolve, List.map_toArray, List.map_cons, List.map_nil, f.ev hx, invoke, builtin, Sem.run_bind, Sem.run_pure, Result.andThen_ok, hA]
        obtain ⟨q, hq⟩ := Nat.exists_eq_succ_of_ne_zero h0
        rw [hq] at hst ⊢
        simp [Builtin.clear_, run_underlying ht, hzr, hst]
      · have e1 : (us ++ sp).take (l * sz) = us.take (l * sz) := by rw [List.take_append_of_le_length (by rw [hul]; omega)]
        have e2 : (us ++ sp).drop (l * sz + (Builtin.zeroCells z.cells (m - l)).toList.length) = sp := by
          have e3 : l * sz + (m - l) * sz = us.length := by rw [hul, Nat.sub_mul]; omega
          rw [hzn, e3, List.drop_left]
        rw [e1, e2, List.append_assoc] at x
        refine ⟨htl, .inr ⟨b, off, (Builtin.zeroCells z.cells (m - l)).toList ++ sp, rfl, by omega, hcm, ?_, x⟩⟩
        rw [List.length_append, hzn, hsp, ← Nat.add_mul]; congr 1; omega
    · have hu : us.length = 0 := by simp at hne ⊢; simp [hne]
      have hsz : sz = 0 := by
        rw [hul] at hu
        rcases Nat.eq_zero_or_pos sz with h | h
        · exact h
        · have := Nat.mul_pos (show 0 < m by omega) h; omega
      have hzz : zs = [] := List.eq_nil_of_length_eq_zero (by omega)
      refine ⟨.tuple #[], w, ?_, K _ _ f (done w ⟨hos, htp, hou, k1, k2, dd, s1, s2, ⟨hul, .inr ⟨b, off, sp, rfl, hmc, hcm, hsp, hpt⟩⟩, hL⟩)⟩
      simp only [execOp, resolve, List.map_toArray, List.map_cons, List.map_nil, f.ev hx, invoke, builtin, Sem.run_bind, Sem.run_pure, Result.andThen_ok, hA]
      obtain ⟨q, hq⟩ := Nat.exists_eq_succ_of_ne_zero h0
      have hze : (Builtin.zeroCells z.cells (m - l)).toList = [] := List.eq_nil_of_length_eq_zero (by rw [hzn, hsz, Nat.mul_zero])
      rw [hq] at hze ⊢
      simp [Builtin.clear_, run_underlying ht, hzr, hze, storeCells]
end
end Go.RX
namespace Go.RX
set_option linter.unusedSimpArgs false
set_option linter.unusedVariables false
set_option linter.unnecessarySimpa false
section
variable {E : World} {n : Nat} {ds : List Deferred} {st st' : List (Nat × Value)} {L L' : List SP} {r : Option Nat} {P : Program} {Q : Exit → Act → World → Prop} {ops : Array Oper} {rest : List Oper}
variable {d : Nat} {ty t t2 : TypeId} {pos : String} {af : Array Edge} {x y : Operand} {v : Value} {k : IntKind}
theorem Hd.copyOwn {e bytes m cap q dl dc sl sc : Nat} {ad sad : Option Addr} {us vs : List Value} (ht : P.underlying t = some (.slice e)) (hi : tyr P e = some (1, bytes, 1))
    (hx : evo st x = some (.slice (cutA ad 1 q cap) dl dc)) (hy : evo st y = some (.slice sad sl sc)) (hp : Pick L (own e 1 ad m cap us) L') (hR : RdS L 1 sad sl vs) (hq : q + dl ≤ m) (h1 : ∀ u ∈ vs, u.oneCell' = true)
    (K : Hd E n ds ((d, .int .i64 ((min sl dl : Nat) : Int)) :: st) (own e 1 ad m cap (us.take q ++ vs.take (min sl dl) ++ us.drop (q + min sl dl)) :: L') (LW r P ops Q rest)) (hd : d < n := by decide) :
    Hd E n ds st L (LW r P ops Q (⟨some d, .call ⟨.builtin .copy, #[x, y], #[t, t2]⟩, ty, pos, af, none⟩ :: rest)) :=
  Hd.op rfl (by simp) fun a w f s => by
    obtain ⟨ti, zv, h1', h2', h3', h4', h5'⟩ := tyr_parts hi
    have hsz : (P.info? e).map (·.size) = some 1 := by rw [h1']; simp [h3']
    obtain ⟨hvl, hsrc⟩ := hR _ s.2.2.2
    have s' : Sat E (own e 1 ad m cap us :: L') w := s.mp fun _ k => hp.sep k
    obtain ⟨hos, htp, hou, k1, k2, dd, s1, s2, ⟨hul, hv⟩, hL⟩ := s'
    by_cases h0 : min sl dl = 0
    · refine ⟨.int .i64 0, w, ?_, ?_⟩
      · have hrun := run_copy_none (P := P) w t t2 ty e (cutA ad 1 q cap) sad dl dc sl sc ht hsz h0
        simp only [execOp, resolve, List.map_toArray, List.map_cons, List.map_nil, f.ev hx, f.ev hy, invoke, builtin, Sem.run_bind, Sem.run_pure, Result.andThen_ok, hrun]
        rfl
      · rw [h0] at K
        refine K _ _ (f.put hd _) ⟨hos, htp, hou, k1, k2, dd, s1, s2, ?_, hL⟩
        simpa using ⟨hul, hv⟩
    · have hds : dl ≠ 0 := fun h => h0 (by rw [h]; simp)
      have hsl : sl ≠ 0 := fun h => h0 (by rw [h]; simp)
      rcases hv with ⟨rfl, rfl⟩ | ⟨b, off, sp, rfl, hmc, hcm, hsp, hpt⟩
      · omega
      have hA : cutA (some ⟨b, off, none⟩) 1 q cap = some ⟨b, off + q, none⟩ := by
        unfold cutA; rw [if_neg (by omega)]; simp [add_flat]
      obtain ⟨sb, so, rfl, hsc⟩ : ∃ sb so, sad = some ⟨sb, so, none⟩ ∧ ∀ j v, vs[j]? = some v → w.cell? ⟨sb, so + j, none⟩ = some v := by
        rcases hsrc with h | ⟨sb, so, e, hc⟩
        · omega
        · exact ⟨sb, so, e, fun j v hj => by obtain ⟨_, hb⟩ := hc j v hj; exact cell_hp hb⟩
      have hnl : (vs.take (min sl dl)).length = min sl dl * 1 := by rw [List.length_take, hvl]; omega
      have hf := run_firstCells_some (P := P) w 1 (min sl dl) ⟨sb, so, none⟩ sl sc (vs.take (min sl dl)) hnl (fun j v hj => by
        rw [add_flat]
        refine hsc j v ?_
        have hj2 := (List.getElem?_eq_some_iff.1 hj).1
        rw [List.length_take] at hj2
        rwa [List.getElem?_take_of_lt (by omega)] at hj)
      have s0 : Sat E (seg b off (us ++ sp) :: L') w := ⟨hos, htp, hou, k1, k2, dd, s1, s2, hpt, hL⟩
      have hul' : us.length = m := by omega
      obtain ⟨w', hst, s''⟩ := Sat.storeSeg (P := P) (q := q) (vs := vs.take (min sl dl)) s0 (by rw [List.length_append, hnl]; omega) (by rw [List.length_append]; omega) (fun u hu => h1 u (List.mem_of_mem_take hu))
      refine ⟨.int .i64 ((min sl dl : Nat) : Int), w', ?_, K _ _ (f.put hd _) (s''.mp fun h hh => sep_head hh fun k x => ?_)⟩
      · have hun : (Builtin.copy_ #[t, t2] ty #[.slice (some ⟨b, off + q, none⟩) dl dc, .slice (some ⟨sb, so, none⟩) sl sc]).run P w = .ok (goInt (min sl dl : Nat)) w' := by
          have hm : Nat.min sl dl = min sl dl := rfl
          simp [Builtin.copy_, run_underlying ht, sizeOf, typeInfo, h1', Builtin.lenOf, h3', hm, hf, hst]
        rw [hA] at hx
        simp only [execOp, resolve, List.map_toArray, List.map_cons, List.map_nil, f.ev hx, f.ev hy, invoke, builtin, Sem.run_bind, Sem.run_pure, Result.andThen_ok, hun]
        rfl
      · rw [hnl, Nat.mul_one] at x
        have htot : (us.take q ++ vs.take (min sl dl) ++ us.drop (q + min sl dl)).length = m * 1 := by
          simp only [List.length_append, List.length_take, List.length_drop, hul', hvl]; omega
        refine ⟨htot, .inr ⟨b, off, sp, rfl, hmc, hcm, hsp, ?_⟩⟩
        rw [List.take_append_of_le_length (by omega), List.drop_append_of_le_length (by omega)] at x
        simpa only [List.append_assoc] using x
end
end Go.RX
namespace Go.RX
set_option linter.unusedSimpArgs false
set_option linter.unusedVariables false
set_option linter.unnecessarySimpa false
section
variable {P : Program} {E : World} {n : Nat} {ds : List Deferred} {st : List (Nat × Value)} {L : List SP} {ops : Array Oper} {C : World → Prop} {Kq : Act → Prop} {p : Bool}
theorem wpQuiet_append {l2 : List Oper} : ∀ {l1 : List Oper} {a : Act}, wpQuiet P ops C (fun a' => wpQuiet P ops C Kq l2 a') l1 a → wpQuiet P ops C Kq (l1 ++ l2) a
  | [], _, h => h
  | o :: r, a, h => by
    simp only [List.cons_append]
    unfold wpQuiet at h ⊢
    split
    · rename_i hw
      rw [if_pos hw] at h
      obtain ⟨v, h1, h2⟩ := h
      exact ⟨v, h1, wpQuiet_append h2⟩
    · rename_i hw
      rw [if_neg hw] at h
      exact wpQuiet_append h
theorem Hq.andg {l : List Oper} (m gd dd : Nat) (sk : List (Nat × Value)) {q : Bool} (hv : look st gd = some (.bool p)) (_hk : sub st sk)
    (hT : p = true → Hq n ds ((gd, .bool true) :: st) (QW P ops C (fun a => Fr n ds ((dd, .bool q) :: sk) a) (l.take m)))
    (hF : p = false → Hq n ds ((gd, .bool false) :: st) (QW P ops C (fun a => Fr n ds ((dd, .bool false) :: sk) a) (l.take m)))
    (K : Hq n ds ((dd, .bool (p && q)) :: sk) (QW P ops C Kq (l.drop m))) : Hq n ds st (QW P ops C Kq l) := fun a f => by
  have h : wpQuiet P ops C (fun a' => wpQuiet P ops C Kq (l.drop m) a') (l.take m) a := by
    have h1 : wpQuiet P ops C (fun a => Fr n ds ((dd, .bool (p && q)) :: sk) a) (l.take m) a :=
      (Hq.part hv (fun hp => by subst hp; exact hT rfl) (fun hp => by subst hp; exact hF rfl) : Hq n ds st (QW P ops C (fun a => Fr n ds ((dd, .bool (p && q)) :: sk) a) (l.take m))) a f
    exact wpQuiet_mono' h1 fun a f => K a f
  have := wpQuiet_append h
  rwa [List.take_append_drop] at this
where
  wpQuiet_mono' {K1 K2 : Act → Prop} : ∀ {l : List Oper} {a : Act}, wpQuiet P ops C K1 l a → (∀ a, K1 a → K2 a) → wpQuiet P ops C K2 l a
    | [], _, h, hk => hk _ h
    | o :: r, a, h, hk => by
      unfold wpQuiet at h ⊢
      split
      · rename_i hw
        rw [if_pos hw] at h
        obtain ⟨v, h1, h2⟩ := h
        exact ⟨v, h1, wpQuiet_mono' h2 hk⟩
      · rename_i hw
        rw [if_neg hw] at h
        exact wpQuiet_mono' h hk
theorem Hq.org {l : List Oper} (m gd dd : Nat) (sk : List (Nat × Value)) {q : Bool} (hv : look st gd = some (.bool p)) (_hk : sub st sk)
    (hT : p = true → Hq n ds ((gd, .bool true) :: st) (QW P ops C (fun a => Fr n ds ((dd, .bool true) :: sk) a) (l.take m)))
    (hF : p = false → Hq n ds ((gd, .bool false) :: st) (QW P ops C (fun a => Fr n ds ((dd, .bool q) :: sk) a) (l.take m)))
    (K : Hq n ds ((dd, .bool (p || q)) :: sk) (QW P ops C Kq (l.drop m))) : Hq n ds st (QW P ops C Kq l) := fun a f => by
  have h : wpQuiet P ops C (fun a' => wpQuiet P ops C Kq (l.drop m) a') (l.take m) a := by
    have h1 : wpQuiet P ops C (fun a => Fr n ds ((dd, .bool (p || q)) :: sk) a) (l.take m) a :=
      (Hq.part hv (fun hp => by subst hp; exact hT rfl) (fun hp => by subst hp; exact hF rfl) : Hq n ds st (QW P ops C (fun a => Fr n ds ((dd, .bool (p || q)) :: sk) a) (l.take m))) a f
    exact Hq.andg.wpQuiet_mono' h1 fun a f => K a f
  have := wpQuiet_append h
  rwa [List.take_append_drop] at this
theorem Hq.mend {st' : List (Nat × Value)} (hs : sub st st') : Hq n ds st (QW P ops C (fun a => Fr n ds st' a) []) := fun _ f => f.sub hs
end
end Go.RX
namespace Go.RX
set_option linter.unusedSimpArgs false
set_option linter.unusedVariables false
set_option linter.unnecessarySimpa false
section
variable {E : World} {n : Nat} {ds : List Deferred} {st st' : List (Nat × Value)} {L L' : List SP} {r : Option Nat} {P : Program} {Q : Exit → Act → World → Prop} {ops : Array Oper} {rest : List Oper}
variable {d : Nat} {ty t t2 : TypeId} {pos : String} {af : Array Edge} {g : Option (Nat × Bool)} {x y z : Operand} {v u : Value} {k : IntKind} {p q : Bool}
theorem sep_right {M N N' : List SP} {k : PH} (h : ∀ k, sep N k → sep N' k) (s : sep (M ++ N) k) : sep (M ++ N') k := by
  obtain ⟨h1, h2, d, s1, s2, x, y⟩ := sep_append s
  exact sep_join d s1 s2 x (h _ y)
end
end Go.RX
namespace Go.RX
set_option linter.unusedSimpArgs false
set_option linter.unusedVariables false
set_option linter.unnecessarySimpa false
section
variable {P : Program} {E : World} {n : Nat} {ds : List Deferred} {st : List (Nat × Value)} {L L' : List SP}
theorem results_ctt {fn : Func} {ta tb tc : Nat} {t : TypeId} {b o : Nat} {us : List Value} {tmps : Array Value} {v u : Value} {w : World} (hr : fn.results = #[.cell ta t, .tmp tb, .tmp tc]) (ha : agk P t = some true) (hx : tmps.getD ta undef = .pointer (some ⟨b, o, none⟩)) (hv : tmps.getD tb undef = v) (hu : tmps.getD tc undef = u)
    (hR : Rd L b o us) (hz : szk P t = some us.length) (s : Sat E L w) : (results fn tmps).run P w = .ok (.tuple #[.agg us.toArray, v, u]) w := by
  have hc : (loadCells ⟨b, o, none⟩ us.length).run P w = .ok us.toArray w := run_loadCells_list w _ us fun j v e => by
    have := hR.cell s e
    unfold Addr.add
    split
    · rename_i h0; subst h0; simpa using this
    · exact this
  have hl : (loadVar t ⟨b, o, none⟩).run P w = .ok (.agg us.toArray) w := by
    simp only [loadVar, Sem.run_bind, run_isAgg ha, Result.andThen, if_true, run_sizeOf' hz, hc]
    rfl
  have hx2 : tmps[ta]?.getD undef = .pointer (some ⟨b, o, none⟩) := by simpa using hx
  have hv2 : tmps[tb]?.getD undef = v := by simpa using hv
  have hu2 : tmps[tc]?.getD undef = u := by simpa using hu
  simp [results, hr, hx2, hv2, hu2, asAddr, hl]
theorem Hd.retCTT {fn : Func} {ta tb tc : Nat} {t : TypeId} {b o : Nat} {us : List Value} {v u : Value} {ι : Type} {val : ι → Value} {post : ι → List SP} (hr : fn.results = #[.cell ta t, .tmp tb, .tmp tc]) (i : ι) (ha : agk P t = some true) (hx : look st ta = some (.pointer (some ⟨b, o, none⟩))) (hv : look st tb = some v) (hu : look st tc = some u)
    (hR : Rd L b o us) (hz : szk P t = some us.length) (hi : val i = .tuple #[.agg us.toArray, v, u]) (hl : ∀ k, sep L k → sep (post i) k) :
    Hd E n [] st L ((bodyPost P fn fun e w' => ∃ i, e = .returned (val i) ∧ Sat E (post i) w') .ret) := fun a w f s =>
  bodyPost_ret (results_ctt (v := v) (u := u) hr ha (by simp [f.at_ ta _ hx]) (by simp [f.at_ tb _ hv]) (by simp [f.at_ tc _ hu]) hR hz s) f.defs ⟨i, by rw [hi], s.mp hl⟩
theorem results_3 {fn : Func} {ta tb tc : Nat} {tmps : Array Value} {v1 v u : Value} {w : World} (hr : fn.results = #[.tmp ta, .tmp tb, .tmp tc]) (hx : tmps.getD ta undef = v1) (hv : tmps.getD tb undef = v) (hu : tmps.getD tc undef = u) : (results fn tmps).run P w = .ok (.tuple #[v1, v, u]) w := by
  have hx2 : tmps[ta]?.getD undef = v1 := by simpa using hx
  have hv2 : tmps[tb]?.getD undef = v := by simpa using hv
  have hu2 : tmps[tc]?.getD undef = u := by simpa using hu
  simp [results, hr, hx2, hv2, hu2]
theorem Hd.ret3 {fn : Func} {ta tb tc : Nat} {v1 v u : Value} {ι : Type} {val : ι → Value} {post : ι → List SP} (hr : fn.results = #[.tmp ta, .tmp tb, .tmp tc]) (i : ι) (hx : look st ta = some v1) (hv : look st tb = some v) (hu : look st tc = some u) (hi : val i = .tuple #[v1, v, u]) (hl : ∀ k, sep L k → sep (post i) k) :
    Hd E n [] st L ((bodyPost P fn fun e w' => ∃ i, e = .returned (val i) ∧ Sat E (post i) w') .ret) := fun a w f s =>
  bodyPost_ret (results_3 (v1 := v1) (v := v) (u := u) hr (by simp [f.at_ ta _ hx]) (by simp [f.at_ tb _ hv]) (by simp [f.at_ tc _ hu])) f.defs ⟨i, by rw [hi], s.mp hl⟩
end
section
variable {E : World} {n : Nat} {ds : List Deferred} {st : List (Nat × Value)} {L : List SP} {P : Program}
variable {d : Nat} {ty t : TypeId} {pos : String} {af : Array Edge} {g : Option (Nat × Bool)} {x : Operand} {v : Value}
end
end Go.RX
