/-
  Results: one that stands in a block, and one behind it. No program is named here. Values of nested structs and arrays (of plain fields) compared. No program is named here. Maps whose keys are structs of two integers (printed after RxM and RxN). No program is named here. Facts of the seat's program: its types, which functions have a body, what is built. A slice's own cells moved to the left (append(s[:i], s[j:]...)), and its last ones cleared: slices.Delete. No program is named here. copy(dst, src): dst a part of a slice that is owned. No program is named here. 'and' and 'or' within a region that only reads: their ways meet again. No program is named here. Iterators whose own memory, at the end, tells what they told. No program is named here. Functions of three results. No program is named here. Rings of bytes: in plain words, and their calls' contracts. Rings: their calls' contracts. Rings: Put, Look, Take. Worlds: wires and descriptors in plain words; how a wire lies in memory. Worlds: a wire's calls: silent, take, put, shut, close; a new wire. Worlds: which descriptor is which wire's end; how a world lies in memory; a new wire.
-/
import Derived.ChangeKeysEq
import Derived.Test.YtbfddabjbkohdaaGreatRows
import Derived.Laws.CopyOwn
import Derived.Test.YtbfddabjbkohdaaGreatZEplTracesB
namespace Go.RX
set_option linter.unusedSimpArgs false
set_option linter.unusedVariables false
set_option linter.unnecessarySimpa false
open Go.MapKept
section
variable {P : Program} {E : World} {n : Nat} {ds : List Deferred} {st : List (Nat × Value)} {L L' : List SP}
theorem results_ct {fn : Func} {ta tb : Nat} {t : TypeId} {b o : Nat} {us : List Value} {tmps : Array Value} {v : Value} {w : World} (hr : fn.results = #[.cell ta t, .tmp tb]) (ha : agk P t = some true) (hx : tmps.getD ta undef = .pointer (some ⟨b, o, none⟩)) (hv : tmps.getD tb undef = v)
    (hR : Rd L b o us) (hz : szk P t = some us.length) (s : Sat E L w) : (results fn tmps).run P w = .ok (.tuple #[.agg us.toArray, v]) w := by
  have hc : (loadCells ⟨b, o, none⟩ us.length).run P w = .ok us.toArray w := run_loadCells_list w _ us fun j v e => by
    have := hR.cell s e
    unfold Addr.add
    split
    · rename_i h0; subst h0; simpa using this
    · exact this
  have hl : (loadVar t ⟨b, o, none⟩).run P w = .ok (.agg us.toArray) w := by
    simp only [loadVar, Sem.run_bind, run_isAgg ha, Result.andThen, if_true, run_sizeOf' hz, hc]
    rfl
  have hx2 : tmps[ta]?.getD undef = .pointer (some ⟨b, o, none⟩) := by simpa using hx
  have hv2 : tmps[tb]?.getD undef = v := by simpa using hv
  simp [results, hr, hx2, hv2, asAddr, hl]
theorem Hd.ownTake {e sz m cap : Nat} {ad : Option Addr} {us : List Value} {K : Act → World → Prop} (p : Pick L (own e sz ad m cap us) L') (l : Nat) (us1 us2 : List Value) (hl : l ≤ m) (hu : us = us1 ++ us2) (h1 : us1.length = l * sz)
    (h : Hd E n ds st (own e sz ad l cap us1 :: L') K) : Hd E n ds st L K := Hd.heap _ (fun k s => by subst hu; exact sep_head (p.sep s) fun _ x => own_take hl h1 x) h
theorem Hd.retCT {fn : Func} {ta tb : Nat} {t : TypeId} {b o : Nat} {us : List Value} {v : Value} {ι : Type} {val : ι → Value} {post : ι → List SP} (hr : fn.results = #[.cell ta t, .tmp tb]) (i : ι) (ha : agk P t = some true) (hx : look st ta = some (.pointer (some ⟨b, o, none⟩))) (hu : look st tb = some v)
    (hR : Rd L b o us) (hz : szk P t = some us.length) (hv : val i = .tuple #[.agg us.toArray, v]) (hl : ∀ k, sep L k → sep (post i) k) :
    Hd E n [] st L ((bodyPost P fn fun e w' => ∃ i, e = .returned (val i) ∧ Sat E (post i) w') .ret) := fun a w f s =>
  bodyPost_ret (results_ct (v := v) hr ha (by simp [f.at_ ta _ hx]) (by simp [f.at_ tb _ hu]) hR hz s) f.defs ⟨i, by rw [hv], s.mp hl⟩
end
section
variable {E : World} {n : Nat} {ds : List Deferred} {st st' : List (Nat × Value)} {L L' : List SP} {r : Option Nat} {P : Program} {Q : Exit → Act → World → Prop} {ops : Array Oper} {rest : List Oper}
variable {d : Nat} {ty t t2 : TypeId} {pos : String} {af : Array Edge} {g : Option (Nat × Bool)} {x y z : Operand} {v u : Value} {k : IntKind} {p q : Bool}
theorem Hd.mapDelete0 {f : Int → Option Value} {b m : Nat} {a : Int} {zs : Value} (hT : MapT P t k zs) (hx : evo st x = some (.map (some b))) (hy : evo st y = some (.int k a)) (p : Pick L (mp b k f m) L')
    (K : Hd E n ds st (mp b k (fun c => if c = a then none else f c) (if (f a).isSome then m - 1 else m) :: L') (LW r P ops Q rest)) :
    Hd E n ds st L (LW r P ops Q (⟨none, .call ⟨.builtin .delete, #[x, y], #[t, t2]⟩, ty, pos, af, none⟩ :: rest)) :=
  Hd.op rfl (by simp) fun ac w fr s => by
    obtain ⟨kt, vt, i, h1, h2, h3, h4⟩ := hT.ex
    obtain ⟨l, c, hb, hn, hm, hf, hbn, hbl⟩ := s.mp_at p
    have hck := run_checkKey (P := P) (w := w) (kt := kt) (k := .int k a) h2 (by simp [IsKey]) l.isEmpty 9999
    have hfk := run_findKey (P := P) (w := w) (kt := kt) h2 (findNow_fi k a l 0)
    have hg := fi_get l a 0
    rw [← hf] at hg
    cases hfi : fi l a 0 with
    | none =>
      rw [hfi] at hg hfk
      simp only [Option.map_none] at hg
      have hno := fi_none hfi
      refine ⟨.tuple #[], { w with heap := w.heap.setIfInBounds b (.map (l.map (ent k)).toArray c) }, ?_, K _ _ fr ?_⟩
      · simp only [execOp, resolve, List.map_toArray, List.map_cons, List.map_nil, fr.ev hx, fr.ev hy, invoke, builtin, Builtin.delete_, Sem.run_bind, Sem.run_pure, Result.andThen_ok]
        simp [run_underlying h1, MapKept.run_getObj_map hb, hck, hfk, MapKept.run_setObj_map _ hb]
      · refine Sat.putMp s p rfl rfl rfl (fun x hx => set_heap_ne hx) (set_heap hb) hn ?_ (fun b' => ?_) ?_
        · rw [← hg]; simpa using hm
        · rw [← hf]
          by_cases hb' : b' = a
          · subst hb'; rw [if_pos rfl, ← hg]
          · rw [if_neg hb']
        · exact ⟨hbn, hbl⟩
    | some jv =>
      obtain ⟨j, u⟩ := jv
      rw [hfi] at hg hfk
      simp only [Option.map_some] at hg
      obtain ⟨bo, _, hj⟩ := fi_at l a 0 j u hfi
      rw [Nat.sub_zero] at hj
      have hjl := (List.getElem?_eq_some_iff.1 hj).1
      have hj' : l[j] = (a, u, bo) := by have h := hj; rw [List.getElem?_eq_getElem hjl] at h; simpa using h
      refine ⟨.tuple #[], { w with heap := w.heap.setIfInBounds b (.map ((l.eraseIdx j).map (ent k)).toArray c) }, ?_, K _ _ fr ?_⟩
      · have e : (l.map (ent k)).toArray.eraseIdxIfInBounds j = ((l.eraseIdx j).map (ent k)).toArray := by
          apply Array.ext'
          rw [Array.toList_eraseIdxIfInBounds]
          simp only [List.eraseIdx_eq_take_drop_succ, List.map_append, List.map_take, List.map_drop]
        simp only [execOp, resolve, List.map_toArray, List.map_cons, List.map_nil, fr.ev hx, fr.ev hy, invoke, builtin, Builtin.delete_, Sem.run_bind, Sem.run_pure, Result.andThen_ok]
        have e2 : (l.map (ent k)).eraseIdx j = (l.eraseIdx j).map (ent k) := by simp only [List.eraseIdx_eq_take_drop_succ, List.map_append, List.map_take, List.map_drop]
        simp [run_underlying h1, MapKept.run_getObj_map hb, hck, hfk, MapKept.run_setObj_map _ hb, e, e2]
      · refine Sat.putMp s p rfl rfl rfl (fun x hx => set_heap_ne hx) (set_heap hb) ?_ ?_ (fun b' => ?_) ?_
        · exact (hn.sublist (List.Sublist.map _ (List.eraseIdx_sublist l j)))
        · rw [← hg]; simp [List.length_eraseIdx, hm]; omega
        · rw [erase_get l j a u bo hj hn, hf]
        · exact ⟨hbn.sublist (List.Sublist.map _ (List.eraseIdx_sublist l j)), fun e he => hbl e (List.mem_of_mem_eraseIdx he)⟩
end
end Go.RX
namespace Go.RX
set_option linter.unusedSimpArgs false
set_option linter.unusedVariables false
set_option linter.unnecessarySimpa false
section
variable {P : Program}
def flF (P : Program) (g : TypeId → Option (List TypeDesc)) : Nat → List Field → Option (List TypeDesc)
  | _, [] => some []
  | off, f :: fs => bif f.name != "_" && Nat.beq f.offset off then
      match g f.type with
      | some sh => bif decide (szk P f.type = some sh.length) then
          match flF P g (off + sh.length) fs with
          | some r => some (sh ++ r)
          | none => none
        else none
      | none => none
    else none
def eqfl (P : Program) : Nat → TypeId → Option (List TypeDesc)
  | 0, _ => none
  | d + 1, t => match P.underlying t with
    | some (.struct _) => bif P.stoodInHeld t then none else bif decide (agk P t = some true) then flF P (eqfl P d) 0 (P.fieldsOf t).toList else none
    | some (.array n e) => bif decide (agk P t = some true) then (match eqfl P d e, P.info? e with
      | some sh, some _ => bif decide (szk P e = some sh.length) && Nat.beq (P.cellsOf e) sh.length then some (List.replicate n sh).flatten else none
      | _, _ => none) else none
    | some u => bif decide (agk P t = some false) then some [u] else none
    | none => none
end
section
variable {P : Program} {E : World} {n : Nat} {ds : List Deferred} {st : List (Nat × Value)} {L : List SP} {d : Nat} {t t2 ty : TypeId} {x y : Operand} {pos : String} {af : Array Edge} {g : Option (Nat × Bool)}
end
end Go.RX
namespace Go.RX
set_option linter.unusedSimpArgs false
set_option linter.unusedVariables false
set_option linter.unnecessarySimpa false
open Go.MapKept
section
variable {E : World} {n : Nat} {ds : List Deferred} {st st' : List (Nat × Value)} {L L' L'' : List SP} {r : Option Nat} {P : Program} {Q : Exit → Act → World → Prop} {ops : Array Oper} {rest : List Oper}
variable {d : Nat} {ty t t2 : TypeId} {pos : String} {af : Array Edge} {g : Option (Nat × Bool)} {x y z : Operand} {v u : Value} {k : IntKind} {p q : Bool}
abbrev KVP := (Int × Int) × Value × Nat
structure KeyP (P : Program) (kt : TypeId) (k : IntKind) : Prop where
  eq : eqfl P 8 kt = some [.int k, .int k]
  ag : agk P kt = some true
  ck : ∃ f0 f1 : Field, P.underlying kt = some (.struct #[f0, f1]) ∧ P.underlying f0.type = some (.int k) ∧ P.underlying f1.type = some (.int k) ∧ agk P f0.type = some false ∧ agk P f1.type = some false ∧ f0.offset = 0 ∧ f1.offset = 1
def isIn : Option TypeDesc → IntKind → Bool
  | some (.int a), k => decide (a = k)
  | _, _ => false
def isII : Option (List TypeDesc) → IntKind → Bool
  | some [.int a, .int b], k => decide (a = k) && decide (b = k)
  | _, _ => false
theorem isIn_of {o : Option TypeDesc} {k : IntKind} (h : isIn o k = true) : o = some (.int k) := by
  unfold isIn at h
  split at h
  · simp only [decide_eq_true_eq] at h; rw [h]
  · cases h
theorem isII_of {o : Option (List TypeDesc)} {k : IntKind} (h : isII o k = true) : o = some [.int k, .int k] := by
  unfold isII at h
  split at h
  · simp only [Bool.and_eq_true, decide_eq_true_eq] at h; rw [h.1, h.2]
  · cases h
def keyPb (P : Program) (kt : TypeId) (k : IntKind) : Bool :=
  isII (eqfl P 8 kt) k && decide (agk P kt = some true) && (match P.underlying kt with
    | some (.struct fs) => (match fs.toList with
      | [f0, f1] => isIn (P.underlying f0.type) k && isIn (P.underlying f1.type) k && decide (agk P f0.type = some false) && decide (agk P f1.type = some false) && Nat.beq f0.offset 0 && Nat.beq f1.offset 1
      | _ => false)
    | _ => false)
theorem KeyP.of {kt : TypeId} (h : keyPb P kt k = true) : KeyP P kt k := by
  unfold keyPb at h
  simp only [Bool.and_eq_true, decide_eq_true_eq] at h
  obtain ⟨⟨h1, h2⟩, h3⟩ := h
  refine ⟨isII_of h1, h2, ?_⟩
  split at h3
  · rename_i fs hu
    split at h3
    · rename_i f0 f1 hf
      simp only [Bool.and_eq_true, decide_eq_true_eq] at h3
      obtain ⟨⟨⟨⟨⟨a, b⟩, c⟩, d⟩, e⟩, f⟩ := h3
      refine ⟨f0, f1, ?_, isIn_of a, isIn_of b, c, d, Nat.eq_of_beq_eq_true e, Nat.eq_of_beq_eq_true f⟩
      rw [hu]
      obtain ⟨l⟩ := fs
      simp only at hf
      rw [hf]
    · cases h3
  · cases h3
structure MapTP (P : Program) (t : TypeId) (k : IntKind) (zs : Value) : Prop where
  ex : ∃ kt vt i, P.underlying t = some (.map kt vt) ∧ KeyP P kt k ∧ P.info? vt = some i ∧ i.zero = some zs
def mapzP (P : Program) (t : TypeId) (k : IntKind) : Option Value :=
  match P.underlying t with
  | some (.map kt vt) => bif keyPb P kt k then ((P.info? vt).bind (·.zero)) else none
  | _ => none
theorem MapTP.of {zs : Value} (h : mapzP P t k = some zs) : MapTP P t k zs := by
  unfold mapzP at h
  split at h
  · rename_i kt vt hu
    cases hk : keyPb P kt k <;> rw [hk] at h
    · cases h
    · cases hi : P.info? vt with
      | none => simp [hi] at h
      | some i =>
        cases hz : i.zero with
        | none => simp [hi, hz] at h
        | some z =>
          simp [hi, hz] at h
          subst h
          exact ⟨kt, vt, i, hu, KeyP.of hk, hi, hz⟩
  · cases h
structure EsIP (l es : List KVP) : Prop where
  nd : es.Nodup
  mem : ∀ e ∈ es, e ∈ l
theorem EsIP.nil (l : List KVP) : EsIP l [] := ⟨.nil, fun e h => by cases h⟩
theorem EsIP.step {l es : List KVP} (h : EsIP l es) {e : KVP} (he : e ∈ l) (hn : e.2.2 ∉ es.map (·.2.2)) : EsIP l (es ++ [e]) :=
  ⟨by rw [List.nodup_append]; exact ⟨h.nd, by simp, fun a ha b hb hab => by
      obtain rfl : b = e := by simpa using hb
      subst hab
      exact hn (List.mem_map.2 ⟨a, ha, rfl⟩)⟩, fun a ha => by
    rcases List.mem_append.1 ha with ha | ha
    · exact h.mem a ha
    · obtain rfl : a = e := by simpa using ha
      exact he⟩
end
end Go.RX
namespace Go.Proofs.YtbfddabjbkohdaaGreat
set_option linter.unusedSimpArgs false
set_option linter.unusedVariables false
set_option linter.unnecessarySimpa false
open Go.RX
namespace Fx
theorem ag3 : agk Tryz.prog 3 = some false := by kernel_rfl
theorem sz3 : szk Tryz.prog 3 = some 1 := by kernel_rfl
theorem zr3 : zrk Tryz.prog 3 = some ([.int .i64 0]) := by kernel_rfl
theorem ty3 : tyr Tryz.prog 3 = some (1, 8, 1) := by kernel_rfl
theorem ag4 : agk Tryz.prog 4 = some false := by kernel_rfl
theorem sz4 : szk Tryz.prog 4 = some 1 := by kernel_rfl
theorem ag5 : agk Tryz.prog 5 = some false := by kernel_rfl
theorem sz5 : szk Tryz.prog 5 = some 1 := by kernel_rfl
theorem zr5 : zrk Tryz.prog 5 = some ([.int .u8 0]) := by kernel_rfl
theorem ty5 : tyr Tryz.prog 5 = some (1, 1, 1) := by kernel_rfl
theorem ag30 : agk Tryz.prog 30 = some false := by kernel_rfl
theorem sz30 : szk Tryz.prog 30 = some 1 := by kernel_rfl
theorem ag31 : agk Tryz.prog 31 = some false := by kernel_rfl
theorem sz31 : szk Tryz.prog 31 = some 1 := by kernel_rfl
theorem zr31 : zrk Tryz.prog 31 = some ([.slice none 0 0]) := by kernel_rfl
theorem ag33 : agk Tryz.prog 33 = some true := by kernel_rfl
theorem sz33 : szk Tryz.prog 33 = some 5 := by kernel_rfl
theorem ag34 : agk Tryz.prog 34 = some false := by kernel_rfl
theorem ag35 : agk Tryz.prog 35 = some false := by kernel_rfl
theorem sz35 : szk Tryz.prog 35 = some 1 := by kernel_rfl
theorem zr35 : zrk Tryz.prog 35 = some ([.int .i64 0]) := by kernel_rfl
theorem ag38 : agk Tryz.prog 38 = some false := by kernel_rfl
theorem sz38 : szk Tryz.prog 38 = some 1 := by kernel_rfl
theorem ag39 : agk Tryz.prog 39 = some false := by kernel_rfl
theorem sz39 : szk Tryz.prog 39 = some 1 := by kernel_rfl
theorem ag44 : agk Tryz.prog 44 = some false := by kernel_rfl
theorem sz44 : szk Tryz.prog 44 = some 1 := by kernel_rfl
theorem zr44 : zrk Tryz.prog 44 = some ([.slice none 0 0]) := by kernel_rfl
theorem sz46 : szk Tryz.prog 46 = some 10 := by kernel_rfl
theorem ag47 : agk Tryz.prog 47 = some false := by kernel_rfl
theorem sz47 : szk Tryz.prog 47 = some 1 := by kernel_rfl
theorem ag51 : agk Tryz.prog 51 = some true := by kernel_rfl
theorem sz51 : szk Tryz.prog 51 = some 2 := by kernel_rfl
theorem zr51 : zrk Tryz.prog 51 = some ([.int .i64 0, .int .i64 0]) := by kernel_rfl
theorem ty51 : tyr Tryz.prog 51 = some (2, 16, 2) := by kernel_rfl
theorem ag105 : agk Tryz.prog 105 = some true := by kernel_rfl
theorem sz105 : szk Tryz.prog 105 = some 7 := by kernel_rfl
theorem zr105 : zrk Tryz.prog 105 = some ([.bool false, .bool false, .bool false, .bool false, .bool false, .int .u64 0, .int .u64 0]) := by kernel_rfl
theorem ag129 : agk Tryz.prog 129 = some false := by kernel_rfl
theorem sz129 : szk Tryz.prog 129 = some 1 := by kernel_rfl
theorem sz130 : szk Tryz.prog 130 = some 32 := by kernel_rfl
theorem sz131 : szk Tryz.prog 131 = some 32 := by kernel_rfl
theorem ag143 : agk Tryz.prog 143 = some false := by kernel_rfl
theorem sz143 : szk Tryz.prog 143 = some 1 := by kernel_rfl
theorem ag148 : agk Tryz.prog 148 = some true := by kernel_rfl
theorem sz148 : szk Tryz.prog 148 = some 5 := by kernel_rfl
theorem zr148 : zrk Tryz.prog 148 = some ([.int .i64 0, .int .i64 0, .int .i64 0, .int .u64 0, .int .u64 0]) := by kernel_rfl
theorem ag190 : agk Tryz.prog 190 = some true := by kernel_rfl
theorem sz190 : szk Tryz.prog 190 = some 3 := by kernel_rfl
theorem zr190 : zrk Tryz.prog 190 = some ([.bool false, .int .i64 0, .int .i64 0]) := by kernel_rfl
theorem ag191 : agk Tryz.prog 191 = some false := by kernel_rfl
theorem sz191 : szk Tryz.prog 191 = some 1 := by kernel_rfl
theorem zr191 : zrk Tryz.prog 191 = some ([.pointer none]) := by kernel_rfl
theorem ty191 : tyr Tryz.prog 191 = some (1, 8, 1) := by kernel_rfl
theorem ag194 : agk Tryz.prog 194 = some false := by kernel_rfl
theorem sz194 : szk Tryz.prog 194 = some 1 := by kernel_rfl
theorem ag196 : agk Tryz.prog 196 = some true := by kernel_rfl
theorem sz196 : szk Tryz.prog 196 = some 7 := by kernel_rfl
theorem zr196 : zrk Tryz.prog 196 = some ([.int .i64 0, .int .i64 0, .pointer none, .bool false, .bool false, .int .u64 0, .int .u64 0]) := by kernel_rfl
theorem sz197 : szk Tryz.prog 197 = some 14 := by kernel_rfl
theorem ag205 : agk Tryz.prog 205 = some false := by kernel_rfl
theorem sz205 : szk Tryz.prog 205 = some 1 := by kernel_rfl
theorem ag207 : agk Tryz.prog 207 = some true := by kernel_rfl
theorem sz207 : szk Tryz.prog 207 = some 288 := by kernel_rfl
theorem ag208 : agk Tryz.prog 208 = some false := by kernel_rfl
theorem sz208 : szk Tryz.prog 208 = some 1 := by kernel_rfl
theorem sz218 : szk Tryz.prog 218 = some 8 := by kernel_rfl
theorem sz219 : szk Tryz.prog 219 = some 16 := by kernel_rfl
theorem ag221 : agk Tryz.prog 221 = some true := by kernel_rfl
theorem sz221 : szk Tryz.prog 221 = some 20 := by kernel_rfl
theorem zr221 : zrk Tryz.prog 221 = some ([.int .i64 0, .int .i64 0, .bool false, .bool false, .slice none 0 0, .bool false, .int .u64 0, .int .u64 0, .int .i64 0, .int .i64 0, .bool false, .bool false, .slice none 0 0, .bool false, .int .u64 0, .int .u64 0, .int .i64 0, .bool false, .int .i64 0, .slice none 0 0]) := by kernel_rfl
theorem ty221 : tyr Tryz.prog 221 = some (20, 192, 20) := by kernel_rfl
theorem ag238 : agk Tryz.prog 238 = some false := by kernel_rfl
theorem sz238 : szk Tryz.prog 238 = some 1 := by kernel_rfl
theorem zr238 : zrk Tryz.prog 238 = some ([.slice none 0 0]) := by kernel_rfl
theorem ag241 : agk Tryz.prog 241 = some true := by kernel_rfl
theorem sz241 : szk Tryz.prog 241 = some 2 := by kernel_rfl
theorem zr241 : zrk Tryz.prog 241 = some ([.int .i64 0, .int .i64 0]) := by kernel_rfl
theorem ty241 : tyr Tryz.prog 241 = some (2, 16, 2) := by kernel_rfl
theorem eqt51 : EqT Tryz.prog 51 [.int .i64, .int .i64] 2 := ⟨by kernel_rfl, by kernel_rfl, by kernel_rfl, by kernel_rfl, by kernel_rfl⟩
theorem eqt241 : EqT Tryz.prog 241 [.int .i64, .int .i64] 2 := ⟨by kernel_rfl, by kernel_rfl, by kernel_rfl, by kernel_rfl, by kernel_rfl⟩
theorem mapt143 : MapT Tryz.prog 143 .i64 (.agg ([.int .i64 0, .int .i64 0, .int .i64 0, .int .u64 0, .int .u64 0]).toArray) := MapT.of (by kernel_rfl)
theorem fk13 : fnk Tryz.prog 13 = true := by kernel_rfl
theorem fk14 : fnk Tryz.prog 14 = true := by kernel_rfl
theorem fk15 : fnk Tryz.prog 15 = true := by kernel_rfl
theorem fk16 : fnk Tryz.prog 16 = true := by kernel_rfl
theorem fk17 : fnk Tryz.prog 17 = true := by kernel_rfl
theorem fk18 : fnk Tryz.prog 18 = true := by kernel_rfl
theorem fk19 : fnk Tryz.prog 19 = true := by kernel_rfl
theorem fk20 : fnk Tryz.prog 20 = true := by kernel_rfl
theorem fk22 : fnk Tryz.prog 22 = true := by kernel_rfl
theorem fk23 : fnk Tryz.prog 23 = true := by kernel_rfl
theorem fk43 : fnk Tryz.prog 43 = true := by kernel_rfl
theorem fk49 : fnk Tryz.prog 49 = true := by kernel_rfl
theorem fk50 : fnk Tryz.prog 50 = true := by kernel_rfl
theorem fk51 : fnk Tryz.prog 51 = true := by kernel_rfl
theorem fk52 : fnk Tryz.prog 52 = true := by kernel_rfl
theorem fk53 : fnk Tryz.prog 53 = true := by kernel_rfl
theorem fk54 : fnk Tryz.prog 54 = true := by kernel_rfl
theorem fk55 : fnk Tryz.prog 55 = true := by kernel_rfl
theorem fk56 : fnk Tryz.prog 56 = true := by kernel_rfl
theorem fk57 : fnk Tryz.prog 57 = true := by kernel_rfl
theorem fk58 : fnk Tryz.prog 58 = true := by kernel_rfl
theorem fk59 : fnk Tryz.prog 59 = true := by kernel_rfl
theorem fk60 : fnk Tryz.prog 60 = true := by kernel_rfl
theorem fk61 : fnk Tryz.prog 61 = true := by kernel_rfl
theorem fk62 : fnk Tryz.prog 62 = true := by kernel_rfl
theorem fk63 : fnk Tryz.prog 63 = true := by kernel_rfl
theorem fk64 : fnk Tryz.prog 64 = true := by kernel_rfl
theorem fk65 : fnk Tryz.prog 65 = true := by kernel_rfl
theorem fk66 : fnk Tryz.prog 66 = true := by kernel_rfl
theorem fk67 : fnk Tryz.prog 67 = true := by kernel_rfl
theorem fk68 : fnk Tryz.prog 68 = true := by kernel_rfl
theorem fk69 : fnk Tryz.prog 69 = true := by kernel_rfl
theorem fk70 : fnk Tryz.prog 70 = true := by kernel_rfl
theorem fk71 : fnk Tryz.prog 71 = true := by kernel_rfl
theorem fk72 : fnk Tryz.prog 72 = true := by kernel_rfl
theorem fk73 : fnk Tryz.prog 73 = true := by kernel_rfl
theorem fk74 : fnk Tryz.prog 74 = true := by kernel_rfl
theorem fk75 : fnk Tryz.prog 75 = true := by kernel_rfl
theorem fk76 : fnk Tryz.prog 76 = true := by kernel_rfl
theorem fk77 : fnk Tryz.prog 77 = true := by kernel_rfl
theorem fk79 : fnk Tryz.prog 79 = true := by kernel_rfl
theorem fk101 : fnk Tryz.prog 101 = true := by kernel_rfl
theorem fk102 : fnk Tryz.prog 102 = true := by kernel_rfl
theorem fk103 : fnk Tryz.prog 103 = true := by kernel_rfl
theorem fk104 : fnk Tryz.prog 104 = true := by kernel_rfl
theorem fk108 : fnk Tryz.prog 108 = true := by kernel_rfl
theorem fk109 : fnk Tryz.prog 109 = true := by kernel_rfl
theorem fk110 : fnk Tryz.prog 110 = true := by kernel_rfl
theorem fk111 : fnk Tryz.prog 111 = true := by kernel_rfl
theorem fk112 : fnk Tryz.prog 112 = true := by kernel_rfl
theorem fk113 : fnk Tryz.prog 113 = true := by kernel_rfl
theorem fk114 : fnk Tryz.prog 114 = true := by kernel_rfl
theorem fk115 : fnk Tryz.prog 115 = true := by kernel_rfl
theorem fk116 : fnk Tryz.prog 116 = true := by kernel_rfl
theorem fk117 : fnk Tryz.prog 117 = true := by kernel_rfl
theorem fk118 : fnk Tryz.prog 118 = true := by kernel_rfl
theorem fk119 : fnk Tryz.prog 119 = true := by kernel_rfl
theorem fk120 : fnk Tryz.prog 120 = true := by kernel_rfl
theorem fk121 : fnk Tryz.prog 121 = true := by kernel_rfl
theorem fk122 : fnk Tryz.prog 122 = true := by kernel_rfl
theorem fk123 : fnk Tryz.prog 123 = true := by kernel_rfl
theorem fk124 : fnk Tryz.prog 124 = true := by kernel_rfl
theorem fk125 : fnk Tryz.prog 125 = true := by kernel_rfl
theorem fk126 : fnk Tryz.prog 126 = true := by kernel_rfl
theorem fk127 : fnk Tryz.prog 127 = true := by kernel_rfl
theorem fk128 : fnk Tryz.prog 128 = true := by kernel_rfl
theorem fk129 : fnk Tryz.prog 129 = true := by kernel_rfl
theorem fk130 : fnk Tryz.prog 130 = true := by kernel_rfl
theorem fk131 : fnk Tryz.prog 131 = true := by kernel_rfl
theorem fk132 : fnk Tryz.prog 132 = true := by kernel_rfl
theorem fk133 : fnk Tryz.prog 133 = true := by kernel_rfl
theorem fk134 : fnk Tryz.prog 134 = true := by kernel_rfl
theorem fk135 : fnk Tryz.prog 135 = true := by kernel_rfl
theorem fk136 : fnk Tryz.prog 136 = true := by kernel_rfl
theorem fk137 : fnk Tryz.prog 137 = true := by kernel_rfl
theorem fk138 : fnk Tryz.prog 138 = true := by kernel_rfl
theorem fk139 : fnk Tryz.prog 139 = true := by kernel_rfl
theorem fk140 : fnk Tryz.prog 140 = true := by kernel_rfl
theorem fk141 : fnk Tryz.prog 141 = true := by kernel_rfl
theorem fk142 : fnk Tryz.prog 142 = true := by kernel_rfl
theorem fk143 : fnk Tryz.prog 143 = true := by kernel_rfl
theorem fk144 : fnk Tryz.prog 144 = true := by kernel_rfl
theorem fk145 : fnk Tryz.prog 145 = true := by kernel_rfl
theorem fk146 : fnk Tryz.prog 146 = true := by kernel_rfl
theorem fk147 : fnk Tryz.prog 147 = true := by kernel_rfl
theorem fk149 : fnk Tryz.prog 149 = true := by kernel_rfl
theorem fk150 : fnk Tryz.prog 150 = true := by kernel_rfl
theorem fk152 : fnk Tryz.prog 152 = true := by kernel_rfl
theorem fk167 : fnk Tryz.prog 167 = true := by kernel_rfl
theorem fk168 : fnk Tryz.prog 168 = true := by kernel_rfl
theorem fk169 : fnk Tryz.prog 169 = true := by kernel_rfl
theorem fk170 : fnk Tryz.prog 170 = true := by kernel_rfl
theorem fk171 : fnk Tryz.prog 171 = true := by kernel_rfl
theorem fk172 : fnk Tryz.prog 172 = true := by kernel_rfl
theorem fk173 : fnk Tryz.prog 173 = true := by kernel_rfl
theorem fk175 : fnk Tryz.prog 175 = true := by kernel_rfl
theorem fk176 : fnk Tryz.prog 176 = true := by kernel_rfl
theorem fk177 : fnk Tryz.prog 177 = true := by kernel_rfl
theorem fk178 : fnk Tryz.prog 178 = true := by kernel_rfl
theorem fk179 : fnk Tryz.prog 179 = true := by kernel_rfl
theorem fk180 : fnk Tryz.prog 180 = true := by kernel_rfl
theorem fk181 : fnk Tryz.prog 181 = true := by kernel_rfl
theorem fk182 : fnk Tryz.prog 182 = true := by kernel_rfl
theorem fk183 : fnk Tryz.prog 183 = true := by kernel_rfl
theorem fk184 : fnk Tryz.prog 184 = true := by kernel_rfl
theorem fk185 : fnk Tryz.prog 185 = true := by kernel_rfl
theorem fk186 : fnk Tryz.prog 186 = true := by kernel_rfl
theorem fk187 : fnk Tryz.prog 187 = true := by kernel_rfl
theorem fk195 : fnk Tryz.prog 195 = true := by kernel_rfl
theorem fk196 : fnk Tryz.prog 196 = true := by kernel_rfl
theorem fk197 : fnk Tryz.prog 197 = true := by kernel_rfl
theorem fk198 : fnk Tryz.prog 198 = true := by kernel_rfl
theorem fk199 : fnk Tryz.prog 199 = true := by kernel_rfl
theorem fk200 : fnk Tryz.prog 200 = true := by kernel_rfl
theorem fk201 : fnk Tryz.prog 201 = true := by kernel_rfl
theorem fk203 : fnk Tryz.prog 203 = true := by kernel_rfl
theorem fk215 : fnk Tryz.prog 215 = true := by kernel_rfl
theorem mixed : Tryz.prog.follows .mixedOrders = true := by kernel_rfl
theorem bd13_18  : Tryz.prog.built 51 [(0, .int .i64 0), (1, .int .i64 4)] = some #[.int .i64 0, .int .i64 4] := by kernel_rfl
theorem bs13_19 (x1 : Int) (x2 : Int) : bltS Tryz.prog 47 1 [(0, .agg #[.int .i64 x1, .int .i64 x2])] = some (51, [.int .i64 x1, .int .i64 x2]) := by kernel_rfl
theorem bs13_22  : bltS Tryz.prog 31 1 [(0, .int .u8 97)] = some (5, [.int .u8 97]) := by kernel_rfl
theorem bd13_25  : Tryz.prog.built 51 [(0, .int .i64 0), (1, .int .i64 5)] = some #[.int .i64 0, .int .i64 5] := by kernel_rfl
theorem bs13_38 (x3 : Int) (x4 : Int) : bltS Tryz.prog 47 1 [(0, .agg #[.int .i64 x3, .int .i64 x4])] = some (51, [.int .i64 x3, .int .i64 x4]) := by kernel_rfl
theorem bs13_44 (x5 : Int) (x6 : Int) : bltS Tryz.prog 47 1 [(0, .agg #[.int .i64 x5, .int .i64 x6])] = some (51, [.int .i64 x5, .int .i64 x6]) := by kernel_rfl
theorem bs15_25 (x1 : Int) (x2 : Int) (x3 : Int) (x4 : Int) (x5 : Option Addr) (x6 : Nat) (x7 : Nat) : bltS Tryz.prog 22 1 [(0, .agg #[.int .i64 x1, .int .i64 x2, .int .i64 x3, .int .u64 x4, .slice x5 x6 x7])] = some (33, [.int .i64 x1, .int .i64 x2, .int .i64 x3, .int .u64 x4, .slice x5 x6 x7]) := by kernel_rfl
theorem bd16_3 (x1 : Option Addr) (x2 : Option Addr) : Tryz.prog.built 41 [(0, .pointer x1), (1, .pointer x2)] = some #[.pointer x1, .pointer x2] := by kernel_rfl
theorem bs17_31  : bltS Tryz.prog 31 0 [] = some (5, []) := by kernel_rfl
theorem bd18_15 (x1 : Option Addr) (x2 : Int) (x3 : Option Nat) : Tryz.prog.built 145 [(0, .pointer x1), (1, .int .i64 x2), (2, .map x3)] = some #[.pointer x1, .int .i64 x2, .map x3] := by kernel_rfl
theorem bd19_92 (x1 : Int) (x2 : Int) (x3 : Int) (x4 : Int) (x5 : Int) : Tryz.prog.built 148 [(0, .int .i64 x1), (1, .int .i64 x2), (2, .int .i64 x3), (3, .int .u64 x4), (4, .int .u64 x5)] = some #[.int .i64 x1, .int .i64 x2, .int .i64 x3, .int .u64 x4, .int .u64 x5] := by kernel_rfl
theorem bd19_131 (x6 : Int) (x7 : Int) (x8 : Int) (x9 : Int) (x10 : Int) : Tryz.prog.built 148 [(0, .int .i64 x6), (1, .int .i64 x7), (2, .int .i64 x8), (3, .int .u64 x9), (4, .int .u64 x10)] = some #[.int .i64 x6, .int .i64 x7, .int .i64 x8, .int .u64 x9, .int .u64 x10] := by kernel_rfl
theorem bd22_24 (x1 : Int) (x2 : Int) : Tryz.prog.built 51 [(0, .int .i64 x1), (1, .int .i64 x2)] = some #[.int .i64 x1, .int .i64 x2] := by kernel_rfl
theorem bs22_25 (x3 : Int) (x4 : Int) : bltS Tryz.prog 47 1 [(0, .agg #[.int .i64 x3, .int .i64 x4])] = some (51, [.int .i64 x3, .int .i64 x4]) := by kernel_rfl
theorem bd43_20  : Tryz.prog.built 105 [] = some #[.bool false, .bool false, .bool false, .bool false, .bool false, .int .u64 0, .int .u64 0] := by kernel_rfl
theorem bd43_40 (x1 : Int) (x2 : Int) : Tryz.prog.built 105 [(0, .bool true), (5, .int .u64 x1), (6, .int .u64 x2)] = some #[.bool true, .bool false, .bool false, .bool false, .bool false, .int .u64 x1, .int .u64 x2] := by kernel_rfl
theorem bs57_109 (x2 : Int) (x3 : Int) (x4 : Bool) (x5 : Bool) (x6 : Option Addr) (x7 : Nat) (x8 : Nat) (x9 : Bool) (x10 : Int) (x11 : Int) (x12 : Int) (x13 : Int) (x14 : Bool) (x15 : Bool) (x16 : Option Addr) (x17 : Nat) (x18 : Nat) (x19 : Bool) (x20 : Int) (x21 : Int) (x22 : Int) (x23 : Bool) (x24 : Int) (x25 : Option Addr) (x26 : Nat) (x27 : Nat) : bltS Tryz.prog 129 1 [(0, .agg #[.int .i64 x2, .int .i64 x3, .bool x4, .bool x5, .slice x6 x7 x8, .bool x9, .int .u64 x10, .int .u64 x11, .int .i64 x12, .int .i64 x13, .bool x14, .bool x15, .slice x16 x17 x18, .bool x19, .int .u64 x20, .int .u64 x21, .int .i64 x22, .bool x23, .int .i64 x24, .slice x25 x26 x27])] = some (221, [.int .i64 x2, .int .i64 x3, .bool x4, .bool x5, .slice x6 x7 x8, .bool x9, .int .u64 x10, .int .u64 x11, .int .i64 x12, .int .i64 x13, .bool x14, .bool x15, .slice x16 x17 x18, .bool x19, .int .u64 x20, .int .u64 x21, .int .i64 x22, .bool x23, .int .i64 x24, .slice x25 x26 x27]) := by kernel_rfl
theorem bd59_73 (x1 : Int) : Tryz.prog.built 190 [(0, .bool true), (1, .int .i64 x1), (2, .int .i64 0)] = some #[.bool true, .int .i64 x1, .int .i64 0] := by kernel_rfl
theorem bd72_40  : Tryz.prog.built 148 [] = some #[.int .i64 0, .int .i64 0, .int .i64 0, .int .u64 0, .int .u64 0] := by kernel_rfl
theorem bd109_5  : Tryz.prog.built 199 [] = some #[.int .i64 0, .int .i64 0, .pointer none, .bool false, .bool false, .int .u64 0, .int .u64 0, .int .i64 0, .int .i64 0, .pointer none, .bool false, .bool false, .int .u64 0, .int .u64 0, .bool false, .int .i64 0, .slice none 0 0] := by kernel_rfl
theorem bs114_21 (x1 : Int) : bltS Tryz.prog 44 1 [(0, .int .i64 x1)] = some (3, [.int .i64 x1]) := by kernel_rfl
theorem bs133_112 (x1 : Int) : bltS Tryz.prog 44 1 [(0, .int .i64 x1)] = some (3, [.int .i64 x1]) := by kernel_rfl
theorem bs133_133 (x2 : Option Addr) : bltS Tryz.prog 208 1 [(0, .pointer x2)] = some (191, [.pointer x2]) := by kernel_rfl
theorem bs134_114 (x2 : Int) : bltS Tryz.prog 44 1 [(0, .int .i64 x2)] = some (3, [.int .i64 x2]) := by kernel_rfl
theorem bs134_139 (x3 : Int) (x4 : Int) (x5 : Bool) (x6 : Bool) (x7 : Option Addr) (x8 : Nat) (x9 : Nat) (x10 : Bool) (x11 : Int) (x12 : Int) (x13 : Int) (x14 : Int) (x15 : Bool) (x16 : Bool) (x17 : Option Addr) (x18 : Nat) (x19 : Nat) (x20 : Bool) (x21 : Int) (x22 : Int) (x23 : Int) (x24 : Bool) (x25 : Int) (x26 : Option Addr) (x27 : Nat) (x28 : Nat) : bltS Tryz.prog 129 1 [(0, .agg #[.int .i64 x3, .int .i64 x4, .bool x5, .bool x6, .slice x7 x8 x9, .bool x10, .int .u64 x11, .int .u64 x12, .int .i64 x13, .int .i64 x14, .bool x15, .bool x16, .slice x17 x18 x19, .bool x20, .int .u64 x21, .int .u64 x22, .int .i64 x23, .bool x24, .int .i64 x25, .slice x26 x27 x28])] = some (221, [.int .i64 x3, .int .i64 x4, .bool x5, .bool x6, .slice x7 x8 x9, .bool x10, .int .u64 x11, .int .u64 x12, .int .i64 x13, .int .i64 x14, .bool x15, .bool x16, .slice x17 x18 x19, .bool x20, .int .u64 x21, .int .u64 x22, .int .i64 x23, .bool x24, .int .i64 x25, .slice x26 x27 x28]) := by kernel_rfl
theorem bd142_24 (x1 : Int) (x2 : Int) : Tryz.prog.built 241 [(0, .int .i64 x1), (1, .int .i64 x2)] = some #[.int .i64 x1, .int .i64 x2] := by kernel_rfl
theorem bs142_25 (x3 : Int) (x4 : Int) : bltS Tryz.prog 238 1 [(0, .agg #[.int .i64 x3, .int .i64 x4])] = some (241, [.int .i64 x3, .int .i64 x4]) := by kernel_rfl
theorem bs149_5  : bltS Tryz.prog 47 0 [] = some (51, []) := by kernel_rfl
theorem bs150_10 (x1 : Int) (x2 : Int) : bltS Tryz.prog 47 1 [(0, .agg #[.int .i64 x1, .int .i64 x2])] = some (51, [.int .i64 x1, .int .i64 x2]) := by kernel_rfl
theorem bd151_31 (x1 : Int) (x2 : Int) : Tryz.prog.built 51 [(0, .int .i64 x1), (1, .int .i64 x2)] = some #[.int .i64 x1, .int .i64 x2] := by kernel_rfl
theorem bd168_12 (x1 : Option Addr) (x2 : Nat) (x3 : Nat) : Tryz.prog.built 263 [(0, .slice x1 x2 x3), (5, .bool true)] = some #[.slice x1 x2 x3, .int .i64 0, .int .i64 0, .int .u64 0, .int .u64 0, .bool true] := by kernel_rfl
theorem bs170_17 (x1 : Int) : bltS Tryz.prog 44 1 [(0, .int .i64 x1)] = some (3, [.int .i64 x1]) := by kernel_rfl
theorem bd171_36 (x1 : Int) (x2 : Int) : Tryz.prog.built 190 [(0, .bool true), (1, .int .i64 x1), (2, .int .i64 x2)] = some #[.bool true, .int .i64 x1, .int .i64 x2] := by kernel_rfl
theorem bs171_47 (x3 : Option Addr) : bltS Tryz.prog 208 1 [(0, .pointer x3)] = some (191, [.pointer x3]) := by kernel_rfl
theorem bs179_5  : bltS Tryz.prog 44 0 [] = some (3, []) := by kernel_rfl
theorem bs181_55  : bltS Tryz.prog 31 1 [(0, .int .u8 1)] = some (5, [.int .u8 1]) := by kernel_rfl
theorem bs182_71  : bltS Tryz.prog 31 1 [(0, .int .u8 1)] = some (5, [.int .u8 1]) := by kernel_rfl
theorem bs184_12 (x1 : Int) (x2 : Int) : bltS Tryz.prog 238 1 [(0, .agg #[.int .i64 x1, .int .i64 x2])] = some (241, [.int .i64 x1, .int .i64 x2]) := by kernel_rfl
theorem bs201_10 (x1 : Int) : bltS Tryz.prog 44 1 [(0, .int .i64 x1)] = some (3, [.int .i64 x1]) := by kernel_rfl
theorem bd216_16 (x1 : Int) (x2 : Int) : Tryz.prog.built 241 [(0, .int .i64 x1), (1, .int .i64 x2)] = some #[.int .i64 x1, .int .i64 x2] := by kernel_rfl
end Fx
end Go.Proofs.YtbfddabjbkohdaaGreat
namespace Go.RX
set_option linter.unusedSimpArgs false
set_option linter.unusedVariables false
set_option linter.unnecessarySimpa false
section
variable {E : World} {n : Nat} {ds : List Deferred} {st st' : List (Nat × Value)} {L L' : List SP} {r : Option Nat} {P : Program} {Q : Exit → Act → World → Prop} {ops : Array Oper} {rest : List Oper}
variable {d : Nat} {ty t t2 : TypeId} {pos : String} {af : Array Edge} {g : Option (Nat × Bool)} {x y z : Operand} {v u : Value} {k : IntKind} {p q : Bool}
theorem Hd.clearTail {e sz m cap l : Nat} {zs : List Value} {ad : Option Addr} {us : List Value} (ht : P.underlying t = some (.slice e)) (hz : zrk P e = some zs) (hzl : zs.length = sz) (hz1 : zs.all (·.oneCell') = true)
    (hx : evo st x = some (.slice (cutA ad sz l cap) (m - l) (cap - l))) (hp : Pick L (own e sz ad m cap us) L') (hl : l ≤ m)
    (K : Hd E n ds st (own e sz ad l cap (us.take (l * sz)) :: L') (LW r P ops Q rest)) :
    Hd E n ds st L (LW r P ops Q (⟨none, .call ⟨.builtin .clear, #[x], #[t]⟩, ty, pos, af, none⟩ :: rest)) :=
  Hd.op rfl (by simp) fun a w f s => by
    have s' : Sat E (own e sz ad m cap us :: L') w := s.mp fun _ k => hp.sep k
    have hsplit : us = us.take (l * sz) ++ us.drop (l * sz) := (List.take_append_drop _ _).symm
    have hul : us.length = m * sz := by obtain ⟨_, _, _, _, _, _, _, _, ⟨h, _⟩, _⟩ := s'; exact h
    have hlm : l * sz ≤ m * sz := Nat.mul_le_mul_right _ hl
    have htl : (us.take (l * sz)).length = l * sz := by rw [List.length_take, hul]; omega
    have done : ∀ w', Sat E (own e sz ad m cap us :: L') w' → Sat E (own e sz ad l cap (us.take (l * sz)) :: L') w' := fun w' s => s.mp fun h hh => sep_head hh fun k x => own_take hl htl (by rw [List.take_append_drop]; exact x)
    by_cases h0 : m - l = 0
    · refine ⟨.tuple #[], w, ?_, K _ _ f (done w s')⟩
      simp only [execOp, resolve, List.map_toArray, List.map_cons, List.map_nil, f.ev hx, invoke, builtin, Sem.run_bind, Sem.run_pure, Result.andThen_ok]
      rw [h0]
      cases cutA ad sz l cap <;> simp [Builtin.clear_, run_underlying ht]
    obtain ⟨hos, htp, hou, k1, k2, dd, s1, s2, ⟨_, hv⟩, hL⟩ := s'
    rcases hv with ⟨rfl, rfl⟩ | ⟨b, off, sp, rfl, hmc, hcm, hsp, hpt⟩
    · omega
    have hA : cutA (some ⟨b, off, none⟩) sz l cap = some ⟨b, off + l * sz, none⟩ := by
      unfold cutA; rw [if_neg (by omega)]; simp [add_flat]
    have s0 : Sat E (seg b off (us ++ sp) :: L') w := ⟨hos, htp, hou, k1, k2, dd, s1, s2, hpt, hL⟩
    obtain ⟨z, hzr, hzc⟩ := run_zero' (P := P) hz w
    have hzn : (Builtin.zeroCells z.cells (m - l)).toList.length = (m - l) * sz := by rw [hzc]; simp [Builtin.zeroCells, hzl]
    have hzo : ∀ v ∈ (Builtin.zeroCells z.cells (m - l)).toList, v.oneCell' = true := fun v hv => by
      rw [hzc] at hv
      simp only [Builtin.zeroCells, Array.toList_map, List.mem_map, Array.toList_range, List.mem_range, List.size_toArray] at hv
      obtain ⟨i, hi, rfl⟩ := hv
      have hz0 : 0 < zs.length := by
        rcases Nat.eq_zero_or_pos zs.length with h | h
        · rw [h, Nat.mul_zero] at hi; omega
        · exact h
      have hlt : i % zs.length < zs.length := Nat.mod_lt _ hz0
      rw [List.all_eq_true] at hz1
      rw [getElem!_pos zs.toArray _ (by simpa using hlt)]
      exact hz1 _ (by simp)
    by_cases hne : 0 < (us ++ sp).length
    · obtain ⟨w', hst, s'⟩ := Sat.storeSeg (P := P) (q := l * sz) (vs := (Builtin.zeroCells z.cells (m - l)).toList) s0 (by rw [List.length_append, hzn, hul, Nat.sub_mul]; omega) hne hzo
      refine ⟨.tuple #[], w', ?_, K _ _ f (s'.mp fun h hh => sep_head hh fun k x => ?_)⟩
      · simp only [execOp, resolve, List.map_toArray, List.map_cons, List.map_nil, f.ev hx, invoke, builtin, Sem.run_bind, Sem.run_pure, Result.andThen_ok, hA]
        obtain ⟨q, hq⟩ := Nat.exists_eq_succ_of_ne_zero h0
        rw [hq] at hst ⊢
        simp [Builtin.clear_, run_underlying ht, hzr, hst]
      · have e1 : (us ++ sp).take (l * sz) = us.take (l * sz) := by rw [List.take_append_of_le_length (by rw [hul]; omega)]
        have e2 : (us ++ sp).drop (l * sz + (Builtin.zeroCells z.cells (m - l)).toList.length) = sp := by
          have e3 : l * sz + (m - l) * sz = us.length := by rw [hul, Nat.sub_mul]; omega
          rw [hzn, e3, List.drop_left]
        rw [e1, e2, List.append_assoc] at x
        refine ⟨htl, .inr ⟨b, off, (Builtin.zeroCells z.cells (m - l)).toList ++ sp, rfl, by omega, hcm, ?_, x⟩⟩
        rw [List.length_append, hzn, hsp, ← Nat.add_mul]; congr 1; omega
    · have hu : us.length = 0 := by simp at hne ⊢; simp [hne]
      have hsz : sz = 0 := by
        rw [hul] at hu
        rcases Nat.eq_zero_or_pos sz with h | h
        · exact h
        · have := Nat.mul_pos (show 0 < m by omega) h; omega
      have hzz : zs = [] := List.eq_nil_of_length_eq_zero (by omega)
      refine ⟨.tuple #[], w, ?_, K _ _ f (done w ⟨hos, htp, hou, k1, k2, dd, s1, s2, ⟨hul, .inr ⟨b, off, sp, rfl, hmc, hcm, hsp, hpt⟩⟩, hL⟩)⟩
      simp only [execOp, resolve, List.map_toArray, List.map_cons, List.map_nil, f.ev hx, invoke, builtin, Sem.run_bind, Sem.run_pure, Result.andThen_ok, hA]
      obtain ⟨q, hq⟩ := Nat.exists_eq_succ_of_ne_zero h0
      have hze : (Builtin.zeroCells z.cells (m - l)).toList = [] := List.eq_nil_of_length_eq_zero (by rw [hzn, hsz, Nat.mul_zero])
      rw [hq] at hze ⊢
      simp [Builtin.clear_, run_underlying ht, hzr, hze, storeCells]
end
section
variable {E : World} {n : Nat} {ds : List Deferred} {st st' : List (Nat × Value)} {L L' : List SP} {r : Option Nat} {P : Program} {Q : Exit → Act → World → Prop} {ops : Array Oper} {rest : List Oper}
variable {d : Nat} {ty t t2 : TypeId} {pos : String} {af : Array Edge} {x y : Operand} {v : Value} {k : IntKind}
theorem Hd.copyOwn {e bytes m cap q dl dc sl sc : Nat} {ad sad : Option Addr} {us vs : List Value} (ht : P.underlying t = some (.slice e)) (hi : tyr P e = some (1, bytes, 1))
    (hx : evo st x = some (.slice (cutA ad 1 q cap) dl dc)) (hy : evo st y = some (.slice sad sl sc)) (hp : Pick L (own e 1 ad m cap us) L') (hR : RdS L 1 sad sl vs) (hq : q + dl ≤ m) (h1 : ∀ u ∈ vs, u.oneCell' = true)
    (K : Hd E n ds ((d, .int .i64 ((min sl dl : Nat) : Int)) :: st) (own e 1 ad m cap (us.take q ++ vs.take (min sl dl) ++ us.drop (q + min sl dl)) :: L') (LW r P ops Q rest)) (hd : d < n := by decide) :
    Hd E n ds st L (LW r P ops Q (⟨some d, .call ⟨.builtin .copy, #[x, y], #[t, t2]⟩, ty, pos, af, none⟩ :: rest)) :=
  Hd.op rfl (by simp) fun a w f s => by
    obtain ⟨ti, zv, h1', h2', h3', h4', h5'⟩ := tyr_parts hi
    have hsz : (P.info? e).map (·.size) = some 1 := by rw [h1']; simp [h3']
    obtain ⟨hvl, hsrc⟩ := hR _ s.2.2.2
    have s' : Sat E (own e 1 ad m cap us :: L') w := s.mp fun _ k => hp.sep k
    obtain ⟨hos, htp, hou, k1, k2, dd, s1, s2, ⟨hul, hv⟩, hL⟩ := s'
    by_cases h0 : min sl dl = 0
    · refine ⟨.int .i64 0, w, ?_, ?_⟩
      · have hrun := run_copy_none (P := P) w t t2 ty e (cutA ad 1 q cap) sad dl dc sl sc ht hsz h0
        simp only [execOp, resolve, List.map_toArray, List.map_cons, List.map_nil, f.ev hx, f.ev hy, invoke, builtin, Sem.run_bind, Sem.run_pure, Result.andThen_ok, hrun]
        rfl
      · rw [h0] at K
        refine K _ _ (f.put hd _) ⟨hos, htp, hou, k1, k2, dd, s1, s2, ?_, hL⟩
        simpa using ⟨hul, hv⟩
    · have hds : dl ≠ 0 := fun h => h0 (by rw [h]; simp)
      have hsl : sl ≠ 0 := fun h => h0 (by rw [h]; simp)
      rcases hv with ⟨rfl, rfl⟩ | ⟨b, off, sp, rfl, hmc, hcm, hsp, hpt⟩
      · omega
      have hA : cutA (some ⟨b, off, none⟩) 1 q cap = some ⟨b, off + q, none⟩ := by
        unfold cutA; rw [if_neg (by omega)]; simp [add_flat]
      obtain ⟨sb, so, rfl, hsc⟩ : ∃ sb so, sad = some ⟨sb, so, none⟩ ∧ ∀ j v, vs[j]? = some v → w.cell? ⟨sb, so + j, none⟩ = some v := by
        rcases hsrc with h | ⟨sb, so, e, hc⟩
        · omega
        · exact ⟨sb, so, e, fun j v hj => by obtain ⟨_, hb⟩ := hc j v hj; exact cell_hp hb⟩
      have hnl : (vs.take (min sl dl)).length = min sl dl * 1 := by rw [List.length_take, hvl]; omega
      have hf := run_firstCells_some (P := P) w 1 (min sl dl) ⟨sb, so, none⟩ sl sc (vs.take (min sl dl)) hnl (fun j v hj => by
        rw [add_flat]
        refine hsc j v ?_
        have hj2 := (List.getElem?_eq_some_iff.1 hj).1
        rw [List.length_take] at hj2
        rwa [List.getElem?_take_of_lt (by omega)] at hj)
      have s0 : Sat E (seg b off (us ++ sp) :: L') w := ⟨hos, htp, hou, k1, k2, dd, s1, s2, hpt, hL⟩
      have hul' : us.length = m := by omega
      obtain ⟨w', hst, s''⟩ := Sat.storeSeg (P := P) (q := q) (vs := vs.take (min sl dl)) s0 (by rw [List.length_append, hnl]; omega) (by rw [List.length_append]; omega) (fun u hu => h1 u (List.mem_of_mem_take hu))
      refine ⟨.int .i64 ((min sl dl : Nat) : Int), w', ?_, K _ _ (f.put hd _) (s''.mp fun h hh => sep_head hh fun k x => ?_)⟩
      · have hun : (Builtin.copy_ #[t, t2] ty #[.slice (some ⟨b, off + q, none⟩) dl dc, .slice (some ⟨sb, so, none⟩) sl sc]).run P w = .ok (goInt (min sl dl : Nat)) w' := by
          have hm : Nat.min sl dl = min sl dl := rfl
          simp [Builtin.copy_, run_underlying ht, sizeOf, typeInfo, h1', Builtin.lenOf, h3', hm, hf, hst]
        rw [hA] at hx
        simp only [execOp, resolve, List.map_toArray, List.map_cons, List.map_nil, f.ev hx, f.ev hy, invoke, builtin, Sem.run_bind, Sem.run_pure, Result.andThen_ok, hun]
        rfl
      · rw [hnl, Nat.mul_one] at x
        have htot : (us.take q ++ vs.take (min sl dl) ++ us.drop (q + min sl dl)).length = m * 1 := by
          simp only [List.length_append, List.length_take, List.length_drop, hul', hvl]; omega
        refine ⟨htot, .inr ⟨b, off, sp, rfl, hmc, hcm, hsp, ?_⟩⟩
        rw [List.take_append_of_le_length (by omega), List.drop_append_of_le_length (by omega)] at x
        simpa only [List.append_assoc] using x
end
section
variable {P : Program} {E : World} {n : Nat} {ds : List Deferred} {st : List (Nat × Value)} {L : List SP} {ops : Array Oper} {C : World → Prop} {Kq : Act → Prop} {p : Bool}
theorem wpQuiet_append {l2 : List Oper} : ∀ {l1 : List Oper} {a : Act}, wpQuiet P ops C (fun a' => wpQuiet P ops C Kq l2 a') l1 a → wpQuiet P ops C Kq (l1 ++ l2) a
  | [], _, h => h
  | o :: r, a, h => by
    simp only [List.cons_append]
    unfold wpQuiet at h ⊢
    split
    · rename_i hw
      rw [if_pos hw] at h
      obtain ⟨v, h1, h2⟩ := h
      exact ⟨v, h1, wpQuiet_append h2⟩
    · rename_i hw
      rw [if_neg hw] at h
      exact wpQuiet_append h
theorem Hq.andg {l : List Oper} (m gd dd : Nat) (sk : List (Nat × Value)) {q : Bool} (hv : look st gd = some (.bool p)) (_hk : sub st sk)
    (hT : p = true → Hq n ds ((gd, .bool true) :: st) (QW P ops C (fun a => Fr n ds ((dd, .bool q) :: sk) a) (l.take m)))
    (hF : p = false → Hq n ds ((gd, .bool false) :: st) (QW P ops C (fun a => Fr n ds ((dd, .bool false) :: sk) a) (l.take m)))
    (K : Hq n ds ((dd, .bool (p && q)) :: sk) (QW P ops C Kq (l.drop m))) : Hq n ds st (QW P ops C Kq l) := fun a f => by
  have h : wpQuiet P ops C (fun a' => wpQuiet P ops C Kq (l.drop m) a') (l.take m) a := by
    have h1 : wpQuiet P ops C (fun a => Fr n ds ((dd, .bool (p && q)) :: sk) a) (l.take m) a :=
      (Hq.part hv (fun hp => by subst hp; exact hT rfl) (fun hp => by subst hp; exact hF rfl) : Hq n ds st (QW P ops C (fun a => Fr n ds ((dd, .bool (p && q)) :: sk) a) (l.take m))) a f
    exact wpQuiet_mono' h1 fun a f => K a f
  have := wpQuiet_append h
  rwa [List.take_append_drop] at this
where
  wpQuiet_mono' {K1 K2 : Act → Prop} : ∀ {l : List Oper} {a : Act}, wpQuiet P ops C K1 l a → (∀ a, K1 a → K2 a) → wpQuiet P ops C K2 l a
    | [], _, h, hk => hk _ h
    | o :: r, a, h, hk => by
      unfold wpQuiet at h ⊢
      split
      · rename_i hw
        rw [if_pos hw] at h
        obtain ⟨v, h1, h2⟩ := h
        exact ⟨v, h1, wpQuiet_mono' h2 hk⟩
      · rename_i hw
        rw [if_neg hw] at h
        exact wpQuiet_mono' h hk
theorem Hq.org {l : List Oper} (m gd dd : Nat) (sk : List (Nat × Value)) {q : Bool} (hv : look st gd = some (.bool p)) (_hk : sub st sk)
    (hT : p = true → Hq n ds ((gd, .bool true) :: st) (QW P ops C (fun a => Fr n ds ((dd, .bool true) :: sk) a) (l.take m)))
    (hF : p = false → Hq n ds ((gd, .bool false) :: st) (QW P ops C (fun a => Fr n ds ((dd, .bool q) :: sk) a) (l.take m)))
    (K : Hq n ds ((dd, .bool (p || q)) :: sk) (QW P ops C Kq (l.drop m))) : Hq n ds st (QW P ops C Kq l) := fun a f => by
  have h : wpQuiet P ops C (fun a' => wpQuiet P ops C Kq (l.drop m) a') (l.take m) a := by
    have h1 : wpQuiet P ops C (fun a => Fr n ds ((dd, .bool (p || q)) :: sk) a) (l.take m) a :=
      (Hq.part hv (fun hp => by subst hp; exact hT rfl) (fun hp => by subst hp; exact hF rfl) : Hq n ds st (QW P ops C (fun a => Fr n ds ((dd, .bool (p || q)) :: sk) a) (l.take m))) a f
    exact Hq.andg.wpQuiet_mono' h1 fun a f => K a f
  have := wpQuiet_append h
  rwa [List.take_append_drop] at this
theorem Hq.mend {st' : List (Nat × Value)} (hs : sub st st') : Hq n ds st (QW P ops C (fun a => Fr n ds st' a) []) := fun _ f => f.sub hs
end
section
variable {E : World} {n : Nat} {ds : List Deferred} {st st' : List (Nat × Value)} {L L' : List SP} {r : Option Nat} {P : Program} {Q : Exit → Act → World → Prop} {ops : Array Oper} {rest : List Oper}
variable {d : Nat} {ty t t2 : TypeId} {pos : String} {af : Array Edge} {g : Option (Nat × Bool)} {x y z : Operand} {v u : Value} {k : IntKind} {p q : Bool}
theorem sep_right {M N N' : List SP} {k : PH} (h : ∀ k, sep N k → sep N' k) (s : sep (M ++ N) k) : sep (M ++ N') k := by
  obtain ⟨h1, h2, d, s1, s2, x, y⟩ := sep_append s
  exact sep_join d s1 s2 x (h _ y)
end
section
variable {P : Program} {E : World} {n : Nat} {ds : List Deferred} {st : List (Nat × Value)} {L L' : List SP}
theorem results_ctt {fn : Func} {ta tb tc : Nat} {t : TypeId} {b o : Nat} {us : List Value} {tmps : Array Value} {v u : Value} {w : World} (hr : fn.results = #[.cell ta t, .tmp tb, .tmp tc]) (ha : agk P t = some true) (hx : tmps.getD ta undef = .pointer (some ⟨b, o, none⟩)) (hv : tmps.getD tb undef = v) (hu : tmps.getD tc undef = u)
    (hR : Rd L b o us) (hz : szk P t = some us.length) (s : Sat E L w) : (results fn tmps).run P w = .ok (.tuple #[.agg us.toArray, v, u]) w := by
  have hc : (loadCells ⟨b, o, none⟩ us.length).run P w = .ok us.toArray w := run_loadCells_list w _ us fun j v e => by
    have := hR.cell s e
    unfold Addr.add
    split
    · rename_i h0; subst h0; simpa using this
    · exact this
  have hl : (loadVar t ⟨b, o, none⟩).run P w = .ok (.agg us.toArray) w := by
    simp only [loadVar, Sem.run_bind, run_isAgg ha, Result.andThen, if_true, run_sizeOf' hz, hc]
    rfl
  have hx2 : tmps[ta]?.getD undef = .pointer (some ⟨b, o, none⟩) := by simpa using hx
  have hv2 : tmps[tb]?.getD undef = v := by simpa using hv
  have hu2 : tmps[tc]?.getD undef = u := by simpa using hu
  simp [results, hr, hx2, hv2, hu2, asAddr, hl]
theorem Hd.retCTT {fn : Func} {ta tb tc : Nat} {t : TypeId} {b o : Nat} {us : List Value} {v u : Value} {ι : Type} {val : ι → Value} {post : ι → List SP} (hr : fn.results = #[.cell ta t, .tmp tb, .tmp tc]) (i : ι) (ha : agk P t = some true) (hx : look st ta = some (.pointer (some ⟨b, o, none⟩))) (hv : look st tb = some v) (hu : look st tc = some u)
    (hR : Rd L b o us) (hz : szk P t = some us.length) (hi : val i = .tuple #[.agg us.toArray, v, u]) (hl : ∀ k, sep L k → sep (post i) k) :
    Hd E n [] st L ((bodyPost P fn fun e w' => ∃ i, e = .returned (val i) ∧ Sat E (post i) w') .ret) := fun a w f s =>
  bodyPost_ret (results_ctt (v := v) (u := u) hr ha (by simp [f.at_ ta _ hx]) (by simp [f.at_ tb _ hv]) (by simp [f.at_ tc _ hu]) hR hz s) f.defs ⟨i, by rw [hi], s.mp hl⟩
theorem results_3 {fn : Func} {ta tb tc : Nat} {tmps : Array Value} {v1 v u : Value} {w : World} (hr : fn.results = #[.tmp ta, .tmp tb, .tmp tc]) (hx : tmps.getD ta undef = v1) (hv : tmps.getD tb undef = v) (hu : tmps.getD tc undef = u) : (results fn tmps).run P w = .ok (.tuple #[v1, v, u]) w := by
  have hx2 : tmps[ta]?.getD undef = v1 := by simpa using hx
  have hv2 : tmps[tb]?.getD undef = v := by simpa using hv
  have hu2 : tmps[tc]?.getD undef = u := by simpa using hu
  simp [results, hr, hx2, hv2, hu2]
theorem Hd.ret3 {fn : Func} {ta tb tc : Nat} {v1 v u : Value} {ι : Type} {val : ι → Value} {post : ι → List SP} (hr : fn.results = #[.tmp ta, .tmp tb, .tmp tc]) (i : ι) (hx : look st ta = some v1) (hv : look st tb = some v) (hu : look st tc = some u) (hi : val i = .tuple #[v1, v, u]) (hl : ∀ k, sep L k → sep (post i) k) :
    Hd E n [] st L ((bodyPost P fn fun e w' => ∃ i, e = .returned (val i) ∧ Sat E (post i) w') .ret) := fun a w f s =>
  bodyPost_ret (results_3 (v1 := v1) (v := v) (u := u) hr (by simp [f.at_ ta _ hx]) (by simp [f.at_ tb _ hv]) (by simp [f.at_ tc _ hu])) f.defs ⟨i, by rw [hi], s.mp hl⟩
end
section
variable {E : World} {n : Nat} {ds : List Deferred} {st : List (Nat × Value)} {L : List SP} {P : Program}
variable {d : Nat} {ty t : TypeId} {pos : String} {af : Array Edge} {g : Option (Nat × Bool)} {x : Operand} {v : Value}
theorem y_fieldv1 {fs : Array Field} {i q ft : Nat} {cs : List Value} (hu : P.underlying t = some (.struct fs)) (hf : (fs[i]?).map (fun f => (f.offset, f.type)) = some (q, ft)) (ha : agk P ft = some false) (hx : evo st x = some (.agg cs.toArray)) (hc : cs[q]? = some v) :
    Yv E n ds st L P ⟨some d, .field t x i, ty, pos, af, g⟩ v := fun a w f _ => by
  cases hfi : fs[i]? with
  | none => rw [hfi] at hf; cases hf
  | some fl =>
    rw [hfi] at hf
    obtain ⟨rfl, rfl⟩ := Prod.mk.inj (Option.some.inj hf)
    simp only [execOp, f.ev hx]
    simp only [Instr.field, Sem.run_bind, run_underlying hu, Result.andThen, hfi]
    simp [asAgg, run_part1 (P := P) (cs := cs.toArray) ha (by simpa using hc)]
end
end Go.RX
namespace Go.Proofs.YtbfddabjbkohdaaGreat
set_option maxHeartbeats 2000000
open Go.RX.Hd (yv y2 n1 fk sk sr tH callE heldK onlyH endH thenN slots)
set_option linter.unusedSimpArgs false
set_option linter.unusedVariables false
set_option linter.unnecessarySimpa false
open Go.RX Fx
namespace Wo
set_option maxRecDepth 8000
abbrev bsl (l : List UInt8) : List Value := l.map B
def rot (cs : List UInt8) (fr : Nat) : List UInt8 := cs.drop fr ++ cs.take fr
structure ROk (cap fr : Nat) (cs l : List UInt8) : Prop where
 hf : fr < cap
 hc : cs.length = cap
 le : l.length ≤ cap
 hl : (rot cs fr).take l.length = l
theorem rot_at {cs : List UInt8} {fr i : Nat} (hf : fr ≤ cs.length) (hi : i < cs.length) : (rot cs fr)[i]? = cs[if fr + i < cs.length then fr + i else fr + i - cs.length]? := by
 unfold rot
 split
 ·rw [List.getElem?_append_left (by simp; omega), List.getElem?_drop]
 ·rw [List.getElem?_append_right (by simp; omega), List.length_drop, List.getElem?_take_of_lt (by omega)]
  congr 1; omega
theorem ROk.at {cap fr : Nat} {cs l : List UInt8} (h : ROk cap fr cs l) {i : Nat} (hi : i < l.length) : l[i]? = cs[if fr + i < cap then fr + i else fr + i - cap]? := by
 have h1 := h.le
 have h2 := h.hc
 have h3 := h.hf
 conv => lhs; rw [← h.hl]
 rw [List.getElem?_take_of_lt hi, rot_at (by omega) (by omega), h2]
theorem ROk.mk' {cap fr : Nat} {cs l : List UInt8} (h1 : fr < cap) (h2 : cs.length = cap) (h3 : l.length ≤ cap) (h : ∀ i, i < l.length → l[i]? = cs[if fr + i < cap then fr + i else fr + i - cap]?) : ROk cap fr cs l := by
 refine ⟨h1, h2, h3, List.ext_getElem? fun i => ?_⟩
 rcases Nat.lt_or_ge i l.length with hi | hi
 ·rw [List.getElem?_take_of_lt hi, rot_at (by omega) (by omega), h2, h i hi]
 ·rw [List.getElem?_eq_none hi, List.getElem?_eq_none (by rw [List.length_take]; omega)]
theorem rok_new {cap : Nat} (h : 0 < cap) : ROk cap 0 (List.replicate cap 0) [] := ⟨h, by simp, by simp, rfl⟩
theorem ROk.take {cap fr : Nat} {cs l : List UInt8} (h : ROk cap fr cs l) (k : Nat) (hk : k ≤ l.length) : ROk cap ((fr + k) % cap) cs (l.drop k) := by
 have h1 := h.le
 have h3 := h.hf
 have hm : (fr + k) % cap = if fr + k < cap then fr + k else fr + k - cap := by
  split
  ·exact Nat.mod_eq_of_lt (by omega)
  ·rw [Nat.mod_eq_sub_mod (by omega), Nat.mod_eq_of_lt (by omega)]
 refine ROk.mk' (Nat.mod_lt _ (by omega)) h.hc (by simp; omega) fun i hi => ?_
 rw [List.length_drop] at hi; rw [List.getElem?_drop, h.at (by omega), hm]
 congr 1
 repeat' split
 all_goals omega
def wr1 (cs b : List UInt8) (p k : Nat) : List UInt8 := cs.take p ++ b.take k ++ cs.drop (p + k)
theorem wr1_len {cs b : List UInt8} {p k : Nat} (h : p + k ≤ cs.length) (hb : k ≤ b.length) : (wr1 cs b p k).length = cs.length := by unfold wr1; simp; omega
theorem wr1_at {cs b : List UInt8} {p k j : Nat} (h : p + k ≤ cs.length) (hb : k ≤ b.length) : (wr1 cs b p k)[j]? = if p ≤ j ∧ j < p + k then b[j - p]? else cs[j]? := by
 unfold wr1
 have e1 : (cs.take p).length = p := by rw [List.length_take]; omega
 have e2 : (b.take k).length = k := by rw [List.length_take]; omega
 split
 ·rename_i hj
  rw [List.getElem?_append_left (by rw [List.length_append, e1, e2]; omega), List.getElem?_append_right (by omega), e1, List.getElem?_take_of_lt (by omega)]
 ·rename_i hj
  rcases Nat.lt_or_ge j p with h1 | h1
  ·rw [List.append_assoc, List.getElem?_append_left (by omega), List.getElem?_take_of_lt h1]
  ·rw [List.getElem?_append_right (by rw [List.length_append, e1, e2]; omega), List.length_append, e1, e2, List.getElem?_drop]
   congr 1; omega
abbrev ip (cap fr n : Nat) : Nat := (fr + n) % cap
theorem ip_eq {cap fr n : Nat} (h : fr < cap) (hn : n ≤ cap) : ip cap fr n = if fr + n < cap then fr + n else fr + n - cap := by
 show (fr + n) % cap = _
 split
 ·exact Nat.mod_eq_of_lt (by omega)
 ·rw [Nat.mod_eq_sub_mod (by omega)]
  rcases Nat.lt_or_ge (fr + n - cap) cap with h1 | h1
  ·exact Nat.mod_eq_of_lt h1
  ·omega
def pcs (cap at_ n : Nat) : List (Nat × Nat) := if n = 0 then [] else if at_ % cap + n ≤ cap then [(at_ % cap, n)] else [(at_ % cap, cap - at_ % cap), (0, n - (cap - at_ % cap))]
def wrA (cs b : List UInt8) : List (Nat × Nat) → List UInt8
 | [] => cs
 | (p, k) :: t => wrA (wr1 cs b p k) (b.drop k) t
theorem ROk.put {cap fr : Nat} {cs l : List UInt8} (h : ROk cap fr cs l) (b : List UInt8) (hb : l.length + b.length ≤ cap) : ROk cap fr (wrA cs b (pcs cap (fr + l.length) b.length)) (l ++ b) := by
 have h1 := h.le
 have h2 := h.hc
 have h3 := h.hf
 have hip := ip_eq (n := l.length) h3 (by omega)
 have hlt : ip cap fr l.length < cap := Nat.mod_lt _ (by omega)
 unfold pcs
 by_cases h0 : b.length = 0
 ·rw [if_pos h0]
  have : b = [] := List.eq_nil_of_length_eq_zero h0
  subst this; rw [List.append_nil]; exact h
 rw [if_neg h0]
 have hat : ∀ i, i < (l ++ b).length → (l ++ b)[i]? = if i < l.length then cs[if fr + i < cap then fr + i else fr + i - cap]? else b[i - l.length]? := fun i hi => by
  split
  ·rename_i h'; rw [List.getElem?_append_left h', h.at h']
  ·rw [List.getElem?_append_right (by omega)]
 show ROk cap fr (wrA cs b (if ip cap fr l.length + b.length ≤ cap then _ else [(ip cap fr l.length, cap - ip cap fr l.length), (0, b.length - (cap - ip cap fr l.length))])) _
 split
 ·rename_i hc
  show ROk cap fr (wr1 cs b (ip cap fr l.length) b.length) _
  refine ROk.mk' h3 (by rw [wr1_len (by omega) (by omega), h2]) (by simp; omega) fun i hi => ?_
  rw [hat i hi, wr1_at (by omega) (by omega)]; rw [List.length_append] at hi
  generalize hq : ip cap fr l.length = q at *
  by_cases hil : i < l.length
  ·rw [if_pos hil]
   by_cases h4 : fr + i < cap <;> by_cases h5 : fr + l.length < cap <;> simp only [h4, h5, if_true, if_false] at hip ⊢
   all_goals first
    | (rw [if_neg (by omega)])
    | omega
  ·rw [if_neg hil]
   by_cases h4 : fr + i < cap <;> by_cases h5 : fr + l.length < cap <;> simp only [h4, h5, if_true, if_false] at hip ⊢
   all_goals first
    | (rw [if_pos (by omega)]; congr 1; omega)
    | omega
 ·rename_i hc
  show ROk cap fr (wr1 (wr1 cs b (ip cap fr l.length) (cap - ip cap fr l.length)) (b.drop (cap - ip cap fr l.length)) 0 (b.length - (cap - ip cap fr l.length))) _
  generalize hq : ip cap fr l.length = q at *
  refine ROk.mk' h3 (by rw [wr1_len (by rw [wr1_len (by omega) (by omega)]; omega) (by simp), wr1_len (by omega) (by omega), h2]) (by simp; omega) fun i hi => ?_
  rw [hat i hi, wr1_at (by rw [wr1_len (by omega) (by omega)]; omega) (by simp), wr1_at (by omega) (by omega), List.getElem?_drop]; rw [List.length_append] at hi
  by_cases hil : i < l.length
  ·rw [if_pos hil]
   by_cases h4 : fr + i < cap <;> by_cases h5 : fr + l.length < cap <;> simp only [h4, h5, if_true, if_false] at hip ⊢
   all_goals first
    | (rw [if_neg (by omega), if_neg (by omega)])
    | omega
  ·rw [if_neg hil]
   by_cases h4 : fr + i < cap <;> by_cases h5 : fr + l.length < cap <;> simp only [h4, h5, if_true, if_false] at hip ⊢
   all_goals first
    | omega
    | (rw [if_neg (by omega), if_pos (by omega)]; congr 1; omega)
    | (rw [if_pos (by omega)]; congr 1; omega)
def rdA (cs : List UInt8) : List (Nat × Nat) → List UInt8
 | [] => []
 | (p, k) :: t => (cs.drop p).take k ++ rdA cs t
theorem rdA_app (cs : List UInt8) (a b : List (Nat × Nat)) : rdA cs (a ++ b) = rdA cs a ++ rdA cs b := by
 induction a with
 | nil => rfl
 | cons p t ih => obtain ⟨p, k⟩ := p; show _ ++ rdA cs (t ++ b) = _; rw [ih, ← List.append_assoc]; rfl
theorem wrA_app {cs b : List UInt8} {p k : Nat} : ∀ {a : List (Nat × Nat)} , wrA cs b (a ++ [(p, k)]) = wr1 (wrA cs b a) (b.drop ((a.map Prod.snd).sum)) p k
 | [] => rfl
 | (p', k') :: t => by
  show wrA (wr1 cs b p' k') (b.drop k') (t ++ [(p, k)]) = _
  rw [wrA_app (a := t)]
  show wr1 _ _ p k = wr1 _ _ p k
  rw [List.drop_drop]; rfl
theorem ROk.look {cap fr : Nat} {cs l : List UInt8} (h : ROk cap fr cs l) {n : Nat} (hn : n ≤ l.length) : rdA cs (pcs cap fr n) = l.take n := by
 have h1 := h.le
 have h2 := h.hc
 have h3 := h.hf
 have hm : fr % cap = fr := Nat.mod_eq_of_lt h3
 unfold pcs
 by_cases h0 : n = 0
 ·rw [if_pos h0, h0]; rfl
 rw [if_neg h0, hm]
 have hl : (rot cs fr).take n = l.take n := by rw [← h.hl, List.take_take, Nat.min_eq_left hn]
 rw [← hl]; unfold rot
 split
 ·show (cs.drop fr).take n ++ [] = _
  rw [List.append_nil, List.take_append_of_le_length (by simp; omega)]
 ·show (cs.drop fr).take (cap - fr) ++ ((cs.drop 0).take (n - (cap - fr)) ++ []) = _
  rw [List.append_nil, List.drop_zero, List.take_append, List.length_drop, h2, List.take_of_length_le (by simp; omega), List.take_of_length_le (l := cs.drop fr) (by simp; omega), List.take_take, Nat.min_eq_left (by omega)]
end Wo
end Go.Proofs.YtbfddabjbkohdaaGreat
namespace Go.Proofs.YtbfddabjbkohdaaGreat
set_option maxHeartbeats 2000000
open Go.RX.Hd (yv y2 n1 fk sk sr tH callE heldK onlyH endH thenN slots)
set_option linter.unusedSimpArgs false
set_option linter.unusedVariables false
set_option linter.unnecessarySimpa false
open Go.RX Fx
namespace Wo
set_option maxRecDepth 8000
structure RgI where
 ad : Option Addr
 fr : Nat
 ci : Int
 co : Int
 cs : List UInt8
abbrev RgH (rb cap n : Nat) (r : RgI) : SP := pt rb [.slice r.ad cap cap, .int .i64 (r.fr : Int), .int .i64 (n : Int), .int .u64 r.ci, .int .u64 r.co, .bool true] 263
abbrev RgB (cap : Nat) (r : RgI) : SP := own 5 1 r.ad cap cap (bsl r.cs)
abbrev RgL (rb cap n : Nat) (r : RgI) (L : List SP) : List SP := RgH rb cap n r :: RgB cap r :: L
def Rg (rb cap : Nat) (l : List UInt8) : SP := RX.ex fun r : RgI => pu (ROk cap r.fr r.cs l ∧ cap ≤ 65536) :: RgL rb cap l.length r []
theorem Hd.rg {E : World} {n : Nat} {ds : List Deferred} {st : List (Nat × Value)} {L L' : List SP} {K : Act → World → Prop} {rb cap : Nat} {l : List UInt8} (p : Pick L (Rg rb cap l) L') (h : ∀ r, ROk cap r.fr r.cs l → cap ≤ 65536 → Hd E n ds st (RgL rb cap l.length r L') K) : Hd E n ds st L K :=
 Hd.exs (f := fun r : RgI => pu (ROk cap r.fr r.cs l ∧ cap ≤ 65536) :: RgL rb cap l.length r []) p fun r => Hd.pure fun hr => h r hr.1 hr.2
theorem noughts_cells (n : Nat) : (List.range (n * 1)).map (fun i => ([.int .u8 0] : List Value).getD (i % 1) (.bool false)) = bsl (List.replicate n 0) := by
 rw [Nat.mul_one, bsl, List.map_replicate]; refine List.ext_getElem (by simp) fun i h1 h2 => ?_
 simp [Nat.mod_one, B]
theorem Hd.ptOwn {E : World} {n : Nat} {ds : List Deferred} {st : List (Nat × Value)} {L L' : List SP} {K : Act → World → Prop} {b m : Nat} {e : TypeId} {cs : List Value} (p : Pick L (pt b cs e) L') (hl : cs.length = m * 1) (hm : m ≤ maxLen) (h : Hd E n ds st (own e 1 (some ⟨b, 0, none⟩) m m cs :: L') K) : Hd E n ds st L K :=
 Hd.heap _ (fun k s => sep_head (p.sep s) fun k x => own_pt (sp := []) hl (Nat.le_refl _) hm (by simp) (by simpa using x)) h
theorem rnew_ct (L : List SP) (n : Nat) (h1 : 1 ≤ n) (h2 : n ≤ 65536) : Ct Tryz.prog 168 #[.int .i64 (n : Int)] (L) (fun b : Nat => .tuple #[.pointer (some ⟨b, 0, none⟩), .int .i64 0]) (fun b : Nat => Rg b n [] :: L) := by
 refine Ct.of (vs := [.int .i64 (n : Int)]) Tryz.func168 rfl rfl [(0, .int .i64 (n : Int))] sbq ?_; intro E
 show Hd E 14 _ _ _ _
 refine sr fun _ hK1 => ?_
 refine yv y_as ?_; refine yv y_as ?_; refine fk [(0, _)] hK1 ?_; refine Hd.seq fun _ hK2 => ?_
 refine sr fun _ hK3 => ?_
 refine yv y_mv ?_; refine yv (y_lss rfl rfl) ?_; refine yv y_mv ?_; apply Hd.org 3 6 9 [(0, _)] rfl ⟨rfl, trivial⟩
 ·intro hg1_6
  try simp only [hyA, hyB, hyC, ne_eq] at hg1_6
  simp only [List.take]; refine n1 ?_; refine n1 ?_; refine yv (y_pickT rfl rfl) ?_; refine Hd.nil ?_; exact Hd.mq
 ·intro hg1_6
  try simp only [hyA, hyB, hyC, ne_eq] at hg1_6
  simp only [List.take]; refine y2 y_mv ?_; refine y2 (y_gtr rfl rfl) ?_; refine yv (y_pickF rfl rfl) ?_; refine Hd.nil ?_; exact Hd.mq
 simp only [List.drop]; refine fk [(0, _), (9, _)] hK3 ?_; refine Hd.cond rfl (fun hc0 => ?_) (fun hc0 => ?_)
 ·
  try simp only [hyA, hyB, hyC, ne_eq] at hc0
  exfalso; omega
 ·
  try simp only [hyA, hyB, hyC, ne_eq] at hc0
  refine Hd.skip ?_; refine Hd.toK hK2 ?_; refine sr fun _ hK4 => ?_
  refine yv y_mv ?_; refine Hd.mkslice Tryz.underlying31 ty5 zr5 rfl rfl rfl rfl (by omega) (by omega) (by simp only [maxLen]; omega) (fun b11 cs11 hcs11 => ?_); rw [noughts_cells] at hcs11; subst hcs11; refine Hd.ptOwn (m := n) pkk (by simp [bsl]) (by simp only [maxLen]; omega) ?_; refine yv (y_build (vs := [(0, _), (5, _)]) rfl (by exact bd168_12 ..)) ?_; refine Hd.box rfl rfl (fun b13 => ?_); refine yv y_as ?_; refine yv y_as ?_; refine fk [(2, _), (3, _)] hK4 ?_; refine Hd.ret ?_; exact Hd.ret2 rfl b13 rfl rfl rfl (Ent.sep (.ex ⟨some ⟨b11, 0, none⟩, 0, 0, 0, List.replicate n 0⟩ (.pure ⟨rok_new (by omega), h2⟩ (.eq pkk (pt_eq (by rfl)) enn))))
theorem rbad_ct (L : List SP) (n : Int) (h1 : n < 1 ∨ 65536 < n) : Ct Tryz.prog 168 #[.int .i64 n] (L) (fun i : Option Nat × Int => .tuple #[.pointer (i.1.map fun b => ⟨b, 0, none⟩), .int .i64 i.2]) (fun i : Option Nat × Int => L) := by
 refine Ct.of (vs := [.int .i64 n]) Tryz.func168 rfl rfl [(0, .int .i64 n)] sbq ?_; intro E
 show Hd E 14 _ _ _ _
 refine sr fun _ hK1 => ?_
 refine yv y_as ?_; refine yv y_as ?_; refine fk [(0, _)] hK1 ?_; refine Hd.seq fun _ hK2 => ?_
 refine sr fun _ hK3 => ?_
 refine yv y_mv ?_; refine yv (y_lss rfl rfl) ?_; refine yv y_mv ?_; apply Hd.org 3 6 9 [(0, _)] rfl ⟨rfl, trivial⟩
 ·intro hg1_6
  try simp only [hyA, hyB, hyC, ne_eq] at hg1_6
  simp only [List.take]; refine n1 ?_; refine n1 ?_; refine yv (y_pickT rfl rfl) ?_; refine Hd.nil ?_; exact Hd.mq
 ·intro hg1_6
  try simp only [hyA, hyB, hyC, ne_eq] at hg1_6
  simp only [List.take]; refine y2 y_mv ?_; refine y2 (y_gtr rfl rfl) ?_; refine yv (y_pickF rfl rfl) ?_; refine Hd.nil ?_; exact Hd.mq
 simp only [List.drop]; refine fk [(0, _), (9, _)] hK3 ?_; refine Hd.cond rfl (fun hc0 => ?_) (fun hc0 => ?_)
 ·
  try simp only [hyA, hyB, hyC, ne_eq] at hc0
  refine sr fun _ hK4 => ?_
  refine yv y_as ?_; refine yv y_as ?_; refine fk [(2, _), (3, _)] hK4 ?_; refine Hd.ret ?_; refine Hd.thenRet ?_; exact Hd.ret2 rfl (none, 2) rfl rfl rfl sq
 ·
  try simp only [hyA, hyB, hyC, ne_eq] at hc0
  obtain rfl : n = ((0 : Nat) : Int) := by omega
  refine Hd.skip ?_; refine Hd.toK hK2 ?_; refine sr fun _ hK5 => ?_
  refine yv y_mv ?_; refine Hd.mkslice Tryz.underlying31 ty5 zr5 rfl rfl rfl rfl (by omega) (by omega) (by simp only [maxLen]; omega) (fun b11 cs11 hcs11 => ?_); refine yv (y_build (vs := [(0, _), (5, _)]) rfl (by exact bd168_12 ..)) ?_; refine Hd.box rfl rfl (fun b13 => ?_); refine yv y_as ?_; refine yv y_as ?_; refine fk [(2, _), (3, _)] hK5 ?_; refine Hd.ret ?_; exact Hd.ret2 rfl (some b13, 0) rfl rfl rfl sq
theorem rnone_ct (L : List SP) (rb cap n : Nat) (r : RgI) : Ct Tryz.prog 167 #[.pointer (some ⟨rb, 0, none⟩)] (RgL rb cap n r L) (fun _ : Unit => .bool false) (fun _ : Unit => RgL rb cap n r L) := by
 refine Ct.of (vs := [.pointer (some ⟨rb, 0, none⟩)]) Tryz.func167 rfl rfl [(0, .pointer (some ⟨rb, 0, none⟩))] sbq ?_; intro E
 show Hd E 12 _ _ _ _
 refine sr fun _ hK1 => ?_
 refine yv y_as ?_; refine fk [(0, _)] hK1 ?_; refine sr fun _ hK2 => ?_
 refine yv y_mv ?_; refine yv (y_eql_pointer Tryz.underlying194 rfl rfl) ?_; refine yv y_mv ?_; refine y2 y_mv ?_; refine y2 y_np ?_; refine y2 (y_f 5 4 Tryz.underlying263 sz4) ?_; refine y2 (y_l1 ag4 rfl) ?_; refine y2 (y_not rfl) ?_; refine yv (y_pickF rfl rfl) ?_; refine yv y_as ?_; refine fk [(2, _)] hK2 ?_; refine Hd.ret ?_; exact Hd.ret1 rfl () (by rfl) sq
theorem rlen_ct (L : List SP) (rb cap : Nat) (l : List UInt8) : Ct Tryz.prog 102 #[.pointer (some ⟨rb, 0, none⟩)] (Rg rb cap l :: L) (fun _ : Unit => .int .i64 (l.length : Int)) (fun _ : Unit => Rg rb cap l :: L) := by
 refine Ct.of (vs := [.pointer (some ⟨rb, 0, none⟩)]) Tryz.func102 rfl rfl [(0, .pointer (some ⟨rb, 0, none⟩))] sbq ?_; intro E
 show Hd E 9 _ _ _ _
 refine Hd.rg .here (fun r hr hcap => ?_); refine sr fun _ hK1 => ?_
 refine yv y_as ?_; refine fk [(0, _)] hK1 ?_; refine Hd.seq fun _ hK2 => ?_
 refine sr fun _ hK3 => ?_
 refine yv y_mv ?_; refine callE rfl fk167 (rnone_ct _ rb cap l.length r) sq ?_; intro _; refine fk [(0, _), (4, _)] hK3 ?_; refine Hd.condF rfl ?_; refine Hd.skip ?_; refine Hd.toK hK2 ?_; refine sr fun _ hK4 => ?_
 refine yv y_mv ?_; refine yv y_np ?_; refine yv (y_f 2 3 Tryz.underlying263 sz3) ?_; refine yv (y_l1 ag3 rfl) ?_; refine yv y_as ?_; refine fk [(2, _)] hK4 ?_; refine Hd.ret ?_; exact Hd.ret1 rfl () rfl (Ent.sep (.ex r (.pure ⟨hr, hcap⟩ enn)))
theorem rroom_ct (L : List SP) (rb cap : Nat) (l : List UInt8) : Ct Tryz.prog 104 #[.pointer (some ⟨rb, 0, none⟩)] (Rg rb cap l :: L) (fun _ : Unit => .int .i64 ((cap - l.length : Nat) : Int)) (fun _ : Unit => Rg rb cap l :: L) := by
 refine Ct.of (vs := [.pointer (some ⟨rb, 0, none⟩)]) Tryz.func104 rfl rfl [(0, .pointer (some ⟨rb, 0, none⟩))] sbq ?_; intro E
 show Hd E 15 _ _ _ _
 refine Hd.rg .here (fun r hr hcap => ?_)
 have hle := hr.le
 refine sr fun _ hK1 => ?_
 refine yv y_as ?_; refine fk [(0, _)] hK1 ?_; refine Hd.seq fun _ hK2 => ?_
 refine sr fun _ hK3 => ?_
 refine yv y_mv ?_; refine callE rfl fk167 (rnone_ct _ rb cap l.length r) sq ?_; intro _; refine fk [(0, _), (4, _)] hK3 ?_; refine Hd.condF rfl ?_; refine Hd.skip ?_; refine Hd.toK hK2 ?_; refine Hd.seq fun _ hK4 => ?_
 refine Hd.quiet mixed kq ?_; refine Hq.yv y_mv ?_; refine Hq.yv y_np ?_; refine Hq.yv (y_f 0 31 Tryz.underlying263 sz31) ?_; refine Hq.yv (y_l1 ag31 rfl) ?_; refine Hq.yv (y_len Tryz.underlying31 rfl) ?_; refine Hq.yv y_mv ?_; refine Hq.yv y_np ?_; refine Hq.yv (y_f 2 3 Tryz.underlying263 sz3) ?_; refine Hq.yv (y_l1 ag3 rfl) ?_; refine Hq.yv (y_to (v' := .int .i64 ((cap - l.length : Nat) : Int)) (y_subn rfl rfl (by simp only [InK]; omega)) (by (congr 1; omega))) ?_; refine Hq.yv y_as ?_; refine Hq.nil ?_; refine sk [(2, _)] hK4 ?_; refine Hd.ret ?_; exact Hd.ret1 rfl () rfl (Ent.sep (.ex r (.pure ⟨hr, hcap⟩ enn)))
theorem rpcs_ct (L : List SP) (rb : Nat) (f n : Int) : Ct Tryz.prog 195 #[.pointer (some ⟨rb, 0, none⟩), .int .i64 f, .int .i64 n] (L) (fun q_ : Nat × Nat × Nat => .func (.func 214) #[] #[.pointer (some ⟨q_.2.2, 0, none⟩), .pointer (some ⟨q_.2.1, 0, none⟩), .pointer (some ⟨q_.1, 0, none⟩)]) (fun q_ : Nat × Nat × Nat => pt q_.2.2 [.int .i64 n] 3 :: pt q_.2.1 [.int .i64 f] 3 :: pt q_.1 [.pointer (some ⟨rb, 0, none⟩)] 194 :: L) := by
 refine Ct.of (vs := [.pointer (some ⟨rb, 0, none⟩), .int .i64 f, .int .i64 n]) Tryz.func195 rfl rfl [(0, .pointer (some ⟨rb, 0, none⟩)), (1, .int .i64 f), (2, .int .i64 n)] sbq ?_; intro E
 show Hd E 8 _ _ _ _
 refine sr fun _ hK1 => ?_
 refine Hd.box rfl rfl (fun b3 => ?_); refine Hd.box rfl rfl (fun b4 => ?_); refine Hd.box rfl rfl (fun b5 => ?_); refine yv y_as ?_; refine fk [(3, _), (4, _), (5, _)] hK1 ?_; refine sr fun _ hK2 => ?_
 refine yv (y_mkf (fv := []) (cv := [_, _, _]) rfl rfl) ?_; refine yv y_as ?_; refine fk [(6, _)] hK2 ?_; refine Hd.ret ?_; exact Hd.ret1 rfl (b3, b4, b5) rfl sq
theorem pcs_step {cap f n : Nat} (hc : 0 < cap) (hn : 0 < n) (hle : n ≤ cap) : pcs cap f n = (f % cap, min (f % cap + n) cap - f % cap) :: pcs cap (f + (min (f % cap + n) cap - f % cap)) (n - (min (f % cap + n) cap - f % cap)) := by
 have hlt : f % cap < cap := Nat.mod_lt _ hc
 conv => lhs; unfold pcs
 rw [if_neg (by omega)]
 split
 ·rename_i h
  rw [show min (f % cap + n) cap - f % cap = n by omega, Nat.sub_self]; rfl
 ·rename_i h
  have e : min (f % cap + n) cap - f % cap = cap - f % cap := by omega
  rw [e]
  have hz : (f + (cap - f % cap)) % cap = 0 := by
   have h1 := Nat.div_add_mod f cap
   have : f + (cap - f % cap) = cap * (f / cap) + cap := by omega
   rw [this, Nat.add_mod_right, Nat.mul_mod_right]
  unfold pcs; rw [hz, if_neg (by omega), if_pos (by omega)]
abbrev encP (ad : Option Addr) (cap : Nat) (p : Nat × Nat) : List Value := [.slice (cutA ad 1 p.1 cap) p.2 (cap - p.1)]
theorem pcs_it (rb cap nn : Nat) (r : RgI) (bn bf br f n : Nat) (hc : 0 < cap) (hcap : cap ≤ 65536) (hn : n ≤ cap) (hf : f ≤ 200000) : RX.It Tryz.prog 214 [.pointer (some ⟨bn, 0, none⟩), .pointer (some ⟨bf, 0, none⟩), .pointer (some ⟨br, 0, none⟩)] (encP r.ad cap) (fun ys => ys = pcs cap f n) (fun ys => ys <+: pcs cap f n)
  [pt bn [.int .i64 (n : Int)] 3, pt bf [.int .i64 (f : Int)] 3, pt br [.pointer (some ⟨rb, 0, none⟩)] 194, RgH rb cap nn r] [RgH rb cap nn r] := by
 intro l J X hy; refine Ct.of (vs := [.func (.yield l) #[] #[], .pointer (some ⟨bn, 0, none⟩), .pointer (some ⟨bf, 0, none⟩), .pointer (some ⟨br, 0, none⟩)]) Tryz.func214 rfl rfl [(0, .func (.yield l) #[] #[]), (1, .pointer (some ⟨bn, 0, none⟩)), (2, .pointer (some ⟨bf, 0, none⟩)), (3, .pointer (some ⟨br, 0, none⟩))] ⟨rfl, rfl, rfl, rfl, trivial⟩ ?_; intro E
 show Hd E 43 _ _ _ _
 refine Hd.heap (pt bn [.int .i64 (n : Int)] 3 :: pt bf [.int .i64 (f : Int)] 3 :: pt br [.pointer (some ⟨rb, 0, none⟩)] 194 :: RgH rb cap nn r :: J []) (fun k h => by have := sep_app h; exact this) ?_; refine Hd.scope ?_; refine Hd.seq fun _ hK1 => ?_
 refine Hd.label ?_; refine Hd.toK hK1 ?_; refine Hd.block ?_; refine Hd.loopK (ι := List (Nat × Nat) × Nat × Nat) [(0, _), (1, _), (2, _), (3, _)] (fun q_ => []) (fun q_ => pu (pcs cap f n = q_.1 ++ pcs cap q_.2.1 q_.2.2 ∧ q_.2.2 ≤ cap ∧ q_.2.1 + q_.2.2 ≤ 300000) :: pt bn [.int .i64 (q_.2.2 : Int)] 3 :: pt bf [.int .i64 (q_.2.1 : Int)] 3 :: pt br [.pointer (some ⟨rb, 0, none⟩)] 194 :: RgH rb cap nn r :: J q_.1) (fun q_ => q_.2.2) ([], f, n) sbq sbq (Ent.sep (.pure ⟨rfl, hn, by show f + n ≤ 300000; omega⟩ enn)) ?_; rintro ⟨pre, g, m⟩
 try dsimp only
 refine Hd.pure (fun hp0 => ?_)
 try dsimp only at hp0
 refine Hd.seq fun _ hK2 => ?_
 refine sr fun _ hK3 => ?_
 refine yv (y_l1 ag3 rfl) ?_; refine yv (y_gtr rfl rfl) ?_; refine fk [(0, _), (1, _), (2, _), (3, _), (8, _)] hK3 ?_; refine Hd.cond rfl (fun hc0 => ?_) (fun hc0 => ?_)
 ·
  try simp only [hyA, hyB, hyC, ne_eq] at hc0
  obtain ⟨hpc, hmc, hgm⟩ := hp0
  have hm : 0 < m := by omega
  have hst := pcs_step (f := g) hc hm hmc
  have hlt : g % cap < cap := Nat.mod_lt _ hc
  obtain ⟨at_, hat⟩ : ∃ a, a = g % cap := ⟨_, rfl⟩
  obtain ⟨kk, hkk⟩ : ∃ a, a = min (at_ + m) cap - at_ := ⟨_, rfl⟩
  rw [← hat, ← hkk] at hst; rw [← hat] at hlt
  have hpr : pre ++ [(at_, kk)] <+: pcs cap f n := by rw [hpc, hst]; exact ⟨pcs cap (g + kk) (m - kk), by simp⟩
  refine Hd.skip ?_; refine Hd.toK hK2 ?_; refine Hd.block ?_; refine Hd.seq fun _ hK4 => ?_
  refine Hd.quiet mixed kq ?_; refine Hq.yv (y_l1 ag3 rfl) ?_; refine Hq.yv (y_l1 ag194 rfl) ?_; refine Hq.yv y_np ?_; refine Hq.yv (y_f 0 31 Tryz.underlying263 sz31) ?_; refine Hq.yv (y_l1 ag31 rfl) ?_; refine Hq.yv (y_len Tryz.underlying31 rfl) ?_; refine Hq.yv (y_to (v' := .int .i64 (at_ : Int)) (y_remn rfl rfl (by omega) (by omega)) (by (rw [hat]; rfl))) ?_; refine Hq.yv y_as ?_; refine Hq.nil ?_; refine sk [(0, _), (1, _), (2, _), (3, _), (5, _)] hK4 ?_; refine Hd.seq fun _ hK5 => ?_
  refine Hd.quiet mixed kq ?_; refine Hq.yv (y_l1 ag194 rfl) ?_; refine Hq.yv y_np ?_; refine Hq.yv (y_f 0 31 Tryz.underlying263 sz31) ?_; refine Hq.yv (y_l1 ag31 rfl) ?_; refine Hq.yv y_mv ?_; refine Hq.yv y_mv ?_; refine Hq.yv (y_l1 ag3 rfl) ?_; refine Hq.yv (y_addn rfl rfl (by simp only [InK]; omega)) ?_; refine Hq.yv (y_l1 ag194 rfl) ?_; refine Hq.yv y_np ?_; refine Hq.yv (y_f 0 31 Tryz.underlying263 sz31) ?_; refine Hq.yv (y_l1 ag31 rfl) ?_; refine Hq.yv (y_len Tryz.underlying31 rfl) ?_; refine Hq.yv (y_min rfl rfl) ?_; refine Hq.yv (y_to (v' := .slice (cutA r.ad 1 at_ cap) kk (cap - at_)) (y_slo_oox Tryz.underlying31 sz5 rfl rfl rfl (by omega) (by omega) (by omega)) (by rw [Int.toNat_natCast, show (min ((at_ : Int) + (m : Int)) (cap : Int)).toNat - at_ = kk by omega])) ?_; refine Hq.yv y_as ?_; refine Hq.nil ?_; refine sk [(0, _), (1, _), (2, _), (3, _), (6, _)] hK5 ?_; refine Hd.seq fun _ hK6 => ?_
  refine sr fun _ hK7 => ?_
  refine yv y_mv ?_; refine yv y_mv ?_; refine Hd.yield (pre := pre) (c := (at_, kk)) (M := [pt bn [.int .i64 (m : Int)] 3, pt bf [.int .i64 (g : Int)] 3, pt br [.pointer (some ⟨rb, 0, none⟩)] 194, RgH rb cap nn r]) hy rfl rfl hpr (fun k' h => sep_app (show sep ([pt bn [.int .i64 (m : Int)] 3, pt bf [.int .i64 (g : Int)] 3, pt br [.pointer (some ⟨rb, 0, none⟩)] 194, RgH rb cap nn r] ++ J pre) k' from h)) ?_; intro yb; refine yv (y_not rfl) ?_; refine fk [(0, _), (1, _), (2, _), (3, _), (6, _), (34, _)] hK7 ?_; refine Hd.cond rfl (fun hc1 => ?_) (fun hc1 => ?_)
  ·
   try simp only [hyA, hyB, hyC, ne_eq] at hc1
   subst hc1; simp only [cond_false]; refine Hd.exit ?_; refine Hd.thenExit ?_; refine Hd.inBexit' rfl ?_; refine Hd.thenExit ?_; refine Hd.inBexit ?_; refine Hd.scNorm ?_; exact Hd.end0 rfl (pre ++ [(at_, kk)], false) rfl (fun k' h => Ent.sep (.pure hpr .same) k' (sep_right (fun k s => Ent.sep (show Ent [pt bn [.int .i64 (m : Int)] 3, pt bf [.int .i64 (g : Int)] 3, pt br [.pointer (some ⟨rb, 0, none⟩)] 194, RgH rb cap nn r] [RgH rb cap nn r] from enn) k s) h))
  ·
   try simp only [hyA, hyB, hyC, ne_eq] at hc1
   subst hc1; simp only [cond_true]; refine Hd.heap (pt bn [.int .i64 (m : Int)] 3 :: pt bf [.int .i64 (g : Int)] 3 :: pt br [.pointer (some ⟨rb, 0, none⟩)] 194 :: RgH rb cap nn r :: J (pre ++ [(at_, kk)])) (fun k' h => sep_app h) ?_; refine Hd.skip ?_; refine Hd.toK hK6 ?_; refine sr fun _ hK8 => ?_
   refine yv (y_l1 ag3 rfl) ?_; refine yv y_mv ?_; refine yv (y_len Tryz.underlying31 rfl) ?_; refine yv (y_addn rfl rfl (by simp only [InK]; omega)) ?_; refine Hd.store1 sz3 rfl rfl rfl pkk (by simp; done) ?_
   try simp only [List.set_cons_zero, List.set_cons_succ]
   refine fk [(0, _), (1, _), (2, _), (3, _), (6, _)] hK8 ?_; refine Hd.region ?_; refine yv (y_l1 ag3 rfl) ?_; refine yv y_mv ?_; refine yv (y_len Tryz.underlying31 rfl) ?_; refine yv (y_subn rfl rfl (by simp only [InK]; omega)) ?_; refine Hd.store1 sz3 rfl rfl rfl pkk (by simp; done) ?_
   try simp only [List.set_cons_zero, List.set_cons_succ]
   refine Hd.nil ?_; refine slots [(0, _), (1, _), (2, _), (3, _)] sbq ?_; refine Hd.inB ?_; refine thenN ?_; exact Hd.again (pre ++ [(at_, kk)], g + kk, m - kk) (by show m - kk < m; omega) sbq (Ent.sep (.pure ⟨by rw [hpc, hst]; simp, by show m - kk ≤ cap; omega, by show g + kk + (m - kk) ≤ 300000; omega⟩ (.eq pkk (pt_eq (show [Value.int .i64 ((m : Int) - (kk : Int))] = [.int .i64 ((m - kk : Nat) : Int)] by rw [Int.ofNat_sub (by omega)])) enn)))
 ·
  try simp only [hyA, hyB, hyC, ne_eq] at hc0
  refine Hd.exit ?_; refine Hd.thenExit ?_; refine Hd.thenExit ?_; refine Hd.inBexit ?_; refine Hd.scNorm ?_
  have hm : m = 0 := by omega
  have e : pcs cap f n = pre := by rw [hp0.1, hm]; simp [pcs]
  exact Hd.end0 rfl (pre, true) rfl (fun k' h => Ent.sep (.pure e.symm .same) k' (sep_app (M := [RgH rb cap nn r]) (N := J pre) (Ent.sep enn k' h)))
end Wo
end Go.Proofs.YtbfddabjbkohdaaGreat
namespace Go.Proofs.YtbfddabjbkohdaaGreat
set_option maxHeartbeats 2000000
open Go.RX.Hd (yv y2 n1 fk sk sr tH callE heldK onlyH endH thenN slots)
set_option linter.unusedSimpArgs false
set_option linter.unusedVariables false
set_option linter.unnecessarySimpa false
open Go.RX Fx
namespace Wo
set_option maxRecDepth 8000
theorem pcs_sum {cap f n : Nat} (hc : 0 < cap) (hn : n ≤ cap) : ((pcs cap f n).map Prod.snd).sum = n := by
 have hlt : f % cap < cap := Nat.mod_lt _ hc
 unfold pcs
 split
 ·simp_all
 ·split
  ·simp
  ·simp; omega
theorem pcs_ok {cap f n : Nat} (hc : 0 < cap) (hn : n ≤ cap) {p : Nat × Nat} (hp : p ∈ pcs cap f n) : p.1 + p.2 ≤ cap ∧ p.1 < cap ∧ 0 < p.2 := by
 have hlt : f % cap < cap := Nat.mod_lt _ hc
 unfold pcs at hp
 split at hp
 ·cases hp
 ·split at hp
  ·simp at hp; subst hp; omega
  ·simp at hp
   rcases hp with rfl | rfl
   ·refine ⟨?_, hlt, ?_⟩ <;> omega
   ·refine ⟨?_, ?_, ?_⟩ <;> omega
theorem pre_sum {l p : List (Nat × Nat)} (h : p <+: l) : (p.map Prod.snd).sum ≤ (l.map Prod.snd).sum := by
 obtain ⟨t, rfl⟩ := h
 simp
theorem rdA_len {cs : List UInt8} {cap : Nat} (hcs : cs.length = cap) : ∀ {ps : List (Nat × Nat)}, (∀ p ∈ ps, p.1 + p.2 ≤ cap) → (rdA cs ps).length = (ps.map Prod.snd).sum
 | [], _ => rfl
 | (p, k) :: t, h => by
  show ((cs.drop p).take k ++ rdA cs t).length = _
  have h1 := h (p, k) List.mem_cons_self
  simp only at h1; rw [List.length_append, rdA_len hcs fun q hq => h q (List.mem_cons_of_mem _ hq), List.length_take, List.length_drop, hcs]; simp; omega
theorem wrA_len {cap : Nat} : ∀ {ps : List (Nat × Nat)} {cs b : List UInt8}, cs.length = cap → (∀ p ∈ ps, p.1 + p.2 ≤ cap) → (ps.map Prod.snd).sum ≤ b.length → (wrA cs b ps).length = cap
 | [], _, _, h, _, _ => h
 | (p, k) :: t, cs, b, h, h1, h2 => by
  have h3 := h1 (p, k) List.mem_cons_self
  simp only [List.map_cons, List.sum_cons] at h2 h3
  have h4 : (wr1 cs b p k).length = cap := by rw [wr1_len (by omega) (by omega), h]
  exact wrA_len (ps := t) h4 (fun q hq => h1 q (List.mem_cons_of_mem _ hq)) (by rw [List.length_drop]; omega)
theorem bsl_take (l : List UInt8) (k : Nat) : (bsl l).take k = bsl (l.take k) := by simp [bsl, List.map_take]
theorem bsl_drop (l : List UInt8) (k : Nat) : (bsl l).drop k = bsl (l.drop k) := by simp [bsl, List.map_drop]
theorem bsl_wr1 (cs b : List UInt8) (p k : Nat) : (bsl cs).take p ++ (bsl b).take k ++ (bsl cs).drop (p + k) = bsl (wr1 cs b p k) := by
 rw [bsl_take, bsl_take, bsl_drop]; simp [bsl, wr1]
theorem rd_piece {L L' : List SP} {cap : Nat} {r : RgI} (p : Pick L (RgB cap r) L') {c : Nat × Nat} (h : c.1 + c.2 ≤ cap) : RdS L 1 (cutA r.ad 1 c.1 cap) c.2 (bsl ((r.cs.drop c.1).take c.2)) := by
 have := RdS.part (l := c.1) (h := c.1 + c.2) (mx := cap) (RdS.own p) (Nat.le_add_right _ _) h h
 rw [Nat.add_sub_cancel_left, Nat.mul_one, Nat.mul_one, bsl_drop, bsl_take] at this; exact this
abbrev OutB (b : Nat) (l : List UInt8) : SP := RX.ex fun i : Option Addr × Nat => [pt b [.slice i.1 l.length i.2] 31, own 5 1 i.1 l.length i.2 (bsl l)]
theorem rlook_ct (L : List SP) (rb cap : Nat) (l : List UInt8) (n : Int) : Ct Tryz.prog 196 #[.pointer (some ⟨rb, 0, none⟩), .int .i64 n] (Rg rb cap l :: L) (fun q_ : Option Addr × Nat => .slice q_.1 (l.take n.toNat).length q_.2) (fun q_ : Option Addr × Nat => own 5 1 q_.1 (l.take n.toNat).length q_.2 (bsl (l.take n.toNat)) :: Rg rb cap l :: L) := by
 refine Ct.ofM (vs := [.pointer (some ⟨rb, 0, none⟩), .int .i64 n]) Tryz.func196 rfl rfl [(0, .pointer (some ⟨rb, 0, none⟩)), (1, .int .i64 n)] sbq ?_; intro E
 show Hd E 25 _ _ _ _
 refine sr fun _ hK1 => ?_
 refine yv y_as ?_; refine fk [(0, _), (1, _)] hK1 ?_; refine sr fun _ hK2 => ?_
 refine Hd.alloc zr31 (fun b5 => ?_); refine fk [(0, _), (1, _), (5, _)] hK2 ?_; refine Hd.seq fun _ hK3 => ?_
 refine sr fun _ hK4 => ?_
 refine yv y_mv ?_; refine yv y_mv ?_; refine callE rfl fk102 (rlen_ct _ rb cap l) sq ?_; intro _; refine yv (y_min rfl rfl) ?_; refine yv y_as ?_; refine fk [(0, _), (1, _), (5, _)] hK4 ?_; refine sr fun _ hK5 => ?_
 refine yv y_mv ?_; refine yv (y_gtr rfl rfl) ?_; refine fk [(0, _), (1, _), (5, _), (12, _)] hK5 ?_; refine Hd.cond rfl (fun hc0 => ?_) (fun hc0 => ?_)
 ·
  try simp only [hyA, hyB, hyC, ne_eq] at hc0
  obtain ⟨kn, hkn, hkl, hk0⟩ : ∃ kn : Nat, min n (l.length : Int) = (kn : Int) ∧ kn = min n.toNat l.length ∧ 0 < kn := ⟨min n.toNat l.length, by omega, rfl, by omega⟩
  rw [hkn]; refine Hd.rg pkk (fun r hr hcap => ?_)
  have hle := hr.le
  have hfr := hr.hf
  have hlk := hr.look (n := kn) (by omega)
  have hsum := pcs_sum (cap := cap) (f := r.fr) (n := kn) (by omega) (by omega)
  have htk : l.take n.toNat = l.take kn := by
   rw [hkl]
   rcases Nat.le_total n.toNat l.length with h | h
   ·rw [Nat.min_eq_left h]
   ·rw [Nat.min_eq_right h, List.take_length, List.take_of_length_le h]
  refine sr fun _ hK6 => ?_
  refine yv y_mv ?_; refine yv y_mv ?_; refine yv y_np ?_; refine yv (y_f 1 3 Tryz.underlying263 sz3) ?_; refine yv (y_l1 ag3 rfl) ?_; refine yv y_mv ?_; refine callE rfl fk195 (rpcs_ct _ rb (r.fr : Int) (kn : Int)) sq ?_; rintro ⟨br, bf, bn⟩; dsimp only; refine fk [(5, _), (19, _)] hK6 ?_; refine Hd.block ?_; refine Hd.rangeF (enc := encP r.ad cap) (S := fun ys => ys = pcs cap r.fr kn) (Sp := fun ys => ys <+: pcs cap r.fr kn)
   (fun pre => OutB b5 (rdA r.cs pre) :: RgB cap r :: L) (fun _ _ => [pu False])
   rfl kq (fun _ => rfl) rfl (pcs_it rb cap l.length r bn bf br r.fr kn (by omega) hcap (by omega) (by omega)) (by refine Ent.sep ?_; refine Ent.ex (none, 0) ?_; refine Ent.eq pkk (pt_eq (by rfl)) ?_; refine Ent.ownNil ?_; refine Ent.pick pkk ?_; exact Ent.swap (L := [_, _, _, _])) ?_ ?_ ?_
  ·
   intro E l' R pre c N hR hG
   have hcm : c ∈ pcs cap r.fr kn := hG.subset (by simp)
   have hck := pcs_ok (by omega) (by omega) hcm
   have hpl := pre_sum hG
   rw [hsum] at hpl
   have hrl := rdA_len hr.hc (ps := pre) (fun p hp => (pcs_ok (cap := cap) (f := r.fr) (n := kn) (by omega) (by omega) (hG.subset (List.mem_append_left _ hp))).1)
   simp only [List.map_append, List.sum_append, List.map_cons, List.map_nil, List.sum_cons, List.sum_nil] at hpl
   have hcl : ((r.cs.drop c.1).take c.2).length = c.2 := by rw [List.length_take, List.length_drop, hr.hc]; omega
   have hrs : rdA r.cs (pre ++ [c]) = rdA r.cs pre ++ (r.cs.drop c.1).take c.2 := by rw [rdA_app]; show _ ++ (_ ++ []) = _; rw [List.append_nil]
   unfold Rnd; simp only [List.cons_append, List.nil_append, pz, encP]; refine Hd.region ?_; refine yv y_as ?_; refine Hd.nil ?_; refine slots [(5, _), (6, _)] sbq ?_; refine thenN ?_; refine Hd.begin hR pkk ?_; refine Hd.block ?_; refine Hd.exs pkk ?_; rintro ⟨a3, c3⟩; simp only [List.cons_append, List.nil_append]; refine Hd.region ?_; refine yv (y_l1 ag31 rfl) ?_; refine yv y_mv ?_; refine Hd.append Tryz.underlying31 ty5 rfl rfl rfl pkk (by exact rd_piece (r := r) (cap := cap) pkk hck.1) (by exact B_one) (by simp only [maxLen]; omega) (by omega) (fun ad23 cap23 => ?_); refine Hd.store1 sz31 rfl rfl rfl pkk (by simp; done) ?_
   try simp only [List.set_cons_zero, List.set_cons_succ]
   refine Hd.nil ?_; refine slots [(5, _)] sbq ?_; refine Hd.inB ?_; refine Hd.reN ?_; simp only [List.cons_append, List.nil_append]; exact Ent.sep (.pick pkk (.ex (ad23, cap23) (.eq pkk (pt_eq (show [Value.slice ad23 ((rdA r.cs pre).length + c.2) cap23] = _ by rw [hrs, List.length_append, hcl])) (.eq pkk (own_eq (by rw [hrs, List.length_append, hcl]) (by rw [hrs]; simp [bsl])) enn))))
  ·
   intro r0 ys hys
   obtain rfl : ys = pcs cap r.fr kn := hys
   rw [hlk]
   try simp only [List.cons_append, List.nil_append]
   refine Hd.inB ?_; refine Hd.toK hK3 ?_; refine Hd.seq fun _ hK7 => ?_
   refine Hd.exs pkk ?_; rintro ⟨a3, c3⟩; simp only [List.cons_append, List.nil_append]; refine Hd.region ?_; refine yv (y_l1 ag31 rfl) ?_; refine yv y_as ?_; refine fk [(4, _)] hK7 ?_; refine Hd.ret ?_; rw [htk]; exact Hd.retM (fun a fr => Lv.mark pkk (Lv.end1 fr rfl (a3, c3) rfl (Ent.sep (.pick pkk (.ex r (.pure ⟨hr, hcap⟩ enn))))))
  ·
   rintro r0_0 (_ | id0) pre0 hG0
   ·
    exact Hd.absurd (by exact id)
   ·
    exact Hd.absurd (by exact id)
 ·
  try simp only [hyA, hyB, hyC, ne_eq] at hc0
  refine Hd.heap (OutB b5 [] :: Rg rb cap l :: L) (Ent.sep (.ex (none, 0) (.eq pkk (pt_eq (by rfl)) (.ownNil enn)))) ?_; refine Hd.skip ?_; refine Hd.toK hK3 ?_; refine Hd.seq fun _ hK8 => ?_
  refine Hd.exs pkk ?_; rintro ⟨a3, c3⟩; simp only [List.cons_append, List.nil_append]; refine Hd.region ?_; refine yv (y_l1 ag31 rfl) ?_; refine yv y_as ?_; refine fk [(4, _)] hK8 ?_; refine Hd.ret ?_
  have hz : l.take n.toNat = [] := by
   rcases Nat.eq_zero_or_pos l.length with h | h
   ·rw [List.eq_nil_of_length_eq_zero h]; simp
   ·rw [show n.toNat = 0 by omega]; rfl
  rw [hz]; exact Hd.retM (fun a fr => Lv.end1 fr rfl (a3, c3) rfl sq)
theorem rtake_ct (L : List SP) (rb cap : Nat) (l : List UInt8) (n : Int) : Ct Tryz.prog 175 #[.pointer (some ⟨rb, 0, none⟩), .int .i64 n] (Rg rb cap l :: L) (fun q_ : Option Addr × Nat => .slice q_.1 (l.take n.toNat).length q_.2) (fun q_ : Option Addr × Nat => own 5 1 q_.1 (l.take n.toNat).length q_.2 (bsl (l.take n.toNat)) :: Rg rb cap (l.drop n.toNat) :: L) := by
 refine Ct.of (vs := [.pointer (some ⟨rb, 0, none⟩), .int .i64 n]) Tryz.func175 rfl rfl [(0, .pointer (some ⟨rb, 0, none⟩)), (1, .int .i64 n)] sbq ?_; intro E
 show Hd E 48 _ _ _ _
 refine sr fun _ hK1 => ?_
 refine yv y_as ?_; refine fk [(0, _), (1, _)] hK1 ?_; refine sr fun _ hK2 => ?_
 refine yv y_mv ?_; refine yv y_mv ?_; refine callE rfl fk196 (rlook_ct _ rb cap l n) sq ?_; rintro ⟨ad, c⟩; dsimp only
 obtain ⟨kn, hkn⟩ : ∃ k, k = (l.take n.toNat).length := ⟨_, rfl⟩
 have hkl : kn ≤ l.length := by rw [hkn, List.length_take]; omega
 have hdr : l.drop n.toNat = l.drop kn := by
  rw [hkn, List.length_take]
  rcases Nat.le_total n.toNat l.length with h | h
  ·rw [Nat.min_eq_left h]
  ·rw [Nat.min_eq_right h, List.drop_length, List.drop_of_length_le h]
 rw [← hkn]; refine yv y_as ?_; refine fk [(0, _), (5, _)] hK2 ?_; refine Hd.seq fun _ hK3 => ?_
 refine sr fun _ hK4 => ?_
 refine yv y_mv ?_; refine yv (y_len Tryz.underlying31 rfl) ?_; refine yv (y_gtr rfl rfl) ?_; refine fk [(0, _), (5, _), (11, _)] hK4 ?_; refine Hd.cond rfl (fun hc0 => ?_) (fun hc0 => ?_)
 ·
  try simp only [hyA, hyB, hyC, ne_eq] at hc0
  refine Hd.rg pkk (fun r hr hcap => ?_)
  have hle := hr.le
  have hfr := hr.hf
  have htk := hr.take kn hkl
  refine Hd.seq fun _ hK5 => ?_
  refine Hd.drawsH ([RgH rb cap l.length r, RgB cap r]) (fun j => !([16].contains j)) mixed ?_; simp only [List.length, Nat.zero_add, Nat.reduceAdd]; refine tH 0 rfl y_mv ?_; refine tH 1 rfl y_mv ?_; refine tH 2 rfl y_np ?_; refine tH 3 rfl (y_f 1 3 Tryz.underlying263 sz3) ?_; refine tH 4 rfl (y_l1 ag3 rfl) ?_; refine tH 5 rfl y_mv ?_; refine tH 6 rfl (y_len Tryz.underlying31 rfl) ?_; refine tH 7 rfl (y_addn rfl rfl (by simp only [InK]; omega)) ?_; refine tH 8 rfl y_mv ?_; refine tH 9 rfl y_np ?_; refine tH 10 rfl (y_f 0 31 Tryz.underlying263 sz31) ?_; refine tH 11 rfl (y_l1 ag31 rfl) ?_; refine tH 12 rfl (y_len Tryz.underlying31 rfl) ?_; refine tH 13 rfl (y_remN rfl rfl (by omega)) ?_; refine onlyH 14 rfl kq ?_; refine yv y_np ?_; refine Hd.nil ?_; refine thenN ?_; refine heldK (J := (fun j => !([16].contains j))) (i := 14) sq ?_; refine tH 15 rfl (y_f 1 3 Tryz.underlying263 sz3) ?_; refine onlyH 16 rfl kq ?_
  refine Hd.store1 sz3 rfl rfl rfl pkk (by simp; done) ?_
  try simp only [List.set_cons_zero, List.set_cons_succ]
  refine Hd.nil ?_; refine thenN ?_; refine Hd.heldN (J := (fun j => !([16].contains j))) (i := 16) rfl ?_; refine endH kq ?_; refine sk [(0, _), (5, _)] hK5 ?_; refine sr fun _ hK6 => ?_
  refine yv y_mv ?_; refine yv y_np ?_; refine yv (y_f 2 3 Tryz.underlying263 sz3) ?_; refine yv (y_l1 ag3 rfl) ?_; refine yv y_mv ?_; refine yv (y_len Tryz.underlying31 rfl) ?_; refine yv (y_subn rfl rfl (by simp only [InK]; omega)) ?_; refine yv y_np ?_; refine yv (y_f 2 3 Tryz.underlying263 sz3) ?_; refine Hd.store1 sz3 rfl rfl rfl pkk (by simp; done) ?_
  try simp only [List.set_cons_zero, List.set_cons_succ]
  refine fk [(0, _), (5, _)] hK6 ?_; refine Hd.region ?_; refine yv y_mv ?_; refine yv y_np ?_; refine yv (y_f 4 30 Tryz.underlying263 sz30) ?_; refine yv (y_l1 ag30 rfl) ?_; refine yv y_mv ?_; refine yv (y_len Tryz.underlying31 rfl) ?_; refine yv (y_convn rfl Tryz.underlying3 Tryz.underlying30 (by simp only [InK]; omega)) ?_; refine yv (y_add rfl rfl) ?_; refine yv y_np ?_; refine yv (y_f 4 30 Tryz.underlying263 sz30) ?_; refine Hd.store1 sz30 rfl rfl rfl pkk (by simp; done) ?_
  try simp only [List.set_cons_zero, List.set_cons_succ]
  refine fk [(5, _)] hK3 ?_; refine sr fun _ hK7 => ?_
  refine yv y_mv ?_; refine yv y_as ?_; refine fk [(4, _)] hK7 ?_; refine Hd.ret ?_; rw [hdr, ← hkn]; exact Hd.ret1 rfl (ad, c) rfl (Ent.sep (.pick pkk (.ex ⟨r.ad, (r.fr + kn) % cap, r.ci, IntKind.u64.wrap (r.co + kn), r.cs⟩ (.pure ⟨htk, hcap⟩ (.eq pkk (pt_eq (by rw [List.length_drop, Int.ofNat_sub hkl])) enn)))))
 ·
  try simp only [hyA, hyB, hyC, ne_eq] at hc0
  have hk0 : kn = 0 := by omega
  refine Hd.skip ?_; refine Hd.toK hK3 ?_; refine sr fun _ hK8 => ?_
  refine yv y_mv ?_; refine yv y_as ?_; refine fk [(4, _)] hK8 ?_; refine Hd.ret ?_; rw [hdr, ← hkn, hk0, List.drop_zero]; exact Hd.ret1 rfl (ad, c) rfl sq
theorem rclear_ct (L : List SP) (rb cap : Nat) (l : List UInt8) : Ct Tryz.prog 178 #[.pointer (some ⟨rb, 0, none⟩)] (Rg rb cap l :: L) (fun _ : Unit => .int .i64 (l.length : Int)) (fun _ : Unit => Rg rb cap [] :: L) := by
 refine Ct.of (vs := [.pointer (some ⟨rb, 0, none⟩)]) Tryz.func178 rfl rfl [(0, .pointer (some ⟨rb, 0, none⟩))] sbq ?_; intro E
 show Hd E 8 _ _ _ _
 refine sr fun _ hK1 => ?_
 refine yv y_as ?_; refine fk [(0, _)] hK1 ?_; refine sr fun _ hK2 => ?_
 refine yv y_mv ?_; refine yv y_mv ?_; refine callE rfl fk102 (rlen_ct _ rb cap l) sq ?_; intro _; refine callE rfl fk175 (rtake_ct _ rb cap l (l.length : Int)) sq ?_; rintro ⟨ad, c⟩; dsimp only; rw [Int.toNat_natCast, List.take_length, List.drop_length]; refine yv (y_len Tryz.underlying31 rfl) ?_; refine yv y_as ?_; refine fk [(2, _)] hK2 ?_; refine Hd.ret ?_; exact Hd.ret1 rfl () (by rfl) sq
theorem wrA_pre {cs b : List UInt8} {pre : List (Nat × Nat)} {c : Nat × Nat} : wrA cs b (pre ++ [c]) = wr1 (wrA cs b pre) (b.drop ((pre.map Prod.snd).sum)) c.1 c.2 := by
 obtain ⟨p, k⟩ := c
 exact wrA_app
abbrev LeftB (b : Nat) (bs : List UInt8) (s : Nat) (L : List SP) : SP := RX.ex fun i : Option Addr × Nat => [pu (RdS L 1 i.1 (bs.length - s) (bsl (bs.drop s)) ∧ bs.length - s ≤ i.2), pt b [.slice i.1 (bs.length - s) i.2] 31]
theorem rput_ct (L : List SP) (rb cap : Nat) (l : List UInt8) (ad : Option Addr) (m c : Nat) (b : List UInt8) (hm : b.length = m) (hRb : RdS L 1 ad m (bsl b)) (hml : m ≤ 70368744177664) (hmc : m ≤ c) : Ct Tryz.prog 172 #[.pointer (some ⟨rb, 0, none⟩), .slice ad m c] (Rg rb cap l :: L) (fun _ : Unit => .int .i64 ((min m (cap - l.length) : Nat) : Int)) (fun _ : Unit => Rg rb cap (l ++ b.take (min m (cap - l.length))) :: L) := by
 refine Ct.ofM (vs := [.pointer (some ⟨rb, 0, none⟩), .slice ad m c]) Tryz.func172 rfl rfl [(0, .pointer (some ⟨rb, 0, none⟩)), (1, .slice ad m c)] sbq ?_; intro E
 show Hd E 58 _ _ _ _
 refine sr fun _ hK1 => ?_
 refine yv y_as ?_; refine fk [(0, _), (1, _)] hK1 ?_; refine sr fun _ hK2 => ?_
 refine yv y_mv ?_; refine yv y_mv ?_; refine yv (y_len Tryz.underlying31 rfl) ?_; refine yv y_mv ?_; refine callE rfl fk104 (rroom_ct _ rb cap l) sq ?_; intro _
 obtain ⟨k, hk⟩ : ∃ k, k = min m (cap - l.length) := ⟨_, rfl⟩
 refine yv (y_to (v' := .int .i64 (k : Int)) (y_min rfl rfl) (by (rw [hk]; congr 1; omega))) ?_; refine yv (y_slo_xoxN Tryz.underlying31 sz5 rfl rfl (by omega)) ?_; refine yv y_as ?_; refine fk [(0, _), (1, _)] hK2 ?_; refine Hd.seq fun _ hK3 => ?_
 refine sr fun _ hK4 => ?_
 refine yv y_mv ?_; refine yv (y_len Tryz.underlying31 rfl) ?_; refine yv (y_eql rfl rfl) ?_; refine fk [(0, _), (1, _), (16, _)] hK4 ?_; refine Hd.cond rfl (fun hc0 => ?_) (fun hc0 => ?_)
 ·
  try simp only [hyA, hyB, hyC, ne_eq] at hc0
  refine sr fun _ hK5 => ?_
  refine yv y_as ?_; refine fk [(4, _)] hK5 ?_; refine Hd.ret ?_; refine Hd.thenRet ?_
  have hk0 : k = 0 := by omega
  rw [← hk, hk0, List.take_zero, List.append_nil]; exact Hd.retM (fun a fr => Lv.end1 fr rfl () rfl sq)
 ·
  try simp only [hyA, hyB, hyC, ne_eq] at hc0
  have hk0 : 0 < k := by omega
  have hkm : k ≤ m := by omega
  have hbk : (b.take k).length = k := by rw [List.length_take]; omega
  refine Hd.rg pkk (fun r hr hcap => ?_)
  have hle := hr.le
  have hfr := hr.hf
  have hput := hr.put (b.take k) (by rw [hbk]; omega)
  have hsum := pcs_sum (cap := cap) (f := r.fr + l.length) (n := k) (by omega) (by omega)
  rw [hbk] at hput
  have hR0 : RdS L 1 ad k (bsl (b.take k)) := by
   have := RdS.head (l := k) hRb hkm
   rwa [Nat.mul_one, bsl_take] at this
  refine Hd.skip ?_; refine Hd.toK hK3 ?_; refine sr fun _ hK6 => ?_
  refine yv y_mv ?_; refine Hd.alloc zr31 (fun b5 => ?_); refine Hd.store1 sz31 rfl rfl rfl pkk (by decide) ?_
  try simp only [List.set_cons_zero, List.set_cons_succ]
  refine fk [(0, _), (1, _), (5, _)] hK6 ?_; refine Hd.seq fun _ hK7 => ?_
  refine Hd.seq fun _ hK8 => ?_
  refine Hd.tail 12 mixed kq ?_; simp only [List.take, List.drop]; refine Ht.yv y_mv ?_; refine Ht.yv y_mv ?_; refine Ht.yv y_np ?_; refine Ht.yv (y_f 1 3 Tryz.underlying263 sz3) ?_; refine Ht.yv (y_l1 ag3 rfl) ?_; refine Ht.yv y_mv ?_; refine Ht.yv y_np ?_; refine Ht.yv (y_f 2 3 Tryz.underlying263 sz3) ?_; refine Ht.yv (y_l1 ag3 rfl) ?_; refine Ht.yv (y_to (v' := .int .i64 ((r.fr + l.length : Nat) : Int)) (y_addn rfl rfl (by simp only [InK]; omega)) (by rfl)) ?_; refine Ht.yv y_mv ?_; refine Ht.yv (y_len Tryz.underlying31 rfl) ?_; refine Ht.nil ?_; refine callE rfl fk195 (rpcs_ct _ rb ((r.fr + l.length : Nat) : Int) (k : Int)) sq ?_; rintro ⟨br, bf, bn⟩; dsimp only; refine fk [(0, _), (1, _), (5, _), (30, _)] hK8 ?_; refine Hd.block ?_; refine Hd.rangeF (enc := encP r.ad cap) (S := fun ys => ys = pcs cap (r.fr + l.length) k) (Sp := fun ys => ys <+: pcs cap (r.fr + l.length) k)
   (fun pre => LeftB b5 (b.take k) ((pre.map Prod.snd).sum) L :: own 5 1 r.ad cap cap (bsl (wrA r.cs (b.take k) pre)) :: L) (fun _ _ => [pu False])
   rfl kq (fun _ => rfl) rfl (pcs_it rb cap l.length r bn bf br (r.fr + l.length) k (by omega) hcap (by omega) (by omega)) (by refine Ent.sep ?_; refine Ent.ex (ad, c) ?_; refine Ent.pure ⟨by simpa [hbk] using hR0, by show (b.take k).length - 0 ≤ c; omega⟩ ?_; refine Ent.eq pkk (pt_eq (by rw [hbk]; rfl)) ?_; refine Ent.eq pkk (show RgB cap r = own 5 1 r.ad cap cap (bsl (wrA r.cs (b.take k) [])) from rfl) ?_; exact Ent.swap (L := [_, _, _, _])) ?_ ?_ ?_
  ·
   intro E l' R pre p N hR hG
   have hcm : p ∈ pcs cap (r.fr + l.length) k := hG.subset (by simp)
   have hck := pcs_ok (by omega) (by omega) hcm
   have hpl := pre_sum hG
   rw [hsum] at hpl
   have hpm : ∀ q ∈ pre, q.1 + q.2 ≤ cap := fun q hq => (pcs_ok (cap := cap) (f := r.fr + l.length) (n := k) (by omega) (by omega) (hG.subset (List.mem_append_left _ hq))).1
   simp only [List.map_append, List.sum_append, List.map_cons, List.map_nil, List.sum_cons, List.sum_nil] at hpl
   obtain ⟨s, hs⟩ : ∃ s, s = (pre.map Prod.snd).sum := ⟨_, rfl⟩
   have hwl := wrA_len (cap := cap) (ps := pre) (cs := r.cs) (b := b.take k) hr.hc hpm (by omega)
   rw [← hs] at hpl; unfold Rnd; simp only [List.cons_append, List.nil_append, pz, encP]; refine Hd.region ?_; refine yv y_as ?_; refine Hd.nil ?_; refine slots [(0, _), (1, _), (5, _), (6, _)] sbq ?_; refine thenN ?_; refine Hd.begin hR pkk ?_; refine Hd.block ?_; refine Hd.exs pkk ?_; rintro ⟨la, lc⟩; simp only [List.cons_append, List.nil_append]; refine Hd.pure (fun hl => ?_); rw [hbk, ← hs] at hl; rw [hbk, ← hs]; refine Hd.drawsH ([pt b5 [.slice la (k - s) lc] 31]) (fun j => !([3, 5].contains j)) mixed ?_; simp only [List.length, Nat.zero_add, Nat.reduceAdd]; refine tH 1 rfl y_mv ?_; refine tH 2 rfl (y_l1 ag31 rfl) ?_; refine Hd.eitherH 0 3 rfl rfl kq ?_ ?_
   ·
    refine yv (y_l1 ag31 rfl) ?_; refine Hd.nil ?_; refine thenN ?_; refine heldK (J := (fun j => !([3, 5].contains j))) (i := 0) sq ?_; refine onlyH 3 rfl kq ?_; refine Hd.copyOwn (q := p.1) (dl := p.2) (dc := cap - p.1) (sl := k - s) (vs := bsl ((b.take k).drop s)) Tryz.underlying31 ty5 rfl rfl pkk (RdS.mono hl.1 sq) hck.1 B_one ?_; rw [show min (k - s) p.2 = p.2 by omega]; refine Hd.nil ?_; refine thenN ?_; refine Hd.heldN (J := (fun j => !([3, 5].contains j))) (i := 3) rfl ?_; refine onlyH 4 rfl kq ?_; refine yv (y_slo_oxxN Tryz.underlying31 sz5 rfl rfl (by omega)) ?_; refine Hd.nil ?_; refine thenN ?_; refine heldK (J := (fun j => !([3, 5].contains j))) (i := 4) sq ?_; refine onlyH 5 rfl kq ?_; refine Hd.store1 sz31 rfl rfl rfl pkk (by simp; done) ?_
    try simp only [List.set_cons_zero, List.set_cons_succ]
    refine Hd.nil ?_; refine thenN ?_; refine Hd.heldN (J := (fun j => !([3, 5].contains j))) (i := 5) rfl ?_; refine endH kq ?_; refine slots [(0, _), (1, _)] sbq ?_; refine Hd.inB ?_; refine Hd.reN ?_; simp only [List.cons_append, List.nil_append]
    have hs2 : ((pre ++ [p]).map Prod.snd).sum = s + p.2 := by rw [hs]; simp
    have hr2 : RdS L 1 (cutA la 1 p.2 lc) ((b.take k).length - (s + p.2)) (bsl ((b.take k).drop (s + p.2))) := by
     have := RdS.tail (l := p.2) (mx := lc) hl.1 (by omega) hl.2
     rw [Nat.mul_one, bsl_drop, List.drop_drop, Nat.sub_sub] at this; rw [hbk]; exact this
    have hcs : (bsl (wrA r.cs (b.take k) pre)).take p.1 ++ (bsl ((b.take k).drop s)).take p.2 ++ (bsl (wrA r.cs (b.take k) pre)).drop (p.1 + p.2) = bsl (wrA r.cs (b.take k) (pre ++ [p])) := by rw [bsl_wr1, wrA_pre, ← hs]
    rw [hs2]; exact Ent.sep (.pick pkk (.ex (cutA la 1 p.2 lc, lc - p.2) (.pure ⟨hr2, by rw [hbk]; have := hl.2; show k - (s + p.2) ≤ lc - p.2; omega⟩ (.eq pkk (pt_eq (show [Value.slice (cutA la 1 p.2 lc) (k - s - p.2) (lc - p.2)] = _ by rw [Nat.sub_sub, hbk])) (.eq pkk (own_eq3 rfl rfl hcs) enn)))))
   ·
    refine Hd.copyOwn (q := p.1) (dl := p.2) (dc := cap - p.1) (sl := k - s) (vs := bsl ((b.take k).drop s)) Tryz.underlying31 ty5 rfl rfl pkk (RdS.mono hl.1 sq) hck.1 B_one ?_; rw [show min (k - s) p.2 = p.2 by omega]; refine Hd.nil ?_; refine thenN ?_; refine Hd.heldN (J := (fun j => !([3, 5].contains j))) (i := 3) rfl ?_; refine onlyH 0 rfl kq ?_; refine yv (y_l1 ag31 rfl) ?_; refine Hd.nil ?_; refine thenN ?_; refine heldK (J := (fun j => !([3, 5].contains j))) (i := 0) sq ?_; refine onlyH 4 rfl kq ?_; refine yv (y_slo_oxxN Tryz.underlying31 sz5 rfl rfl (by omega)) ?_; refine Hd.nil ?_; refine thenN ?_; refine heldK (J := (fun j => !([3, 5].contains j))) (i := 4) sq ?_; refine onlyH 5 rfl kq ?_; refine Hd.store1 sz31 rfl rfl rfl pkk (by simp; done) ?_
    try simp only [List.set_cons_zero, List.set_cons_succ]
    refine Hd.nil ?_; refine thenN ?_; refine Hd.heldN (J := (fun j => !([3, 5].contains j))) (i := 5) rfl ?_; refine endH kq ?_; refine slots [(0, _), (1, _)] sbq ?_; refine Hd.inB ?_; refine Hd.reN ?_; simp only [List.cons_append, List.nil_append]
    have hs2 : ((pre ++ [p]).map Prod.snd).sum = s + p.2 := by rw [hs]; simp
    have hr2 : RdS L 1 (cutA la 1 p.2 lc) ((b.take k).length - (s + p.2)) (bsl ((b.take k).drop (s + p.2))) := by
     have := RdS.tail (l := p.2) (mx := lc) hl.1 (by omega) hl.2
     rw [Nat.mul_one, bsl_drop, List.drop_drop, Nat.sub_sub] at this; rw [hbk]; exact this
    have hcs : (bsl (wrA r.cs (b.take k) pre)).take p.1 ++ (bsl ((b.take k).drop s)).take p.2 ++ (bsl (wrA r.cs (b.take k) pre)).drop (p.1 + p.2) = bsl (wrA r.cs (b.take k) (pre ++ [p])) := by rw [bsl_wr1, wrA_pre, ← hs]
    rw [hs2]; exact Ent.sep (.pick pkk (.ex (cutA la 1 p.2 lc, lc - p.2) (.pure ⟨hr2, by rw [hbk]; have := hl.2; show k - (s + p.2) ≤ lc - p.2; omega⟩ (.eq pkk (pt_eq (show [Value.slice (cutA la 1 p.2 lc) (k - s - p.2) (lc - p.2)] = _ by rw [Nat.sub_sub, hbk])) (.eq pkk (own_eq3 rfl rfl hcs) enn)))))
  ·
   intro r0 ys hys
   obtain rfl : ys = pcs cap (r.fr + l.length) k := hys
   try simp only [List.cons_append, List.nil_append]
   refine Hd.inB ?_; refine Hd.toK hK7 ?_; refine sr fun _ hK9 => ?_
   refine yv y_mv ?_; refine yv y_np ?_; refine yv (y_f 2 3 Tryz.underlying263 sz3) ?_; refine yv (y_l1 ag3 rfl) ?_; refine yv y_mv ?_; refine yv (y_len Tryz.underlying31 rfl) ?_; refine yv (y_addn rfl rfl (by simp only [InK]; omega)) ?_; refine yv y_np ?_; refine yv (y_f 2 3 Tryz.underlying263 sz3) ?_; refine Hd.store1 sz3 rfl rfl rfl pkk (by simp; done) ?_
   try simp only [List.set_cons_zero, List.set_cons_succ]
   refine fk [(0, _), (1, _)] hK9 ?_; refine sr fun _ hK10 => ?_
   refine yv y_mv ?_; refine yv y_np ?_; refine yv (y_f 3 30 Tryz.underlying263 sz30) ?_; refine yv (y_l1 ag30 rfl) ?_; refine yv y_mv ?_; refine yv (y_len Tryz.underlying31 rfl) ?_; refine yv (y_convn rfl Tryz.underlying3 Tryz.underlying30 (by simp only [InK]; omega)) ?_; refine yv (y_add rfl rfl) ?_; refine yv y_np ?_; refine yv (y_f 3 30 Tryz.underlying263 sz30) ?_; refine Hd.store1 sz30 rfl rfl rfl pkk (by simp; done) ?_
   try simp only [List.set_cons_zero, List.set_cons_succ]
   refine fk [(1, _)] hK10 ?_; refine sr fun _ hK11 => ?_
   refine yv y_mv ?_; refine yv (y_len Tryz.underlying31 rfl) ?_; refine yv y_as ?_; refine fk [(4, _)] hK11 ?_; refine Hd.ret ?_; rw [← hk]; exact Hd.retM (fun a fr => Lv.mark pkk (Lv.end1 fr rfl () rfl (Ent.sep (.ex ⟨r.ad, r.fr, IntKind.u64.wrap (r.ci + k), r.co, wrA r.cs (b.take k) (pcs cap (r.fr + l.length) k)⟩ (.pure ⟨hput, hcap⟩ (.eq pkk (pt_eq (by rw [List.length_append, hbk]; rfl)) enn))))))
  ·
   rintro r0_0 (_ | id0) pre0 hG0
   ·
    exact Hd.absurd (by exact id)
   ·
    exact Hd.absurd (by exact id)
end Wo
end Go.Proofs.YtbfddabjbkohdaaGreat
namespace Go.Proofs.YtbfddabjbkohdaaGreat
set_option maxHeartbeats 2000000
open Go.RX.Hd (yv y2 n1 fk sk sr tH callE heldK onlyH endH thenN slots)
set_option linter.unusedSimpArgs false
set_option linter.unusedVariables false
set_option linter.unnecessarySimpa false
open Go.RX Fx
namespace Wo
set_option maxRecDepth 8000
structure EndA where
 what : Int
 fd : Int
 rd : Bool
 wr : Bool
 b : List UInt8
 shut : Bool
 inn : Int
 out : Int
structure WireA where
 e : Nat → EndA
 cap : Nat
 rs : Bool
 bl : Int
 wt : List Nat
def WireA.up (x : WireA) (k : Nat) (f : EndA → EndA) : WireA := { x with e := fun j => if j = k then f (x.e j) else x.e j }
theorem up_at (x : WireA) (k : Nat) (f : EndA → EndA) : (x.up k f).e k = f (x.e k) := if_pos rfl
theorem up_ne (x : WireA) {k j : Nat} (f : EndA → EndA) (h : j ≠ k) : (x.up k f).e j = x.e j := if_neg h
def riseE (i o : Bool) (e : EndA) : EndA := { e with inn := if (i && e.rd) = true then IntKind.u64.wrap (e.inn + 1) else e.inn, out := if (o && e.wr) = true then IntKind.u64.wrap (e.out + 1) else e.out }
def takeW (x : WireA) (k n : Nat) : WireA := (x.up k fun e => { e with b := e.b.drop n }).up (1 - k) (riseE false (decide (0 < ((x.e k).b.take n).length)))
def putN (x : WireA) (k : Nat) (bs : List UInt8) : Nat := min bs.length (x.cap - (x.e (1 - k)).b.length)
def putW (x : WireA) (k : Nat) (bs : List UInt8) : WireA := (x.up (1 - k) fun e => { e with b := e.b ++ bs.take (putN x k bs) }).up (1 - k) (riseE (decide (0 < putN x k bs)) false)
def shutW (x : WireA) (k : Nat) : WireA := if (x.e k).shut = true then x else (x.up k fun e => { e with shut := true }).up (1 - k) (riseE true false)
def closeW (x : WireA) (k : Nat) : WireA := (x.up (1 - k) (riseE (!(x.e k).shut) true)).up k fun e => { e with what := 3 }
def silentW (x : WireA) (k : Nat) : Bool := decide ((x.e (1 - k)).what = 3) || (x.e (1 - k)).shut
structure WI where
 p : Nat → Option Nat
 wa : Option Addr
 wc : Nat
abbrev ptr (p : Option Nat) : Value := .pointer (p.map fun b => ⟨b, 0, none⟩)
abbrev encE (x : EndA) (p : Option Nat) : List Value := [.int .i64 x.what, .int .i64 x.fd, ptr p, .bool x.wr, .bool x.shut, .int .u64 x.inn, .int .u64 x.out]
abbrev encW (x : WireA) (i : WI) : List Value := encE (x.e 0) (i.p 0) ++ (encE (x.e 1) (i.p 1) ++ [.bool x.rs, .int .i64 x.bl, .slice i.wa x.wt.length i.wc])
def RgO (p : Option Nat) (cap : Nat) (l : List UInt8) : SP := match p with
 | none => pu True
 | some rb => Rg rb cap l
abbrev nats (l : List Nat) : List Value := l.map fun m : Nat => .int .i64 (m : Int)
structure WIOk (x : WireA) (i : WI) : Prop where
 rd : ∀ k, k < 2 → (i.p k).isSome = (x.e k).rd
abbrev WireB (x : WireA) (i : WI) (k : Nat) (L : List SP) : List SP := RgO (i.p k) x.cap (x.e k).b :: RgO (i.p (1 - k)) x.cap (x.e (1 - k)).b :: own 3 1 i.wa x.wt.length i.wc (nats x.wt) :: L
abbrev WireH (b : Nat) (x : WireA) (i : WI) : SP := pt b (encW x i) 199
abbrev WireL (b : Nat) (x : WireA) (i : WI) (k : Nat) (L : List SP) : List SP := WireH b x i :: RgO (i.p k) x.cap (x.e k).b :: RgO (i.p (1 - k)) x.cap (x.e (1 - k)).b :: own 3 1 i.wa x.wt.length i.wc (nats x.wt) :: L
def WireP (b : Nat) (x : WireA) : SP := RX.ex fun c : WI × Nat => pu (WIOk x c.1 ∧ c.2 < 2) :: WireL b x c.1 c.2 []
theorem Hd.wire {E : World} {n : Nat} {ds : List Deferred} {st : List (Nat × Value)} {L L' : List SP} {K : Act → World → Prop} {b : Nat} {x : WireA} (p : Pick L (WireP b x) L') (k : Nat) (hk : k < 2) (h : ∀ i, WIOk x i → Hd E n ds st (WireL b x i k L') K) : Hd E n ds st L K :=
 Hd.exs (f := fun c : WI × Nat => pu (WIOk x c.1 ∧ c.2 < 2) :: WireL b x c.1 c.2 []) p fun c => Hd.pure fun hr => by
  obtain ⟨i, k'⟩ := c
  obtain ⟨h1, h2⟩ := hr
  by_cases e : k' = k
  ·subst e; exact h i h1
  ·obtain rfl : k' = 1 - k := by dsimp only at h2; omega
   refine Hd.heap (WireL b x i k L') (fun q s => ?_) (h i h1)
   have e2 : 1 - (1 - k) = k := by omega
   have s' : sep (WireL b x i (1 - k) L') q := s
   unfold WireL at s'; rw [e2] at s'; exact Ent.sep enn q s'
theorem enc_at {x : WireA} {i : WI} {k o : Nat} {v : Value} (j : Nat) (hk : k < 2) (hj : j < 7) (ho : o = k * 7 + j) (hv : (encE (x.e k) (i.p k))[j]? = some v) : (encW x i)[o]? = some v := by
 subst ho
 rcases (show k = 0 ∨ k = 1 by omega) with rfl | rfl
 ·rw [show 0 * 7 + j = j by omega, List.getElem?_append_left (by simp; omega)]; exact hv
 ·rw [List.getElem?_append_right (by simp), List.getElem?_append_left (by simp; omega)]
  simpa using hv
theorem set_app {a b : List Value} {j : Nat} {v : Value} (h : a.length ≤ j) : (a ++ b).set j v = a ++ b.set (j - a.length) v := List.set_append_right _ _ h
theorem enc_set {x : WireA} {i : WI} {k o : Nat} {v : Value} (f : EndA → EndA) (j : Nat) (hk : k < 2) (hj : j < 7) (ho : o = k * 7 + j) (hf : (encE (x.e k) (i.p k)).set j v = encE (f (x.e k)) (i.p k)) : (encW x i).set o v = encW (x.up k f) i := by
 subst ho
 rcases (show k = 0 ∨ k = 1 by omega) with rfl | rfl
 ·rw [show 0 * 7 + j = j by omega, List.set_append_left _ _ (by simp; omega), hf]
  show _ = encE ((x.up 0 f).e 0) _ ++ (encE ((x.up 0 f).e 1) _ ++ _)
  rw [up_at, up_ne _ _ (by omega)]; rfl
 ·rw [set_app (by simp), List.set_append_left _ _ (by simp; omega)]
  show _ = encE ((x.up 1 f).e 0) _ ++ (encE ((x.up 1 f).e 1) _ ++ _)
  rw [up_at, up_ne _ _ (by omega)]
  have : 1 * 7 + j - (encE (x.e 0) (i.p 0)).length = j := by simp
  rw [this, hf]; rfl
theorem WIOk.up {x : WireA} {i : WI} (h : WIOk x i) {k : Nat} {f : EndA → EndA} (hf : ∀ e, (f e).rd = e.rd) : WIOk (x.up k f) i := ⟨fun j hj => by
 by_cases e : j = k
 ·subst e; rw [up_at, hf]; exact h.rd j hj
 ·rw [up_ne _ _ e]; exact h.rd j hj⟩
theorem up_up (x : WireA) (k : Nat) (f g : EndA → EndA) : (x.up k f).up k g = x.up k fun e => g (f e) := by
 unfold WireA.up
 congr 1
 funext j
 by_cases h : j = k <;> simp [h]
theorem up_id {x : WireA} {k : Nat} {f : EndA → EndA} (h : f (x.e k) = x.e k) : x.up k f = x := by
 obtain ⟨e, c, r, bl, wt⟩ := x
 unfold WireA.up
 congr 1
 funext j
 by_cases hj : j = k
 ·subst hj; simpa using h
 ·simp [hj]
theorem up_eq {x : WireA} {k : Nat} {f g : EndA → EndA} (h : f (x.e k) = g (x.e k)) : x.up k f = x.up k g := by
 obtain ⟨e, c, r, bl, wt⟩ := x
 unfold WireA.up
 congr 1
 funext j
 by_cases hj : j = k
 ·subst hj; simpa using h
 ·simp [hj]
theorem wire_fold {b : Nat} {x : WireA} {i : WI} {k : Nat} {L : List SP} (hi : WIOk x i) (hk : k < 2) : ∀ h, sep (WireH b x i :: WireB x i k L) h → sep (WireP b x :: L) h :=
 fun h s => Ent.sep (.ex (i, k) (.pure ⟨hi, hk⟩ enn)) h s
theorem wireB_up {x : WireA} {i : WI} {k k' : Nat} {L : List SP} {f : EndA → EndA} (hf : ∀ e, (f e).b = e.b) : WireB (x.up k' f) i k L = WireB x i k L := by
 have h : ∀ j, ((x.up k' f).e j).b = (x.e j).b := fun j => by
  by_cases e : j = k'
  ·subst e; rw [up_at, hf]
  ·rw [up_ne _ _ e]
 unfold WireB; rw [h, h]; rfl
theorem wire_close {b : Nat} {x : WireA} {i : WI} {k k' : Nat} {L : List SP} {f : EndA → EndA} (hi : WIOk x i) (hk : k < 2) (hf : ∀ e, (f e).b = e.b) (hr : ∀ e, (f e).rd = e.rd) : ∀ h, sep (WireH b (x.up k' f) i :: WireB x i k L) h → sep (WireP b (x.up k' f) :: L) h := by
 rw [← wireB_up (k' := k') hf]; exact wire_fold (hi.up hr) hk
theorem ptr_no {p : Option Nat} : (p.map fun b => (⟨b, 0, none⟩ : Addr)).isNone = !p.isSome := by cases p <;> rfl
theorem came_ct (L : List SP) (b : Nat) (x : WireA) (k : Nat) (hk : k < 2) (vi vo : Bool) : Ct Tryz.prog 173 #[.pointer (some ⟨b, 0, none⟩), .int .i64 (k : Int), .bool vi, .bool vo] (WireP b x :: L) (fun _ : Unit => .tuple #[]) (fun _ : Unit => WireP b (x.up k (riseE vi vo)) :: L) := by
 refine Ct.of (vs := [.pointer (some ⟨b, 0, none⟩), .int .i64 (k : Int), .bool vi, .bool vo]) Tryz.func173 rfl rfl [(0, .pointer (some ⟨b, 0, none⟩)), (1, .int .i64 (k : Int)), (2, .bool vi), (3, .bool vo)] sbq ?_; intro E
 show Hd E 53 _ _ _ _
 refine Hd.wire .here k hk (fun i hi => ?_); refine Hd.cutK (ι := Unit) [(0, _), (1, _), (3, _)] (fun _ => []) (fun _ => WireH b (x.up k (riseE vi false)) i :: WireB x i k L) ?_ ?_ ⟨rfl, rfl, rfl, trivial⟩
 ·
  refine sr fun _ hK1 => ?_
  refine yv y_mv ?_; refine yv y_mv ?_; apply Hd.andg 9 9 18 [(0, _), (1, _), (3, _)] rfl ⟨rfl, rfl, rfl, trivial⟩
  ·intro hg0_9
   try simp only [hyA, hyB, hyC, ne_eq] at hg0_9
   simp only [List.take]; refine y2 y_mv ?_; refine y2 y_mv ?_; refine y2 y_np ?_; refine y2 (y_f 0 197 Tryz.underlying199 sz197) ?_; refine y2 (y_idxA Tryz.underlying197 sz196 rfl rfl (by omega)) ?_; refine y2 (y_f 2 194 Tryz.underlying196 sz194) ?_; refine y2 (y_load1 ag194 rfl (Rd.pt1 pkk (by exact enc_at 2 hk (by omega) (by omega) rfl))) ?_; refine y2 (y_to (v' := .bool (x.e k).rd) (y_neq_pointer Tryz.underlying194 rfl rfl) (by (rw [ptr_no, hi.rd k hk, Bool.not_not]))) ?_; refine yv (y_pickT rfl rfl) ?_; refine Hd.nil ?_; exact Hd.mq
  ·intro hg0_9
   try simp only [hyA, hyB, hyC, ne_eq] at hg0_9
   simp only [List.take]; refine n1 ?_; refine n1 ?_; refine n1 ?_; refine n1 ?_; refine n1 ?_; refine n1 ?_; refine n1 ?_; refine n1 ?_; refine yv (y_pickF rfl rfl) ?_; refine Hd.nil ?_; exact Hd.mq
  simp only [List.drop]; refine fk [(0, _), (1, _), (3, _), (18, _)] hK1 ?_; refine Hd.cond rfl (fun hc0 => ?_) (fun hc0 => ?_)
  ·
   try simp only [hyA, hyB, hyC, ne_eq] at hc0
   have h2 : x.up k (fun e => { e with inn := IntKind.u64.wrap (e.inn + 1) }) = x.up k (riseE vi false) := up_eq (by simp [riseE, hc0.1, hc0.2])
   refine Hd.drawsH ([WireH b x i]) (fun j => !([12].contains j)) mixed ?_; simp only [List.length, Nat.zero_add, Nat.reduceAdd]; refine tH 0 rfl y_mv ?_; refine tH 1 rfl y_mv ?_; refine tH 2 rfl y_np ?_; refine tH 3 rfl (y_f 0 197 Tryz.underlying199 sz197) ?_; refine tH 4 rfl (y_idxA Tryz.underlying197 sz196 rfl rfl (by omega)) ?_; refine tH 5 rfl (y_f 5 30 Tryz.underlying196 sz30) ?_; refine tH 6 rfl (y_load1 ag30 rfl (Rd.pt1 pkk (by exact enc_at 5 hk (by omega) (by omega) rfl))) ?_; refine tH 7 rfl (y_add rfl rfl) ?_; refine onlyH 8 rfl kq ?_; refine yv y_np ?_; refine Hd.nil ?_; refine thenN ?_; refine heldK (J := (fun j => !([12].contains j))) (i := 8) sq ?_; refine onlyH 9 rfl kq ?_; refine yv (y_f 0 197 Tryz.underlying199 sz197) ?_; refine Hd.nil ?_; refine thenN ?_; refine heldK (J := (fun j => !([12].contains j))) (i := 9) sq ?_; refine onlyH 10 rfl kq ?_; refine yv (y_idxA Tryz.underlying197 sz196 rfl rfl (by omega)) ?_
   refine Hd.nil ?_; refine thenN ?_; refine heldK (J := (fun j => !([12].contains j))) (i := 10) sq ?_; refine tH 11 rfl (y_f 5 30 Tryz.underlying196 sz30) ?_; refine onlyH 12 rfl kq ?_; refine Hd.store1 sz30 rfl rfl rfl pkk (by simp; omega) ?_
   try simp only [List.set_cons_zero, List.set_cons_succ]
   refine Hd.nil ?_; refine thenN ?_; refine Hd.heldN (J := (fun j => !([12].contains j))) (i := 12) rfl ?_; refine endH kq ?_; rw [show (encW x i).set (0 + 0 + k * 7 + 5) (.int .u64 (IntKind.u64.wrap ((x.e k).inn + 1))) = encW (x.up k fun e => { e with inn := IntKind.u64.wrap (e.inn + 1) }) i from enc_set _ 5 hk (by omega) (by omega) rfl]; refine slots [(0, _), (1, _), (3, _)] sbq ?_; refine thenN ?_; exact Hd.meet () sbq (Ent.sep (.eq pkk (pt_eq (by rw [h2])) enn))
  ·
   try simp only [hyA, hyB, hyC, ne_eq] at hc0
   have h2 : x = x.up k (riseE vi false) := (up_id (by
    have h : (vi && (x.e k).rd) = false := by rcases hc0 with h | h <;> simp [h]
    unfold riseE; rw [if_neg (by rw [h]; simp), if_neg (by simp)])).symm
   refine Hd.skip ?_; refine thenN ?_; exact Hd.meet () sbq (Ent.sep (.eq pkk (pt_eq (congrArg (fun z => encW z i) h2)) enn))
 ·
  intro _; refine sr fun _ hK2 => ?_
  refine yv y_mv ?_; refine yv y_mv ?_; apply Hd.andg 8 32 40 [(0, _), (1, _)] rfl ⟨rfl, rfl, trivial⟩
  ·intro hg2_32
   try simp only [hyA, hyB, hyC, ne_eq] at hg2_32
   simp only [List.take]; refine y2 y_mv ?_; refine y2 y_mv ?_; refine y2 y_np ?_; refine y2 (y_f 0 197 Tryz.underlying199 sz197) ?_; refine y2 (y_idxA Tryz.underlying197 sz196 rfl rfl (by omega)) ?_; refine y2 (y_f 3 4 Tryz.underlying196 sz4) ?_; refine y2 (y_to (v' := .bool (x.e k).wr) (y_load1 ag4 rfl (Rd.pt1 pkk (by exact enc_at 3 hk (by omega) (by omega) (by rw [up_at]; rfl)))) (by rfl)) ?_; refine yv (y_pickT rfl rfl) ?_; refine Hd.nil ?_; exact Hd.mq
  ·intro hg2_32
   try simp only [hyA, hyB, hyC, ne_eq] at hg2_32
   simp only [List.take]; refine n1 ?_; refine n1 ?_; refine n1 ?_; refine n1 ?_; refine n1 ?_; refine n1 ?_; refine n1 ?_; refine yv (y_pickF rfl rfl) ?_; refine Hd.nil ?_; exact Hd.mq
  simp only [List.drop]; refine fk [(0, _), (1, _), (40, _)] hK2 ?_; refine Hd.cond rfl (fun hc1 => ?_) (fun hc1 => ?_)
  ·
   try simp only [hyA, hyB, hyC, ne_eq] at hc1
   refine Hd.drawsH ([WireH b (x.up k (riseE vi false)) i]) (fun j => !([12].contains j)) mixed ?_; simp only [List.length, Nat.zero_add, Nat.reduceAdd]; refine tH 0 rfl y_mv ?_; refine tH 1 rfl y_mv ?_; refine tH 2 rfl y_np ?_; refine tH 3 rfl (y_f 0 197 Tryz.underlying199 sz197) ?_; refine tH 4 rfl (y_idxA Tryz.underlying197 sz196 rfl rfl (by omega)) ?_; refine tH 5 rfl (y_f 6 30 Tryz.underlying196 sz30) ?_; refine tH 6 rfl (y_to (v' := .int .u64 (x.e k).out) (y_load1 ag30 rfl (Rd.pt1 pkk (by exact enc_at 6 hk (by omega) (by omega) (by rw [up_at]; rfl)))) (by simp [riseE])) ?_; refine tH 7 rfl (y_add rfl rfl) ?_; refine onlyH 8 rfl kq ?_; refine yv y_np ?_; refine Hd.nil ?_; refine thenN ?_; refine heldK (J := (fun j => !([12].contains j))) (i := 8) sq ?_; refine onlyH 9 rfl kq ?_; refine yv (y_f 0 197 Tryz.underlying199 sz197) ?_; refine Hd.nil ?_; refine thenN ?_; refine heldK (J := (fun j => !([12].contains j))) (i := 9) sq ?_
   refine onlyH 10 rfl kq ?_; refine yv (y_idxA Tryz.underlying197 sz196 rfl rfl (by omega)) ?_; refine Hd.nil ?_; refine thenN ?_; refine heldK (J := (fun j => !([12].contains j))) (i := 10) sq ?_; refine tH 11 rfl (y_f 6 30 Tryz.underlying196 sz30) ?_; refine onlyH 12 rfl kq ?_; refine Hd.store1 sz30 rfl rfl rfl pkk (by simp; omega) ?_
   try simp only [List.set_cons_zero, List.set_cons_succ]
   refine Hd.nil ?_; refine thenN ?_; refine Hd.heldN (J := (fun j => !([12].contains j))) (i := 12) rfl ?_; refine endH kq ?_; rw [show (encW (x.up k (riseE vi false)) i).set (0 + 0 + k * 7 + 6) (.int .u64 (IntKind.u64.wrap ((x.e k).out + 1))) = encW ((x.up k (riseE vi false)).up k fun e => { e with out := IntKind.u64.wrap ((x.e k).out + 1) }) i from enc_set _ 6 hk (by omega) (by omega) (by rw [up_at]; rfl), up_up]; refine slots [] sbq ?_
   have h2 : (x.up k fun e => { riseE vi false e with out := IntKind.u64.wrap ((x.e k).out + 1) }) = x.up k (riseE vi vo) := up_eq (by simp [riseE, hc1.1, hc1.2])
   exact Hd.end0 rfl () rfl (fun q s => wire_close (f := riseE vi vo) (k' := k) hi hk (fun _ => rfl) (fun _ => rfl) q (Ent.sep (.eq pkk (pt_eq (congrArg (fun z => encW z i) h2)) enn) q s))
  ·
   try simp only [hyA, hyB, hyC, ne_eq] at hc1
   refine Hd.skip ?_
   have h2 : x.up k (riseE vi false) = x.up k (riseE vi vo) := up_eq (by
    have h : (vo && (x.e k).wr) = false := by rcases hc1 with h | h <;> simp [h]
    unfold riseE; congr 1; rw [if_neg (by simp), if_neg (by rw [h]; simp)])
   exact Hd.end0 rfl () rfl (fun q s => wire_close (f := riseE vi vo) (k' := k) hi hk (fun _ => rfl) (fun _ => rfl) q (Ent.sep (.eq pkk (pt_eq (congrArg (fun z => encW z i) h2)) enn) q s))
end Wo
end Go.Proofs.YtbfddabjbkohdaaGreat
namespace Go.Proofs.YtbfddabjbkohdaaGreat
set_option maxHeartbeats 2000000
open Go.RX.Hd (yv y2 n1 fk sk sr tH callE heldK onlyH endH thenN slots)
set_option linter.unusedSimpArgs false
set_option linter.unusedVariables false
set_option linter.unnecessarySimpa false
open Go.RX Fx
namespace Wo
set_option maxRecDepth 8000
theorem silent_ct (L : List SP) (b : Nat) (x : WireA) (k : Nat) (hk : k < 2) : Ct Tryz.prog 103 #[.pointer (some ⟨b, 0, none⟩), .int .i64 (k : Int)] (WireP b x :: L) (fun _ : Unit => .bool (silentW x k)) (fun _ : Unit => WireP b x :: L) := by
 refine Ct.of (vs := [.pointer (some ⟨b, 0, none⟩), .int .i64 (k : Int)]) Tryz.func103 rfl rfl [(0, .pointer (some ⟨b, 0, none⟩)), (1, .int .i64 (k : Int))] sbq ?_; intro E
 show Hd E 24 _ _ _ _
 refine Hd.wire .here k hk (fun i hi => ?_)
 have hk1 : 1 - k < 2 := by omega
 refine sr fun _ hK1 => ?_
 refine yv y_as ?_; refine fk [(0, _), (1, _)] hK1 ?_; refine sr fun _ hK2 => ?_
 refine yv y_mv ?_; refine yv y_mv ?_; refine yv (y_to (v' := .int .i64 ((1 - k : Nat) : Int)) (y_subn rfl rfl (by simp only [InK]; omega)) (by (congr 1; omega))) ?_; refine yv y_np ?_; refine yv (y_f 0 197 Tryz.underlying199 sz197) ?_; refine yv (y_idxA Tryz.underlying197 sz196 rfl rfl (by omega)) ?_; refine yv (y_f 0 3 Tryz.underlying196 sz3) ?_; refine yv (y_load1 ag3 rfl (Rd.pt1 pkk (by exact enc_at 0 hk1 (by omega) (by omega) rfl))) ?_; refine yv (y_eql rfl rfl) ?_; refine yv y_mv ?_; apply Hd.org 9 14 23 [] rfl trivial
 ·intro hg1_14
  try simp only [hyA, hyB, hyC, ne_eq] at hg1_14
  simp only [List.take]; refine n1 ?_; refine n1 ?_; refine n1 ?_; refine n1 ?_; refine n1 ?_; refine n1 ?_; refine n1 ?_; refine n1 ?_; refine yv (y_pickT rfl rfl) ?_; refine Hd.nil ?_; exact Hd.mq
 ·intro hg1_14
  try simp only [hyA, hyB, hyC, ne_eq] at hg1_14
  simp only [List.take]; refine y2 y_mv ?_; refine y2 y_mv ?_; refine y2 (y_to (v' := .int .i64 ((1 - k : Nat) : Int)) (y_subn rfl rfl (by simp only [InK]; omega)) (by (congr 1; omega))) ?_; refine y2 y_np ?_; refine y2 (y_f 0 197 Tryz.underlying199 sz197) ?_; refine y2 (y_idxA Tryz.underlying197 sz196 rfl rfl (by omega)) ?_; refine y2 (y_f 4 4 Tryz.underlying196 sz4) ?_; refine y2 (y_load1 ag4 rfl (Rd.pt1 pkk (by exact enc_at 4 hk1 (by omega) (by omega) rfl))) ?_; refine yv (y_pickF rfl rfl) ?_; refine Hd.nil ?_; exact Hd.mq
 simp only [List.drop]; refine yv y_as ?_; refine fk [(4, _)] hK2 ?_; refine Hd.ret ?_; exact Hd.ret1 rfl () rfl (fun q s => wire_fold hi hk q (Ent.sep enn q s))
theorem RgO_eq {p : Option Nat} {rb cap : Nat} {l : List UInt8} (h : p = some rb) : RgO p cap l = Rg rb cap l := by rw [h]; rfl
theorem wi_some {x : WireA} {i : WI} {k : Nat} (hi : WIOk x i) (hk : k < 2) (hr : (x.e k).rd = true) : ∃ rb, i.p k = some rb := by
 have := hi.rd k hk
 rw [hr] at this; exact Option.isSome_iff_exists.1 this
theorem Hd.wireR {E : World} {n : Nat} {ds : List Deferred} {st : List (Nat × Value)} {L L' : List SP} {K : Act → World → Prop} {b : Nat} {x : WireA} (p : Pick L (WireP b x) L') (k : Nat) (hk : k < 2) (hr : (x.e k).rd = true)
  (h : ∀ i rb, WIOk x i → i.p k = some rb → Hd E n ds st (WireH b x i :: Rg rb x.cap (x.e k).b :: RgO (i.p (1 - k)) x.cap (x.e (1 - k)).b :: own 3 1 i.wa x.wt.length i.wc (nats x.wt) :: L') K) : Hd E n ds st L K :=
 Hd.wire p k hk fun i hi => by
  obtain ⟨rb, hrb⟩ := wi_some hi hk hr
  have := h i rb hi hrb
  rw [← RgO_eq hrb] at this; exact this
theorem enc_up {x : WireA} {i : WI} {k : Nat} {f : EndA → EndA} (hf : ∀ e p, encE (f e) p = encE e p) : encW (x.up k f) i = encW x i := by
 have h : ∀ j p, encE ((x.up k f).e j) p = encE (x.e j) p := fun j p => by
  by_cases e : j = k
  ·subst e; rw [up_at, hf]
  ·rw [up_ne _ _ e]
 show encE ((x.up k f).e 0) _ ++ (encE ((x.up k f).e 1) _ ++ _) = _
 rw [h, h]; rfl
theorem wire_ring {b : Nat} {x : WireA} {i : WI} {k rb : Nat} {L : List SP} {l' : List UInt8} (hi : WIOk x i) (hk : k < 2) (hrb : i.p k = some rb) : ∀ h, sep (WireH b x i :: Rg rb x.cap l' :: RgO (i.p (1 - k)) x.cap (x.e (1 - k)).b :: own 3 1 i.wa x.wt.length i.wc (nats x.wt) :: L) h → sep (WireP b (x.up k fun e => { e with b := l' }) :: L) h := by
 intro h s; refine wire_fold (x := x.up k fun e => { e with b := l' }) (i := i) (k := k) (hi.up fun _ => rfl) hk h ?_
 have h1 : RgO (i.p k) (x.up k fun e => { e with b := l' }).cap ((x.up k fun e => { e with b := l' }).e k).b = Rg rb x.cap l' := by rw [RgO_eq hrb, up_at]; rfl
 have h2 : RgO (i.p (1 - k)) (x.up k fun e => { e with b := l' }).cap ((x.up k fun e => { e with b := l' }).e (1 - k)).b = RgO (i.p (1 - k)) x.cap (x.e (1 - k)).b := by rw [up_ne _ _ (by omega)]; rfl
 unfold WireB WireH; rw [h1, h2, enc_up (f := fun e => { e with b := l' }) fun _ _ => rfl]; exact s
theorem take_ct (L : List SP) (b : Nat) (x : WireA) (k : Nat) (hk : k < 2) (hr : (x.e k).rd = true) (n : Int) : Ct Tryz.prog 117 #[.pointer (some ⟨b, 0, none⟩), .int .i64 (k : Int), .int .i64 n] (WireP b x :: L) (fun q_ : Option Addr × Nat => .slice q_.1 ((x.e k).b.take n.toNat).length q_.2) (fun q_ : Option Addr × Nat => own 5 1 q_.1 ((x.e k).b.take n.toNat).length q_.2 (bsl ((x.e k).b.take n.toNat)) :: WireP b (takeW x k n.toNat) :: L) := by
 refine Ct.of (vs := [.pointer (some ⟨b, 0, none⟩), .int .i64 (k : Int), .int .i64 n]) Tryz.func117 rfl rfl [(0, .pointer (some ⟨b, 0, none⟩)), (1, .int .i64 (k : Int)), (2, .int .i64 n)] sbq ?_; intro E
 show Hd E 25 _ _ _ _
 have hk1 : 1 - k < 2 := by omega
 refine Hd.wireR .here k hk hr (fun i rb hi hrb => ?_); refine sr fun _ hK1 => ?_
 refine yv y_as ?_; refine fk [(0, _), (1, _), (2, _)] hK1 ?_; refine sr fun _ hK2 => ?_
 refine yv y_mv ?_; refine yv y_mv ?_; refine yv y_np ?_; refine yv (y_f 0 197 Tryz.underlying199 sz197) ?_; refine yv (y_idxA Tryz.underlying197 sz196 rfl rfl (by omega)) ?_; refine yv (y_f 2 194 Tryz.underlying196 sz194) ?_; refine yv (y_to (v' := .pointer (some ⟨rb, 0, none⟩)) (y_load1 ag194 rfl (Rd.pt1 pkk (by exact enc_at 2 hk (by omega) (by omega) rfl))) (by (show ptr (i.p k) = _; rw [hrb]; rfl))) ?_; refine yv y_mv ?_; refine callE rfl fk175 (rtake_ct _ rb x.cap (x.e k).b n) sq ?_; rintro ⟨ad, c⟩; dsimp only
 refine Hd.heap (WireP b (x.up k fun e => { e with b := e.b.drop n.toNat }) :: own 5 1 ad ((x.e k).b.take n.toNat).length c (bsl ((x.e k).b.take n.toNat)) :: L) (fun q s => by
  rw [show (x.up k fun e => { e with b := e.b.drop n.toNat }) = x.up k fun e => { e with b := (x.e k).b.drop n.toNat } from up_eq rfl]
  exact wire_ring hi hk hrb q (Ent.sep enn q s)) ?_
 refine yv y_as ?_; refine fk [(0, _), (1, _), (7, _)] hK2 ?_; refine sr fun _ hK3 => ?_
 refine yv y_mv ?_; refine yv y_mv ?_; refine yv (y_to (v' := .int .i64 ((1 - k : Nat) : Int)) (y_subn rfl rfl (by simp only [InK]; omega)) (by (congr 1; omega))) ?_; refine yv y_mv ?_; refine yv (y_len Tryz.underlying31 rfl) ?_; refine yv (y_to (v' := .bool (decide (0 < ((x.e k).b.take n.toNat).length))) (y_gtr rfl rfl) (by (congr 1; simp only [decide_eq_decide]; omega))) ?_; refine callE rfl fk173 (came_ct _ b (x.up k fun e => { e with b := e.b.drop n.toNat }) (1 - k) hk1 false (decide (0 < ((x.e k).b.take n.toNat).length))) sq ?_; intro _; refine fk [(7, _)] hK3 ?_; refine sr fun _ hK4 => ?_
 refine yv y_mv ?_; refine yv y_as ?_; refine fk [(6, _)] hK4 ?_; refine Hd.ret ?_; exact Hd.ret1 rfl (ad, c) rfl sq
theorem put_ct (L : List SP) (b : Nat) (x : WireA) (k : Nat) (hk : k < 2) (hr : (x.e (1 - k)).rd = true) (ad : Option Addr) (m c : Nat) (bs : List UInt8) (hm : bs.length = m) (hR : RdS L 1 ad m (bsl bs)) (hml : m ≤ 70368744177664) (hmc : m ≤ c) : Ct Tryz.prog 112 #[.pointer (some ⟨b, 0, none⟩), .int .i64 (k : Int), .slice ad m c] (WireP b x :: L) (fun _ : Unit => .int .i64 (putN x k bs : Nat)) (fun _ : Unit => WireP b (putW x k bs) :: L) := by
 refine Ct.of (vs := [.pointer (some ⟨b, 0, none⟩), .int .i64 (k : Int), .slice ad m c]) Tryz.func112 rfl rfl [(0, .pointer (some ⟨b, 0, none⟩)), (1, .int .i64 (k : Int)), (2, .slice ad m c)] sbq ?_; intro E
 show Hd E 25 _ _ _ _
 have hk1 : 1 - k < 2 := by omega
 have hkk : 1 - (1 - k) = k := by omega
 refine Hd.wireR .here (1 - k) hk1 hr (fun i rb hi hrb => ?_); refine sr fun _ hK1 => ?_
 refine yv y_as ?_; refine fk [(0, _), (1, _), (2, _)] hK1 ?_; refine sr fun _ hK2 => ?_
 refine yv y_mv ?_; refine yv y_mv ?_; refine yv (y_to (v' := .int .i64 ((1 - k : Nat) : Int)) (y_subn rfl rfl (by simp only [InK]; omega)) (by (congr 1; omega))) ?_; refine yv y_np ?_; refine yv (y_f 0 197 Tryz.underlying199 sz197) ?_; refine yv (y_idxA Tryz.underlying197 sz196 rfl rfl (by omega)) ?_; refine yv (y_f 2 194 Tryz.underlying196 sz194) ?_; refine yv (y_to (v' := .pointer (some ⟨rb, 0, none⟩)) (y_load1 ag194 rfl (Rd.pt1 pkk (by exact enc_at 2 hk1 (by omega) (by omega) rfl))) (by (show ptr (i.p (1 - k)) = _; rw [hrb]; rfl))) ?_; refine yv y_mv ?_; refine callE rfl fk172 (rput_ct _ rb x.cap (x.e (1 - k)).b ad m c bs hm ?hD hml hmc) sq ?_
 case hD => exact RdS.mono hR sq
 intro _; rw [show min m (x.cap - (x.e (1 - k)).b.length) = putN x k bs by unfold putN; rw [hm]]
 refine Hd.heap (WireP b (x.up (1 - k) fun e => { e with b := e.b ++ bs.take (putN x k bs) }) :: L) (fun q s => by
  rw [show (x.up (1 - k) fun e => { e with b := e.b ++ bs.take (putN x k bs) }) = x.up (1 - k) fun e => { e with b := (x.e (1 - k)).b ++ bs.take (putN x k bs) } from up_eq rfl]
  exact wire_ring hi hk1 hrb q (Ent.sep enn q s)) ?_
 refine yv y_as ?_; refine fk [(0, _), (1, _), (7, _)] hK2 ?_; refine sr fun _ hK3 => ?_
 refine yv y_mv ?_; refine yv y_mv ?_; refine yv (y_to (v' := .int .i64 ((1 - k : Nat) : Int)) (y_subn rfl rfl (by simp only [InK]; omega)) (by (congr 1; omega))) ?_; refine yv y_mv ?_; refine yv (y_to (v' := .bool (decide (0 < putN x k bs))) (y_gtr rfl rfl) (by (congr 1; simp only [decide_eq_decide]; omega))) ?_; refine callE rfl fk173 (came_ct _ b (x.up (1 - k) fun e => { e with b := e.b ++ bs.take (putN x k bs) }) (1 - k) hk1 (decide (0 < putN x k bs)) false) sq ?_; intro _; refine fk [(7, _)] hK3 ?_; refine sr fun _ hK4 => ?_
 refine yv y_mv ?_; refine yv y_as ?_; refine fk [(6, _)] hK4 ?_; refine Hd.ret ?_; exact Hd.ret1 rfl () (by rfl) sq
theorem close_ct (L : List SP) (b : Nat) (x : WireA) (k : Nat) (hk : k < 2) : Ct Tryz.prog 122 #[.pointer (some ⟨b, 0, none⟩), .int .i64 (k : Int)] (WireP b x :: L) (fun _ : Unit => .tuple #[]) (fun _ : Unit => WireP b (closeW x k) :: L) := by
 refine Ct.of (vs := [.pointer (some ⟨b, 0, none⟩), .int .i64 (k : Int)]) Tryz.func122 rfl rfl [(0, .pointer (some ⟨b, 0, none⟩)), (1, .int .i64 (k : Int))] sbq ?_; intro E
 show Hd E 22 _ _ _ _
 have hk1 : 1 - k < 2 := by omega
 refine Hd.wire .here k hk (fun i hi => ?_); refine sr fun _ hK1 => ?_
 refine yv y_mv ?_; refine yv y_mv ?_; refine yv (y_to (v' := .int .i64 ((1 - k : Nat) : Int)) (y_subn rfl rfl (by simp only [InK]; omega)) (by (congr 1; omega))) ?_; refine yv y_mv ?_; refine yv y_mv ?_; refine yv y_np ?_; refine yv (y_f 0 197 Tryz.underlying199 sz197) ?_; refine yv (y_idxA Tryz.underlying197 sz196 rfl rfl (by omega)) ?_; refine yv (y_f 4 4 Tryz.underlying196 sz4) ?_; refine yv (y_load1 ag4 rfl (Rd.pt1 pkk (by exact enc_at 4 hk (by omega) (by omega) rfl))) ?_; refine yv (y_not rfl) ?_; refine Hd.heap (WireP b x :: L) (fun q s => wire_fold hi hk q (Ent.sep enn q s)) ?_; refine callE rfl fk173 (came_ct _ b x (1 - k) hk1 (!(x.e k).shut) true) sq ?_; intro _; refine fk [(0, _), (1, _)] hK1 ?_; refine Hd.wire .here k hk (fun i hi => ?_); refine Hd.region ?_; refine yv y_mv ?_; refine yv y_mv ?_; refine yv y_np ?_; refine yv (y_f 0 197 Tryz.underlying199 sz197) ?_; refine yv (y_idxA Tryz.underlying197 sz196 rfl rfl (by omega)) ?_
 refine yv (y_f 0 3 Tryz.underlying196 sz3) ?_; refine Hd.store1 sz3 rfl rfl rfl pkk (by simp; omega) ?_
 try simp only [List.set_cons_zero, List.set_cons_succ]
 refine Hd.nil ?_; refine slots [] sbq ?_; rw [show (encW (x.up (1 - k) (riseE (!(x.e k).shut) true)) i).set (0 + 0 + k * 7 + 0) (.int .i64 3) = encW ((x.up (1 - k) (riseE (!(x.e k).shut) true)).up k fun e => { e with what := 3 }) i from enc_set _ 0 hk (by omega) (by omega) rfl]; exact Hd.end0 rfl () rfl (fun q s => wire_close (f := fun e => { e with what := 3 }) (k' := k) hi hk (fun _ => rfl) (fun _ => rfl) q (Ent.sep enn q s))
theorem shut_ct (L : List SP) (b : Nat) (x : WireA) (k : Nat) (hk : k < 2) : Ct Tryz.prog 120 #[.pointer (some ⟨b, 0, none⟩), .int .i64 (k : Int)] (WireP b x :: L) (fun _ : Unit => .tuple #[]) (fun _ : Unit => WireP b (shutW x k) :: L) := by
 refine Ct.of (vs := [.pointer (some ⟨b, 0, none⟩), .int .i64 (k : Int)]) Tryz.func120 rfl rfl [(0, .pointer (some ⟨b, 0, none⟩)), (1, .int .i64 (k : Int))] sbq ?_; intro E
 show Hd E 22 _ _ _ _
 have hk1 : 1 - k < 2 := by omega
 refine Hd.wire .here k hk (fun i hi => ?_); refine sr fun _ hK1 => ?_
 refine yv y_mv ?_; refine yv y_mv ?_; refine yv y_np ?_; refine yv (y_f 0 197 Tryz.underlying199 sz197) ?_; refine yv (y_idxA Tryz.underlying197 sz196 rfl rfl (by omega)) ?_; refine yv (y_f 4 4 Tryz.underlying196 sz4) ?_; refine yv (y_load1 ag4 rfl (Rd.pt1 pkk (by exact enc_at 4 hk (by omega) (by omega) rfl))) ?_; refine yv (y_not rfl) ?_; refine fk [(0, _), (1, _), (11, _)] hK1 ?_; refine Hd.cond rfl (fun hc0 => ?_) (fun hc0 => ?_)
 ·
  try simp only [hyA, hyB, hyC, ne_eq] at hc0
  refine sr fun _ hK2 => ?_
  refine yv y_mv ?_; refine yv y_mv ?_; refine yv y_np ?_; refine yv (y_f 0 197 Tryz.underlying199 sz197) ?_; refine yv (y_idxA Tryz.underlying197 sz196 rfl rfl (by omega)) ?_; refine yv (y_f 4 4 Tryz.underlying196 sz4) ?_; refine Hd.store1 sz4 rfl rfl rfl pkk (by simp; omega) ?_
  try simp only [List.set_cons_zero, List.set_cons_succ]
  refine Hd.nil ?_; rw [show (encW x i).set (0 + 0 + k * 7 + 4) (.bool true) = encW (x.up k fun e => { e with shut := true }) i from enc_set _ 4 hk (by omega) (by omega) rfl]; refine Hd.heap (WireP b (x.up k fun e => { e with shut := true }) :: L) (fun q s => wire_close (f := fun e => { e with shut := true }) (k' := k) hi hk (fun _ => rfl) (fun _ => rfl) q (Ent.sep enn q s)) ?_; refine sk [(0, _), (1, _)] hK2 ?_; refine Hd.region ?_; refine yv y_mv ?_; refine yv y_mv ?_; refine yv (y_to (v' := .int .i64 ((1 - k : Nat) : Int)) (y_subn rfl rfl (by simp only [InK]; omega)) (by (congr 1; omega))) ?_; refine callE rfl fk173 (came_ct _ b _ (1 - k) hk1 true false) sq ?_; intro _; refine Hd.nil ?_; refine slots [] sbq ?_; rw [show shutW x k = (x.up k fun e => { e with shut := true }).up (1 - k) (riseE true false) from if_neg (by simpa using hc0)]; exact Hd.end0 rfl () rfl sq
 ·
  try simp only [hyA, hyB, hyC, ne_eq] at hc0
  refine Hd.skip ?_; rw [show shutW x k = x from if_pos (by simpa using hc0)]; exact Hd.end0 rfl () rfl (fun q s => wire_fold hi hk q (Ent.sep enn q s))
end Wo
end Go.Proofs.YtbfddabjbkohdaaGreat
namespace Go.Proofs.YtbfddabjbkohdaaGreat
set_option maxHeartbeats 2000000
open Go.RX.Hd (yv y2 n1 fk sk sr tH callE heldK onlyH endH thenN slots)
set_option linter.unusedSimpArgs false
set_option linter.unusedVariables false
set_option linter.unnecessarySimpa false
open Go.RX Fx
namespace Wo
set_option maxRecDepth 8000
def atE (x : WireA) (fd : Int) : Option Nat := if (x.e 0).what = 1 ∧ (x.e 0).fd = fd then some 0 else if (x.e 1).what = 1 ∧ (x.e 1).fd = fd then some 1 else none
def atW : List WireA → Nat → Int → Option (Nat × Nat)
 | [], _, _ => none
 | x :: t, n, fd => match atE x fd with
  | some k => some (n, k)
  | none => atW t (n + 1) fd
theorem atE_some {x : WireA} {fd : Int} {k : Nat} (h : atE x fd = some k) : k < 2 ∧ (x.e k).what = 1 ∧ (x.e k).fd = fd := by
 unfold atE at h
 split at h
 ·rename_i h1; obtain rfl := Option.some.inj h; exact ⟨by omega, h1⟩
 ·split at h
  ·rename_i h1; obtain rfl := Option.some.inj h; exact ⟨by omega, h1⟩
  ·cases h
theorem atE_none {x : WireA} {fd : Int} (h : atE x fd = none) : ∀ k, k < 2 → ¬ ((x.e k).what = 1 ∧ (x.e k).fd = fd) := by
 unfold atE at h
 split at h
 ·cases h
 ·split at h
  ·cases h
  ·rename_i h1 h2
   intro k hk
   rcases (show k = 0 ∨ k = 1 by omega) with rfl | rfl
   ·exact h1
   ·exact h2
theorem atE_no {x : WireA} {fd : Int} (h : ∀ k, k < 2 → ¬ ((x.e k).what = 1 ∧ (x.e k).fd = fd)) : atE x fd = none := by
 unfold atE; rw [if_neg (h 0 (by omega)), if_neg (h 1 (by omega))]
theorem atW_some : ∀ {ws : List WireA} {i : Nat} {fd : Int} {n k : Nat}, atW ws i fd = some (n, k) → ∃ j x, n = i + j ∧ ws[j]? = some x ∧ atE x fd = some k
 | [], _, _, _, _, h => by cases h
 | x :: t, i, fd, n, k, h => by
  unfold atW at h
  split at h
  ·rename_i k' hk; obtain ⟨rfl, rfl⟩ := Prod.mk.inj (Option.some.inj h); exact ⟨0, x, rfl, rfl, hk⟩
  ·obtain ⟨j, y, e, hj, hy⟩ := atW_some h
   exact ⟨j + 1, y, by omega, by simpa using hj, hy⟩
theorem atW_none : ∀ {ws : List WireA} {i : Nat} {fd : Int}, atW ws i fd = none ↔ ∀ x ∈ ws, atE x fd = none
 | [], _, _ => by simp [atW]
 | x :: t, i, fd => by
  unfold atW
  constructor
  ·intro h
   split at h
   ·cases h
   ·rename_i hk
    intro y hy
    rcases List.mem_cons.1 hy with rfl | hy
    ·exact hk
    ·exact atW_none.1 h y hy
  ·intro h
   rw [h x List.mem_cons_self]; exact atW_none.2 fun y hy => h y (List.mem_cons_of_mem _ hy)
def Uq (ws : List WireA) : Prop := ∀ (n m : Nat) (x y : WireA) (k j : Nat), ws[n]? = some x → ws[m]? = some y → k < 2 → j < 2 → (x.e k).what = 1 → (y.e j).what = 1 → (x.e k).fd = (y.e j).fd → n = m ∧ k = j
theorem atW_iff {ws : List WireA} (hu : Uq ws) {fd : Int} {n k : Nat} : atW ws 0 fd = some (n, k) ↔ k < 2 ∧ ∃ x, ws[n]? = some x ∧ (x.e k).what = 1 ∧ (x.e k).fd = fd := by
 constructor
 ·intro h
  obtain ⟨j, x, e, hj, hx⟩ := atW_some h
  obtain rfl : n = j := by omega
  obtain ⟨h1, h2, h3⟩ := atE_some hx
  exact ⟨h1, x, hj, h2, h3⟩
 ·rintro ⟨hk, x, hx, h1, h2⟩
  cases h : atW ws 0 fd with
  | none => exact absurd ⟨h1, h2⟩ (atE_none (atW_none.1 h x (List.mem_of_getElem? hx)) k hk)
  | some p =>
   obtain ⟨m, j⟩ := p
   obtain ⟨m', y, e, hy, he⟩ := atW_some h
   obtain rfl : m = m' := by omega
   obtain ⟨h3, h4, h5⟩ := atE_some he
   obtain ⟨rfl, rfl⟩ := hu n m x y k j hx hy hk h3 h1 h4 (by rw [h2, h5])
   rfl
theorem atW_no {ws : List WireA} {fd : Int} : atW ws 0 fd = none ↔ ∀ x ∈ ws, ∀ k, k < 2 → ¬ ((x.e k).what = 1 ∧ (x.e k).fd = fd) := by
 rw [atW_none]; exact ⟨fun h x hx => atE_none (h x hx), fun h x hx => atE_no (h x hx)⟩
theorem atW_ext {ws ws' : List WireA} {fd : Int} (h1 : Uq ws) (h2 : Uq ws') (h : ∀ n k : Nat, k < 2 → ((∃ x : WireA, ws[n]? = some x ∧ (x.e k).what = 1 ∧ (x.e k).fd = fd) ↔ (∃ x : WireA, ws'[n]? = some x ∧ (x.e k).what = 1 ∧ (x.e k).fd = fd))) : atW ws 0 fd = atW ws' 0 fd := by
 apply Option.ext; rintro ⟨n, k⟩
 constructor
 ·intro e
  have := (atW_iff h1).1 e
  exact (atW_iff h2).2 ⟨this.1, (h n k this.1).1 this.2⟩
 ·intro e
  have := (atW_iff h2).1 e
  exact (atW_iff h1).2 ⟨this.1, (h n k this.1).2 this.2⟩
structure WA where
 ws : List WireA
 now : Int
 hd : List Bool
 ct : List Int
 nt : Option (Nat × Nat)
abbrev WA.at (w : WA) (fd : Int) : Option (Nat × Nat) := atW w.ws 0 fd
def plc : Option (Nat × Nat) → List Value
 | none => [.bool false, .int .i64 0, .int .i64 0]
 | some (n, k) => [.bool true, .int .i64 (n : Int), .int .i64 (k : Int)]
def fdC (t : Int → Option (Nat × Nat)) : List Value := (List.range 96).flatMap fun fd : Nat => plc (t (fd : Int))
theorem plc_len (o : Option (Nat × Nat)) : (plc o).length = 3 := by cases o <;> rfl
theorem plc_one (o : Option (Nat × Nat)) : ∀ u ∈ plc o, u.oneCell' = true := by
 cases o <;> simp [plc, Value.oneCell']
theorem flatP_len (t : Int → Option (Nat × Nat)) (l : List Nat) : (l.flatMap fun fd : Nat => plc (t (fd : Int))).length = l.length * 3 := by
 induction l with
 | nil => rfl
 | cons a l ih => rw [List.flatMap_cons, List.length_append, ih, plc_len]; simp; omega
theorem fdC_len (t : Int → Option (Nat × Nat)) : (fdC t).length = 288 := by unfold fdC; rw [flatP_len]; rfl
theorem fdC_at {t : Int → Option (Nat × Nat)} {tl : List Value} {fd j o : Nat} {v : Value} (hf : fd < 96) (ho : o = fd * 3 + j) (hv : (plc (t (fd : Int)))[j]? = some v) : (fdC t ++ tl)[o]? = some v := by
 subst ho
 have hj : j < 3 := by have := (List.getElem?_eq_some_iff.1 hv).1; rwa [plc_len] at this
 rw [List.getElem?_append_left (by rw [fdC_len]; omega)]; exact flat_cells (fun fd : Nat => plc (t (fd : Int))) 3 (fun x => plc_len _) (xs := List.range 96) (by rw [List.getElem?_range hf]) j v hv
def setT (t : Int → Option (Nat × Nat)) (fd : Int) (o : Option (Nat × Nat)) : Int → Option (Nat × Nat) := fun a => if a = fd then o else t a
theorem flatP_set {t : Int → Option (Nat × Nat)} {o : Option (Nat × Nat)} : ∀ {l : List Nat} {i fd : Nat}, l.Nodup → l[i]? = some fd → (l.flatMap fun a : Nat => plc (t (a : Int))).take (i * 3) ++ plc o ++ (l.flatMap fun a : Nat => plc (t (a : Int))).drop (i * 3 + 3) = l.flatMap fun a : Nat => plc (setT t fd o (a : Int))
 | [], _, _, _, h => by simp at h
 | a :: l, 0, fd, hn, h => by
  obtain rfl : a = fd := by simpa using h
  have hl : (l.flatMap fun b : Nat => plc (setT t (a : Int) o (b : Int))) = l.flatMap fun b : Nat => plc (t (b : Int)) := by
   rw [List.flatMap_def, List.flatMap_def]; refine congrArg List.flatten (List.map_congr_left fun b hb => ?_)
   have : b ≠ a := fun e => (List.nodup_cons.1 hn).1 (e ▸ hb)
   rw [show setT t (a : Int) o (b : Int) = t (b : Int) from if_neg (by omega)]
  rw [List.flatMap_cons, List.flatMap_cons, hl, show setT t (a : Int) o (a : Int) = o from if_pos rfl]
  have : (plc (t (a : Int))).length = 3 := plc_len _
  rw [Nat.zero_mul, List.take_zero, List.nil_append, Nat.zero_add, List.drop_append_of_le_length (by omega), List.drop_of_length_le (by omega), List.nil_append]
 | a :: l, i + 1, fd, hn, h => by
  have ih := flatP_set (t := t) (o := o) (l := l) (i := i) (fd := fd) (List.nodup_cons.1 hn).2 (by simpa using h)
  have hne : a ≠ fd := fun e => (List.nodup_cons.1 hn).1 (e ▸ List.mem_of_getElem? (show l[i]? = some fd by simpa using h))
  have h3 : (plc (t (a : Int))).length = 3 := plc_len _
  rw [List.flatMap_cons, List.flatMap_cons, ← ih, show setT t (fd : Int) o (a : Int) = t (a : Int) from if_neg (by omega)]; rw [show (i + 1) * 3 = 3 + i * 3 by omega, List.take_append, h3, List.take_of_length_le (by omega), show 3 + i * 3 + 3 = 3 + (i * 3 + 3) by omega, List.drop_append, h3, List.drop_of_length_le (by omega), List.nil_append]; simp only [Nat.add_sub_cancel_left, List.append_assoc]
theorem fdC_set {t : Int → Option (Nat × Nat)} {o : Option (Nat × Nat)} {tl : List Value} {fd : Nat} (hf : fd < 96) : (fdC t ++ tl).take (fd * 3) ++ plc o ++ (fdC t ++ tl).drop (fd * 3 + 3) = fdC (setT t fd o) ++ tl := by
 have hl := fdC_len t
 rw [List.take_append_of_le_length (by omega), List.drop_append_of_le_length (by omega), ← List.append_assoc]
 congr 1
 exact flatP_set List.nodup_range (by rw [List.getElem?_range hf])
structure WfW (x : WireA) : Prop where
 wr : ∀ k, k < 2 → (x.e k).wr = (x.e (1 - k)).rd
 le : ∀ k, k < 2 → (x.e k).b.length ≤ x.cap
 nb : ∀ k, k < 2 → (x.e k).rd = false → (x.e k).b = []
 cap : x.cap ≤ 65536
 what : ∀ k, k < 2 → 0 ≤ (x.e k).what ∧ (x.e k).what ≤ 3
 bl : 0 ≤ x.bl ∧ x.bl ≤ 64 ∧ (x.wt.length : Int) ≤ x.bl
 ou : (x.e 1).what = 2 → (x.e 0).rd = true ∧ (x.e 1).rd = true
structure WOk (w : WA) : Prop where
 uq : Uq w.ws
 fd : ∀ (x : WireA), x ∈ w.ws → ∀ k, k < 2 → (x.e k).what = 1 → 0 ≤ (x.e k).fd ∧ (x.e k).fd ≤ 95
 len : w.ws.length ≤ 1000
 hdl : w.hd.length = 32
 ctl : w.ct.length = 32
 wf : ∀ x ∈ w.ws, WfW x
 wn : (w.ws.flatMap WireA.wt).Nodup
 wm : ∀ m ∈ w.ws.flatMap WireA.wt, ∃ x, w.ws[m]? = some x ∧ (x.e 0).what = 0
 nt : ∀ n k, w.nt = some (n, k) → k < 2 ∧ ∃ x, w.ws[n]? = some x ∧ (x.e 0).rd = true ∧ (x.e 1).rd = true
 ns : ∀ (m : Nat) (x : WireA), w.ws[m]? = some x → m ∉ x.wt
theorem WOk.at_lt {w : WA} (h : WOk w) {fd : Int} {n k : Nat} (ha : w.at fd = some (n, k)) : 0 ≤ fd ∧ fd ≤ 95 ∧ k < 2 ∧ n < w.ws.length ∧ ∃ x, w.ws[n]? = some x ∧ (x.e k).what = 1 ∧ (x.e k).fd = fd := by
 obtain ⟨hk, x, hx, h1, h2⟩ := (atW_iff h.uq).1 ha
 have := h.fd x (List.mem_of_getElem? hx) k hk h1
 exact ⟨by omega, by omega, hk, (List.getElem?_eq_some_iff.1 hx).1, x, hx, h1, h2⟩
structure Wires (rs : List (Nat × WireA)) (h : PH) : Prop where
 all : sep (rs.map fun p => WireP p.1 p.2) h
theorem ws_split {a b : List (Nat × WireA)} {L : List SP} {h : PH} (s : sep (Wires (a ++ b) :: L) h) : sep (Wires a :: Wires b :: L) h := by
 obtain ⟨h1, h2, d, s1, s2, ⟨x⟩, y⟩ := s
 rw [List.map_append] at x
 obtain ⟨k1, k2, d', a', b', x1, x2⟩ := sep_append x
 exact ⟨k1, uni k2 h2, (Dis.uniL d'.sym (d.subL a').sym).sym, a'.tr s1, Sub.uni (b'.tr s1) s2, ⟨x1⟩, k2, h2, d.subL b', Sub.uniL, Sub.uniR (d.subL b'), ⟨x2⟩, y⟩
theorem ws_join {a b : List (Nat × WireA)} {L : List SP} {h : PH} (s : sep (Wires a :: Wires b :: L) h) : sep (Wires (a ++ b) :: L) h := by
 obtain ⟨h1, h2, d, s1, s2, ⟨x⟩, k1, k2, d', a', b', ⟨x'⟩, y⟩ := s
 refine ⟨uni h1 k1, k2, Dis.uniL (d.subR b') d', Sub.uni s1 (a'.tr s2), b'.tr s2, ⟨?_⟩, y⟩; rw [List.map_append]; exact sep_join (d.subR a') Sub.uniL (Sub.uniR (d.subR a')) x x'
theorem ws_own {b : Nat} {x : WireA} {L : List SP} {h : PH} (s : sep (Wires [(b, x)] :: L) h) : sep (WireP b x :: L) h := by
 obtain ⟨h1, h2, d, s1, s2, ⟨k1, k2, d', a', b', x, _⟩, y⟩ := s
 exact ⟨k1, h2, d.subL a', a'.tr s1, s2, x, y⟩
theorem own_ws {b : Nat} {x : WireA} {L : List SP} {h : PH} (s : sep (WireP b x :: L) h) : sep (Wires [(b, x)] :: L) h := by
 obtain ⟨h1, h2, d, s1, s2, x, y⟩ := s
 exact ⟨h1, h2, d, s1, s2, ⟨h1, fun _ => none, fun _ => .inr rfl, Sub.rfl', (fun _ _ e => by cases e), x, trivial⟩, y⟩
theorem ws_nil {L : List SP} {h : PH} (s : sep L h) : sep (Wires [] :: L) h := ⟨fun _ => none, h, fun _ => .inl rfl, (fun _ _ e => by cases e), Sub.rfl', ⟨trivial⟩, s⟩
theorem tda {α : Type} {rs : List α} {j : Nat} {r : α} (hj : rs[j]? = some r) : rs = rs.take j ++ ([r] ++ rs.drop (j + 1)) := by
 obtain ⟨h, e⟩ := List.getElem?_eq_some_iff.1 hj
 rw [← e]
 show rs = rs.take j ++ rs[j] :: rs.drop (j + 1)
 rw [← List.drop_eq_getElem_cons h, List.take_append_drop]
theorem ws_out {rs : List (Nat × WireA)} {j b : Nat} {x : WireA} {L : List SP} {h : PH} (hj : rs[j]? = some (b, x)) (s : sep (Wires rs :: L) h) : sep (WireP b x :: Wires (rs.take j) :: Wires (rs.drop (j + 1)) :: L) h := by
 rw [tda hj] at s
 exact Pick.sep (.there .here) (by
  have h1 := ws_split s
  have h2 : sep (Wires ([(b, x)] ++ rs.drop (j + 1)) :: Wires (rs.take j) :: L) h := Pick.sep (.there .here) h1
  have h3 := ws_own (ws_split h2)
  exact Ent.sep (show Ent _ (Wires (rs.take j) :: WireP b x :: Wires (rs.drop (j + 1)) :: L) from enn) h h3)
theorem ws_in {rs : List (Nat × WireA)} {j b : Nat} {x : WireA} {L : List SP} {h : PH} (hj : j < rs.length) (s : sep (WireP b x :: Wires (rs.take j) :: Wires (rs.drop (j + 1)) :: L) h) : sep (Wires (rs.set j (b, x)) :: L) h := by
 have e : rs.set j (b, x) = rs.take j ++ ([(b, x)] ++ rs.drop (j + 1)) := by
  rw [List.set_eq_take_append_cons_drop, if_pos hj]; rfl
 rw [e]
 have h1 := own_ws s
 have h2 : sep (Wires [(b, x)] :: Wires (rs.drop (j + 1)) :: Wires (rs.take j) :: L) h := Ent.sep enn h h1
 exact ws_join (Ent.sep enn h (ws_join h2))
theorem ws_add {rs : List (Nat × WireA)} {b : Nat} {x : WireA} {L : List SP} {h : PH} (s : sep (WireP b x :: Wires rs :: L) h) : sep (Wires (rs ++ [(b, x)]) :: L) h := ws_join (Pick.sep (.there .here) (own_ws s))
structure WoI where
 rs : List (Nat × WireA)
 wa : Option Addr
 wc : Nat
 sb : Nat
abbrev pws (rs : List (Nat × WireA)) : List Value := rs.map fun p => ptr (some p.1)
abbrev woT (w : WA) (n : Nat) (i : WoI) : List Value := [.slice i.wa n i.wc, ptr (some i.sb), .int .u64 w.now] ++ plc w.nt
abbrev WoH (wb : Nat) (t : Int → Option (Nat × Nat)) (w : WA) (n : Nat) (i : WoI) : SP := pt wb (fdC t ++ woT w n i) 210
abbrev SigP (sb : Nat) (hd : List Bool) (ct : List Int) : SP := pt sb (hd.map .bool ++ ct.map (Value.int .i64)) 265
abbrev WoB (w : WA) (i : WoI) (L : List SP) : List SP := own 191 1 i.wa i.rs.length i.wc (pws i.rs) :: Wires i.rs :: SigP i.sb w.hd w.ct :: L
abbrev WoL (wb : Nat) (w : WA) (i : WoI) (L : List SP) : List SP := WoH wb w.at w i.rs.length i :: WoB w i L
def WorldP (wb : Nat) (w : WA) : SP := RX.ex fun i : WoI => pu (WOk w ∧ i.rs.map Prod.snd = w.ws) :: WoL wb w i []
theorem Hd.world {E : World} {n : Nat} {ds : List Deferred} {st : List (Nat × Value)} {L L' : List SP} {K : Act → World → Prop} {wb : Nat} {w : WA} (p : Pick L (WorldP wb w) L') (h : ∀ i, WOk w → i.rs.map Prod.snd = w.ws → Hd E n ds st (WoL wb w i L') K) : Hd E n ds st L K :=
 Hd.exs (f := fun i : WoI => pu (WOk w ∧ i.rs.map Prod.snd = w.ws) :: WoL wb w i []) p fun i => Hd.pure fun hr => h i hr.1 hr.2
end Wo
end Go.Proofs.YtbfddabjbkohdaaGreat
