/-
  Results: one that stands in a block, and one behind it. No program is named here.
-/
import Derived.Test.YtmpemhbfgbochaaRxQ
import Derived.Test.YtmpemhbfgbochaaRxM
namespace Go.RX
set_option linter.unusedSimpArgs false
set_option linter.unusedVariables false
set_option linter.unnecessarySimpa false
open Go.MapKept
section
variable {P : Program} {E : World} {n : Nat} {ds : List Deferred} {st : List (Nat × Value)} {L L' : List SP}
theorem results_ct {fn : Func} {ta tb : Nat} {t : TypeId} {b o : Nat} {us : List Value} {tmps : Array Value} {v : Value} {w : World} (hr : fn.results = #[.cell ta t, .tmp tb]) (ha : agk P t = some true) (hx : tmps.getD ta undef = .pointer (some ⟨b, o, none⟩)) (hv : tmps.getD tb undef = v)
    (hR : Rd L b o us) (hz : szk P t = some us.length) (s : Sat E L w) : (results fn tmps).run P w = .ok (.tuple #[.agg us.toArray, v]) w := by
  have hc : (loadCells ⟨b, o, none⟩ us.length).run P w = .ok us.toArray w := run_loadCells_list w _ us fun j v e => by
    have := hR.cell s e
    unfold Addr.add
    split
    · rename_i h0; subst h0; simpa using this
    · exact this
  have hl : (loadVar t ⟨b, o, none⟩).run P w = .ok (.agg us.toArray) w := by
    simp only [loadVar, Sem.run_bind, run_isAgg ha, Result.andThen, if_true, run_sizeOf' hz, hc]
    rfl
  have hx2 : tmps[ta]?.getD undef = .pointer (some ⟨b, o, none⟩) := by simpa using hx
  have hv2 : tmps[tb]?.getD undef = v := by simpa using hv
  simp [results, hr, hx2, hv2, asAddr, hl]
theorem Hd.ownTake {e sz m cap : Nat} {ad : Option Addr} {us : List Value} {K : Act → World → Prop} (p : Pick L (own e sz ad m cap us) L') (l : Nat) (us1 us2 : List Value) (hl : l ≤ m) (hu : us = us1 ++ us2) (h1 : us1.length = l * sz)
    (h : Hd E n ds st (own e sz ad l cap us1 :: L') K) : Hd E n ds st L K := Hd.heap _ (fun k s => by subst hu; exact sep_head (p.sep s) fun _ x => own_take hl h1 x) h
/-- The end: a result that stands in a block, and another one. -/
theorem Hd.retCT {fn : Func} {ta tb : Nat} {t : TypeId} {b o : Nat} {us : List Value} {v : Value} {ι : Type} {val : ι → Value} {post : ι → List SP} (hr : fn.results = #[.cell ta t, .tmp tb]) (i : ι) (ha : agk P t = some true) (hx : look st ta = some (.pointer (some ⟨b, o, none⟩))) (hu : look st tb = some v)
    (hR : Rd L b o us) (hz : szk P t = some us.length) (hv : val i = .tuple #[.agg us.toArray, v]) (hl : ∀ k, sep L k → sep (post i) k) :
    Hd E n [] st L ((bodyPost P fn fun e w' => ∃ i, e = .returned (val i) ∧ Sat E (post i) w') .ret) := fun a w f s =>
  bodyPost_ret (results_ct (v := v) hr ha (by simp [f.at_ ta _ hx]) (by simp [f.at_ tb _ hu]) hR hz s) f.defs ⟨i, by rw [hv], s.mp hl⟩
end
section
variable {E : World} {n : Nat} {ds : List Deferred} {st st' : List (Nat × Value)} {L L' : List SP} {r : Option Nat} {P : Program} {Q : Exit → Act → World → Prop} {ops : Array Oper} {rest : List Oper}
variable {d : Nat} {ty t t2 : TypeId} {pos : String} {af : Array Edge} {g : Option (Nat × Bool)} {x y z : Operand} {v u : Value} {k : IntKind} {p q : Bool}
theorem Hd.mapDelete0 {f : Int → Option Value} {b m : Nat} {a : Int} {zs : Value} (hT : MapT P t k zs) (hx : evo st x = some (.map (some b))) (hy : evo st y = some (.int k a)) (p : Pick L (mp b k f m) L')
    (K : Hd E n ds st (mp b k (fun c => if c = a then none else f c) (if (f a).isSome then m - 1 else m) :: L') (LW r P ops Q rest)) :
    Hd E n ds st L (LW r P ops Q (⟨none, .call ⟨.builtin .delete, #[x, y], #[t, t2]⟩, ty, pos, af, none⟩ :: rest)) :=
  Hd.op rfl (by simp) fun ac w fr s => by
    obtain ⟨kt, vt, i, h1, h2, h3, h4⟩ := hT.ex
    obtain ⟨l, c, hb, hn, hm, hf⟩ := s.mp_at p
    have hck := run_checkKey (P := P) (w := w) (kt := kt) (k := .int k a) h2 (by simp [IsKey]) l.isEmpty 9999
    have hfk := run_findKey (P := P) (w := w) (kt := kt) h2 (findNow_fi k a l 0)
    have hg := fi_get l a 0
    rw [← hf] at hg
    cases hfi : fi l a 0 with
    | none =>
      rw [hfi] at hg hfk
      simp only [Option.map_none] at hg
      have hno := fi_none hfi
      refine ⟨.tuple #[], { w with heap := w.heap.setIfInBounds b (.map (l.map (ent k)).toArray c) }, ?_, K _ _ fr ?_⟩
      · simp only [execOp, resolve, List.map_toArray, List.map_cons, List.map_nil, fr.ev hx, fr.ev hy, invoke, builtin, Builtin.delete_, Sem.run_bind, Sem.run_pure, Result.andThen_ok]
        simp [run_underlying h1, MapKept.run_getObj_map hb, hck, hfk, MapKept.run_setObj_map _ hb]
      · refine Sat.putMp s p rfl rfl rfl (fun x hx => set_heap_ne hx) (set_heap hb) hn ?_ (fun b' => ?_)
        · rw [← hg]; simpa using hm
        · rw [← hf]
          by_cases hb' : b' = a
          · subst hb'; rw [if_pos rfl, ← hg]
          · rw [if_neg hb']
    | some jv =>
      obtain ⟨j, u⟩ := jv
      rw [hfi] at hg hfk
      simp only [Option.map_some] at hg
      obtain ⟨bo, _, hj⟩ := fi_at l a 0 j u hfi
      rw [Nat.sub_zero] at hj
      have hjl := (List.getElem?_eq_some_iff.1 hj).1
      have hj' : l[j] = (a, u, bo) := by have h := hj; rw [List.getElem?_eq_getElem hjl] at h; simpa using h
      refine ⟨.tuple #[], { w with heap := w.heap.setIfInBounds b (.map ((l.eraseIdx j).map (ent k)).toArray c) }, ?_, K _ _ fr ?_⟩
      · have e : (l.map (ent k)).toArray.eraseIdxIfInBounds j = ((l.eraseIdx j).map (ent k)).toArray := by
          apply Array.ext'
          rw [Array.toList_eraseIdxIfInBounds]
          simp only [List.eraseIdx_eq_take_drop_succ, List.map_append, List.map_take, List.map_drop]
        simp only [execOp, resolve, List.map_toArray, List.map_cons, List.map_nil, fr.ev hx, fr.ev hy, invoke, builtin, Builtin.delete_, Sem.run_bind, Sem.run_pure, Result.andThen_ok]
        have e2 : (l.map (ent k)).eraseIdx j = (l.eraseIdx j).map (ent k) := by simp only [List.eraseIdx_eq_take_drop_succ, List.map_append, List.map_take, List.map_drop]
        simp [run_underlying h1, MapKept.run_getObj_map hb, hck, hfk, MapKept.run_setObj_map _ hb, e, e2]
      · refine Sat.putMp s p rfl rfl rfl (fun x hx => set_heap_ne hx) (set_heap hb) ?_ ?_ (fun b' => ?_)
        · exact (hn.sublist (List.Sublist.map _ (List.eraseIdx_sublist l j)))
        · rw [← hg]; simp [List.length_eraseIdx, hm]; omega
        · rw [erase_get l j a u bo hj hn, hf]
end
end Go.RX
