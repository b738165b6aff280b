/-
  Functions of three results. No program is named here.
-/
import Derived.Test.YtmpemhbfgbochaaRxC
namespace Go.RX
set_option linter.unusedSimpArgs false
set_option linter.unusedVariables false
set_option linter.unnecessarySimpa false
section
variable {P : Program} {E : World} {n : Nat} {ds : List Deferred} {st : List (Nat × Value)} {L L' : List SP}
theorem results_ctt {fn : Func} {ta tb tc : Nat} {t : TypeId} {b o : Nat} {us : List Value} {tmps : Array Value} {v u : Value} {w : World} (hr : fn.results = #[.cell ta t, .tmp tb, .tmp tc]) (ha : agk P t = some true) (hx : tmps.getD ta undef = .pointer (some ⟨b, o, none⟩)) (hv : tmps.getD tb undef = v) (hu : tmps.getD tc undef = u)
    (hR : Rd L b o us) (hz : szk P t = some us.length) (s : Sat E L w) : (results fn tmps).run P w = .ok (.tuple #[.agg us.toArray, v, u]) w := by
  have hc : (loadCells ⟨b, o, none⟩ us.length).run P w = .ok us.toArray w := run_loadCells_list w _ us fun j v e => by
    have := hR.cell s e
    unfold Addr.add
    split
    · rename_i h0; subst h0; simpa using this
    · exact this
  have hl : (loadVar t ⟨b, o, none⟩).run P w = .ok (.agg us.toArray) w := by
    simp only [loadVar, Sem.run_bind, run_isAgg ha, Result.andThen, if_true, run_sizeOf' hz, hc]
    rfl
  have hx2 : tmps[ta]?.getD undef = .pointer (some ⟨b, o, none⟩) := by simpa using hx
  have hv2 : tmps[tb]?.getD undef = v := by simpa using hv
  have hu2 : tmps[tc]?.getD undef = u := by simpa using hu
  simp [results, hr, hx2, hv2, hu2, asAddr, hl]
theorem Hd.retCTT {fn : Func} {ta tb tc : Nat} {t : TypeId} {b o : Nat} {us : List Value} {v u : Value} {ι : Type} {val : ι → Value} {post : ι → List SP} (hr : fn.results = #[.cell ta t, .tmp tb, .tmp tc]) (i : ι) (ha : agk P t = some true) (hx : look st ta = some (.pointer (some ⟨b, o, none⟩))) (hv : look st tb = some v) (hu : look st tc = some u)
    (hR : Rd L b o us) (hz : szk P t = some us.length) (hi : val i = .tuple #[.agg us.toArray, v, u]) (hl : ∀ k, sep L k → sep (post i) k) :
    Hd E n [] st L ((bodyPost P fn fun e w' => ∃ i, e = .returned (val i) ∧ Sat E (post i) w') .ret) := fun a w f s =>
  bodyPost_ret (results_ctt (v := v) (u := u) hr ha (by simp [f.at_ ta _ hx]) (by simp [f.at_ tb _ hv]) (by simp [f.at_ tc _ hu]) hR hz s) f.defs ⟨i, by rw [hi], s.mp hl⟩
theorem results_3 {fn : Func} {ta tb tc : Nat} {tmps : Array Value} {v1 v u : Value} {w : World} (hr : fn.results = #[.tmp ta, .tmp tb, .tmp tc]) (hx : tmps.getD ta undef = v1) (hv : tmps.getD tb undef = v) (hu : tmps.getD tc undef = u) : (results fn tmps).run P w = .ok (.tuple #[v1, v, u]) w := by
  have hx2 : tmps[ta]?.getD undef = v1 := by simpa using hx
  have hv2 : tmps[tb]?.getD undef = v := by simpa using hv
  have hu2 : tmps[tc]?.getD undef = u := by simpa using hu
  simp [results, hr, hx2, hv2, hu2]
theorem Hd.ret3 {fn : Func} {ta tb tc : Nat} {v1 v u : Value} {ι : Type} {val : ι → Value} {post : ι → List SP} (hr : fn.results = #[.tmp ta, .tmp tb, .tmp tc]) (i : ι) (hx : look st ta = some v1) (hv : look st tb = some v) (hu : look st tc = some u) (hi : val i = .tuple #[v1, v, u]) (hl : ∀ k, sep L k → sep (post i) k) :
    Hd E n [] st L ((bodyPost P fn fun e w' => ∃ i, e = .returned (val i) ∧ Sat E (post i) w') .ret) := fun a w f s =>
  bodyPost_ret (results_3 (v1 := v1) (v := v) (u := u) hr (by simp [f.at_ ta _ hx]) (by simp [f.at_ tb _ hv]) (by simp [f.at_ tc _ hu])) f.defs ⟨i, by rw [hi], s.mp hl⟩
end
section
variable {E : World} {n : Nat} {ds : List Deferred} {st : List (Nat × Value)} {L : List SP} {P : Program}
variable {d : Nat} {ty t : TypeId} {pos : String} {af : Array Edge} {g : Option (Nat × Bool)} {x : Operand} {v : Value}
/-- a field of a struct that is a value -/
theorem y_fieldv1 {fs : Array Field} {i q ft : Nat} {cs : List Value} (hu : P.underlying t = some (.struct fs)) (hf : (fs[i]?).map (fun f => (f.offset, f.type)) = some (q, ft)) (ha : agk P ft = some false) (hx : evo st x = some (.agg cs.toArray)) (hc : cs[q]? = some v) :
    Yv E n ds st L P ⟨some d, .field t x i, ty, pos, af, g⟩ v := fun a w f _ => by
  cases hfi : fs[i]? with
  | none => rw [hfi] at hf; cases hf
  | some fl =>
    rw [hfi] at hf
    obtain ⟨rfl, rfl⟩ := Prod.mk.inj (Option.some.inj hf)
    simp only [execOp, f.ev hx]
    simp only [Instr.field, Sem.run_bind, run_underlying hu, Result.andThen, hfi]
    simp [asAgg, run_part1 (P := P) (cs := cs.toArray) ha (by simpa using hc)]
/-- the least of three -/
theorem y_min3 {k : IntKind} {a b c : Int} {y z : Operand} {t2 t3 : TypeId} (hx : evo st x = some (.int k a)) (hy : evo st y = some (.int k b)) (hz : evo st z = some (.int k c)) :
    Yv E n ds st L P ⟨some d, .call ⟨.builtin .min, #[x, y, z], #[t, t2, t3]⟩, ty, pos, af, g⟩ (.int k (min (min a b) c)) := fun _ w f _ => by
  simp only [execOp, resolve, List.map_toArray, List.map_cons, List.map_nil, f.ev hx, f.ev hy, f.ev hz]
  by_cases h : a ≤ b
  · have e : min a b = a := by omega
    rw [e]
    simp [invoke, builtin, Builtin.min_, Builtin.min2, go_sem]; omega
  · have e : min a b = b := by omega
    rw [e]
    simp [invoke, builtin, Builtin.min_, Builtin.min2, go_sem]; omega
end
end Go.RX
