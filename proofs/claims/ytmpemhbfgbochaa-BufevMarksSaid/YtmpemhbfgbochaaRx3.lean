/-
  Memory over Rx1's judgement: loads, stores, new blocks, addresses, calls, regions that draw their order and only read. No program is named here.
-/
import Derived.Test.YtmpemhbfgbochaaRx2
namespace Go.RX
set_option linter.unusedSimpArgs false
set_option linter.unusedVariables false
set_option linter.unnecessarySimpa false
section
variable {E : World} {n : Nat} {ds : List Deferred} {st st' : List (Nat × Value)} {L L' : List SP} {r : Option Nat} {P : Program} {Q : Exit → Act → World → Prop} {ops : Array Oper} {rest : List Oper}
variable {d : Nat} {ty t t2 : TypeId} {pos : String} {af : Array Edge} {g : Option (Nat × Bool)} {x y z : Operand} {v u : Value} {k : IntKind} {p q : Bool}

/-! ### What a type is like -/
def agk (P : Program) (t : TypeId) : Option Bool := (P.underlying t).map fun u => match u with | .struct _ | .array _ _ => true | _ => false
def szk (P : Program) (t : TypeId) : Option Nat := (P.info? t).map (·.size)
def zrk (P : Program) (t : TypeId) : Option (List Value) := ((P.info? t).bind (·.zero)).map (·.cells.toList)
theorem run_isAgg {c : Bool} (h : agk P t = some c) (w : World) : (isAgg t).run P w = .ok c w := by
  unfold agk at h
  cases hu : P.underlying t with
  | none => rw [hu] at h; cases h
  | some ud =>
    rw [hu] at h
    simp only [Option.map_some, Option.some.injEq] at h
    simp only [isAgg, Sem.run_bind, run_underlying hu, Result.andThen]
    cases ud <;> simp_all
theorem run_sizeOf' {m : Nat} (h : szk P t = some m) (w : World) : (sizeOf t).run P w = .ok m w := by
  unfold szk at h
  cases hu : P.info? t with
  | none => rw [hu] at h; cases h
  | some i => rw [hu] at h; simp at h; simp [sizeOf, typeInfo, hu, h]
theorem run_zero' {zs : List Value} (h : zrk P t = some zs) (w : World) : ∃ z, (zeroValue t).run P w = .ok z w ∧ z.cells = zs.toArray := by
  unfold zrk at h
  cases hu : P.info? t with
  | none => rw [hu] at h; cases h
  | some i =>
    rw [hu] at h
    cases hz : i.zero with
    | none => simp [hz] at h
    | some z => simp [hz] at h; exact ⟨z, by simp [zeroValue, typeInfo, hu, hz], by rw [← h]⟩

/-! ### Reading -/
/-- these cells stand there, whichever heap bears the list -/
def Rd (L : List SP) (b o : Nat) (us : List Value) : Prop := ∀ h, sep L h → ∀ j v, us[j]? = some v → ∃ fr, h (b, some (o + j)) = some (.cell v fr)
theorem Rd.pt {b o : Nat} {us cs : List Value} {e : TypeId} (p : Pick L (pt b cs e) L') (h : ∀ j v, us[j]? = some v → cs[o + j]? = some v) : Rd L b o us := fun k s j v e => by
  obtain ⟨h1, s1, x⟩ := sep.one p s
  exact ⟨_, s1 _ _ (x.2 _ _ (h j v e))⟩
theorem Rd.pt1 {b o : Nat} {cs : List Value} {e : TypeId} (p : Pick L (RX.pt b cs e) L') (h : cs[o]? = some v) : Rd L b o [v] := Rd.pt p fun j u e => by
  cases j with
  | zero => simp at e; subst e; simpa using h
  | succ j => simp at e
theorem Rd.seg {b o m : Nat} {us cs : List Value} (p : Pick L (RX.seg b o cs) L') (h : ∀ j v, us[j]? = some v → cs[m + j]? = some v) : Rd L b (o + m) us := fun k s j v e => by
  obtain ⟨h1, s1, x⟩ := sep.one p s
  exact ⟨_, s1 _ _ (by rw [Nat.add_assoc]; exact x _ _ (h j v e))⟩
theorem hp_cell {w : World} {b o : Nat} (h : w.cell? ⟨b, o, none⟩ = some v) : b < w.heap.size ∧ ∃ fr, hp w (b, some o) = some (.cell v fr) := by
  unfold World.cell? at h
  cases hb : w.heap[b]? with
  | none => simp [hb] at h
  | some ob =>
    refine ⟨(Array.getElem?_eq_some_iff.1 hb).1, ?_⟩
    cases ob with
    | cells cs e fz =>
      simp only [hb] at h
      refine ⟨decide (fz.1 ≤ o) && decide (o < fz.2), ?_⟩
      show hpo w.heap[b]? _ = _
      rw [hb]
      simp only [hpo]
      have h' : cs[o]? = some v := by simpa using h
      rw [h']; rfl
    | _ => simp [hb] at h
theorem cell_hp {w : World} {b o : Nat} {fr : Bool} (h : hp w (b, some o) = some (.cell v fr)) : w.cell? ⟨b, o, none⟩ = some v := by
  obtain ⟨cs, e, fz, h1, h2, _⟩ := hpo_cell h
  have h1' : w.heap[b]? = some (.cells cs e fz) := h1
  simp [World.cell?, h1', h2]
theorem Rd.old {w0 : World} {b o : Nat} {us : List Value} (p : Pick L (Old w0) L') (h : ∀ j v, us[j]? = some v → w0.cell? ⟨b, o + j, none⟩ = some v) : Rd L b o us := fun k s j v e => by
  obtain ⟨h1, s1, x⟩ := sep.one p s
  obtain ⟨hlt, fz, hc⟩ := hp_cell (h j v e)
  exact ⟨fz, s1 _ _ (by rw [x _ hlt]; exact hc)⟩
theorem Rd.mono {M : List SP} {b o : Nat} {us : List Value} (h : Rd L b o us) (hm : ∀ k, sep M k → sep L k) : Rd M b o us := fun k s => h k (hm k s)
theorem Rd.cell {b o : Nat} {us : List Value} {w : World} (h : Rd L b o us) (s : Sat E L w) {j : Nat} (hj : us[j]? = some v) : w.cell? ⟨b, o + j, none⟩ = some v := by
  obtain ⟨fz, hb⟩ := h _ s.2.2.2 j v hj
  exact cell_hp hb
theorem Rd.sub' {b o m : Nat} {us vs : List Value} (h : Rd L b o us) (hs : ∀ j v, vs[j]? = some v → us[m + j]? = some v) : Rd L b (o + m) vs := fun k s j v ej => by
  rw [Nat.add_assoc]; exact h k s _ _ (hs j v ej)

theorem y_load1 {b o : Nat} (ha : agk P t = some false) (hx : evo st x = some (.pointer (some ⟨b, o, none⟩))) (hr : Rd L b o [v]) : Yv E n ds st L P ⟨some d, .load t x, ty, pos, af, g⟩ v := fun a w f s => by
  have hc := hr.cell s (j := 0) rfl
  simp only [Nat.add_zero] at hc
  simp only [execOp, f.ev hx, Instr.loadAt, Instr.sureAddr]
  simp [loadVar, run_isAgg ha, hc, go_sem]
theorem y_loadn {b o : Nat} {us : List Value} (ha : agk P t = some true) (hx : evo st x = some (.pointer (some ⟨b, o, none⟩))) (hr : Rd L b o us) (hz : szk P t = some us.length) :
    Yv E n ds st L P ⟨some d, .load t x, ty, pos, af, g⟩ (.agg us.toArray) := fun a w f s => by
  have hc : (loadCells ⟨b, o, none⟩ us.length).run P w = .ok us.toArray w := run_loadCells_list w _ us fun j v e => by
    have := hr.cell s e
    unfold Addr.add
    split
    · rename_i h0; subst h0; simpa using this
    · exact this
  simp only [execOp, f.ev hx, Instr.loadAt, Instr.sureAddr]
  simp only [pure_bind, loadVar, Sem.run_bind, run_isAgg ha, Result.andThen, if_true, run_sizeOf' hz, hc]
  rfl

/-! ### Writing -/
theorem oneCell_store {b o : Nat} {cs : List Value} {e : TypeId} {w : World} (hb : w.heap[b]? = some (.cells cs.toArray e (0, 0))) (vs : List Value) (h1 : ∀ v ∈ vs, v.oneCell' = true) (hl : o + vs.length ≤ cs.length) :
    (storeCells ⟨b, o, none⟩ vs 0).run P w = .ok () (w.setRow b (cs.take o ++ vs ++ cs.drop (o + vs.length)).toArray) := by
  have := run_storeCells_at (P := P) b o e vs 0 cs.toArray w hb (by simpa using hl) h1
  simpa using this
theorem setRow_at {w : World} {b : Nat} {cs : Array Value} {e : TypeId} {cs' : Array Value} {fz : Nat × Nat} (hb : w.heap[b]? = some (.cells cs e fz)) : (w.setRow b cs').heap[b]? = some (.cells cs' e fz) := by
  simp [World.setRow, Array.getElem?_modify, hb]
theorem setRow_ne {w : World} {b x : Nat} {cs' : Array Value} (h : x ≠ b) : (w.setRow b cs').heap[x]? = w.heap[x]? := by
  simp [World.setRow, Array.getElem?_modify, Ne.symm h]
theorem Hd.store {b o : Nat} {cs : List Value} {e : TypeId} {us : List Value} (hz : szk P t = some us.length) (hx : evo st x = some (.pointer (some ⟨b, o, none⟩))) (hy : evo st y = some v) (hv : v.cells = us.toArray)
    (h1 : ∀ u ∈ us, u.oneCell' = true) (hp : Pick L (pt b cs e) L') (hl : o + us.length ≤ cs.length)
    (K : Hd E n ds st (pt b (cs.take o ++ us ++ cs.drop (o + us.length)) e :: L') (LW r P ops Q rest)) : Hd E n ds st L (LW r P ops Q (⟨none, .store t x y, ty, pos, af, none⟩ :: rest)) :=
  Hd.opu rfl (by simp) fun a w f s => by
    have hb := s.pt_at hp
    refine ⟨w.setRow b (cs.take o ++ us ++ cs.drop (o + us.length)).toArray, ?_, K _ _ ?_ ?_⟩
    · simp only [execOp, f.ev hx, f.ev hy, Instr.storeAt, Instr.sureAddr, pure_bind, storeVar, Sem.run_bind, run_sizeOf' hz, Result.andThen, hv]
      simp [oneCell_store hb us h1 hl]
    · exact f
    · exact Sat.putPt s hp (by simp; omega) rfl rfl rfl (fun x hx => setRow_ne hx) (setRow_at hb)
theorem one_set {cs : List Value} {o : Nat} (hl : o < cs.length) (v : Value) : cs.take o ++ [v] ++ cs.drop (o + [v].length) = cs.set o v := by
  rw [List.set_eq_take_append_cons_drop, if_pos hl]; simp
theorem Hd.store1 {b o : Nat} {cs : List Value} {e : TypeId} (hz : szk P t = some 1) (hx : evo st x = some (.pointer (some ⟨b, o, none⟩))) (hy : evo st y = some v)
    (h1 : v.oneCell' = true) (hp : Pick L (pt b cs e) L') (hl : o < cs.length)
    (K : Hd E n ds st (pt b (cs.set o v) e :: L') (LW r P ops Q rest)) : Hd E n ds st L (LW r P ops Q (⟨none, .store t x y, ty, pos, af, none⟩ :: rest)) :=
  Hd.store (us := [v]) hz hx hy (by cases v <;> simp_all [Value.cells, Value.oneCell']) (by simpa using h1) hp (by simp; omega) (by rw [one_set hl]; exact K)

/-! ### New blocks -/
theorem Hd.alloc {zs : List Value} (hz : zrk P t = some zs) (K : ∀ b, Hd E n ds ((d, .pointer (some ⟨b, 0, none⟩)) :: st) (pt b zs t :: L) (LW r P ops Q rest)) (hd : d < n := by decide) :
    Hd E n ds st L (LW r P ops Q (⟨some d, .alloc t, ty, pos, af, none⟩ :: rest)) :=
  Hd.op rfl (by simp) fun a w f s => by
    obtain ⟨z, e, hz'⟩ := run_zero' hz w
    refine ⟨.pointer (some ⟨w.heap.size, 0, none⟩), { w with heap := w.heap.push (.cells z.cells t) }, ?_, K _ _ _ (f.put hd _) ?_⟩
    · simp only [execOp, Instr.alloc, Sem.run_bind, e, Result.andThen]
      simp [newVar, newRow, newObj, Sem.run, go_sem]
    · rw [hz']; exact s.newPt _ _
theorem Hd.box (hx : evo st x = some v) {us : List Value} (hv : v.cells = us.toArray) (K : ∀ b, Hd E n ds ((d, .pointer (some ⟨b, 0, none⟩)) :: st) (pt b us t :: L) (LW r P ops Q rest)) (hd : d < n := by decide) :
    Hd E n ds st L (LW r P ops Q (⟨some d, .box t x, ty, pos, af, none⟩ :: rest)) :=
  Hd.op rfl (by simp) fun a w f s => by
    refine ⟨.pointer (some ⟨w.heap.size, 0, none⟩), { w with heap := w.heap.push (.cells v.cells t) }, ?_, K _ _ _ (f.put hd _) ?_⟩
    · simp only [execOp, Instr.box, f.ev hx]
      simp [newVar, newRow, newObj, Sem.run, go_sem]
    · rw [hv]; exact s.newPt _ _

/-! ### Addresses -/
theorem add_flat (b o m : Nat) : (⟨b, o, none⟩ : Addr).add m = ⟨b, o + m, none⟩ := by unfold Addr.add; split <;> simp_all
theorem y_field {b o : Nat} {fs : Array Field} {fl : Field} {i m : Nat} (hu : P.underlying t = some (.struct fs)) (hf : fs[i]? = some fl) (hs : szk P fl.type = some m) (hm : Nat.beq m 0 = false)
    (hx : evo st x = some (.pointer (some ⟨b, o, none⟩))) : Yv E n ds st L P ⟨some d, .fieldAddr t x i, ty, pos, af, g⟩ (.pointer (some ⟨b, o + fl.offset, none⟩)) := fun a w f s => by
  have hm' : m ≠ 0 := by intro e; subst e; cases hm
  simp only [execOp, f.ev hx]
  simp only [Instr.fieldAt, Sem.run_bind, run_underlying hu, Result.andThen, hf, Instr.sureAddr, fieldPlace, run_sizeOf' hs, if_neg hm', go_sem]
  simp [add_flat]
theorem y_idxA {b o m len j : Nat} {e : TypeId} (hu : P.underlying t = some (.array len e)) (hs : szk P e = some m) (hx : evo st x = some (.pointer (some ⟨b, o, none⟩)))
    (hy : evo st y = some (.int k (Int.ofNat j))) (hj : j < len) : Yv E n ds st L P ⟨some d, .indexAddr t x y, ty, pos, af, g⟩ (.pointer (some ⟨b, o + j * m, none⟩)) := fun a w f s => by
  simp only [execOp, f.ev hx, f.ev hy]
  simp only [Instr.indexAt, asIntOf, Sem.run_bind, run_underlying hu, Result.andThen, Instr.sureAddr, go_sem]
  simp [run_sizeOf' hs, add_flat, hj]
theorem y_idxS {b o m len cap j : Nat} {e : TypeId} (hu : P.underlying t = some (.slice e)) (hs : szk P e = some m) (hx : evo st x = some (.slice (some ⟨b, o, none⟩) len cap))
    (hy : evo st y = some (.int k (Int.ofNat j))) (hj : j < len) : Yv E n ds st L P ⟨some d, .indexAddr t x y, ty, pos, af, g⟩ (.pointer (some ⟨b, o + j * m, none⟩)) := fun a w f s => by
  simp only [execOp, f.ev hx, f.ev hy]
  simp only [Instr.indexAt, asIntOf, Sem.run_bind, run_underlying hu, Result.andThen, Instr.sureAddr, go_sem]
  simp [run_sizeOf' hs, add_flat, hj]
theorem y_extract {vs : Array Value} {i : Nat} (hx : evo st x = some (.tuple vs)) (hi : vs[i]? = some v) : Yv E n ds st L P ⟨some d, .extract x i, ty, pos, af, g⟩ v := fun a w f s => by
  simp only [execOp, f.ev hx]
  simp [Instr.extract, hi]
theorem y_len {ad : Option Addr} {len cap : Nat} {e : TypeId} (hu : P.underlying t = some (.slice e)) (hx : evo st x = some (.slice ad len cap)) :
    Yv E n ds st L P ⟨some d, .call ⟨.builtin .len, #[x], #[t]⟩, ty, pos, af, g⟩ (.int .i64 (len : Int)) := fun a w f s => by
  simp only [execOp, resolve, List.map_toArray, List.map_cons, List.map_nil, f.ev hx]
  simp [invoke, builtin, Builtin.len_, run_underlying hu, goInt, go_sem]
theorem y_lenS {s : ByteArray} (hu : P.underlying t = some .string) (hx : evo st x = some (.string s)) :
    Yv E n ds st L P ⟨some d, .call ⟨.builtin .len, #[x], #[t]⟩, ty, pos, af, g⟩ (.int .i64 (s.size : Int)) := fun a w f _ => by
  simp only [execOp, resolve, List.map_toArray, List.map_cons, List.map_nil, f.ev hx]
  simp [invoke, builtin, Builtin.len_, run_underlying hu, goInt, go_sem]
theorem y_max {a b : Int} (hx : evo st x = some (.int k a)) (hy : evo st y = some (.int k b)) :
    Yv E n ds st L P ⟨some d, .call ⟨.builtin .max, #[x, y], #[t, t2]⟩, ty, pos, af, g⟩ (.int k (max a b)) := fun _ w f _ => by
  simp only [execOp, resolve, List.map_toArray, List.map_cons, List.map_nil, f.ev hx, f.ev hy]
  have : (if b > a then b else a) = max a b := by omega
  simp [invoke, builtin, Builtin.max_, Builtin.max2, go_sem]; omega
theorem y_min {a b : Int} (hx : evo st x = some (.int k a)) (hy : evo st y = some (.int k b)) :
    Yv E n ds st L P ⟨some d, .call ⟨.builtin .min, #[x, y], #[t, t2]⟩, ty, pos, af, g⟩ (.int k (min a b)) := fun _ w f _ => by
  simp only [execOp, resolve, List.map_toArray, List.map_cons, List.map_nil, f.ev hx, f.ev hy]
  simp [invoke, builtin, Builtin.min_, Builtin.min2, go_sem]; omega

/-! ### Values built -/
/-- the operands' values put at their places -/
def bld (st : List (Nat × Value)) : List Value → List (Nat × Nat) → List (Nat × Operand) → Option (List Value)
  | cs, _, [] => some cs
  | cs, pl, (i, x) :: r =>
    match pl[i]?, evo st x with
    | some (o, m), some v => bif Nat.beq v.cells.size m && Nat.ble (o + m) cs.length then bld st (cs.take o ++ v.cells.toList ++ cs.drop (o + m)) pl r else none
    | _, _ => none

/-! ### Contracts -/
/-- Called so in a world of the list, the function returns, for some index, that index's value, in a world of that index's list. -/
def Ct (P : Program) (f : FuncId) (vs : Array Value) (L : List SP) {ι : Type} (val : ι → Value) (post : ι → List SP) : Prop :=
  ∀ E w, Sat E L w → Calls P f vs w (fun e w' => ∃ i, e = .returned (val i) ∧ Sat E (post i) w')
theorem evs_map {ac : Act} (f : Fr n ds st ac) : ∀ {xs : List Operand} {vs : List Value}, xs.map (evo st) = vs.map some → xs.map ac.eval = vs
  | [], [], _ => rfl
  | [], _ :: _, h => by simp at h
  | _ :: _, [], h => by simp at h
  | x :: xs, v :: vs, h => by
    simp only [List.map_cons, List.cons.injEq] at h
    rw [List.map_cons, f.ev h.1, evs_map f h.2]
def fnk (P : Program) (f : FuncId) : Bool := match P.funcs[f]? with | some fn => fn.body.isSome && !(fn.name == "runtime.NumGoroutine") | none => false
theorem run_call {fid : FuncId} (hf : fnk P fid = true) (vs : Array Value) (w : World) : (callFunc fid vs).run P w = .ok (.enter fid vs) w := by
  unfold fnk at hf
  cases h : P.funcs[fid]? with
  | none => rw [h] at hf; cases hf
  | some fn =>
    rw [h] at hf
    simp only [Bool.and_eq_true, Bool.not_eq_true'] at hf
    have hnm : ¬ fn.name = "runtime.NumGoroutine" := by simpa using hf.2
    simp only [callFunc, Sem.run_bind, go_sem]
    cases hb : fn.body with
    | none => rw [hb] at hf; simp at hf
    | some c => simp [h, hnm, hb]
/-- A call. -/
theorem Hd.call {fid : FuncId} {xs : List Operand} {vs : List Value} {tys : Array TypeId} {ι : Type} {val : ι → Value} {post : ι → List SP} (hv : xs.map (evo st) = vs.map some) (hf : fnk P fid = true)
    (hc : Ct P fid vs.toArray L val post) (K : ∀ i, Hd E n ds ((d, val i) :: st) (post i) (LW r P ops Q rest)) (hd : d < n := by decide) :
    Hd E n ds st L (LW r P ops Q (⟨some d, .call ⟨.value (.func fid), xs.toArray, tys⟩, ty, pos, af, none⟩ :: rest)) := by
  intro a w f s
  show wpListIn _ _ _ _ _ _ _ _
  unfold wpListIn
  rw [if_pos (by simp [Region.wanted])]
  refine ⟨fun _ _ => trivial, ?_⟩
  rw [Oper.semAt_eq _ _ _ (by simp)]
  have e : (execOp a.eval (⟨some d, .call ⟨.value (.func fid), xs.toArray, tys⟩, ty, pos, af, none⟩ : Oper)).run P w = .ok (.enter fid vs.toArray) w := by
    simp only [List.map_toArray, evs_map f hv, go_sem]
    simp [run_call hf]
  rw [e]
  refine ⟨fun h => (by cases h), ?_⟩
  refine ((callsIn_wide.2 (hc E w s)).mono fun e w' h => ?_)
  obtain ⟨i, rfl, s'⟩ := h
  exact K i _ _ (f.put hd _) s'
/-- the arguments in their slots -/
def subv (vs : List Value) : List (Nat × Value) → Prop
  | [] => True
  | (d, v) :: r => vs[d]? = some v ∧ subv vs r
theorem subv.look {vs : List Value} : ∀ {st : List (Nat × Value)}, subv vs st → ∀ t v, look st t = some v → vs[t]? = some v
  | [], _, _, _, e => by cases e
  | (d, u) :: r, ⟨h1, h2⟩, t, v, e => by
    simp only [RX.look] at e
    cases hb : Nat.beq d t with
    | true => rw [hb] at e; simp at e; have := Nat.eq_of_beq_eq_true hb; subst this; rw [h1, e]
    | false => rw [hb] at e; exact subv.look h2 t v (by simpa using e)
/-- From the walk of its body to a function's contract. -/
theorem Ct.of {fid : FuncId} {fn : Func} {c : Code} {vs : List Value} {ι : Type} {val : ι → Value} {post : ι → List SP} (hf : P.funcs[fid]? = some fn) (hb : fn.body = some c) (hn : Nat.ble vs.length fn.ntmps = true)
    (st : List (Nat × Value)) (hst : subv vs st)
    (h : ∀ E, Hd E fn.ntmps [] st L (CW none P c (bodyPost P fn fun e w' => ∃ i, e = .returned (val i) ∧ Sat E (post i) w'))) : Ct P fid vs.toArray L val post := by
  intro E w s
  refine calls_of_wp hf hb (wpIn_wide.1 (h E _ w ⟨by have := Nat.le_of_ble_eq_true hn; simp; omega, rfl, fun t v e => ?_⟩ s))
  have := hst.look t v e
  have hl : t < vs.length := by rcases Nat.lt_or_ge t vs.length with h | h; exact h; rw [List.getElem?_eq_none h] at this; cases this
  rw [Array.getElem?_append_left (by simpa using hl)]; simpa using this
/-- The end: one result in a slot. -/
theorem Hd.ret1 {fn : Func} {tt : Nat} {ι : Type} {val : ι → Value} {post : ι → List SP} (hr : fn.results = #[.tmp tt]) (i : ι) (hv : look st tt = some (val i)) (hl : ∀ k, sep L k → sep (post i) k) :
    Hd E n [] st L ((bodyPost P fn fun e w' => ∃ i, e = .returned (val i) ∧ Sat E (post i) w') .ret) := fun a w f s =>
  bodyPost_ret (results_tmp hr a.tmps P w) f.defs ⟨i, by simp [f.at_ tt _ hv], s.mp hl⟩
theorem Hd.ret2 {fn : Func} {tt tu : Nat} {v u : Value} {ι : Type} {val : ι → Value} {post : ι → List SP} (hr : fn.results = #[.tmp tt, .tmp tu]) (i : ι) (hv : look st tt = some v) (hu : look st tu = some u) (hi : val i = .tuple #[v, u]) (hl : ∀ k, sep L k → sep (post i) k) :
    Hd E n [] st L ((bodyPost P fn fun e w' => ∃ i, e = .returned (val i) ∧ Sat E (post i) w') .ret) := fun a w f s =>
  bodyPost_ret (results_tmp2 hr a.tmps P w) f.defs ⟨i, by simp [f.at_ tt _ hv, f.at_ tu _ hu, hi], s.mp hl⟩
/-- A function without results falls off its end, or returns. -/
theorem Hd.end0 {fn : Func} {ι : Type} {val : ι → Value} {post : ι → List SP} (hr : fn.results = #[]) (i : ι) (hi : val i = .tuple #[]) (hl : ∀ k, sep L k → sep (post i) k) :
    Hd E n [] st L ((bodyPost P fn fun e w' => ∃ i, e = .returned (val i) ∧ Sat E (post i) w') .normal) := fun a w f s =>
  bodyPost_end (results_none hr a.tmps P w) f.defs ⟨i, by rw [hi], s.mp hl⟩
theorem Hd.ret0 {fn : Func} {ι : Type} {val : ι → Value} {post : ι → List SP} (hr : fn.results = #[]) (i : ι) (hi : val i = .tuple #[]) (hl : ∀ k, sep L k → sep (post i) k) :
    Hd E n [] st L ((bodyPost P fn fun e w' => ∃ i, e = .returned (val i) ∧ Sat E (post i) w') .ret) := fun a w f s =>
  bodyPost_ret (results_none hr a.tmps P w) f.defs ⟨i, by rw [hi], s.mp hl⟩
end
end Go.RX
