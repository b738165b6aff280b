/-
  Cells of a block from a place on, told from a place ahead of it (fields of a struct that stands within another one). No program is named here.
-/
import Derived.Test.YtmpemhbfgbochaaRxP
namespace Go.RX
set_option linter.unusedSimpArgs false
set_option linter.unusedVariables false
set_option linter.unnecessarySimpa false
section
variable {P : Program} {E : World} {n : Nat} {ds : List Deferred} {st : List (Nat × Value)} {L L' : List SP} {K : Act → World → Prop}
/-- the cells of block b from o + k on; their numbers are told from o -/
def segK (b o k : Nat) (cs : List Value) : SP := seg b (o + k) cs
theorem segK_eq {b o k : Nat} {cs cs' : List Value} (h : cs = cs') : segK b o k cs = segK b o k cs' := by rw [h]
theorem Pick.unK {b o k : Nat} {cs : List Value} (p : Pick L (segK b o k cs) L') : Pick L (seg b (o + k) cs) L' := p
theorem Rd.segK1 {b o k m : Nat} {cs : List Value} {v : Value} (p : Pick L (RX.segK b o k cs) L') (hm : k ≤ m) (h : cs[m - k]? = some v) : Rd L b (o + m) [v] := by
  have := Rd.seg1 (m := m - k) p.unK h
  rwa [Nat.add_assoc, Nat.add_sub_cancel' hm] at this
end
section
variable {E : World} {n : Nat} {ds : List Deferred} {st : List (Nat × Value)} {L L' : List SP} {r : Option Nat} {P : Program} {Q : Exit → Act → World → Prop} {ops : Array Oper} {rest : List Oper}
variable {ty t : TypeId} {pos : String} {af : Array Edge} {x y : Operand} {v : Value}
theorem Hd.storeK1 {b o k q : Nat} {cs : List Value} (hz : szk P t = some 1) (hx : evo st x = some (.pointer (some ⟨b, o + q, none⟩))) (hy : evo st y = some v)
    (h1 : v.oneCell' = true) (hp : Pick L (segK b o k cs) L') (hk : k ≤ q) (hl : q - k < cs.length)
    (K : Hd E n ds st (segK b o k (cs.set (q - k) v) :: L') (LW r P ops Q rest)) : Hd E n ds st L (LW r P ops Q (⟨none, .store t x y, ty, pos, af, none⟩ :: rest)) :=
  Hd.storeG1 (o := o + k) (q := q - k) hz (by rw [Nat.add_assoc, Nat.add_sub_cancel' hk]; exact hx) hy h1 hp.unK hl K
end
section
variable {P : Program} {E : World} {n : Nat} {ds : List Deferred} {st : List (Nat × Value)} {L L' : List SP}
theorem results_cell {fn : Func} {ta : Nat} {t : TypeId} {b o : Nat} {us : List Value} {tmps : Array Value} {w : World} (hr : fn.results = #[.cell ta t]) (ha : agk P t = some true) (hx : tmps.getD ta undef = .pointer (some ⟨b, o, none⟩))
    (hR : Rd L b o us) (hz : szk P t = some us.length) (s : Sat E L w) : (results fn tmps).run P w = .ok (.agg us.toArray) w := by
  have hc : (loadCells ⟨b, o, none⟩ us.length).run P w = .ok us.toArray w := run_loadCells_list w _ us fun j v e => by
    have := hR.cell s e
    unfold Addr.add
    split
    · rename_i h0; subst h0; simpa using this
    · exact this
  have hv : (loadVar t ⟨b, o, none⟩).run P w = .ok (.agg us.toArray) w := by
    simp only [loadVar, Sem.run_bind, run_isAgg ha, Result.andThen, if_true, run_sizeOf' hz, hc]
    rfl
  have hx2 : tmps[ta]?.getD undef = .pointer (some ⟨b, o, none⟩) := by simpa using hx
  simp [results, hr, hx2, asAddr, hv]
/-- The end: a result that stands in a block (an aggregate). -/
theorem Hd.retC {fn : Func} {ta : Nat} {t : TypeId} {b o : Nat} {us : List Value} {ι : Type} {val : ι → Value} {post : ι → List SP} (hr : fn.results = #[.cell ta t]) (i : ι) (ha : agk P t = some true) (hx : look st ta = some (.pointer (some ⟨b, o, none⟩)))
    (hR : Rd L b o us) (hz : szk P t = some us.length) (hv : val i = .agg us.toArray) (hl : ∀ k, sep L k → sep (post i) k) :
    Hd E n [] st L ((bodyPost P fn fun e w' => ∃ i, e = .returned (val i) ∧ Sat E (post i) w') .ret) := fun a w f s =>
  bodyPost_ret (results_cell hr ha (by simp [f.at_ ta _ hx]) hR hz s) f.defs ⟨i, by rw [hv], s.mp hl⟩
theorem Lv.endC {fn : Func} {a : Act} {ta : Nat} {t : TypeId} {b o : Nat} {us : List Value} {ι : Type} {val : ι → Value} {post : ι → List SP} (f : Fr n ds st a) (hr : fn.results = #[.cell ta t]) (i : ι) (ha : agk P t = some true) (hx : look st ta = some (.pointer (some ⟨b, o, none⟩)))
    (hR : Rd L b o us) (hz : szk P t = some us.length) (hv : val i = .agg us.toArray) (hl : ∀ k, sep L k → sep (post i) k) : Lv E P fn a.tmps [] L val post := fun w s =>
  ⟨val i, by rw [results_cell hr ha (by simp [f.at_ ta _ hx]) hR hz s, hv], i, rfl, s.mp hl⟩
end
section
variable {E : World} {n : Nat} {ds : List Deferred} {st : List (Nat × Value)} {L L' L2 : List SP} {K : Act → World → Prop}
theorem Hd.ownSplit {e sz m cap : Nat} {ad : Option Addr} {us : List Value} (p : Pick L (own e sz ad m cap us) L') (l : Nat) (us1 us2 : List Value) (hl : l ≤ m) (hu : us = us1 ++ us2) (h1 : us1.length = l * sz)
    (h : Hd E n ds st (own e sz ad l l us1 :: own e sz (cutA ad sz l cap) (m - l) (cap - l) us2 :: L') K) : Hd E n ds st L K := Hd.heap _ (fun k s => by subst hu; exact own_split hl h1 (p.sep s)) h
theorem Hd.ownDrop {e sz m cap : Nat} {ad : Option Addr} {us : List Value} (p : Pick L (own e sz ad m cap us) L') (l : Nat) (us1 us2 : List Value) (hl : l ≤ m) (hu : us = us1 ++ us2) (h1 : us1.length = l * sz)
    (h : Hd E n ds st (own e sz (cutA ad sz l cap) (m - l) (cap - l) us2 :: L') K) : Hd E n ds st L K := Hd.heap _ (fun k s => by subst hu; exact own_drop hl h1 (p.sep s)) h
theorem Hd.ownCap {e sz m cap : Nat} {ad : Option Addr} {us : List Value} (p : Pick L (own e sz ad m cap us) L') (h : m ≤ cap → Hd E n ds st L K) : Hd E n ds st L K := fun a w f s => by
  refine h ?_ a w f s
  obtain ⟨h1, s1, x⟩ := sep.one p s.2.2.2
  exact (own_le x).1
end
theorem own_eq3 {e sz m cap m' cap' : Nat} {ad : Option Addr} {us us' : List Value} (h1 : m = m') (h2 : cap = cap') (h3 : us = us') : own e sz ad m cap us = own e sz ad m' cap' us' := by rw [h1, h2, h3]
end Go.RX
