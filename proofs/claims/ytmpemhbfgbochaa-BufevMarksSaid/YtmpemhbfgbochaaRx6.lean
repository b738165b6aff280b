/-
  Regions that draw their order, read first, and end in a chain of operations; stores into owned slices; slices against nil; slice expressions. No program is named here.
-/
import Derived.Test.YtmpemhbfgbochaaRxB
import Derived.StillTail
import Derived.DataElems
namespace Go.RX
set_option linter.unusedSimpArgs false
set_option linter.unusedVariables false
set_option linter.unnecessarySimpa false
section
variable {E : World} {n : Nat} {ds : List Deferred} {st st' : List (Nat × Value)} {L L' : List SP} {r : Option Nat} {P : Program} {Q : Exit → Act → World → Prop} {ops : Array Oper} {rest : List Oper}
variable {d : Nat} {ty t t2 : TypeId} {pos : String} {af : Array Edge} {g : Option (Nat × Bool)} {x y z : Operand} {v u : Value} {k : IntKind} {p q : Bool}

theorem wpIn_of_still {o : Oper} {a : Act} {w : World} {K : Act → Prop} {K' : Act → World → Prop} {Q' : Exit → Act → World → Prop} (h : ∀ a, K a → K' a w) (hh : o.still P a w K) : o.wpIn (FW r) 0 P a w K' Q' := by
  unfold Oper.still at hh
  refine ⟨fun _ _ => trivial, ?_⟩
  have hse : o.semAt (FW r).round a.eval = execOp a.eval o := by
    refine Oper.semAt_eq _ _ _ fun c hc => ?_
    cases hr : (execOp a.eval o).run P w with
    | ok nx w' =>
      rw [hr] at hh
      unfold execOp at hr
      rw [hc] at hr
      simp only [Sem.run_bind] at hr
      cases h : (resolve a.eval c o.type).run P w with
      | ok d w1 => rw [h] at hr; simp [Result.andThen] at hr; rw [← hr.1] at hh; simp only [Oper.stillUpon] at hh
      | halt x w1 => rw [h] at hr; simp [Result.andThen] at hr
    | halt x w' => rw [hr] at hh; simp only [Oper.stillUpon] at hh
  rw [hse]
  generalize (execOp a.eval o).run P w = rr at *
  cases rr with
  | ok nx w' =>
    cases nx <;> simp only [Oper.stillUpon] at hh <;> simp only [Oper.uponIn]
    case enter f args =>
      obtain ⟨rfl, v, hc, hn⟩ := hh
      exact ⟨fun h => (by cases h), (callsIn_wide.2 hc).mono fun e w'' ⟨he, hw⟩ => by subst he; subst hw; exact h _ hn⟩
    all_goals (obtain ⟨rfl, h2⟩ := hh; exact h _ h2)
  | halt x w' => simp only [Oper.stillUpon] at hh
theorem wpOpIn_of_stOp {w : World} {i : Nat} {a : Act} {K : Act → Prop} {K' : Act → World → Prop} {Q' : Exit → Act → World → Prop} (h : ∀ a, K a → K' a w) (hh : stOp P ops w i K a) : wpOpIn (FW r) 0 P ops Q' i K' a w := by
  unfold stOp at hh
  unfold wpOpIn
  split
  · rename_i ho; simp only [ho] at hh; exact h _ hh
  · rename_i o ho
    simp only [ho] at hh
    split
    · rename_i hw; simp only [hw, if_true] at hh; exact wpIn_of_still h hh
    · rename_i hw; simp only [hw] at hh; exact ⟨fun _ _ => trivial, h _ hh⟩
theorem wpAnyIn_of_head {md : Region.Mode} {w : World} {m gg : Nat} {LL : Array Bool → Act → Prop} {Q' : Exit → Act → World → Prop} (hL : ∀ listed a, LL listed a → wpAnyIn (FW r) 0 P md ops Q' gg listed a w) :
    ∀ (f : Nat) (listed : Array Bool) (a : Act), wpAnyL P md ops w m LL f listed a → wpAnyIn (FW r) 0 P md ops Q' (f + gg) listed a w
  | 0, listed, a, h => by rw [Nat.zero_add]; exact hL _ _ h
  | f + 1, listed, a, h => by
    rw [show f + 1 + gg = (f + gg) + 1 by omega]
    exact ⟨fun h0 => absurd h0 h.1, fun i hi => wpOpIn_of_stOp (fun a' h' => wpAnyIn_of_head hL f _ a' h') (h.2 i hi).2⟩
theorem wpAnyIn_of_seq {md : Region.Mode} {Q' : Exit → Act → World → Prop} : ∀ (l : List Oper) (k : Nat) (listed : Array Bool) (a : Act) (w : World), (∀ j, l[j]? = ops[k + j]?) →
    Region.seqB md ops l.length k listed = true → wpListIn (FW r) 0 P ops Q' l a w → wpAnyIn (FW r) 0 P md ops Q' l.length listed a w
  | [], _, _, _, _, _, hB, h => ⟨by simpa [Region.seqB] using hB, h⟩
  | o :: l, k, listed, a, w, hl, hB, h => by
    have h0 : ops[k]? = some o := by simpa using (hl 0).symm
    simp only [List.length_cons, Region.seqB, Bool.and_eq_true, decide_eq_true_eq] at hB
    refine ⟨fun h1 => (by rw [hB.1] at h1; cases h1), fun i hi => ?_⟩
    rw [hB.1] at hi
    have hik : i = k := by simpa using hi
    subst hik
    have hw : wpOpIn (FW r) 0 P ops Q' i (wpListIn (FW r) 0 P ops Q' l) a w := by unfold wpOpIn; simp only [h0]; exact h
    exact wpOpIn_mono (fun a' w' h' => wpAnyIn_of_seq l (i + 1) _ a' w' (fun j => by have := hl (j + 1); simpa [Nat.add_assoc, Nat.add_comm 1 j] using this) hB.2 h') hw
theorem wpIn_region_still_tail {id : Nat} {a : Act} {w : World} {l : List Oper} (m : Nat) (hm : P.follows .mixedOrders = true) (hB : Region.lexTailB .any l.toArray m = true)
    (h : wpStill P l.toArray { w with drawn := w.drawn + 1 } (fun a' => wpListIn (FW r) 0 P l.toArray Q (l.drop m) a' { w with drawn := w.drawn + 1 }) (l.take m) a) : (Code.region id l.toArray true).wpIn (FW r) 0 P Q a w := by
  simp only [Region.lexTailB, Bool.and_eq_true, decide_eq_true_eq] at hB
  obtain ⟨⟨⟨⟨hsel, hn⟩, hs⟩, hc⟩, hlex⟩ := hB
  have hn' : m < l.length := by simpa using hn
  have htl : (l.take m).length = m := by simp; omega
  have hdl : (l.drop m).length = l.toArray.size - m := by simp
  have inv0 : HeadInv .any l.toArray m (Array.replicate l.toArray.size false) :=
    ⟨by simp, fun j oj _ hl => (by rw [getD_replicate_false] at hl; cases hl), fun t _ ht => getD_in (by simpa using ht) (getD_replicate_false _ _)⟩
  have H := wpAnyL_lex (md := .any) (g := l.toArray.size - m) hsel hs hc hn (l.take m) 0 _ a (fun j hj => by
    have hj' : j < m := by rw [htl] at hj; exact hj
    simp [hj']) (by simpa using htl) inv0 (by rw [htl]; exact hlex) h
  refine wpIn_region_any hm ?_
  have := wpAnyIn_of_head (Q' := Q) (gg := l.toArray.size - m) (fun listed a' hL => by
    have := wpAnyIn_of_seq (md := .any) (Q' := Q) (l.drop m) m listed a' { w with drawn := w.drawn + 1 } (fun j => by simp [List.getElem?_drop]) (by rw [hdl]; exact hL.1) hL.2
    rwa [hdl] at this) _ _ _ H
  rw [htl, show m + (l.toArray.size - m) = l.toArray.size by omega] at this
  exact this
/-- the judgement on the reading part of such a region -/
def Ht (E : World) (n : Nat) (ds : List Deferred) (st : List (Nat × Value)) (L : List SP) (K : World → Act → Prop) : Prop := ∀ a w, Fr n ds st a → Sat E L w → K w a
abbrev SW (P : Program) (ops : Array Oper) (Kt : World → Act → Prop) (l : List Oper) : World → Act → Prop := fun w => wpStill P ops w (Kt w) l
theorem Hd.tail {id : Nat} {l : List Oper} (m : Nat) (hm : P.follows .mixedOrders = true) (hB : Region.lexTailB .any l.toArray m = true)
    (h : Ht E n ds st L (SW P l.toArray (fun w a' => LW r P l.toArray Q (l.drop m) a' w) (l.take m))) : Hd E n ds st L (CW r P (.region id l.toArray true) Q) :=
  fun a w f s => wpIn_region_still_tail m hm hB (h a _ f s.draw)
section still
variable {Kt : World → Act → Prop}
theorem Ht.nil {l : List Oper} (h : Hd E n ds st L (LW r P ops Q l)) : Ht E n ds st L (SW P ops (fun w a' => LW r P ops Q l a' w) []) := fun a w f s => h a w f s
theorem Ht.yv {op : Op} (h : Yv E n ds st L P ⟨some d, op, ty, pos, af, none⟩ v) (K : Ht E n ds ((d, v) :: st) L (SW P ops Kt rest)) (hd : d < n := by decide) :
    Ht E n ds st L (SW P ops Kt (⟨some d, op, ty, pos, af, none⟩ :: rest)) := fun a w f s => by
  refine wpStill_step fun K' hK' => ?_
  rw [if_pos (by simp [Region.wanted])]
  unfold Oper.still
  rw [h a w f s]
  exact ⟨rfl, hK' _ (K _ w (f.put hd v) s)⟩
theorem Ht.yg {op : Op} {i gd : Nat} (hi : (ops[i]?).bind (·.dst) = some gd) (hv : look st gd = some (.bool p)) (h : Yv E n ds st L P ⟨some d, op, ty, pos, af, some (i, p)⟩ v)
    (K : Ht E n ds ((d, v) :: st) L (SW P ops Kt rest)) (hd : d < n := by decide) :
    Ht E n ds st L (SW P ops Kt (⟨some d, op, ty, pos, af, some (i, p)⟩ :: rest)) := fun a w f s => by
  refine wpStill_step fun K' hK' => ?_
  rw [if_pos (by simp [Region.wanted, yielded_of hi f hv])]
  unfold Oper.still
  rw [h a w f s]
  exact ⟨rfl, hK' _ (K _ w (f.put hd v) s)⟩
theorem Ht.ng {op : Op} {i gd : Nat} (hi : (ops[i]?).bind (·.dst) = some gd) (hv : look st gd = some v) (hb : isb v p = false)
    (K : Ht E n ds ((d, undef) :: st) L (SW P ops Kt rest)) (hd : d < n := by decide) :
    Ht E n ds st L (SW P ops Kt (⟨some d, op, ty, pos, af, some (i, p)⟩ :: rest)) := fun a w f s => by
  refine wpStill_step fun K' hK' => ?_
  rw [if_neg (by simp only [Region.wanted, yielded_of hi f hv]; cases v <;> simp_all [isb])]
  exact hK' _ (K _ w (f.put hd undef) s)
theorem Ht.part {K : World → Act → Prop} {gd : Nat} (hv : look st gd = some (.bool p)) (hT : p = true → Ht E n ds ((gd, .bool true) :: st) L K) (hF : p = false → Ht E n ds ((gd, .bool false) :: st) L K) : Ht E n ds st L K :=
  fun a w f s => Hd.part (K := fun a w => K w a) hv (fun e a w f s => hT e a w f s) (fun e a w f s => hF e a w f s) a w f s
end still

theorem y_fieldR {q o m ft : Nat} {ad : Option Addr} {fs : Array Field} {i : Nat} (hu : P.underlying t = some (.struct fs)) (hf : (fs[i]?).map (fun f => (f.offset, f.type)) = some (q, ft)) (hs : szk P ft = some m) (hm : Nat.beq m 0 = false)
    (hx : evo st x = some (.pointer (some ((adr ad).add o)))) : Yv E n ds st L P ⟨some d, .fieldAddr t x i, ty, pos, af, g⟩ (.pointer (some ((adr ad).add (o + q)))) := by
  cases hfi : fs[i]? with
  | none => rw [hfi] at hf; cases hf
  | some fl =>
    rw [hfi] at hf
    simp only [Option.map_some, Option.some.injEq, Prod.mk.injEq] at hf
    obtain ⟨rfl, rfl⟩ := hf
    intro a w f s
    have hm' : m ≠ 0 := by intro e; subst e; cases hm
    simp only [execOp, f.ev hx]
    simp only [Instr.fieldAt, Sem.run_bind, run_underlying hu, Result.andThen, hfi, Instr.sureAddr, fieldPlace, run_sizeOf' hs, if_neg hm', go_sem]
    simp [Addr.add_add]
/-! ### Stores into an owned slice -/
theorem Hd.storeO {e sz m cap q : Nat} {ad : Option Addr} {us vs : List Value} (hz : szk P t = some vs.length) (hx : evo st x = some (.pointer (some ((adr ad).add q)))) (hy : evo st y = some v) (hv : v.cells = vs.toArray)
    (h1 : ∀ u ∈ vs, u.oneCell' = true) (hp : Pick L (own e sz ad m cap us) L') (hl : q + vs.length ≤ us.length) (hne : 0 < vs.length)
    (K : Hd E n ds st (own e sz ad m cap (us.take q ++ vs ++ us.drop (q + vs.length)) :: L') (LW r P ops Q rest)) : Hd E n ds st L (LW r P ops Q (⟨none, .store t x y, ty, pos, af, none⟩ :: rest)) :=
  Hd.opu rfl (by simp) fun a w f s => by
    have s' : Sat E (own e sz ad m cap us :: L') w := s.mp fun _ k => hp.sep k
    obtain ⟨hos, htp, hou, k1, k2, dd, s1, s2, ⟨hul, hv'⟩, hL⟩ := s'
    rcases hv' with ⟨rfl, rfl⟩ | ⟨b, off, sp, rfl, hmc, hcm, hsp, hpt⟩
    · have h0 : us.length = 0 := by rw [hul]; simp
      omega
    have s0 : Sat E (seg b off (us ++ sp) :: L') w := ⟨hos, htp, hou, k1, k2, dd, s1, s2, hpt, hL⟩
    obtain ⟨w', hst, s2'⟩ := Sat.storeSeg (P := P) (q := q) (vs := vs) s0 (by simp; omega) (by simp; omega) h1
    have hseg : (us ++ sp).take q ++ vs ++ (us ++ sp).drop (q + vs.length) = (us.take q ++ vs ++ us.drop (q + vs.length)) ++ sp := by
      rw [List.take_append_of_le_length (by omega), List.drop_append_of_le_length (by omega)]; simp [List.append_assoc]
    rw [hseg] at s2'
    refine ⟨w', ?_, K _ _ f (s2'.mp fun h hh => sep_head hh fun k x => ⟨?_, .inr ⟨b, off, sp, rfl, hmc, hcm, hsp, x⟩⟩)⟩
    · have hx' : evo st x = some (.pointer (some ⟨b, off + q, Option.none⟩)) := by rw [hx]; simp [adr, add_flat]
      simp only [execOp, f.ev hx', f.ev hy, Instr.storeAt, Instr.sureAddr, pure_bind, storeVar, Sem.run_bind, run_sizeOf' hz, Result.andThen, hv]
      simp [hst]
    · rw [← hul]; simp; omega
theorem Hd.storeO1 {e sz m cap q : Nat} {ad : Option Addr} {us : List Value} (hz : szk P t = some 1) (hx : evo st x = some (.pointer (some ((adr ad).add q)))) (hy : evo st y = some v)
    (h1 : v.oneCell' = true) (hp : Pick L (own e sz ad m cap us) L') (hl : q < us.length)
    (K : Hd E n ds st (own e sz ad m cap (us.set q v) :: L') (LW r P ops Q rest)) : Hd E n ds st L (LW r P ops Q (⟨none, .store t x y, ty, pos, af, none⟩ :: rest)) :=
  Hd.storeO (vs := [v]) hz hx hy (by cases v <;> simp_all [Value.cells, Value.oneCell']) (by simpa using h1) hp (by simp; omega) (by simp) (by rw [one_set hl]; exact K)

theorem Hd.rdsF {sz m : Nat} {ad : Option Addr} {us : List Value} {K : Act → World → Prop} (h : RdS L sz ad m us) (k : us.length = m * sz → (ad = none → m = 0) → Hd E n ds st L K) : Hd E n ds st L K := fun a w f s => by
  have h' := h _ s.2.2.2
  refine k h'.1 (fun e => ?_) a w f s
  rcases h'.2 with h0 | ⟨b, o, had, _⟩
  · exact h0
  · rw [e] at had; cases had
theorem y_remN {a b : Nat} (hx : evo st x = some (.int k (Int.ofNat a))) (hy : evo st y = some (.int k (Int.ofNat b))) (hb : 0 < b) : Yv E n ds st L P ⟨some d, .binOp .rem t x y t2, ty, pos, af, g⟩ (.int k ((a % b : Nat) : Int)) :=
  by have h := y_remn (P := P) (L := L) (E := E) (ds := ds) (n := n) (d := d) (ty := ty) (pos := pos) (af := af) (g := g) (t := t) (t2 := t2) hx hy (Int.natCast_nonneg a) (Int.natCast_pos.2 hb); exact h
theorem y_quoN {a b : Nat} (hx : evo st x = some (.int k (Int.ofNat a))) (hy : evo st y = some (.int k (Int.ofNat b))) (hb : 0 < b) (hk : InK k ((a / b : Nat) : Int)) : Yv E n ds st L P ⟨some d, .binOp .quo t x y t2, ty, pos, af, g⟩ (.int k ((a / b : Nat) : Int)) :=
  by have h := y_quon (P := P) (L := L) (E := E) (ds := ds) (n := n) (d := d) (ty := ty) (pos := pos) (af := af) (g := g) (t := t) (t2 := t2) hx hy (Int.natCast_nonneg a) (Int.natCast_pos.2 hb) hk; exact h
/-- a slot's number under another name -/
theorem Hd.name {K : Act → World → Prop} {a b : Int} (s : Nat) (hs : look st s = some (.int k a)) (e : a = b) (h : Hd E n ds ((s, .int k b) :: st) L K) : Hd E n ds st L K := fun ac w f sa => by
  subst e
  refine h ac w (f.weak fun t u e => ?_) sa
  simp only [look] at e
  cases hb : Nat.beq s t with
  | true => rw [hb] at e; have := Nat.eq_of_beq_eq_true hb; subst this; simp at e; rw [← e, hs]
  | false => rw [hb] at e; simpa using e
/-! ### Slices against nil -/
theorem run_equal_sliceNil {e : TypeId} {ad : Option Addr} {m c : Nat} (hu : P.underlying t = some (.slice e)) (w : World) : (Op.equal t (.slice ad m c) (.slice none 0 0)).run P w = .ok ad.isNone w := by
  have key : ∀ m', (Op.equalIn (m' + 1) t (.slice ad m c) (.slice none 0 0)).run P w = .ok ad.isNone w := fun m' => by
    rw [Op.equalIn]
    cases ad <;> simp [run_underlying hu]
  exact key 9999
theorem y_eql_slice {e : TypeId} {ad : Option Addr} {m c : Nat} (hu : P.underlying t = some (.slice e)) (hx : evo st x = some (.slice ad m c)) (hy : evo st y = some (.slice none 0 0)) :
    Yv E n ds st L P ⟨some d, .binOp .eql t x y t2, ty, pos, af, g⟩ (.bool ad.isNone) := fun a w f _ => by
  simp only [execOp, f.ev hx, f.ev hy, show ∀ (a b : Option Addr) (m c m' c' : Nat), binOp .eql t (.slice a m c) (.slice b m' c') = (do pure (.bool (← Op.equal t (.slice a m c) (.slice b m' c')))) from fun _ _ _ _ _ _ => rfl]
  simp [eqGuard, run_equal_sliceNil hu]
theorem y_neq_slice {e : TypeId} {ad : Option Addr} {m c : Nat} (hu : P.underlying t = some (.slice e)) (hx : evo st x = some (.slice ad m c)) (hy : evo st y = some (.slice none 0 0)) :
    Yv E n ds st L P ⟨some d, .binOp .neq t x y t2, ty, pos, af, g⟩ (.bool (!ad.isNone)) := fun a w f _ => by
  simp only [execOp, f.ev hx, f.ev hy, show ∀ (a b : Option Addr) (m c m' c' : Nat), binOp .neq t (.slice a m c) (.slice b m' c') = (do pure (.bool (!(← Op.equal t (.slice a m c) (.slice b m' c'))))) from fun _ _ _ _ _ _ => rfl]
  simp [eqGuard, run_equal_sliceNil hu]
/-! ### Pointers against nil -/
theorem run_equal_ptrNil {e : TypeId} {ad : Option Addr} (hu : P.underlying t = some (.pointer e)) (w : World) : (Op.equal t (.pointer ad) (.pointer none)).run P w = .ok ad.isNone w := by
  have key : ∀ m', (Op.equalIn (m' + 1) t (.pointer ad) (.pointer none)).run P w = .ok ad.isNone w := fun m' => by
    rw [Op.equalIn]
    cases ad <;> simp [run_underlying hu]
  exact key 9999
theorem y_eql_pointer {e : TypeId} {ad : Option Addr} (hu : P.underlying t = some (.pointer e)) (hx : evo st x = some (.pointer ad)) (hy : evo st y = some (.pointer none)) :
    Yv E n ds st L P ⟨some d, .binOp .eql t x y t2, ty, pos, af, g⟩ (.bool ad.isNone) := fun a w f _ => by
  simp only [execOp, f.ev hx, f.ev hy, show ∀ (a b : Option Addr), binOp .eql t (.pointer a) (.pointer b) = (do pure (.bool (← Op.equal t (.pointer a) (.pointer b)))) from fun _ _ => rfl]
  simp [eqGuard, run_equal_ptrNil hu]
theorem y_neq_pointer {e : TypeId} {ad : Option Addr} (hu : P.underlying t = some (.pointer e)) (hx : evo st x = some (.pointer ad)) (hy : evo st y = some (.pointer none)) :
    Yv E n ds st L P ⟨some d, .binOp .neq t x y t2, ty, pos, af, g⟩ (.bool (!ad.isNone)) := fun a w f _ => by
  simp only [execOp, f.ev hx, f.ev hy, show ∀ (a b : Option Addr), binOp .neq t (.pointer a) (.pointer b) = (do pure (.bool (!(← Op.equal t (.pointer a) (.pointer b))))) from fun _ _ => rfl]
  simp [eqGuard, run_equal_ptrNil hu]
theorem y_mkf {fn : Fn} {fs cs : List Operand} {fv cv : List Value} (hf : fs.map (evo st) = fv.map some) (hc : cs.map (evo st) = cv.map some) :
    Yv E n ds st L P ⟨some d, .makeFunc fn fs.toArray cs.toArray, ty, pos, af, g⟩ (.func fn fv.toArray cv.toArray) := fun a w f _ => by
  simp only [execOp, List.map_toArray, evs_map f hf, evs_map f hc]
  rfl
end
end Go.RX
