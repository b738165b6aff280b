/-
  Arguments opened, whatever their shape (numbers, bools, strings, structs, slices, one in the other): a Lean value, its cells, and what can be read of the old memory. No program is named here.
-/
import Derived.Test.YtkgkfjhfedjnpaaRxL
import Derived.Test.YtkgkfjhfedjnpaaRx4
import Derived.Deep.Slices
import Derived.DataElems
namespace Go.RX
set_option linter.unusedSimpArgs false
set_option linter.unusedVariables false
set_option linter.unnecessarySimpa false
open Go.ChangeShapes Go.WideShapes Go.ChangeAt Go.RowKit
/-- shapes of types -/
inductive Sh
  | int (k : IntKind) | bool | str | slice (s : Sh) | struct (l : Sh) | nil | fld (s r : Sh)
/-- a slice that came in -/
structure SL (α : Type) where
  l : List α
  ad : Option Addr
  cap : Nat
@[reducible] def Sh.T : Sh → Type
  | .int _ => Int
  | .bool => Bool
  | .str => ByteArray
  | .slice s => SL s.T
  | .struct l => l.T
  | .nil => Unit
  | .fld s r => s.T × r.T
def Sh.size : Sh → Nat
  | .struct l => l.size
  | .nil => 0
  | .fld s r => s.size + r.size
  | _ => 1
def Sh.enc : (s : Sh) → s.T → List Value
  | .int k, x => [.int k x]
  | .bool, x => [.bool x]
  | .str, x => [.string x]
  | .slice _, x => [.slice x.ad x.l.length x.cap]
  | .struct l, x => l.enc x
  | .nil, _ => []
  | .fld s r, x => s.enc x.1 ++ r.enc x.2
def Sh.ok (W : World) : (s : Sh) → s.T → Prop
  | .int k, x => InK k x
  | .bool, _ => True
  | .str, x => x.size ≤ maxLen
  | .slice s, x => RdS [Old W] s.size x.ad x.l.length (x.l.flatMap s.enc) ∧ x.l.length ≤ x.cap ∧ x.cap ≤ maxLen ∧ (x.ad = none → x.cap = 0) ∧ ∀ y ∈ x.l, s.ok W y
  | .struct l, x => l.ok W x
  | .nil, _ => True
  | .fld s r, x => s.ok W x.1 ∧ r.ok W x.2
mutual
def Sh.fits (P : Program) : Sh → TypeId → Bool
  | .int k, t => match P.underlying t with | some (.int k') => decide (k = k') | _ => false
  | .bool, t => match P.underlying t with | some .bool => true | _ => false
  | .str, t => match P.underlying t with | some .string => true | _ => false
  | .slice s, t => match P.underlying t with | some (.slice e) => s.fits P e && Nat.beq (P.cellsOf e) s.size && Nat.ble 1 s.size | _ => false
  | .struct l, t => match P.underlying t with | some (.struct fs) => l.fitsF P 0 fs.toList && Nat.beq (P.cellsOf t) l.size | _ => false
  | .nil, _ => false
  | .fld _ _, _ => false
def Sh.fitsF (P : Program) : Sh → Nat → List Field → Bool
  | .nil, _, [] => true
  | .fld s r, off, f :: fs => Nat.beq f.offset off && Nat.beq (P.cellsOf f.type) s.size && s.fits P f.type && r.fitsF P (off + s.size) fs
  | _, _, _ => false
end
theorem Sh.enc_len : ∀ (s : Sh) (x : s.T), (s.enc x).length = s.size
  | .int _, _ => rfl
  | .bool, _ => rfl
  | .str, _ => rfl
  | .slice _, _ => rfl
  | .struct l, x => Sh.enc_len l x
  | .nil, _ => rfl
  | .fld s r, x => by simp only [Sh.enc, Sh.size, List.length_append, Sh.enc_len s, Sh.enc_len r]
theorem inK_wf {k : IntKind} {n : Int} (h : (Lit.int k n).wf = true) : InK k n := by
  simp only [Lit.wf, Bool.and_eq_true, decide_eq_true_eq] at h
  cases k <;> simp only [IntKind.min, IntKind.max, IntKind.bits, IntKind.signed, InK] at h ⊢ <;> simp at h <;> omega
theorem pick_list {α : Type} {p : Nat → α → Prop} : ∀ {m : Nat}, (∀ i, i < m → ∃ x, p i x) → ∃ xs : List α, xs.length = m ∧ ∀ i x, xs[i]? = some x → p i x
  | 0, _ => ⟨[], rfl, fun i x h => by simp at h⟩
  | m + 1, h => by
    obtain ⟨xs, hl, hp⟩ := pick_list (m := m) fun i hi => h i (by omega)
    obtain ⟨x, hx⟩ := h m (by omega)
    refine ⟨xs ++ [x], by simp [hl], fun i y hy => ?_⟩
    by_cases hi : i < xs.length
    · rw [List.getElem?_append_left hi] at hy; exact hp i y hy
    · rw [List.getElem?_append_right (by omega)] at hy
      by_cases h0 : i = xs.length
      · subst h0; simp at hy; subst hy; rw [hl]; exact hx
      · rw [List.getElem?_eq_none (by simp; omega)] at hy; cases hy
theorem flat_at {α : Type} (enc : α → List Value) (m : Nat) (hm : ∀ x, (enc x).length = m) (h1 : 1 ≤ m) : ∀ {xs : List α} {j : Nat} {v : Value}, (xs.flatMap enc)[j]? = some v → ∃ x, xs[j / m]? = some x ∧ (enc x)[j % m]? = some v
  | [], _, _, h => by simp at h
  | y :: xs, j, v, h => by
    rw [List.flatMap_cons] at h
    by_cases hj : j < m
    · rw [List.getElem?_append_left (by rw [hm]; exact hj)] at h
      rw [Nat.div_eq_of_lt hj, Nat.mod_eq_of_lt hj]; exact ⟨y, rfl, h⟩
    · rw [List.getElem?_append_right (by rw [hm]; omega), hm] at h
      obtain ⟨x, h2, h3⟩ := flat_at enc m hm h1 h
      refine ⟨x, ?_, ?_⟩
      · rw [show j / m = (j - m) / m + 1 by rw [Nat.div_eq_sub_div (by omega) (by omega)]]; simpa using h2
      · rw [Nat.mod_eq_sub_mod (by omega)]; exact h3
theorem flat1 (k : IntKind) (xs : List Int) : xs.flatMap (Sh.int k).enc = xs.map (Value.int k) := by
  induction xs with
  | nil => rfl
  | cons x xs ih => rw [List.flatMap_cons, ih]; rfl
theorem rd_int {k : IntKind} {W : World} {x : (Sh.slice (.int k)).T} (h : (Sh.slice (.int k)).ok W x) : RdS [Old W] 1 x.ad x.l.length (x.l.map (Value.int k)) := by
  have := h.1; rwa [flat1] at this
section
variable {H : Type} {enc : TypeId × Value → H} {P : Program} {W : World} {held : Bool}
theorem rdS_of {a : Addr} {m sz : Nat} {us : List Value} (hsz : 1 ≤ sz) (hl : us.length = m * sz) (h : ∀ j v, us[j]? = some v → W.cell? (a.add j) = some v) : RdS [Old W] sz (some a) m us := fun k s => by
  refine ⟨hl, ?_⟩
  rcases Nat.eq_zero_or_pos m with h0 | h0
  · exact .inl h0
  right
  have hpos : 0 < us.length := by rw [hl]; exact Nat.mul_pos h0 hsz
  obtain ⟨v0, e0⟩ : ∃ v, us[0]? = some v := ⟨_, List.getElem?_eq_getElem hpos⟩
  have c0 := h 0 v0 e0
  simp only [Addr.add, if_true] at c0
  unfold World.cell? at c0
  split at c0
  · rename_i c e fz hb
    split at c0
    · cases c0
    · rename_i hsp
      have hsp' : a.spot = none := by cases h : a.spot <;> simp_all
      obtain ⟨h1, s1, x⟩ := sep.one .here s
      have hlt : a.block < W.heap.size := (Array.getElem?_eq_some_iff.1 hb).1
      refine ⟨a.block, a.off, c, e, fz, by cases a; simp_all, s1 _ _ (by rw [x _ hlt, hb]), fun j v e => ?_⟩
      have := h j v e
      unfold Addr.add at this
      split at this
      · rename_i h0; subst h0; simpa [World.cell?, hb, hsp'] using this
      · simpa [World.cell?, hb] using this
  · cases c0
theorem open_all : ∀ (s : Sh),
    (∀ (t : TypeId) (fuel : Nat) (cs : List Value) (x : DataW H × List MemPlace), s.fits P t = true → DataW.trod enc P W 0 (fun _ => true) held fuel t cs = some x → ∃ v : s.T, cs = s.enc v ∧ s.ok W v) ∧
    (∀ (off : Nat) (fs : List Field) (fuel : Nat) (cs : List Value) (xs : List (DataW H × List MemPlace)), s.fitsF P off fs = true → (fs.mapM fun f => DataW.trod enc P W 0 (fun _ => true) held fuel f.type ((cs.drop f.offset).take (P.cellsOf f.type))) = some xs → off + s.size = cs.length →
      ∃ v : s.T, cs.drop off = s.enc v ∧ s.ok W v)
  | .int k => by
    refine ⟨fun t fuel cs x hf h => ?_, fun off fs _ _ _ hf => by simp [Sh.fitsF] at hf⟩
    ·
      simp only [Sh.fits] at hf
      split at hf
      · rename_i k' hu
        have := of_decide_eq_true hf
        subst this
        obtain ⟨m, rfl, rfl, hw⟩ := DataW.trod_int hu h
        exact ⟨m, rfl, inK_wf hw⟩
      · cases hf
  | .bool => by
    refine ⟨fun t fuel cs x hf h => ?_, fun off fs _ _ _ hf => by simp [Sh.fitsF] at hf⟩
    ·
      simp only [Sh.fits] at hf
      split at hf
      · rename_i hu
        cases fuel with
        | zero => simp [DataW.trod] at h
        | succ fuel =>
          unfold DataW.trod at h
          rw [hu] at h
          dsimp only at h
          split at h <;> first | cases h; done | skip
          all_goals first | (exact ⟨_, rfl, trivial⟩) | (simp_all; done)
      · cases hf
  | .str => by
    refine ⟨fun t fuel cs x hf h => ?_, fun off fs _ _ _ hf => by simp [Sh.fitsF] at hf⟩
    ·
      simp only [Sh.fits] at hf
      split at hf
      · rename_i hu
        cases fuel with
        | zero => simp [DataW.trod] at h
        | succ fuel =>
          unfold DataW.trod at h
          rw [hu] at h
          dsimp only at h
          split at h <;> first | cases h; done | skip
          all_goals first | (split at h; · (rename_i hsz; exact ⟨_, rfl, hsz⟩); · cases h) | (simp_all; done) | (simp at h; exact ⟨_, rfl, h.1⟩)
      · cases hf
  | .slice s => by
    refine ⟨fun t fuel cs x hf h => ?_, fun off fs _ _ _ hf => by simp [Sh.fitsF] at hf⟩
    ·
      simp only [Sh.fits] at hf
      split at hf
      · rename_i e hu
        simp only [Bool.and_eq_true] at hf
        have hce := Nat.eq_of_beq_eq_true hf.1.2
        have h1 := Nat.le_of_ble_eq_true hf.2
        rcases Deep.open_slice hu h with ⟨rfl, _⟩ | ⟨a, len, cap, m, n, D, Pl, rfl, hb, hlc, hcm, hm, hx, hall⟩
        · exact ⟨⟨[], none, 0⟩, rfl, RdS.none _ _ _, Nat.le_refl _, by simp, fun _ => rfl, fun y hy => by simp at hy⟩
        · simp only [if_true] at hm
          obtain ⟨xs, hl, hp⟩ := pick_list (α := s.T) (p := fun i x => (∀ j v, (s.enc x)[j]? = some v → W.cell? ((a.add (i * P.cellsOf e)).add j) = some v) ∧ s.ok W x) (m := len) (fun i hi => by
            obtain ⟨cs', e1, e2⟩ := hall i (by omega)
            obtain ⟨v, rfl, ho⟩ := (open_all s).1 _ _ _ _ hf.1.1 e2
            have := (World.cells?_some e1)
            refine ⟨v, fun j u hj => ?_, ho⟩
            have hjl := (List.getElem?_eq_some_iff.1 hj).1
            rw [this.2.2 j (by rw [hce, ← Sh.enc_len s v]; exact hjl)]; exact hj)
          refine ⟨⟨xs, some a, cap⟩, by simp [Sh.enc, hl], ?_, by simpa [hl] using hlc, hcm, (fun h => by cases h), fun y hy => ?_⟩
          · refine rdS_of h1 (flat_len s.enc s.size (Sh.enc_len s) xs) fun j v hj => ?_
            obtain ⟨x, e1, e2⟩ := flat_at s.enc s.size (Sh.enc_len s) h1 hj
            have := (hp _ _ e1).1 _ _ e2
            rw [hce] at this
            rw [show j = j / s.size * s.size + j % s.size by rw [Nat.mul_comm]; exact (Nat.div_add_mod _ _).symm]
            rw [Addr.add_add] at this
            exact this
          · obtain ⟨i, hi⟩ := List.getElem?_of_mem hy
            exact (hp i y hi).2
      · cases hf
  | .struct l => by
    refine ⟨fun t fuel cs x hf h => ?_, fun off fs _ _ _ hf => by simp [Sh.fitsF] at hf⟩
    ·
      simp only [Sh.fits] at hf
      split at hf
      · rename_i fs hu
        simp only [Bool.and_eq_true] at hf
        have hce := Nat.eq_of_beq_eq_true hf.2
        cases fuel with
        | zero => simp [DataW.trod] at h
        | succ fuel =>
          unfold DataW.trod at h
          rw [hu] at h
          dsimp only at h
          split at h
          · rename_i hl
            obtain ⟨xs, hx, _⟩ := Option.map_eq_some_iff.1 h
            obtain ⟨v, hv, ho⟩ := (open_all l).2 0 fs.toList fuel cs xs hf.1 hx (by rw [Nat.zero_add, hl, hce])
            exact ⟨v, hv, ho⟩
          · cases h
      · cases hf
  | .nil => by
    refine ⟨fun t fuel cs x hf => by simp [Sh.fits] at hf, fun off fs fuel cs xs hf h hl => ?_⟩
    ·
      refine ⟨(), ?_, trivial⟩
      simp only [Sh.size] at hl
      rw [List.drop_of_length_le (by omega)]; rfl
  | .fld s r => by
    refine ⟨fun t fuel cs x hf => by simp [Sh.fits] at hf, fun off fs fuel cs xs hf h hl => ?_⟩
    ·
      cases fs with
      | nil => simp [Sh.fitsF] at hf
      | cons f fs =>
        simp only [Sh.fitsF, Bool.and_eq_true] at hf
        have ho := Nat.eq_of_beq_eq_true hf.1.1.1
        have hc := Nat.eq_of_beq_eq_true hf.1.1.2
        simp only [Sh.size] at hl
        simp only [List.mapM_cons, bind, Option.bind_eq_some_iff] at h
        obtain ⟨y, hy, ys, hys, _⟩ := h
        rw [ho, hc] at hy
        obtain ⟨v, hv, hv2⟩ := (open_all s).1 _ _ _ _ hf.1.2 hy
        obtain ⟨u, hu, hu2⟩ := (open_all r).2 (off + s.size) fs fuel cs ys hf.2 hys (by omega)
        refine ⟨(v, u), ?_, hv2, hu2⟩
        show _ = s.enc v ++ r.enc u
        rw [← hv, ← hu, ← List.drop_drop, List.take_append_drop]
/-- an argument opened -/
theorem open_arg {s : Sh} {t : TypeId} {r : Reach} {b0 : Nat} {v : Value} {d : DataW H} {p : List MemPlace} (hf : s.fits P t = true) (hv : Value.okWide P W r b0 t v) (h : DataW.Trod enc P W 0 (fun _ => true) held t v d p) :
    ∃ x : s.T, v.cells.toList = s.enc x ∧ s.ok W x := by
  obtain ⟨fuel, h⟩ := h
  exact (open_all s).1 _ _ _ _ hf h
def Sh.one : Sh → Bool
  | .int _ | .bool | .str | .slice _ => true
  | _ => false
theorem okW_one {t : TypeId} {r : Reach} {b0 : Nat} {v : Value} {s : Sh} (hf : s.fits P t = true) (ho : s.one = true) (hv : Value.okWide P W r b0 t v) {x : s.T} (h : v.cells.toList = s.enc x) : [v] = s.enc x := by
  cases s <;> simp only [Sh.one] at ho <;> first | cases ho; done | skip
  all_goals
    simp only [Sh.fits] at hf
    split at hf <;> first | cases hf; done | skip
    rename_i hu
    unfold Value.okWide at hv
    rw [hu] at hv
    dsimp only at hv
    unfold Cell.okWide at hv
    rw [hu] at hv
    cases v <;> first | exact h | skip
    all_goals (exfalso; dsimp only at hv; unfold Cell.ok at hv; rw [hu] at hv; exact hv)
theorem okW_agg {t : TypeId} {r : Reach} {b0 : Nat} {v : Value} {l : Sh} (hf : (Sh.struct l).fits P t = true) (hv : Value.okWide P W r b0 t v) {x : l.T} (h : v.cells.toList = l.enc x) : v = .agg (l.enc x).toArray := by
  simp only [Sh.fits] at hf
  split at hf <;> first | cases hf; done | skip
  rename_i fs hu
  unfold Value.okWide at hv
  rw [hu] at hv
  obtain ⟨cs, rfl, _⟩ := hv
  simp only [Value.cells] at h
  rw [← h]
end
end Go.RX
