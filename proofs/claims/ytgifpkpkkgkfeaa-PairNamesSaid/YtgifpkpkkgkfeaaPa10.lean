/-
  Pairs: the contracts over a pair in plain words.
-/
import Derived.Test.YtgifpkpkkgkfeaaPa9
namespace Go.Proofs.Ytgifpkpkkgkfeaa
set_option linter.unusedSimpArgs false
set_option linter.unusedVariables false
set_option linter.unnecessarySimpa false
open Go.RX Fx
namespace Pa
open Bc
set_option maxRecDepth 8000
theorem sep_pure {p : Prop} {L : List SP} {k : PH} (h : sep (pu p :: L) k) : p ∧ sep L k := by
  obtain ⟨h1, h2, _, _, b, x, y⟩ := h
  exact ⟨x, y.up b⟩
theorem Ct.exs {P : Program} {f : FuncId} {vs : Array Value} {L : List SP} {ι κ : Type} {val : ι → Value} {post : ι → List SP} {X : κ → List SP} (h : ∀ i, Ct P f vs (X i ++ L) val post) : Ct P f vs (RX.ex X :: L) val post := fun E w s => by
  obtain ⟨h1, h2, h3, h4⟩ := s
  obtain ⟨k1, k2, d, s1, s2, ⟨i, x⟩, y⟩ := h4
  exact h i E w ⟨h1, h2, h3, sep_join d s1 s2 x y⟩
theorem Ct.pure {P : Program} {f : FuncId} {vs : Array Value} {L : List SP} {ι : Type} {val : ι → Value} {post : ι → List SP} {p : Prop} (h : p → Ct P f vs L val post) : Ct P f vs (pu p :: L) val post := fun E w s => by
  have := sep_pure s.2.2.2
  exact h this.1 E w ⟨s.1, s.2.1, s.2.2.1, this.2⟩
theorem sep_right {M N N' : List SP} {k : PH} (h : ∀ k, sep N k → sep N' k) (s : sep (M ++ N) k) : sep (M ++ N') k := by
  obtain ⟨h1, h2, d, s1, s2, x, y⟩ := sep_append s
  exact sep_join d s1 s2 x (h _ y)
theorem Ct.prk {P : Program} {f : FuncId} {vs : Array Value} {L : List SP} {b n : Nat} (hn : n < 2) {A : Nat → AE} {ι : Type} {val : ι → Value} {A' : ι → Nat → AE} {X : ι → List SP} {κ : Type} {v : PE → κ → Value} {Y : PE → κ → List SP} {e2 : PE → κ → PE}
    (h : ∀ e e', AbE e (A n) → Ct P f vs (Md b :: En b (n * 10) e (En b ((1 - n) * 10) e' L)) (v e) (fun i => Y e i ++ Md b :: En b (n * 10) (e2 e i) (En b ((1 - n) * 10) e' L)))
    (hp : ∀ e i, AbE e (A n) → ∃ j, v e i = val j ∧ ∀ M k, sep (Y e i ++ M) k → (AbE (e2 e i) (A' j n) ∧ A' j (1 - n) = A (1 - n)) ∧ sep (X j ++ M) k) :
    Ct P f vs (PrA b A :: L) val (fun j => X j ++ PrA b (A' j) :: L) := by
  refine Ct.exs fun S => ?_
  refine Ct.pure fun hS => ?_
  rcases (show n = 0 ∨ n = 1 by omega) with rfl | rfl
  · refine Ct.imp (h (S 0) (S 1) (hS 0 hn)) (fun k s => ?_) (fun i => ?_)
    · exact s
    · obtain ⟨j, e, hj⟩ := hp (S 0) i (hS 0 hn)
      refine ⟨j, e, fun k s => ?_⟩
      obtain ⟨⟨h1, h2⟩, s⟩ := hj _ k s
      refine sep_right (fun k s => ?_) s
      refine Ent.sep (.ex (fun q => if q = 0 then e2 (S 0) i else S 1) (.pure ?_ .same)) k s
      intro q hq
      rcases (show q = 0 ∨ q = 1 by omega) with rfl | rfl
      · exact h1
      · show AbE (S 1) (A' j (1 - 0)); rw [h2]; exact hS 1 (by omega)
  · refine Ct.imp (h (S 1) (S 0) (hS 1 hn)) (fun k s => ?_) (fun i => ?_)
    · have s1 : sep (Md b :: En b (0 * 10) (S 0) (En b (1 * 10) (S 1) L)) k := s
      show sep (Md b :: En b (1 * 10) (S 1) (En b (0 * 10) (S 0) L)) k
      exact Ent.sep enn k s1
    · obtain ⟨j, e, hj⟩ := hp (S 1) i (hS 1 hn)
      refine ⟨j, e, fun k s => ?_⟩
      obtain ⟨⟨h1, h2⟩, s⟩ := hj _ k s
      refine sep_right (fun k s => ?_) s
      refine Ent.sep (.ex (fun q => if q = 1 then e2 (S 1) i else S 0) (.pure ?_ ?_)) k s
      · intro q hq
        rcases (show q = 0 ∨ q = 1 by omega) with rfl | rfl
        · show AbE (S 0) (A' j (1 - 1)); rw [h2]; exact hS 0 (by omega)
        · exact h1
      · show Ent (Md b :: En b (1 * 10) (e2 (S 1) i) (En b (0 * 10) (S 0) L)) (Md b :: En b (0 * 10) (S 0) (En b (1 * 10) (e2 (S 1) i) L))
        exact enn
theorem Ct.prBad {P : Program} {f : FuncId} {vs : Array Value} {L : List SP} {b : Nat} {A : Nat → AE} {v : Value}
    (h : ∀ M, Ct P f vs (Md b :: M) (fun _ : Unit => v) (fun _ => Md b :: M)) : Ct P f vs (PrA b A :: L) (fun _ : Unit => v) (fun _ => PrA b A :: L) := by
  refine Ct.exs fun S => ?_
  refine Ct.pure fun hS => ?_
  refine Ct.imp (h (Ens b S ++ L)) (fun k s => s) (fun i => ⟨(), rfl, fun k s => ?_⟩)
  exact Ent.sep (.ex S (.pure hS .same)) k s
theorem upd_same {α : Type} {A : Nat → α} {n : Nat} {x : α} : upd A n x n = x := if_pos rfl
theorem upd_other {α : Type} {A : Nat → α} {n : Nat} (hn : n < 2) {x : α} : upd A n x (1 - n) = A (1 - n) := if_neg (by omega)
theorem turnE_eq {s : Int} (hs : InK .i64 s) : turnE s = if sideOk s then 0 else 2 := by
  unfold turnE; simp only [side_iff hs]
theorem onT_eq {r w : Bool} {s : Int} (hs : InK .i64 s) (t : Bool) : onT (onOf r w) s t = if sideOk s then onOf (if s = 2 ∨ s = 6 then t else r) (if s = 4 ∨ s = 6 then t else w) else onOf r w := by
  unfold onT; simp only [side_iff hs]
  split
  · rename_i h
    rcases h with rfl | rfl | rfl | rfl <;> cases r <;> cases w <;> cases t <;> decide
  · rfl
theorem turnA_ct {f : FuncId} (L : List SP) (b : Nat) (A : Nat → AE) (k s : Int) (hs : InK .i64 s) (t : Bool)
    (h1 : ∀ (L : List SP) (n : Nat), n < 2 → ∀ e, Ct Try.prog f #[.pointer (some ⟨b, 0, none⟩), .int .i64 (n : Int), .int .i64 s] (Md b :: En b (n * 10) e L) (fun _ : Unit => .int .i64 (turnE s)) (fun _ => Md b :: En b (n * 10) { e with on := onT e.on s t } L))
    (h2 : ∀ (L : List SP), (k < 0 ∨ 1 < k) → Ct Try.prog f #[.pointer (some ⟨b, 0, none⟩), .int .i64 k, .int .i64 s] (Md b :: L) (fun _ : Unit => .int .i64 2) (fun _ => Md b :: L)) :
    Ct Try.prog f #[.pointer (some ⟨b, 0, none⟩), .int .i64 k, .int .i64 s] (PrA b A :: L) (fun _ : Unit => .int .i64 (aTurnV k s)) (fun _ => PrA b (aTurn A k s t) :: L) := by
  rcases isE_cases (k := k) with ⟨n, hn, rfl, hk⟩ | ⟨hb, hk⟩
  · have e1 : aTurnV n s = if sideOk s then 0 else 2 := by unfold aTurnV; simp [hk]
    have e2 : aTurn A n s t = if sideOk s then upd A n ((A n).turn s t) else A := by unfold aTurn; simp [hk]
    rw [e1, e2]
    refine Ct.prk hn (A' := fun _ => if sideOk s then upd A n ((A n).turn s t) else A) (X := fun _ => []) (Y := fun _ _ => []) (v := fun _ _ => .int .i64 (turnE s)) (e2 := fun e _ => { e with on := onT e.on s t }) (fun e e' _ => h1 _ n hn e) (fun e i he => ⟨(), by rw [turnE_eq hs], fun M k hk => ⟨?_, hk⟩⟩)
    have ho := onT_eq (r := (A n).r) (w := (A n).w) hs t
    rw [← he.on] at ho
    by_cases hq : sideOk s
    · rw [if_pos hq] at ho ⊢
      rw [upd_same, upd_other hn]
      exact ⟨⟨⟨he.ok.gi, he.ok.gu, he.ok.low, he.ok.high, he.ok.least⟩, he.i, he.u, ho, he.low, he.high, he.least, he.fin, he.tol⟩, rfl⟩
    · rw [if_neg hq] at ho ⊢
      exact ⟨⟨⟨he.ok.gi, he.ok.gu, he.ok.low, he.ok.high, he.ok.least⟩, he.i, he.u, ho.trans he.on, he.low, he.high, he.least, he.fin, he.tol⟩, rfl⟩
  · have e1 : aTurnV k s = 2 := by unfold aTurnV; simp [hk]
    have e2 : aTurn A k s t = A := by unfold aTurn; simp [hk]
    rw [e1, e2]
    exact Ct.prBad fun M => h2 M hb
theorem enableA (L : List SP) (b : Nat) (A : Nat → AE) (k s : Int) (hs : InK .i64 s) :
    Ct Try.prog 34 #[.pointer (some ⟨b, 0, none⟩), .int .i64 k, .int .i64 s] (PrA b A :: L) (fun _ : Unit => .int .i64 (aTurnV k s)) (fun _ => PrA b (aTurn A k s true) :: L) :=
  turnA_ct L b A k s hs true (fun L n hn e => enable_ct L b n hn e s) (fun L hb => enable_bad L b k hb s)
theorem disableA (L : List SP) (b : Nat) (A : Nat → AE) (k s : Int) (hs : InK .i64 s) :
    Ct Try.prog 45 #[.pointer (some ⟨b, 0, none⟩), .int .i64 k, .int .i64 s] (PrA b A :: L) (fun _ : Unit => .int .i64 (aTurnV k s)) (fun _ => PrA b (aTurn A k s false) :: L) :=
  turnA_ct L b A k s hs false (fun L n hn e => disable_ct L b n hn e s) (fun L hb => disable_bad L b k hb s)
theorem marksA (L : List SP) (b : Nat) (A : Nat → AE) (k side low high : Int) :
    Ct Try.prog 35 #[.pointer (some ⟨b, 0, none⟩), .int .i64 k, .int .i64 side, .int .i64 low, .int .i64 high] (PrA b A :: L) (fun _ : Unit => .int .i64 (aMarksV k side low high)) (fun _ => PrA b (aMarks A k side low high) :: L) := by
  rcases isE_cases (k := k) with ⟨n, hn, rfl, hk⟩ | ⟨hb, hk⟩
  · have e1 : aMarksV n side low high = mkE side low high := by unfold aMarksV mkE; simp [hk]
    have e2 : aMarks A n side low high = if mkOk side low high then upd A n ((A n).marks side low high) else A := by unfold aMarks; simp [hk]
    rw [e1, e2]
    refine Ct.prk hn (A' := fun _ => if mkOk side low high then upd A n ((A n).marks side low high) else A) (X := fun _ => []) (Y := fun _ _ => []) (v := fun _ _ => .int .i64 (mkE side low high)) (e2 := fun e _ => e.marks side low high) (fun e e' _ => marks_ct _ b n hn e side low high) (fun e i he => ⟨(), rfl, fun M k hk => ⟨?_, hk⟩⟩)
    unfold PE.marks
    by_cases hq : mkOk side low high
    · rw [if_pos hq, if_pos hq, upd_same, upd_other hn]
      obtain ⟨q1, q2, q3, q4, q5, q6⟩ := hq
      unfold AE.marks
      refine ⟨?_, rfl⟩
      split
      · exact ⟨⟨he.ok.gi, he.ok.gu, by show 0 ≤ low ∧ low ≤ _; omega, by show 0 ≤ high ∧ high ≤ _; omega, he.ok.least⟩, he.i, he.u, he.on, rfl, rfl, he.least, he.fin, he.tol⟩
      · exact ⟨⟨he.ok.gi, he.ok.gu, he.ok.low, he.ok.high, by show 0 ≤ low ∧ low ≤ _; omega⟩, he.i, he.u, he.on, he.low, he.high, rfl, he.fin, he.tol⟩
    · rw [if_neg hq, if_neg hq]
      exact ⟨he, rfl⟩
  · have e1 : aMarksV k side low high = 2 := by unfold aMarksV; simp [hk]
    have e2 : aMarks A k side low high = A := by unfold aMarks; simp [hk]
    rw [e1, e2]
    exact Ct.prBad fun M => marks_bad M b k hb side low high
theorem finishA (L : List SP) (b : Nat) (A : Nat → AE) (k : Int) :
    Ct Try.prog 38 #[.pointer (some ⟨b, 0, none⟩), .int .i64 k] (PrA b A :: L) (fun _ : Unit => .int .i64 (aFinishV k)) (fun _ => PrA b (aFinish A k) :: L) := by
  rcases isE_cases (k := k) with ⟨n, hn, rfl, hk⟩ | ⟨hb, hk⟩
  · have e1 : aFinishV n = 0 := by unfold aFinishV; simp [hk]
    have e2 : aFinish A n = upd A n { A n with fin := true } := by unfold aFinish; simp [hk]
    rw [e1, e2]
    refine Ct.prk hn (A' := fun _ => upd A n { A n with fin := true }) (X := fun _ => []) (Y := fun _ _ => []) (v := fun _ _ => .int .i64 0) (e2 := fun e _ => { e with fin := true }) (fun e e' _ => finish_ct _ b n hn e) (fun e i he => ⟨(), rfl, fun M k hk => ⟨?_, hk⟩⟩)
    rw [upd_same, upd_other hn]
    exact ⟨⟨⟨he.ok.gi, he.ok.gu, he.ok.low, he.ok.high, he.ok.least⟩, he.i, he.u, he.on, he.low, he.high, he.least, rfl, he.tol⟩, rfl⟩
  · have e1 : aFinishV k = 2 := by unfold aFinishV; simp [hk]
    have e2 : aFinish A k = A := by unfold aFinish; simp [hk]
    rw [e1, e2]
    exact Ct.prBad fun M => finish_bad M b k hb
theorem writeA (L : List SP) (b : Nat) (A : Nat → AE) (k : Int) (ad : Option Addr) (c : Nat) (l : List UInt8) (hD : RdS L 1 ad l.length (bsl l)) (hmc : l.length ≤ c) (hm : l.length ≤ 70368744177664) :
    Ct Try.prog 33 #[.pointer (some ⟨b, 0, none⟩), .int .i64 k, .slice ad l.length c] (PrA b A :: L) (fun _ : Unit => .int .i64 (aWriteV A k l)) (fun _ => PrA b (aWrite A k l) :: L) := by
  rcases isE_cases (k := k) with ⟨n, hn, rfl, hk⟩ | ⟨hb, hk⟩
  · have e1 : aWriteV A n l = if (A n).fin = true then 114 else mayE (A n).u.length l.length := by unfold aWriteV; simp [hk]
    have e2 : aWrite A n l = if aWriteV A n l = 0 then upd A n { A n with u := (A n).u ++ l } else A := by unfold aWrite; simp [hk]
    have e3 : ∀ e, AbE e (A n) → wrE e l.length = aWriteV A n l := fun e he => by rw [e1]; unfold wrE; rw [he.fin, he.u]
    rw [e2]
    refine Ct.prk hn (A' := fun _ => if aWriteV A n l = 0 then upd A n { A n with u := (A n).u ++ l } else A) (X := fun _ => []) (Y := fun e (u2 : List Row) => [pu (Bc.Good u2 ∧ flat u2 = if wrE e l.length = 0 then flat e.u ++ l else flat e.u)]) (v := fun e _ => .int .i64 (wrE e l.length)) (e2 := fun e u2 => { e with u := u2 })
      (fun e e' he => write_ct _ b n hn e he.ok.gu ad c l (RdS.mono hD (fun k s => Ent.sep enn k s)) hmc hm) (fun e u2 he => ⟨(), by rw [e3 e he], fun M k hk => ?_⟩)
    obtain ⟨⟨hg, hf⟩, hk⟩ := sep_pure hk
    refine ⟨?_, hk⟩
    rw [e3 e he] at hf
    by_cases hq : aWriteV A n l = 0
    · rw [if_pos hq] at hf ⊢
      rw [upd_same, upd_other hn]
      exact ⟨⟨⟨he.ok.gi, hg, he.ok.low, he.ok.high, he.ok.least⟩, he.i, by rw [hf, he.u], he.on, he.low, he.high, he.least, he.fin, he.tol⟩, rfl⟩
    · rw [if_neg hq] at hf ⊢
      exact ⟨⟨⟨he.ok.gi, hg, he.ok.low, he.ok.high, he.ok.least⟩, he.i, by rw [hf, he.u], he.on, he.low, he.high, he.least, he.fin, he.tol⟩, rfl⟩
  · have e1 : aWriteV A k l = 2 := by unfold aWriteV; simp [hk]
    have e2 : aWrite A k l = A := by unfold aWrite; simp [hk]
    rw [e1, e2]
    exact Ct.prBad fun M => write_bad M b k hb _
theorem readA (L : List SP) (b : Nat) (A : Nat → AE) (k n : Int) (hnn : InK .i64 n) :
    Ct Try.prog 40 #[.pointer (some ⟨b, 0, none⟩), .int .i64 k, .int .i64 n] (PrA b A :: L) (fun i : Option Addr × Nat => .slice i.1 (aReadV A k n).length i.2)
      (fun i => own 5 1 i.1 (aReadV A k n).length i.2 (bsl (aReadV A k n)) :: PrA b (aRead A k n) :: L) := by
  rcases isE_cases (k := k) with ⟨m, hm, rfl, hk⟩ | ⟨hb, hk⟩
  · have e1 : aReadV A m n = (A m).i.take n.toNat := by unfold aReadV; simp [hk]
    have e2 : aRead A m n = upd A m { A m with i := (A m).i.drop n.toNat } := by unfold aRead; simp [hk]
    rw [e1, e2]
    refine Ct.prk hm (A' := fun _ => upd A m { A m with i := (A m).i.drop n.toNat }) (X := fun i : Option Addr × Nat => [own 5 1 i.1 ((A m).i.take n.toNat).length i.2 (bsl ((A m).i.take n.toNat))])
      (Y := fun e (q : List Row × Option Addr × Nat) => [pu (Bc.Good q.1 ∧ flat q.1 = (flat e.i).drop n.toNat), own 5 1 q.2.1 ((flat e.i).take n.toNat).length q.2.2 (bsl ((flat e.i).take n.toNat))])
      (v := fun e q => .slice q.2.1 ((flat e.i).take n.toNat).length q.2.2) (e2 := fun e q => { e with i := q.1 })
      (fun e e' he => read_ct _ b m hm e he.ok.gi n hnn) (fun e q he => ⟨(q.2.1, q.2.2), by rw [he.i], fun M k hk => ?_⟩)
    obtain ⟨⟨hg, hf⟩, hk⟩ := sep_pure hk
    rw [he.i] at hk hf
    refine ⟨?_, hk⟩
    rw [upd_same, upd_other hm]
    exact ⟨⟨⟨hg, he.ok.gu, he.ok.low, he.ok.high, he.ok.least⟩, hf, he.u, he.on, he.low, he.high, he.least, he.fin, he.tol⟩, rfl⟩
  · have e1 : aReadV A k n = [] := by unfold aReadV; simp [hk]
    have e2 : aRead A k n = A := by unfold aRead; simp [hk]
    rw [e1, e2]
    refine Ct.imp (Ct.prBad (A := A) (L := L) fun M => read_bad M b k hb n) (fun _ s => s) (fun i => ⟨(none, 0), rfl, fun k s => ?_⟩)
    exact Ent.sep (.ownNil .same) k s
theorem lensA (L : List SP) (b : Nat) (A : Nat → AE) (k : Nat) (hk : k < 2) :
    Ct Try.prog 37 #[.pointer (some ⟨b, 0, none⟩), .int .i64 (k : Int)] (PrA b A :: L) (fun _ : Unit => .tuple #[.int .i64 ((A k).i.length : Int), .int .i64 ((A k).u.length : Int)]) (fun _ => PrA b A :: L) := by
  refine Ct.prk hk (A' := fun _ => A) (X := fun _ => []) (Y := fun _ _ => []) (v := fun e _ => .tuple #[.int .i64 ((flat e.i).length : Int), .int .i64 ((flat e.u).length : Int)]) (e2 := fun e _ => e) (fun e e' _ => lens_ct _ b k hk e) (fun e i he => ⟨(), by rw [he.i, he.u], fun M k hk => ⟨⟨he, rfl⟩, hk⟩⟩)
theorem endA (L : List SP) (b : Nat) (A : Nat → AE) (k : Nat) (hk : k < 2) :
    Ct Try.prog 70 #[.pointer (some ⟨b, 0, none⟩), .int .i64 (k : Int)] (PrA b A :: L) (fun _ : Unit => .tuple #[.pointer (some ⟨b, k * 10, none⟩), .int .i64 0]) (fun _ => PrA b A :: L) :=
  Ct.prBad fun M => end_ct M b k hk
theorem endBadA (L : List SP) (b : Nat) (A : Nat → AE) (k : Int) (hk : k < 0 ∨ 1 < k) :
    Ct Try.prog 70 #[.pointer (some ⟨b, 0, none⟩), .int .i64 k] (PrA b A :: L) (fun _ : Unit => .tuple #[.pointer none, .int .i64 2]) (fun _ => PrA b A :: L) :=
  Ct.prBad fun M => end_bad M b k hk
/-! what goes -/
abbrev aggT (S : AS) : Value := .agg (encT (S.t 0) ++ encT (S.t 1)).toArray
theorem aMove_all (A : Nat → AE) : aMove A (-1) false = aStep A := by
  have : ws (-1) 2 = [0, 1] := by decide
  unfold aMove aStep; rw [this]
theorem aMove_one (A : Nat → AE) {k : Nat} (hk : k < 2) : aMove A k true = aFlush A k := by
  rcases (show k = 0 ∨ k = 1 by omega) with rfl | rfl
  · have : ws ((0 : Nat) : Int) 2 = [0] := by decide
    unfold aMove; rw [this]; rfl
  · have : ws ((1 : Nat) : Int) 2 = [1] := by decide
    unfold aMove; rw [this]; rfl
theorem Ct.impP {P : Program} {f : FuncId} {vs : Array Value} {L L' : List SP} {ι ι' : Type} {val : ι → Value} {val' : ι' → Value} {post : ι → List SP} {post' : ι' → List SP} (h : Ct P f vs L val post) (hL : ∀ k, sep L' k → sep L k)
    (hp : ∀ i k, sep (post i) k → ∃ j, val i = val' j ∧ sep (post' j) k) : Ct P f vs L' val' post' := fun E w s =>
  Calls.mono (h E w (s.mp hL)) (fun e w' ⟨i, he, hs⟩ => by obtain ⟨j, hv, hj⟩ := hp i _ hs.2.2.2; exact ⟨j, by rw [he, hv], hs.1, hs.2.1, hs.2.2.1, hj⟩)
theorem moveA (L : List SP) (b : Nat) (A : Nat → AE) (k : Int) (fl : Bool) :
    Ct Try.prog 72 #[.pointer (some ⟨b, 0, none⟩), .int .i64 k, .bool fl] (PrA b A :: L) (fun _ : Unit => aggT (aMove A k fl)) (fun _ => PrA b (aMove A k fl).e :: L) := by
  refine Ct.exs fun S => ?_
  refine Ct.pure fun hS => ?_
  refine Ct.impP (move_ct L b k fl (S 0) (S 1) (hS 0 (by omega)).ok (hS 1 (by omega)).ok) (fun k s => s) (fun S2 k' s => ⟨(), ?_⟩)
  obtain ⟨⟨hR, hO⟩, s⟩ := sep_pure s
  have h0 : AbS (S0 (S 0) (S 1)) (aS0 A) := by
    refine ⟨fun j hj => ?_, fun j hj => rfl⟩
    rcases (show j = 0 ∨ j = 1 by omega) with rfl | rfl
    · exact hS 0 hj
    · exact hS 1 hj
  have h1 := runs_abs ws_lt h0 hR
  refine ⟨?_, ?_⟩
  · show Value.agg _ = Value.agg _
    rw [h1.2 0 (by omega), h1.2 1 (by omega)]; rfl
  · exact Ent.sep (.ex S2.e (.pure h1.1 .same)) k' s
set_option maxHeartbeats 2000000 in
theorem step_ct (L : List SP) (b : Nat) (A : Nat → AE) : Ct Try.prog 36 #[.pointer (some ⟨b, 0, none⟩)] (PrA b A :: L) (fun _ : Unit => aggT (aStep A)) (fun _ : Unit => PrA b (aStep A).e :: L) := by
  refine Ct.of (vs := [.pointer (some ⟨b, 0, none⟩)]) Try.func36 rfl rfl [(0, .pointer (some ⟨b, 0, none⟩))] (by repeat (first | exact trivial | refine ⟨rfl, ?_⟩)) ?_
  intro E
  show Hd E 5 _ _ _ _
  refine Hd.seq (fun K1 hK1 => ?_)
  refine Hd.region ?_
  refine Hd.alloc zr69 (fun b2 => ?_)
  refine Hd.nil ?_
  refine Hd.slots [(0, _), (2, _)] ⟨rfl, rfl, trivial⟩ ?_
  refine Hd.toK hK1 ?_
  refine Hd.seq (fun K2 hK2 => ?_)
  refine Hd.region ?_
  refine Hd.yv (y_move rfl) ?_
  refine Hd.callE rfl fk72 (moveA _ b A (-1) false) (Ent.sep enn) ?_
  intro _
  rw [aMove_all]
  first | (refine Hd.storeA (us := [_, _, _, _, _, _, _, _, _, _, _, _]) sz69 rfl rfl rfl (by simp [Value.oneCell']) pkk rfl ?_) | (refine Hd.store (us := [_, _, _, _, _, _, _, _, _, _, _, _]) sz69 rfl rfl rfl (by simp [Value.oneCell']) pkk (by simp) ?_)
  try simp only [List.set_cons_zero, List.set_cons_succ]
  refine Hd.nil ?_
  refine Hd.slots [(2, _)] ⟨rfl, trivial⟩ ?_
  refine Hd.toK hK2 ?_
  refine Hd.ret ?_
  clear hK1 hK2
  exact Hd.retC rfl () ag69 rfl (Rd.pt pkk (fun j v e => by simpa using e)) (by exact sz69) rfl (Ent.sep enn)
set_option maxHeartbeats 2000000 in
theorem flush_n (L : List SP) (b : Nat) (A : Nat → AE) (k : Nat) (hk : k < 2) : Ct Try.prog 39 #[.pointer (some ⟨b, 0, none⟩), .int .i64 (k : Int)] (PrA b A :: L) (fun _ : Unit => aggT (aFlush A k)) (fun _ : Unit => PrA b (aFlush A k).e :: L) := by
  refine Ct.of (vs := [.pointer (some ⟨b, 0, none⟩), .int .i64 (k : Int)]) Try.func39 rfl rfl [(0, .pointer (some ⟨b, 0, none⟩)), (1, .int .i64 (k : Int))] (by repeat (first | exact trivial | refine ⟨rfl, ?_⟩)) ?_
  intro E
  show Hd E 19 _ _ _ _
  refine Hd.seq (fun K1 hK1 => ?_)
  refine Hd.region ?_
  refine Hd.alloc zr69 (fun b4 => ?_)
  refine Hd.nil ?_
  refine Hd.slots [(0, _), (1, _), (4, _)] ⟨rfl, rfl, rfl, trivial⟩ ?_
  refine Hd.toK hK1 ?_
  refine Hd.seq (fun K2 hK2 => ?_)
  refine Hd.seq (fun K3 hK3 => ?_)
  refine Hd.region ?_
  refine Hd.yv (y_move rfl) ?_
  refine Hd.yv (y_move rfl) ?_
  refine Hd.callE rfl fk70 (endA _ b A k hk) (Ent.sep enn) ?_
  intro _
  refine Hd.yv (y_move rfl) ?_
  refine Hd.yv (y_extract rfl rfl) ?_
  refine Hd.yv (y_extract rfl rfl) ?_
  refine Hd.yv (y_assign rfl) ?_
  refine Hd.yv (y_assign rfl) ?_
  refine Hd.nil ?_
  refine Hd.slots [(0, _), (1, _), (4, _), (6, _)] ⟨rfl, rfl, rfl, rfl, trivial⟩ ?_
  refine Hd.toK hK3 ?_
  refine Hd.seq (fun K4 hK4 => ?_)
  refine Hd.region ?_
  refine Hd.yv (y_move rfl) ?_
  refine Hd.yv (y_neq rfl rfl) ?_
  refine Hd.nil ?_
  refine Hd.slots [(0, _), (1, _), (4, _), (14, _)] ⟨rfl, rfl, rfl, rfl, trivial⟩ ?_
  refine Hd.toK hK4 ?_
  refine Hd.condF rfl ?_
  refine Hd.skip ?_
  refine Hd.toK hK2 ?_
  refine Hd.seq (fun K5 hK5 => ?_)
  refine Hd.region ?_
  refine Hd.yv (y_move rfl) ?_
  refine Hd.yv (y_move rfl) ?_
  refine Hd.callE rfl fk72 (moveA _ b A k true) (Ent.sep enn) ?_
  intro _
  rw [aMove_one A hk]
  first | (refine Hd.storeA (us := [_, _, _, _, _, _, _, _, _, _, _, _]) sz69 rfl rfl rfl (by simp [Value.oneCell']) pkk rfl ?_) | (refine Hd.store (us := [_, _, _, _, _, _, _, _, _, _, _, _]) sz69 rfl rfl rfl (by simp [Value.oneCell']) pkk (by simp) ?_)
  try simp only [List.set_cons_zero, List.set_cons_succ]
  refine Hd.nil ?_
  refine Hd.slots [(4, _)] ⟨rfl, trivial⟩ ?_
  refine Hd.toK hK5 ?_
  refine Hd.ret ?_
  clear hK1 hK2 hK3 hK4 hK5
  exact Hd.retC rfl () ag69 rfl (Rd.pt pkk (fun j v e => by simpa using e)) (by exact sz69) rfl (Ent.sep enn)
set_option maxHeartbeats 2000000 in
theorem flush_bad (L : List SP) (b : Nat) (A : Nat → AE) (k : Int) (hk : k < 0 ∨ 1 < k) : Ct Try.prog 39 #[.pointer (some ⟨b, 0, none⟩), .int .i64 k] (PrA b A :: L) (fun _ : Unit => .agg (encT t0 ++ encT t0).toArray) (fun _ : Unit => PrA b A :: L) := by
  refine Ct.of (vs := [.pointer (some ⟨b, 0, none⟩), .int .i64 k]) Try.func39 rfl rfl [(0, .pointer (some ⟨b, 0, none⟩)), (1, .int .i64 k)] (by repeat (first | exact trivial | refine ⟨rfl, ?_⟩)) ?_
  intro E
  show Hd E 19 _ _ _ _
  refine Hd.seq (fun K1 hK1 => ?_)
  refine Hd.region ?_
  refine Hd.alloc zr69 (fun b4 => ?_)
  refine Hd.nil ?_
  refine Hd.slots [(0, _), (1, _), (4, _)] ⟨rfl, rfl, rfl, trivial⟩ ?_
  refine Hd.toK hK1 ?_
  refine Hd.seq (fun K2 hK2 => ?_)
  refine Hd.seq (fun K3 hK3 => ?_)
  refine Hd.region ?_
  refine Hd.yv (y_move rfl) ?_
  refine Hd.yv (y_move rfl) ?_
  refine Hd.callE rfl fk70 (endBadA _ b A k hk) (Ent.sep enn) ?_
  intro _
  refine Hd.yv (y_move rfl) ?_
  refine Hd.yv (y_extract rfl rfl) ?_
  refine Hd.yv (y_extract rfl rfl) ?_
  refine Hd.yv (y_assign rfl) ?_
  refine Hd.yv (y_assign rfl) ?_
  refine Hd.nil ?_
  refine Hd.slots [(0, _), (1, _), (4, _), (6, _)] ⟨rfl, rfl, rfl, rfl, trivial⟩ ?_
  refine Hd.toK hK3 ?_
  refine Hd.seq (fun K4 hK4 => ?_)
  refine Hd.region ?_
  refine Hd.yv (y_move rfl) ?_
  refine Hd.yv (y_neq rfl rfl) ?_
  refine Hd.nil ?_
  refine Hd.slots [(0, _), (1, _), (4, _), (14, _)] ⟨rfl, rfl, rfl, rfl, trivial⟩ ?_
  refine Hd.toK hK4 ?_
  refine Hd.condT rfl ?_
  refine Hd.seq (fun K5 hK5 => ?_)
  refine Hd.region ?_
  refine Hd.yv (y_build (vs := []) rfl (by first | exact bd39_15 .. | kernel_rfl)) ?_
  first | (refine Hd.storeA (us := [_, _, _, _, _, _, _, _, _, _, _, _]) sz69 rfl rfl rfl (by simp [Value.oneCell']) pkk rfl ?_) | (refine Hd.store (us := [_, _, _, _, _, _, _, _, _, _, _, _]) sz69 rfl rfl rfl (by simp [Value.oneCell']) pkk (by simp) ?_)
  try simp only [List.set_cons_zero, List.set_cons_succ]
  refine Hd.nil ?_
  refine Hd.slots [(4, _)] ⟨rfl, trivial⟩ ?_
  refine Hd.toK hK5 ?_
  refine Hd.ret ?_
  refine Hd.thenRet ?_
  clear hK1 hK2 hK3 hK4 hK5
  exact Hd.retC rfl () ag69 rfl (Rd.pt pkk (fun j v e => by rw [Nat.zero_add]; exact e)) (by exact sz69) rfl (Ent.sep enn)
theorem flushA (L : List SP) (b : Nat) (A : Nat → AE) (k : Int) :
    Ct Try.prog 39 #[.pointer (some ⟨b, 0, none⟩), .int .i64 k] (PrA b A :: L) (fun _ : Unit => aggT (aFlush A k)) (fun _ => PrA b (aFlush A k).e :: L) := by
  rcases isE_cases (k := k) with ⟨n, hn, rfl, hk⟩ | ⟨hb, hk⟩
  · exact flush_n L b A n hn
  · have e1 : aFlush A k = aS0 A := by unfold aFlush; simp [hk]
    rw [e1]
    exact flush_bad L b A k hb
theorem enc_t0 : encT t0 ++ encT t0 = [.bool false, .bool false, .int .i64 0, .int .i64 0, .int .i64 0, .int .i64 0, .bool false, .bool false, .int .i64 0, .int .i64 0, .int .i64 0, .int .i64 0] := rfl
/-! a pair that is none -/
set_option maxHeartbeats 2000000 in
theorem move_nil (L : List SP) (k : Int) (fl : Bool) : Ct Try.prog 72 #[.pointer none, .int .i64 k, .bool fl] (L) (fun _ : Unit => .agg (encT t0 ++ encT t0).toArray) (fun _ : Unit => L) := by
  refine Ct.of (vs := [.pointer none, .int .i64 k, .bool fl]) Try.func72 rfl rfl [(0, .pointer none), (1, .int .i64 k), (2, .bool fl)] (by repeat (first | exact trivial | refine ⟨rfl, ?_⟩)) ?_
  intro E
  show Hd E 20 _ _ _ _
  refine Hd.seq (fun K1 hK1 => ?_)
  refine Hd.region ?_
  refine Hd.box rfl rfl (fun b3 => ?_)
  refine Hd.box rfl rfl (fun b5 => ?_)
  refine Hd.alloc zr69 (fun b6 => ?_)
  refine Hd.nil ?_
  refine Hd.slots [(1, _), (3, _), (5, _), (6, _)] ⟨rfl, rfl, rfl, rfl, trivial⟩ ?_
  refine Hd.toK hK1 ?_
  refine Hd.seq (fun K2 hK2 => ?_)
  refine Hd.region ?_
  refine Hd.alloc zr69 (fun b7 => ?_)
  refine Hd.nil ?_
  refine Hd.slots [(1, _), (3, _), (5, _), (6, _), (7, _)] ⟨rfl, rfl, rfl, rfl, rfl, trivial⟩ ?_
  refine Hd.toK hK2 ?_
  refine Hd.seq (fun K3 hK3 => ?_)
  refine Hd.seq (fun K4 hK4 => ?_)
  refine Hd.region ?_
  first | (refine Hd.yv (y_load1 ag62 rfl (Rd.pt1 pkk (by (first | rfl)))) ?_) | (refine Hd.yv (y_load1 ag62 rfl (Rd.seg1 pkk (by (first | rfl)))) ?_) | (refine Hd.yv (y_loadR1 ag62 rfl (by (first | exact RdS.own pkk)) (by (first | rfl))) ?_)
  refine Hd.callE rfl fk79 (none_nil _) (Ent.sep enn) ?_
  intro _
  refine Hd.yv (y_not rfl) ?_
  refine Hd.nil ?_
  refine Hd.slots [(1, _), (3, _), (5, _), (6, _), (7, _), (11, _)] ⟨rfl, rfl, rfl, rfl, rfl, rfl, trivial⟩ ?_
  refine Hd.toK hK4 ?_
  refine Hd.condF rfl ?_
  refine Hd.skip ?_
  refine Hd.toK hK3 ?_
  refine Hd.seq (fun K5 hK5 => ?_)
  refine Hd.region ?_
  first | (refine Hd.yv (y_loadn (us := [_, _, _, _, _, _, _, _, _, _, _, _]) ag69 rfl (Rd.pt pkk (by (first | (intro j v e; rcases j with _|_|_|_|_|_|_|_|_|_|_|_|j <;> first | exact e | exact absurd e (by simp))))) (by exact sz69)) ?_) | (refine Hd.yv (y_loadn (us := [_, _, _, _, _, _, _, _, _, _, _, _]) ag69 rfl (Rd.seg pkk (by (first | (intro j v e; rcases j with _|_|_|_|_|_|_|_|_|_|_|_|j <;> first | exact e | exact absurd e (by simp))))) (by exact sz69)) ?_) | (refine Hd.yv (y_loadRn ag69 rfl (by (first | exact RdS.own pkk)) (by (first | (intro j v e; rcases j with _|_|_|_|_|_|_|_|_|_|_|_|j <;> first | exact e | exact absurd e (by simp)))) (by exact sz69) (by simp)) ?_)
  first | (refine Hd.storeA (us := [_, _, _, _, _, _, _, _, _, _, _, _]) sz69 rfl rfl rfl (by simp [Value.oneCell']) pkk rfl ?_) | (refine Hd.store (us := [_, _, _, _, _, _, _, _, _, _, _, _]) sz69 rfl rfl rfl (by simp [Value.oneCell']) pkk (by simp) ?_)
  try simp only [List.set_cons_zero, List.set_cons_succ]
  refine Hd.nil ?_
  refine Hd.slots [(6, _)] ⟨rfl, trivial⟩ ?_
  refine Hd.toK hK5 ?_
  refine Hd.ret ?_
  clear hK1 hK2 hK3 hK4 hK5
  exact Hd.retC rfl () ag69 rfl (Rd.pt pkk (fun j v e => by rw [Nat.zero_add]; exact e)) (by exact sz69) rfl (Ent.sep enn)
set_option maxHeartbeats 2000000 in
theorem step_nil (L : List SP) : Ct Try.prog 36 #[.pointer none] (L) (fun _ : Unit => .agg (encT t0 ++ encT t0).toArray) (fun _ : Unit => L) := by
  refine Ct.of (vs := [.pointer none]) Try.func36 rfl rfl [(0, .pointer none)] (by repeat (first | exact trivial | refine ⟨rfl, ?_⟩)) ?_
  intro E
  show Hd E 5 _ _ _ _
  refine Hd.seq (fun K1 hK1 => ?_)
  refine Hd.region ?_
  refine Hd.alloc zr69 (fun b2 => ?_)
  refine Hd.nil ?_
  refine Hd.slots [(0, _), (2, _)] ⟨rfl, rfl, trivial⟩ ?_
  refine Hd.toK hK1 ?_
  refine Hd.seq (fun K2 hK2 => ?_)
  refine Hd.region ?_
  refine Hd.yv (y_move rfl) ?_
  refine Hd.callE rfl fk72 (move_nil _ (-1) false) (Ent.sep enn) ?_
  intro _
  first | (refine Hd.storeA (us := [_, _, _, _, _, _, _, _, _, _, _, _]) sz69 rfl rfl rfl (by simp [Value.oneCell']) pkk rfl ?_) | (refine Hd.store (us := [_, _, _, _, _, _, _, _, _, _, _, _]) sz69 rfl rfl rfl (by simp [Value.oneCell']) pkk (by simp) ?_)
  try simp only [List.set_cons_zero, List.set_cons_succ]
  refine Hd.nil ?_
  refine Hd.slots [(2, _)] ⟨rfl, trivial⟩ ?_
  refine Hd.toK hK2 ?_
  refine Hd.ret ?_
  clear hK1 hK2
  exact Hd.retC rfl () ag69 rfl (Rd.pt pkk (fun j v e => by simpa [t0] using e)) (by exact sz69) rfl (Ent.sep enn)
end Pa
end Go.Proofs.Ytgifpkpkkgkfeaa
