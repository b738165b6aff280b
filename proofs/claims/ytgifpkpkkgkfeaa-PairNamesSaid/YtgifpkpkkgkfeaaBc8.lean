/-
  Chains: Find, Line.
-/
import Derived.Test.YtgifpkpkkgkfeaaBc7
namespace Go.Proofs.Ytgifpkpkkgkfeaa
set_option linter.unusedSimpArgs false
set_option linter.unusedVariables false
set_option linter.unnecessarySimpa false
open Go.RX Fx
namespace Bc
/-- the bytes w stand in all at a -/
def Mt (all w : List UInt8) (a : Nat) : Prop := (all.drop a).take w.length = w
instance (all w : List UInt8) (a : Nat) : Decidable (Mt all w a) := by unfold Mt; infer_instance
theorem mt_iff {all w : List UInt8} {a : Nat} (h : a + w.length ≤ all.length) : Mt all w a ↔ ∀ j, j < w.length → all[a + j]? = w[j]? := by
  unfold Mt
  constructor
  · intro e j hj
    have := congrArg (fun l => l[j]?) e
    simp only [List.getElem?_take_of_lt hj, List.getElem?_drop] at this
    exact this
  · intro e
    apply List.ext_getElem?
    intro j
    by_cases hj : j < w.length
    · rw [List.getElem?_take_of_lt hj, List.getElem?_drop]; exact e j hj
    · rw [List.getElem?_eq_none (by simp; omega), List.getElem?_eq_none (by omega)]
theorem bsl_at {l : List UInt8} {i : Nat} (h : i < l.length) : (bsl l)[i * 1]? = some (B l[i]) := by simp [h]
theorem B_ne {x y : UInt8} : ((x.toNat : Int) = (y.toNat : Int)) ↔ x = y := by
  constructor
  · intro h; exact UInt8.toNat_inj.1 (by omega)
  · intro h; rw [h]
set_option maxHeartbeats 2000000 in
theorem stands_ct (L : List SP) (b4 b8 : Nat) (wa aa : Option Addr) (wc ac : Nat) (w all : List UInt8) (a : Nat) (hW : RdS L 1 wa w.length (bsl w)) (hA : RdS L 1 aa all.length (bsl all)) (ha : a + w.length ≤ all.length) (hb : all.length ≤ 70368744177664) : Ct Try.prog 58 #[.int .i64 (a : Int), .pointer (some ⟨b4, 0, none⟩), .pointer (some ⟨b8, 0, none⟩)] (pt b4 [.slice wa w.length wc] 22 :: pt b8 [.slice aa all.length ac] 22 :: L) (fun _ : Unit => .bool (decide (Mt all w a))) (fun _ : Unit => pt b4 [.slice wa w.length wc] 22 :: pt b8 [.slice aa all.length ac] 22 :: L) := by
  refine Ct.of (vs := [.int .i64 (a : Int), .pointer (some ⟨b4, 0, none⟩), .pointer (some ⟨b8, 0, none⟩)]) Try.func58 rfl rfl [(0, .int .i64 (a : Int)), (1, .pointer (some ⟨b4, 0, none⟩)), (2, .pointer (some ⟨b8, 0, none⟩))] (by repeat (first | exact trivial | refine ⟨rfl, ?_⟩)) ?_
  intro E
  show Hd E 23 _ _ _ _
  refine Hd.seq (fun K1 hK1 => ?_)
  refine Hd.region ?_
  refine Hd.yv (y_assign rfl) ?_
  refine Hd.nil ?_
  refine Hd.slots [(0, _), (1, _), (2, _)] ⟨rfl, rfl, rfl, trivial⟩ ?_
  refine Hd.toK hK1 ?_
  refine Hd.seq (fun K2 hK2 => ?_)
  refine Hd.seq (fun K3 hK3 => ?_)
  refine Hd.region ?_
  first | (refine Hd.yv (y_load1 ag22 rfl (Rd.pt1 pkk (by (first | exact bsl_at hi | exact bsl_at hai | rfl)))) ?_) | (refine Hd.yv (y_load1 ag22 rfl (Rd.seg1 pkk (by (first | exact bsl_at hi | exact bsl_at hai | rfl)))) ?_) | (refine Hd.yv (y_loadR1 ag22 rfl (by (first | exact RdS.own pkk | exact RdS.mono hW (Ent.sep enn) | exact RdS.mono hA (Ent.sep enn))) (by (first | exact bsl_at hi | exact bsl_at hai | rfl))) ?_)
  refine Hd.yv (y_len Try.underlying22 rfl) ?_
  refine Hd.yv (y_move rfl) ?_
  refine Hd.nil ?_
  refine Hd.slots [(0, _), (2, _), (7, _), (8, _), (9, _)] ⟨rfl, rfl, rfl, rfl, rfl, trivial⟩ ?_
  refine Hd.toK hK3 ?_
  refine Hd.block ?_
  refine Hd.loopK (ι := Nat) [(0, _), (2, _), (7, _), (8, _)] (fun i => [(9, .int .i64 (i : Int))]) (fun i => pu (i ≤ w.length ∧ ∀ j, j < i → all[a + j]? = w[j]?) :: pt b4 [.slice wa w.length wc] 22 :: pt b8 [.slice aa all.length ac] 22 :: L) (fun i => w.length - i) 0 (by repeat (first | exact trivial | refine ⟨rfl, ?_⟩)) (by repeat (first | exact trivial | refine ⟨rfl, ?_⟩)) (Ent.sep (.pure ⟨by omega, fun j hj => by omega⟩ enn)) ?_
  intro i
  try dsimp only
  refine Hd.pure (fun hp0 => ?_)
  try dsimp only at hp0
  refine Hd.seq (fun K4 hK4 => ?_)
  refine Hd.region ?_
  refine Hd.yv (y_lss rfl rfl) ?_
  refine Hd.nil ?_
  refine Hd.slots [(0, _), (2, _), (7, _), (8, _), (9, _), (10, _)] ⟨rfl, rfl, rfl, rfl, rfl, rfl, trivial⟩ ?_
  refine Hd.toK hK4 ?_
  refine Hd.seq (fun K5 hK5 => ?_)
  refine Hd.cond rfl (fun hc0 => ?_) (fun hc0 => ?_)
  ·
    try simp only [decide_eq_true_eq, decide_eq_false_iff_not, Bool.and_eq_true, Bool.or_eq_true, Bool.and_eq_false_iff, Bool.or_eq_false_iff, Bool.not_eq_true', Bool.not_eq_false', Bool.not_eq_true, Bool.not_eq_false, Int.not_lt, Int.not_le, Decidable.not_not, ne_eq] at hc0
    have hi : i < w.length := by omega
    have hai : a + i < all.length := by omega
    refine Hd.skip ?_
    refine Hd.toK hK5 ?_
    refine Hd.seq (fun K6 hK6 => ?_)
    refine Hd.block ?_
    refine Hd.seq (fun K7 hK7 => ?_)
    refine Hd.region ?_
    refine Hd.yv (y_move rfl) ?_
    first | (refine Hd.yv (y_idxS Try.underlying22 sz5 rfl rfl (by first | omega | decide)) ?_) | (refine Hd.yv (y_idxR Try.underlying22 sz5 rfl rfl (by first | omega | decide) (by (first | exact RdS.own pkk | exact RdS.mono hW (Ent.sep enn) | exact RdS.mono hA (Ent.sep enn)))) ?_)
    first | (refine Hd.yv (y_load1 ag5 rfl (Rd.pt1 pkk (by (first | exact bsl_at hi | exact bsl_at hai | rfl)))) ?_) | (refine Hd.yv (y_load1 ag5 rfl (Rd.seg1 pkk (by (first | exact bsl_at hi | exact bsl_at hai | rfl)))) ?_) | (refine Hd.yv (y_loadR1 ag5 rfl (by (first | exact RdS.own pkk | exact RdS.mono hW (Ent.sep enn) | exact RdS.mono hA (Ent.sep enn))) (by (first | exact bsl_at hi | exact bsl_at hai | rfl))) ?_)
    refine Hd.yv (y_assign rfl) ?_
    refine Hd.yv (y_assign rfl) ?_
    refine Hd.nil ?_
    refine Hd.slots [(0, _), (2, _), (5, _), (6, _), (7, _), (8, _), (9, _)] ⟨rfl, rfl, rfl, rfl, rfl, rfl, rfl, trivial⟩ ?_
    refine Hd.toK hK7 ?_
    refine Hd.seq (fun K8 hK8 => ?_)
    refine Hd.region ?_
    first | (refine Hd.yv (y_load1 ag22 rfl (Rd.pt1 pkk (by (first | exact bsl_at hi | exact bsl_at hai | rfl)))) ?_) | (refine Hd.yv (y_load1 ag22 rfl (Rd.seg1 pkk (by (first | exact bsl_at hi | exact bsl_at hai | rfl)))) ?_) | (refine Hd.yv (y_loadR1 ag22 rfl (by (first | exact RdS.own pkk | exact RdS.mono hW (Ent.sep enn) | exact RdS.mono hA (Ent.sep enn))) (by (first | exact bsl_at hi | exact bsl_at hai | rfl))) ?_)
    refine Hd.yv (y_move rfl) ?_
    refine Hd.yv (y_move rfl) ?_
    first | (refine Hd.yv (y_addn rfl rfl (by simp only [InK]; omega)) ?_) | (refine Hd.yv (y_add rfl rfl) ?_)
    refine Hd.name (b := ((a + i : Nat) : Int)) 17 rfl (by omega) ?_
    first | (refine Hd.yv (y_idxS Try.underlying22 sz5 rfl rfl (by first | omega | decide)) ?_) | (refine Hd.yv (y_idxR Try.underlying22 sz5 rfl rfl (by first | omega | decide) (by (first | exact RdS.own pkk | exact RdS.mono hW (Ent.sep enn) | exact RdS.mono hA (Ent.sep enn)))) ?_)
    first | (refine Hd.yv (y_load1 ag5 rfl (Rd.pt1 pkk (by (first | exact bsl_at hi | exact bsl_at hai | rfl)))) ?_) | (refine Hd.yv (y_load1 ag5 rfl (Rd.seg1 pkk (by (first | exact bsl_at hi | exact bsl_at hai | rfl)))) ?_) | (refine Hd.yv (y_loadR1 ag5 rfl (by (first | exact RdS.own pkk | exact RdS.mono hW (Ent.sep enn) | exact RdS.mono hA (Ent.sep enn))) (by (first | exact bsl_at hi | exact bsl_at hai | rfl))) ?_)
    refine Hd.yv (y_move rfl) ?_
    refine Hd.yv (y_neq rfl rfl) ?_
    refine Hd.nil ?_
    refine Hd.slots [(0, _), (2, _), (7, _), (8, _), (9, _), (21, _)] ⟨rfl, rfl, rfl, rfl, rfl, rfl, trivial⟩ ?_
    refine Hd.toK hK8 ?_
    refine Hd.cond rfl (fun hc1 => ?_) (fun hc1 => ?_)
    ·
      try simp only [decide_eq_true_eq, decide_eq_false_iff_not, Bool.and_eq_true, Bool.or_eq_true, Bool.and_eq_false_iff, Bool.or_eq_false_iff, Bool.not_eq_true', Bool.not_eq_false', Bool.not_eq_true, Bool.not_eq_false, Int.not_lt, Int.not_le, Decidable.not_not, ne_eq] at hc1
      refine Hd.seq (fun K9 hK9 => ?_)
      refine Hd.region ?_
      refine Hd.yv (y_assign rfl) ?_
      refine Hd.nil ?_
      refine Hd.slots [(4, _)] ⟨rfl, trivial⟩ ?_
      refine Hd.toK hK9 ?_
      refine Hd.ret ?_
      refine Hd.inBret ?_
      refine Hd.thenRet ?_
      refine Hd.thenRet ?_
      refine Hd.inBret ?_
      refine Hd.thenRet ?_
      clear hK1 hK2 hK3 hK4 hK5 hK6 hK7 hK8 hK9
      refine Hd.ret1 rfl () ?_ (Ent.sep enn)
      rw [decide_eq_false (by
        rw [mt_iff ha]
        intro h
        have := h i hi
        rw [List.getElem?_eq_getElem hai, List.getElem?_eq_getElem hi] at this
        simp only [Option.some.injEq] at this
        exact hc1 (by rw [this]))]; rfl
    ·
      try simp only [decide_eq_true_eq, decide_eq_false_iff_not, Bool.and_eq_true, Bool.or_eq_true, Bool.and_eq_false_iff, Bool.or_eq_false_iff, Bool.not_eq_true', Bool.not_eq_false', Bool.not_eq_true, Bool.not_eq_false, Int.not_lt, Int.not_le, Decidable.not_not, ne_eq] at hc1
      refine Hd.skip ?_
      refine Hd.inB ?_
      refine Hd.toK hK6 ?_
      refine Hd.region ?_
      first | (refine Hd.yv (y_addn rfl rfl (by simp only [InK]; omega)) ?_) | (refine Hd.yv (y_add rfl rfl) ?_)
      refine Hd.yv (y_move rfl) ?_
      refine Hd.nil ?_
      refine Hd.slots [(0, _), (2, _), (7, _), (8, _), (9, _)] ⟨rfl, rfl, rfl, rfl, rfl, trivial⟩ ?_
      clear hK1 hK2 hK3 hK4 hK5 hK6 hK7 hK8
      refine Hd.thenN ?_
      have hstep : ∀ j, j < i + 1 → all[a + j]? = w[j]? := by
        intro j hj
        rcases Nat.lt_succ_iff_lt_or_eq.1 hj with h | h
        · exact hp0.2 j h
        · subst h; rw [List.getElem?_eq_getElem hai, List.getElem?_eq_getElem hi, B_ne.1 hc1]
      exact Hd.again (i + 1) (by first | omega | (simp only; omega) | (simp; omega)) (by repeat (first | exact trivial | refine ⟨rfl, ?_⟩)) (Ent.sep (.pure ⟨by omega, hstep⟩ enn))
  ·
    try simp only [decide_eq_true_eq, decide_eq_false_iff_not, Bool.and_eq_true, Bool.or_eq_true, Bool.and_eq_false_iff, Bool.or_eq_false_iff, Bool.not_eq_true', Bool.not_eq_false', Bool.not_eq_true, Bool.not_eq_false, Int.not_lt, Int.not_le, Decidable.not_not, ne_eq] at hc0
    refine Hd.exit ?_
    refine Hd.thenExit ?_
    refine Hd.thenExit ?_
    refine Hd.inBexit ?_
    refine Hd.toK hK2 ?_
    refine Hd.seq (fun K10 hK10 => ?_)
    refine Hd.region ?_
    refine Hd.yv (y_assign rfl) ?_
    refine Hd.nil ?_
    refine Hd.slots [(4, _)] ⟨rfl, trivial⟩ ?_
    refine Hd.toK hK10 ?_
    refine Hd.ret ?_
    clear hK1 hK2 hK3 hK4 hK5 hK10
    refine Hd.ret1 rfl () ?_ (Ent.sep enn)
    rw [decide_eq_true (by rw [mt_iff ha]; intro j hj; exact hp0.2 j (by omega))]; rfl
/-- where bytes stand first, from a place on -/
def FndS (all w : List UInt8) (f : Int) : Option Nat → Prop
  | some a => 0 ≤ f ∧ f ≤ (a : Int) ∧ a + w.length ≤ all.length ∧ Mt all w a ∧ ∀ j : Nat, f ≤ (j : Int) → j < a → ¬ Mt all w j
  | none => f < 0 ∨ ∀ j : Nat, f ≤ (j : Int) → j + w.length ≤ all.length → ¬ Mt all w j
theorem fnd_one {all w : List UInt8} {f : Int} : ∀ {r1 r2 : Option Nat}, FndS all w f r1 → FndS all w f r2 → r1 = r2
  | none, none, _, _ => rfl
  | some a, none, h1, h2 => by
    rcases h2 with h | h
    · exact absurd h1.1 (by omega)
    · exact absurd h1.2.2.2.1 (h a h1.2.1 h1.2.2.1)
  | none, some a, h2, h1 => by
    rcases h2 with h | h
    · exact absurd h1.1 (by omega)
    · exact absurd h1.2.2.2.1 (h a h1.2.1 h1.2.2.1)
  | some a, some c, h1, h2 => by
    rcases Nat.lt_trichotomy a c with h | h | h
    · exact absurd h1.2.2.2.1 (h2.2.2.2.2 a h1.2.1 h)
    · rw [h]
    · exact absurd h2.2.2.2.1 (h1.2.2.2.2 c h2.2.1 h)
set_option maxHeartbeats 2000000 in
theorem find_ct (L : List SP) (b o : Nat) (rs : List Row) (hg : Good rs) (wa : Option Addr) (wc : Nat) (w : List UInt8) (hW : RdS L 1 wa w.length (bsl w)) (hwl : w.length ≤ 70368744177664) (f : Int) (hf : InK .i64 f) : Ct Try.prog 20 #[.pointer (some ⟨b, o, none⟩), .slice wa w.length wc, .int .i64 f] (Ch b o rs :: L) (fun r : Option Nat => .tuple #[.int .i64 ((r.getD 0 : Nat) : Int), .bool r.isSome]) (fun r : Option Nat => pu (FndS (flat rs) w f r) :: Ch b o rs :: L) := by
  refine Ct.of (vs := [.pointer (some ⟨b, o, none⟩), .slice wa w.length wc, .int .i64 f]) Try.func20 rfl rfl [(0, .pointer (some ⟨b, o, none⟩)), (1, .slice wa w.length wc), (2, .int .i64 f)] (by repeat (first | exact trivial | refine ⟨rfl, ?_⟩)) ?_
  intro E
  show Hd E 37 _ _ _ _
  obtain ⟨hfull, hlen⟩ := hg
  have hrl := full_len hfull
  simp only [InK] at hf
  refine Hd.exs pkk ?_
  rintro ⟨ha, hcp⟩
  simp only [List.cons_append, List.nil_append]
  refine Hd.seq (fun K1 hK1 => ?_)
  refine Hd.region ?_
  refine Hd.box rfl rfl (fun b4 => ?_)
  refine Hd.yv (y_assign rfl) ?_
  refine Hd.yv (y_assign rfl) ?_
  refine Hd.nil ?_
  refine Hd.slots [(0, _), (2, _), (4, _)] ⟨rfl, rfl, rfl, trivial⟩ ?_
  refine Hd.toK hK1 ?_
  refine Hd.seq (fun K2 hK2 => ?_)
  refine Hd.seq (fun K3 hK3 => ?_)
  refine Hd.region ?_
  refine Hd.yv (y_move rfl) ?_
  first | (refine Hd.yv (y_eql_pointer Try.underlying24 rfl rfl) ?_) | (refine Hd.yv (y_eql_one Try.underlying24 sz27 rfl rfl rfl) ?_)
  refine Hd.yv (y_move rfl) ?_
  refine Hd.yg rfl rfl (y_move rfl) ?_
  refine Hd.yg rfl rfl (y_lss rfl rfl) ?_
  first | (refine Hd.yv (y_pickT rfl rfl) ?_) | (refine Hd.yv (y_pickF rfl rfl) ?_) | (refine Hd.yv (y_pickb rfl rfl rfl) ?_) | (refine Hd.yv (y_pick rfl rfl rfl) ?_)
  refine Hd.nil ?_
  refine Hd.slots [(0, _), (2, _), (4, _), (16, _)] ⟨rfl, rfl, rfl, rfl, trivial⟩ ?_
  refine Hd.toK hK3 ?_
  refine Hd.cond rfl (fun hc0 => ?_) (fun hc0 => ?_)
  ·
    try simp only [decide_eq_true_eq, decide_eq_false_iff_not, Bool.and_eq_true, Bool.or_eq_true, Bool.and_eq_false_iff, Bool.or_eq_false_iff, Bool.not_eq_true', Bool.not_eq_false', Bool.not_eq_true, Bool.not_eq_false, Int.not_lt, Int.not_le, Decidable.not_not, ne_eq] at hc0
    refine Hd.seq (fun K4 hK4 => ?_)
    refine Hd.region ?_
    refine Hd.yv (y_assign rfl) ?_
    refine Hd.yv (y_assign rfl) ?_
    refine Hd.nil ?_
    refine Hd.slots [(6, _), (7, _)] ⟨rfl, rfl, trivial⟩ ?_
    refine Hd.toK hK4 ?_
    refine Hd.ret ?_
    refine Hd.thenRet ?_
    clear hK1 hK2 hK3 hK4
    exact Hd.ret2 rfl none rfl rfl rfl (Ent.sep (.pure (.inl hc0) (.ex (ha, hcp) enn)))
  ·
    try simp only [decide_eq_true_eq, decide_eq_false_iff_not, Bool.and_eq_true, Bool.or_eq_true, Bool.and_eq_false_iff, Bool.or_eq_false_iff, Bool.not_eq_true', Bool.not_eq_false', Bool.not_eq_true, Bool.not_eq_false, Int.not_lt, Int.not_le, Decidable.not_not, ne_eq] at hc0
    have hf0 : 0 ≤ f := by omega
    refine Hd.skip ?_
    refine Hd.toK hK2 ?_
    refine Hd.seq (fun K5 hK5 => ?_)
    refine Hd.region ?_
    refine Hd.yv (y_move rfl) ?_
    refine Hd.yv (y_nilp rfl) ?_
    first | (refine Hd.yv (y_field' (q := 0) (ft := 25) Try.underlying27 rfl sz25 rfl rfl) ?_) | (refine Hd.yv (y_fieldR (q := 0) (ft := 25) Try.underlying27 rfl sz25 rfl rfl) ?_)
    first | (refine Hd.yv (y_load1 ag25 rfl (Rd.pt1 pkk (by (first | rfl)))) ?_) | (refine Hd.yv (y_load1 ag25 rfl (Rd.seg1 pkk (by (first | rfl)))) ?_) | (refine Hd.yv (y_loadR1 ag25 rfl (by (first | exact RdS.own pkk)) (by (first | rfl))) ?_)
    refine Hd.call rfl fk56 (concat_ct _ ha hcp rs (RdS.own pkk) (fun r hr => rows_rd pkk hr) (by omega) (by omega)) ?_
    rintro ⟨a8, c8⟩
    dsimp only
    refine Hd.alloc zr22 (fun b8 => ?_)
    first | (refine Hd.store1 sz22 rfl rfl rfl pkk (by first | decide | (simp; done) | (simp; omega)) ?_) | (refine Hd.storeG1 sz22 rfl rfl rfl pkk (by first | decide | (simp; done) | (simp; omega)) ?_) | (refine Hd.storeO1 sz22 rfl rfl rfl pkk (by first | omega | (simp; done) | (simp; omega)) ?_)
    try simp only [List.set_cons_zero, List.set_cons_succ]
    refine Hd.nil ?_
    refine Hd.slots [(2, _), (4, _), (8, _)] ⟨rfl, rfl, rfl, trivial⟩ ?_
    refine Hd.toK hK5 ?_
    refine Hd.seq (fun K6 hK6 => ?_)
    refine Hd.region ?_
    refine Hd.yv (y_mkf (fv := []) (cv := [_, _]) rfl rfl) ?_
    refine Hd.yv (y_assign rfl) ?_
    refine Hd.nil ?_
    refine Hd.slots [(2, _), (4, _), (8, _), (9, _)] ⟨rfl, rfl, rfl, rfl, trivial⟩ ?_
    refine Hd.toK hK6 ?_
    refine Hd.seq (fun K7 hK7 => ?_)
    refine Hd.seq (fun K8 hK8 => ?_)
    refine Hd.region ?_
    refine Hd.yv (y_move rfl) ?_
    refine Hd.yv (y_assign rfl) ?_
    refine Hd.nil ?_
    refine Hd.slots [(4, _), (8, _), (9, _), (10, _)] ⟨rfl, rfl, rfl, rfl, trivial⟩ ?_
    refine Hd.toK hK8 ?_
    refine Hd.block ?_
    refine Hd.name (b := ((f.toNat : Nat) : Int)) 10 rfl (by omega) ?_
    refine Hd.loopK (ι := Nat) [(4, _), (8, _), (9, _)] (fun a => [(10, .int .i64 (a : Int))]) (fun a => pu (f ≤ (a : Int) ∧ (∀ j : Nat, f ≤ (j : Int) → j < a → ¬ Mt (flat rs) w j)) :: pt b4 [.slice wa w.length wc] 22 :: pt b8 [.slice a8 (flat rs).length c8] 22 :: own 5 1 a8 (flat rs).length c8 (bsl (flat rs)) :: seg b o [.slice ha rs.length hcp, .int .i64 ((flat rs).length : Int)] :: OwH ha hcp rs :: rows rs :: L) (fun a => (flat rs).length + 1 - a) (f.toNat) (by repeat (first | exact trivial | refine ⟨rfl, ?_⟩)) (by repeat (first | exact trivial | refine ⟨rfl, ?_⟩)) (Ent.sep (.pure ⟨by omega, fun j hj hj2 => by omega⟩ enn)) ?_
    intro a
    try dsimp only
    refine Hd.pure (fun hp0 => ?_)
    try dsimp only at hp0
    refine Hd.seq (fun K9 hK9 => ?_)
    refine Hd.seq (fun K10 hK10 => ?_)
    refine Hd.region ?_
    refine Hd.yv (y_move rfl) ?_
    first | (refine Hd.yv (y_load1 ag22 rfl (Rd.pt1 pkk (by (first | rfl)))) ?_) | (refine Hd.yv (y_load1 ag22 rfl (Rd.seg1 pkk (by (first | rfl)))) ?_) | (refine Hd.yv (y_loadR1 ag22 rfl (by (first | exact RdS.own pkk)) (by (first | rfl))) ?_)
    refine Hd.yv (y_len Try.underlying22 rfl) ?_
    first | (refine Hd.yv (y_load1 ag22 rfl (Rd.pt1 pkk (by (first | rfl)))) ?_) | (refine Hd.yv (y_load1 ag22 rfl (Rd.seg1 pkk (by (first | rfl)))) ?_) | (refine Hd.yv (y_loadR1 ag22 rfl (by (first | exact RdS.own pkk)) (by (first | rfl))) ?_)
    refine Hd.yv (y_len Try.underlying22 rfl) ?_
    first | (refine Hd.yv (y_subn rfl rfl (by simp only [InK]; omega)) ?_) | (refine Hd.yv (y_sub rfl rfl) ?_)
    refine Hd.yv (y_leq rfl rfl) ?_
    refine Hd.nil ?_
    refine Hd.slots [(4, _), (8, _), (9, _), (10, _), (30, _)] ⟨rfl, rfl, rfl, rfl, rfl, trivial⟩ ?_
    refine Hd.toK hK10 ?_
    refine Hd.cond rfl (fun hc1 => ?_) (fun hc1 => ?_)
    ·
      try simp only [decide_eq_true_eq, decide_eq_false_iff_not, Bool.and_eq_true, Bool.or_eq_true, Bool.and_eq_false_iff, Bool.or_eq_false_iff, Bool.not_eq_true', Bool.not_eq_false', Bool.not_eq_true, Bool.not_eq_false, Int.not_lt, Int.not_le, Decidable.not_not, ne_eq] at hc1
      have ha1 : a + w.length ≤ (flat rs).length := by omega
      refine Hd.skip ?_
      refine Hd.toK hK9 ?_
      refine Hd.seq (fun K11 hK11 => ?_)
      refine Hd.block ?_
      refine Hd.seq (fun K12 hK12 => ?_)
      refine Hd.region ?_
      refine Hd.yv (y_move rfl) ?_
      refine Hd.yv (y_move rfl) ?_
      refine Hd.callvE (vs := [_]) (cap := [_, _]) rfl rfl (by kernel_rfl) (stands_ct (own 5 1 a8 (flat rs).length c8 (bsl (flat rs)) :: seg b o [.slice ha rs.length hcp, .int .i64 ((flat rs).length : Int)] :: OwH ha hcp rs :: rows rs :: L) b4 b8 wa a8 wc c8 w (flat rs) a (RdS.mono hW (Ent.sep enn)) (RdS.own pkk) ha1 (by omega)) (Ent.sep enn) ?_
      intro _
      refine Hd.nil ?_
      refine Hd.slots [(4, _), (8, _), (9, _), (10, _), (35, _)] ⟨rfl, rfl, rfl, rfl, rfl, trivial⟩ ?_
      refine Hd.toK hK12 ?_
      refine Hd.cond rfl (fun hc2 => ?_) (fun hc2 => ?_)
      ·
        try simp only [decide_eq_true_eq, decide_eq_false_iff_not, Bool.and_eq_true, Bool.or_eq_true, Bool.and_eq_false_iff, Bool.or_eq_false_iff, Bool.not_eq_true', Bool.not_eq_false', Bool.not_eq_true, Bool.not_eq_false, Int.not_lt, Int.not_le, Decidable.not_not, ne_eq] at hc2
        refine Hd.seq (fun K13 hK13 => ?_)
        refine Hd.region ?_
        refine Hd.yv (y_move rfl) ?_
        refine Hd.yv (y_assign rfl) ?_
        refine Hd.yv (y_assign rfl) ?_
        refine Hd.nil ?_
        refine Hd.slots [(6, _), (7, _)] ⟨rfl, rfl, trivial⟩ ?_
        refine Hd.toK hK13 ?_
        refine Hd.ret ?_
        refine Hd.inBret ?_
        refine Hd.thenRet ?_
        refine Hd.thenRet ?_
        refine Hd.inBret ?_
        refine Hd.thenRet ?_
        clear hK1 hK2 hK3 hK5 hK6 hK7 hK8 hK9 hK10 hK11 hK12 hK13
        exact Hd.ret2 rfl (some a) rfl rfl rfl (Ent.sep (.pure ⟨hf0, hp0.1, ha1, hc2, hp0.2⟩ (.ex (ha, hcp) enn)))
      ·
        try simp only [decide_eq_true_eq, decide_eq_false_iff_not, Bool.and_eq_true, Bool.or_eq_true, Bool.and_eq_false_iff, Bool.or_eq_false_iff, Bool.not_eq_true', Bool.not_eq_false', Bool.not_eq_true, Bool.not_eq_false, Int.not_lt, Int.not_le, Decidable.not_not, ne_eq] at hc2
        refine Hd.skip ?_
        refine Hd.inB ?_
        refine Hd.toK hK11 ?_
        refine Hd.region ?_
        refine Hd.yv (y_move rfl) ?_
        first | (refine Hd.yv (y_addn rfl rfl (by simp only [InK]; omega)) ?_) | (refine Hd.yv (y_add rfl rfl) ?_)
        refine Hd.yv (y_assign rfl) ?_
        refine Hd.nil ?_
        refine Hd.slots [(4, _), (8, _), (9, _), (10, _)] ⟨rfl, rfl, rfl, rfl, trivial⟩ ?_
        clear hK1 hK2 hK3 hK5 hK6 hK7 hK8 hK9 hK10 hK11 hK12
        refine Hd.thenN ?_
        have hstep : ∀ j : Nat, f ≤ (j : Int) → j < a + 1 → ¬ Mt (flat rs) w j := by
          intro j h1 h2
          rcases Nat.lt_succ_iff_lt_or_eq.1 h2 with h | h
          · exact hp0.2 j h1 h
          · rw [h]; exact hc2
        exact Hd.again (a + 1) (show (flat rs).length + 1 - (a + 1) < (flat rs).length + 1 - a by omega) (by repeat (first | exact trivial | refine ⟨rfl, ?_⟩)) (Ent.sep (.pure ⟨by omega, hstep⟩ enn))
    ·
      try simp only [decide_eq_true_eq, decide_eq_false_iff_not, Bool.and_eq_true, Bool.or_eq_true, Bool.and_eq_false_iff, Bool.or_eq_false_iff, Bool.not_eq_true', Bool.not_eq_false', Bool.not_eq_true, Bool.not_eq_false, Int.not_lt, Int.not_le, Decidable.not_not, ne_eq] at hc1
      refine Hd.exit ?_
      refine Hd.thenExit ?_
      refine Hd.thenExit ?_
      refine Hd.inBexit ?_
      refine Hd.toK hK7 ?_
      refine Hd.seq (fun K14 hK14 => ?_)
      refine Hd.region ?_
      refine Hd.yv (y_assign rfl) ?_
      refine Hd.yv (y_assign rfl) ?_
      refine Hd.nil ?_
      refine Hd.slots [(6, _), (7, _)] ⟨rfl, rfl, trivial⟩ ?_
      refine Hd.toK hK14 ?_
      refine Hd.ret ?_
      clear hK1 hK2 hK3 hK5 hK6 hK7 hK8 hK9 hK10 hK14
      exact Hd.ret2 rfl none rfl rfl rfl (Ent.sep (.pure (.inr fun j h1 h2 => hp0.2 j h1 (by omega)) (.ex (ha, hcp) enn)))
set_option maxHeartbeats 2000000 in
theorem line_ct (L : List SP) (b o : Nat) (rs : List Row) (hg : Good rs) : Ct Try.prog 25 #[.pointer (some ⟨b, o, none⟩)] (Ch b o rs :: L) (fun q_ : Option Nat × List Row × Option Addr × Nat => .tuple #[.slice q_.2.2.1 ((flat rs).take (q_.1.getD 0)).length q_.2.2.2, .bool q_.1.isSome]) (fun q_ : Option Nat × List Row × Option Addr × Nat => pu (FndS (flat rs) [10] 0 q_.1 ∧ flat q_.2.1 = (flat rs).drop (match q_.1 with | some a => a + 1 | none => 0) ∧ Good q_.2.1) :: own 5 1 q_.2.2.1 ((flat rs).take (q_.1.getD 0)).length q_.2.2.2 (bsl ((flat rs).take (q_.1.getD 0))) :: Ch b o q_.2.1 :: L) := by
  refine Ct.of (vs := [.pointer (some ⟨b, o, none⟩)]) Try.func25 rfl rfl [(0, .pointer (some ⟨b, o, none⟩))] (by repeat (first | exact trivial | refine ⟨rfl, ?_⟩)) ?_
  intro E
  show Hd E 21 _ _ _ _
  refine Hd.seq (fun K1 hK1 => ?_)
  refine Hd.region ?_
  refine Hd.yv (y_assign rfl) ?_
  refine Hd.yv (y_assign rfl) ?_
  refine Hd.nil ?_
  refine Hd.slots [(0, _)] ⟨rfl, trivial⟩ ?_
  refine Hd.toK hK1 ?_
  refine Hd.seq (fun K2 hK2 => ?_)
  refine Hd.region ?_
  refine Hd.yv (y_move rfl) ?_
  refine Hd.bslice (vs := [(0, _)]) rfl (by first | exact bs25_9 .. | kernel_rfl) (fun b9 => ?_)
  refine Hd.callE rfl fk20 (find_ct (pt b9 [.int .u8 10] 5 :: L) b o rs hg (some ⟨b9, 0, none⟩) 1 [10] (RdS.rd (Rd.pt pkk (fun j v e => by rw [Nat.zero_add]; exact e)) rfl) (by simp) 0 (by simp [InK])) (Ent.sep enn) ?_
  intro r
  refine Hd.pure (fun hr => ?_)
  refine Hd.yv (y_move rfl) ?_
  refine Hd.yv (y_extract rfl rfl) ?_
  refine Hd.yv (y_extract rfl rfl) ?_
  refine Hd.yv (y_assign rfl) ?_
  refine Hd.yv (y_assign rfl) ?_
  refine Hd.nil ?_
  refine Hd.slots [(0, _), (4, _), (5, _)] ⟨rfl, rfl, rfl, trivial⟩ ?_
  refine Hd.toK hK2 ?_
  refine Hd.seq (fun K3 hK3 => ?_)
  refine Hd.seq (fun K4 hK4 => ?_)
  refine Hd.region ?_
  refine Hd.yv (y_move rfl) ?_
  refine Hd.yv (y_not rfl) ?_
  refine Hd.nil ?_
  refine Hd.slots [(0, _), (4, _), (14, _)] ⟨rfl, rfl, rfl, trivial⟩ ?_
  refine Hd.toK hK4 ?_
  refine Hd.cond rfl (fun hc0 => ?_) (fun hc0 => ?_)
  ·
    try simp only [decide_eq_true_eq, decide_eq_false_iff_not, Bool.and_eq_true, Bool.or_eq_true, Bool.and_eq_false_iff, Bool.or_eq_false_iff, Bool.not_eq_true', Bool.not_eq_false', Bool.not_eq_true, Bool.not_eq_false, Int.not_lt, Int.not_le, Decidable.not_not, ne_eq] at hc0
    obtain rfl : r = none := by cases r <;> simp_all
    refine Hd.seq (fun K5 hK5 => ?_)
    refine Hd.region ?_
    refine Hd.yv (y_assign rfl) ?_
    refine Hd.yv (y_assign rfl) ?_
    refine Hd.nil ?_
    refine Hd.slots [(2, _), (3, _)] ⟨rfl, rfl, trivial⟩ ?_
    refine Hd.toK hK5 ?_
    refine Hd.ret ?_
    refine Hd.thenRet ?_
    clear hK1 hK2 hK3 hK4 hK5
    exact Hd.ret2 rfl (none, rs, none, 0) rfl rfl rfl (Ent.sep (.pure ⟨hr, rfl, hg⟩ (.ownNil enn)))
  ·
    try simp only [decide_eq_true_eq, decide_eq_false_iff_not, Bool.and_eq_true, Bool.or_eq_true, Bool.and_eq_false_iff, Bool.or_eq_false_iff, Bool.not_eq_true', Bool.not_eq_false', Bool.not_eq_true, Bool.not_eq_false, Int.not_lt, Int.not_le, Decidable.not_not, ne_eq] at hc0
    obtain ⟨a, rfl⟩ : ∃ a, r = some a := by cases r <;> simp_all
    refine Hd.skip ?_
    refine Hd.toK hK3 ?_
    refine Hd.seq (fun K6 hK6 => ?_)
    refine Hd.region ?_
    refine Hd.yv (y_move rfl) ?_
    refine Hd.yv (y_move rfl) ?_
    refine Hd.callE rfl fk18 (take_ct _ b o rs hg (a : Int) (by have := hr.2.2.1; have := hg.2; simp at *; omega)) (Ent.sep enn) ?_
    rintro ⟨rest, a2, c2⟩
    dsimp only
    refine Hd.pure (fun hrest => ?_)
    refine Hd.yv (y_assign rfl) ?_
    refine Hd.nil ?_
    refine Hd.slots [(0, _), (6, _)] ⟨rfl, rfl, trivial⟩ ?_
    refine Hd.toK hK6 ?_
    refine Hd.seq (fun K7 hK7 => ?_)
    refine Hd.region ?_
    refine Hd.yv (y_move rfl) ?_
    refine Hd.callE rfl fk31 (drain_ct _ b o rest (good_drop hg hrest.1 hrest.2) 1 (by decide)) (Ent.sep enn) ?_
    rintro rest2
    refine Hd.pure (fun hrest2 => ?_)
    refine Hd.nil ?_
    refine Hd.slots [(6, _)] ⟨rfl, trivial⟩ ?_
    refine Hd.toK hK7 ?_
    refine Hd.seq (fun K8 hK8 => ?_)
    refine Hd.region ?_
    refine Hd.yv (y_move rfl) ?_
    refine Hd.yv (y_assign rfl) ?_
    refine Hd.yv (y_assign rfl) ?_
    refine Hd.nil ?_
    refine Hd.slots [(2, _), (3, _)] ⟨rfl, rfl, trivial⟩ ?_
    refine Hd.toK hK8 ?_
    refine Hd.ret ?_
    clear hK1 hK2 hK3 hK4 hK6 hK7 hK8
    refine Hd.ret2 rfl (some a, rest2, a2, c2) rfl rfl rfl (Ent.sep (.pure ⟨hr, ?_, good_drop (good_drop hg hrest.1 hrest.2) hrest2.1 hrest2.2⟩ (.eq pkk (own_eq (by rfl) (by rfl)) enn)))
    rw [hrest2.1, hrest.1]; simp [List.drop_drop]
end Bc
end Go.Proofs.Ytgifpkpkkgkfeaa
