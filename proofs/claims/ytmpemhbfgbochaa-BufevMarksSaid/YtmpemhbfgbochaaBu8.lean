/-
  Buffered events: Step.
-/
import Derived.Test.YtmpemhbfgbochaaBu7
namespace Go.Proofs.Ytmpemhbfgbochaa
set_option linter.unusedSimpArgs false
set_option linter.unusedVariables false
set_option linter.unnecessarySimpa false
open Go.RX Fx
namespace Bu
open Wo
set_option maxRecDepth 8000
theorem tm_stop {x : BfA} (h : TmOk x) (k : Nat) : TmOk (x.up k fun s => stopF s) := h.up fun s ha _ => ⟨ha, by show InK .u64 18446744073709551615; simp [InK]⟩
theorem tm_set {x : BfA} (h : TmOk x) (k : Nat) {now : Int} (hn : InK .u64 now) (f : SdA → List UInt8) : TmOk (x.up k fun s => setA k now { s with c := f s }) := h.up fun s ha _ => ⟨ha, atV_in (s := { s with c := f s }) hn ha⟩
theorem tm_read {σ : StA} (h : TmOk σ.x) {now : Int} (hn : InK .u64 now) (most : Int) : TmOk (readS σ now most).x := by
  unfold readS rdP
  repeat' split
  all_goals first
    | exact h
    | exact tm_stop h 0
    | exact tm_set h 0 hn (fun s => addA s.c _)
theorem tm_write {σ : StA} (h : TmOk σ.x) {now : Int} (hn : InK .u64 now) (much : Int) : TmOk (writeS σ now much).x := by
  unfold writeS wrP
  repeat' split
  all_goals first
    | exact h
    | exact tm_stop h 1
    | exact tm_set h 1 hn (fun s => s.c.drop _)
def stepM (x : BfA) (flags : Int) : Int := bits .and .i64 flags (wantsA x)
def stepR (x : BfA) (w : WA) (now flags most : Int) : StA := if bits .and .i64 (stepM x flags) 2 ≠ 0 then readS ⟨x, w, noT⟩ now most else ⟨x, w, noT⟩
def stepS (x : BfA) (w : WA) (now flags most much : Int) : StA := if bits .and .i64 (stepM x flags) 4 ≠ 0 then writeS (stepR x w now flags most) now much else stepR x w now flags most
theorem tm_stepR {x : BfA} (h : TmOk x) {now : Int} (hn : InK .u64 now) (w : WA) (flags most : Int) : TmOk (stepR x w now flags most).x := by
  unfold stepR
  split
  · exact tm_read h hn most
  · exact h
theorem tm_step {x : BfA} (h : TmOk x) {now : Int} (hn : InK .u64 now) (w : WA) (flags most much : Int) : TmOk (stepS x w now flags most much).x := by
  unfold stepS
  split
  · exact tm_write (tm_stepR h hn w flags most) hn much
  · exact tm_stepR h hn w flags most
set_option maxHeartbeats 2000000 in
theorem step_ct (L : List SP) (b wb : Nat) (x : BfA) (w : WA) (ht : TmOk x) (hh : InK .i64 (x.s 0).high) (now flags most much : Int) (hn : InK .u64 now) (hm : most ≤ 9223372036854775807) (hmu : InK .i64 much) : Ct Try.prog 18 #[.pointer (some ⟨b, 0, none⟩), .int .u64 now, .int .i64 flags, .int .i64 most, .int .i64 much] (BufP b wb x :: WorldP wb w :: L) (fun _ : Unit => .agg (encT (stepS x w now flags most much).t).toArray) (fun _ : Unit => BufP b wb (stepS x w now flags most much).x :: WorldP wb (stepS x w now flags most much).w :: L) := by
  refine Ct.of (vs := [.pointer (some ⟨b, 0, none⟩), .int .u64 now, .int .i64 flags, .int .i64 most, .int .i64 much]) Try.func18 rfl rfl [(0, .pointer (some ⟨b, 0, none⟩)), (1, .int .u64 now), (2, .int .i64 flags), (3, .int .i64 most), (4, .int .i64 much)] (by repeat (first | exact trivial | refine ⟨rfl, ?_⟩)) ?_
  intro E
  show Hd E 32 _ _ _ _
  refine Hd.seq (fun K1 hK1 => ?_)
  refine Hd.region ?_
  refine Hd.alloc zr49 (fun b10 => ?_)
  refine Hd.nil ?_
  refine Hd.slots [(0, _), (1, _), (2, _), (3, _), (4, _), (10, _)] ⟨rfl, rfl, rfl, rfl, rfl, rfl, trivial⟩ ?_
  refine Hd.toK hK1 ?_
  refine Hd.seq (fun K2 hK2 => ?_)
  refine Hd.region ?_
  refine Hd.alloc zr49 (fun b11 => ?_)
  refine Hd.nil ?_
  refine Hd.slots [(0, _), (1, _), (2, _), (3, _), (4, _), (10, _), (11, _)] ⟨rfl, rfl, rfl, rfl, rfl, rfl, rfl, trivial⟩ ?_
  refine Hd.toK hK2 ?_
  refine Hd.seq (fun K3 hK3 => ?_)
  refine Hd.region ?_
  refine Hd.yv (y_move rfl) ?_
  refine Hd.yv (y_move rfl) ?_
  refine Hd.callE rfl fk26 (wants_ct _ b wb x) (Ent.sep enn) ?_
  intro _
  refine Hd.yv (y_to (v' := .int .i64 (stepM x flags)) (y_and rfl rfl) (by rfl)) ?_
  refine Hd.yv (y_assign rfl) ?_
  refine Hd.nil ?_
  refine Hd.slots [(0, _), (1, _), (3, _), (4, _), (10, _), (11, _), (12, _)] ⟨rfl, rfl, rfl, rfl, rfl, rfl, rfl, trivial⟩ ?_
  refine Hd.toK hK3 ?_
  refine Hd.heap (ToP b11 noT :: pt b10 (encT noT) 49 :: BufP b wb x :: WorldP wb w :: L) (fun q s => Ent.sep (.eq pkk (pt_eq (by rfl)) (.eq pkk (pt_eq (by rfl)) enn)) q s) ?_
  refine Hd.cutK (ι := Unit) [(0, _), (1, _), (4, _), (10, _), (11, _), (12, _)] (fun _ => []) (fun _ => BufP b wb (stepR x w now flags most).x :: WorldP wb (stepR x w now flags most).w :: ToP b11 (stepR x w now flags most).t :: pt b10 (encT noT) 49 :: L) ?_ ?_ ⟨rfl, rfl, rfl, rfl, rfl, rfl, trivial⟩
  ·
    refine Hd.seq (fun K4 hK4 => ?_)
    refine Hd.region ?_
    refine Hd.yv (y_move rfl) ?_
    refine Hd.yv (y_and rfl rfl) ?_
    refine Hd.yv (y_neq rfl rfl) ?_
    refine Hd.nil ?_
    refine Hd.slots [(0, _), (1, _), (3, _), (4, _), (10, _), (11, _), (12, _), (19, _)] ⟨rfl, rfl, rfl, rfl, rfl, rfl, rfl, rfl, trivial⟩ ?_
    refine Hd.toK hK4 ?_
    refine Hd.cond rfl (fun hc0 => ?_) (fun hc0 => ?_)
    ·
      try simp only [decide_eq_true_eq, decide_eq_false_iff_not, Bool.and_eq_true, Bool.or_eq_true, Bool.and_eq_false_iff, Bool.or_eq_false_iff, Bool.not_eq_true', Bool.not_eq_false', Bool.not_eq_true, Bool.not_eq_false, Int.not_lt, Int.not_le, Decidable.not_not, ne_eq] at hc0
      refine Hd.region ?_
      refine Hd.yv (y_move rfl) ?_
      refine Hd.yv (y_move rfl) ?_
      refine Hd.yv (y_move rfl) ?_
      refine Hd.callE rfl fk42 (read_ct _ b wb b11 x w noT ht now most hn hm hh) (Ent.sep enn) ?_
      intro _
      refine Hd.nil ?_
      refine Hd.slots [(0, _), (1, _), (4, _), (10, _), (11, _), (12, _)] ⟨rfl, rfl, rfl, rfl, rfl, rfl, trivial⟩ ?_
      clear hK1 hK2 hK3 hK4
      refine Hd.thenN ?_
      rw [show stepR x w now flags most = readS ⟨x, w, noT⟩ now most from if_pos hc0]
      exact Hd.meet () (by repeat (first | exact trivial | refine ⟨rfl, ?_⟩)) (Ent.sep enn)
    ·
      try simp only [decide_eq_true_eq, decide_eq_false_iff_not, Bool.and_eq_true, Bool.or_eq_true, Bool.and_eq_false_iff, Bool.or_eq_false_iff, Bool.not_eq_true', Bool.not_eq_false', Bool.not_eq_true, Bool.not_eq_false, Int.not_lt, Int.not_le, Decidable.not_not, ne_eq] at hc0
      refine Hd.skip ?_
      clear hK1 hK2 hK3 hK4
      refine Hd.thenN ?_
      rw [show stepR x w now flags most = ⟨x, w, noT⟩ from if_neg (fun h => h hc0)]
      exact Hd.meet () (by repeat (first | exact trivial | refine ⟨rfl, ?_⟩)) (Ent.sep enn)
  ·
    intro _
    refine Hd.cutK (ι := Unit) [(10, _), (11, _)] (fun _ => []) (fun _ => BufP b wb (stepS x w now flags most much).x :: WorldP wb (stepS x w now flags most much).w :: ToP b11 (stepS x w now flags most much).t :: pt b10 (encT noT) 49 :: L) ?_ ?_ ⟨rfl, rfl, trivial⟩
    ·
      refine Hd.seq (fun K5 hK5 => ?_)
      refine Hd.region ?_
      refine Hd.yv (y_move rfl) ?_
      refine Hd.yv (y_and rfl rfl) ?_
      refine Hd.yv (y_neq rfl rfl) ?_
      refine Hd.nil ?_
      refine Hd.slots [(0, _), (1, _), (4, _), (10, _), (11, _), (26, _)] ⟨rfl, rfl, rfl, rfl, rfl, rfl, trivial⟩ ?_
      refine Hd.toK hK5 ?_
      refine Hd.cond rfl (fun hc1 => ?_) (fun hc1 => ?_)
      ·
        try simp only [decide_eq_true_eq, decide_eq_false_iff_not, Bool.and_eq_true, Bool.or_eq_true, Bool.and_eq_false_iff, Bool.or_eq_false_iff, Bool.not_eq_true', Bool.not_eq_false', Bool.not_eq_true, Bool.not_eq_false, Int.not_lt, Int.not_le, Decidable.not_not, ne_eq] at hc1
        refine Hd.region ?_
        refine Hd.yv (y_move rfl) ?_
        refine Hd.yv (y_move rfl) ?_
        refine Hd.yv (y_move rfl) ?_
        refine Hd.callE rfl fk43 (write_ct _ b wb b11 (stepR x w now flags most).x (stepR x w now flags most).w (stepR x w now flags most).t (tm_stepR ht hn w flags most) now much hn hmu) (Ent.sep enn) ?_
        intro _
        refine Hd.nil ?_
        refine Hd.slots [(10, _), (11, _)] ⟨rfl, rfl, trivial⟩ ?_
        clear hK1 hK2 hK3 hK5
        refine Hd.thenN ?_
        rw [show stepS x w now flags most much = writeS (stepR x w now flags most) now much from if_pos hc1]
        exact Hd.meet () (by repeat (first | exact trivial | refine ⟨rfl, ?_⟩)) (Ent.sep enn)
      ·
        try simp only [decide_eq_true_eq, decide_eq_false_iff_not, Bool.and_eq_true, Bool.or_eq_true, Bool.and_eq_false_iff, Bool.or_eq_false_iff, Bool.not_eq_true', Bool.not_eq_false', Bool.not_eq_true, Bool.not_eq_false, Int.not_lt, Int.not_le, Decidable.not_not, ne_eq] at hc1
        refine Hd.skip ?_
        clear hK1 hK2 hK3 hK5
        refine Hd.thenN ?_
        rw [show stepS x w now flags most much = stepR x w now flags most from if_neg (fun h => h hc1)]
        exact Hd.meet () (by repeat (first | exact trivial | refine ⟨rfl, ?_⟩)) (Ent.sep enn)
    ·
      intro _
      refine Hd.seq (fun K6 hK6 => ?_)
      refine Hd.region ?_
      refine Hd.yv (y_loadn (us := encT (stepS x w now flags most much).t) ag49 rfl (Rd.pt pkk (fun j v e => by rw [Nat.zero_add]; exact e)) (by exact sz49)) ?_
      refine Hd.storeA (us := encT (stepS x w now flags most much).t) sz49 rfl rfl rfl (by simp [Value.oneCell']) pkk (by exact rfl) ?_
      refine Hd.nil ?_
      refine Hd.slots [(10, _)] ⟨rfl, trivial⟩ ?_
      refine Hd.toK hK6 ?_
      refine Hd.ret ?_
      clear hK1 hK2 hK3 hK6
      exact Hd.retC rfl () ag49 rfl (Rd.pt (us := encT (stepS x w now flags most much).t) pkk (fun j v e => by rw [Nat.zero_add]; exact e)) (by exact sz49) rfl (Ent.sep enn)
end Bu
end Go.Proofs.Ytmpemhbfgbochaa
